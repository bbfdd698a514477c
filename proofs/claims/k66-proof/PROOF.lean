import PyProof.Rows.All
import Wide.All
import OpenK.AllK
import Wide.FinOn
import HandS.ForMost
import HandS.Evl
import HandS.Deep
import HandS.TupLe
import HandS.SortInts
import HandS.Style
import HandS.Sort
import HandS.SortRule
import HandS.Conv
import HandS.Gcd
import HandS.DictComp
import KE.KDictZip
import KE.KDictList
import HandS.DictTup
import PyProof.ReprReads
import HandS.RaiseMore
import PyProof.ReprLen
import PyProof.ReprHeadsEmpty
import PyProof.StrHeap
import HandS.DictEq
import HandS.TupLen
import KE.KEqDict
import HandS.Iter
import HandS.Star
import HandS.Exc
import KE.KMinKey
import HandS.SortKw
import HandS.Strs
import HandS.SetKeys
import HandS.Replace
import HandS.Zip
import PySem.Challenge.RW_printstack_k66_whole_scripts_put_togethe
set_option Elab.async false
set_option linter.all false
set_option maxRecDepth 100000
set_option maxHeartbeats 1000000
/-! DL0: plain data D, what a value stands for (Rep), slots, environments. -/
namespace DL
open PySem L2
open Evl (Ex)
abbrev St := L2.St
/-- plain data -/
inductive D where
  | non | bl (b : Bool) | int (i : Int) | str (s : Str)
  | lst (xs : List D) | tup (xs : List D)
  | dT (kvs : List (List Key × D)) | dK (kvs : List (Key × D))
  /-- dicts that are written no more -/
  | fT (kvs : List (List Key × D)) | fK (kvs : List (Key × D))
  /-- a written tuple (of the module's top) -/
  | wt (xs : List D)
instance : Inhabited D := ⟨.non⟩

mutual
inductive Rep (K : PySem.W.Frag) (G : Hp) : V → D → Prop
  | non : Rep K G .non .non
  | bl (b : Bool) : Rep K G (.bl b) (.bl b)
  | int (i : Int) : Rep K G (.int i) (.int i)
  | str (s : Str) : Rep K G (.str s) (.str s)
  | lst {a : Addr} {vs : List V} {ds : List D} : G a = some (.lst vs) → Reps K G vs ds → Rep K G (.ref a) (.lst ds)
  | tup {a : Addr} {vs : List V} {ds : List D} : G a = some (.tup vs) → Reps K G vs ds → Rep K G (.ref a) (.tup ds)
  | wt {a : Addr} {vs : List V} {ds : List D} : SqT K G a vs → Reps K G vs ds → Rep K G (.ref a) (.wt ds)
  | dT {a : Addr} {vs : List (List Key × V)} {ds : List (List Key × D)} : G a = some (.dT vs) → RepT K G vs ds → Rep K G (.ref a) (.dT ds)
  | dK {a : Addr} {vs : List (Key × V)} {ds : List (Key × D)} : G a = some (.dK vs) → RepK K G vs ds → Rep K G (.ref a) (.dK ds)
  | fT {a : Addr} {ob : Obj} {vs : List (List Key × V)} {ds : List (List Key × D)} : G a = some (.frz ob (.dT vs)) → RepT K G vs ds → Rep K G (.ref a) (.fT ds)
  | fK {a : Addr} {ob : Obj} {vs : List (Key × V)} {ds : List (Key × D)} : G a = some (.frz ob (.dK vs)) → RepK K G vs ds → Rep K G (.ref a) (.fK ds)
inductive Reps (K : PySem.W.Frag) (G : Hp) : List V → List D → Prop
  | nil : Reps K G [] []
  | cons {v : V} {d : D} {vs : List V} {ds : List D} : Rep K G v d → Reps K G vs ds → Reps K G (v :: vs) (d :: ds)
inductive RepT (K : PySem.W.Frag) (G : Hp) : List (List Key × V) → List (List Key × D) → Prop
  | nil : RepT K G [] []
  | cons {k : List Key} {v : V} {d : D} {vs : List (List Key × V)} {ds : List (List Key × D)} : Rep K G v d → RepT K G vs ds → RepT K G ((k, v) :: vs) ((k, d) :: ds)
inductive RepK (K : PySem.W.Frag) (G : Hp) : List (Key × V) → List (Key × D) → Prop
  | nil : RepK K G [] []
  | cons {k : Key} {v : V} {d : D} {vs : List (Key × V)} {ds : List (Key × D)} : Rep K G v d → RepK K G vs ds → RepK K G ((k, v) :: vs) ((k, d) :: ds)
end

section
variable {K : PySem.W.Frag} {G G' H H' : Hp}
mutual
theorem Rep.mono (e : Ex G G') : ∀ {v : V} {d : D}, Rep K G v d → Rep K G' v d
  | _, _, .non => .non
  | _, _, .bl b => .bl b
  | _, _, .int i => .int i
  | _, _, .str s => .str s
  | _, _, .lst h r => .lst (e _ _ h) (Reps.mono e r)
  | _, _, .tup h r => .tup (e _ _ h) (Reps.mono e r)
  | _, _, .wt h r => .wt (Evl.ex_t e h) (Reps.mono e r)
  | _, _, .dT h r => .dT (e _ _ h) (RepT.mono e r)
  | _, _, .dK h r => .dK (e _ _ h) (RepK.mono e r)
  | _, _, .fT h r => .fT (e _ _ h) (RepT.mono e r)
  | _, _, .fK h r => .fK (e _ _ h) (RepK.mono e r)
theorem Reps.mono (e : Ex G G') : ∀ {vs : List V} {ds : List D}, Reps K G vs ds → Reps K G' vs ds
  | _, _, .nil => .nil
  | _, _, .cons h r => .cons (Rep.mono e h) (Reps.mono e r)
theorem RepT.mono (e : Ex G G') : ∀ {vs : List (List Key × V)} {ds : List (List Key × D)}, RepT K G vs ds → RepT K G' vs ds
  | _, _, .nil => .nil
  | _, _, .cons h r => .cons (Rep.mono e h) (RepT.mono e r)
theorem RepK.mono (e : Ex G G') : ∀ {vs : List (Key × V)} {ds : List (Key × D)}, RepK K G vs ds → RepK K G' vs ds
  | _, _, .nil => .nil
  | _, _, .cons h r => .cons (Rep.mono e h) (RepK.mono e r)
end

theorem Reps.length : ∀ {vs : List V} {ds : List D}, Reps K G vs ds → vs.length = ds.length
  | _, _, .nil => rfl
  | _, _, .cons _ r => by rw [List.length_cons, List.length_cons, Reps.length r]
theorem Reps.get : ∀ {vs : List V} {ds : List D} {i : Nat} {d : D}, Reps K G vs ds → ds[i]? = some d → ∃ v, vs[i]? = some v ∧ Rep K G v d
  | _, _, i, _, .nil, e => by simp at e
  | _, _, 0, _, .cons h _, e => by simp at e; subst e; exact ⟨_, rfl, h⟩
  | _, _, i + 1, _, .cons _ r, e => by
    obtain ⟨v, h1, h2⟩ := Reps.get (i := i) r (by simpa using e)
    exact ⟨v, by simpa using h1, h2⟩
theorem Reps.getV : ∀ {vs : List V} {ds : List D} {i : Nat} {v : V}, Reps K G vs ds → vs[i]? = some v → ∃ d, ds[i]? = some d ∧ Rep K G v d
  | _, _, i, _, .nil, e => by simp at e
  | _, _, 0, _, .cons h _, e => by simp at e; subst e; exact ⟨_, rfl, h⟩
  | _, _, i + 1, _, .cons _ r, e => by
    obtain ⟨v, h1, h2⟩ := Reps.getV (i := i) r (by simpa using e)
    exact ⟨v, by simpa using h1, h2⟩
theorem Reps.append : ∀ {vs ws : List V} {ds es : List D}, Reps K G vs ds → Reps K G ws es → Reps K G (vs ++ ws) (ds ++ es)
  | _, _, _, _, .nil, s => s
  | _, _, _, _, .cons h r, s => .cons h (Reps.append r s)
theorem Reps.one {v : V} {d : D} (h : Rep K G v d) : Reps K G [v] [d] := .cons h .nil
theorem Reps.take : ∀ {vs : List V} {ds : List D} (n : Nat), Reps K G vs ds → Reps K G (vs.take n) (ds.take n)
  | _, _, 0, _ => .nil
  | _, _, _ + 1, .nil => .nil
  | _, _, n + 1, .cons h r => .cons h (Reps.take n r)
theorem Reps.drop : ∀ {vs : List V} {ds : List D} (n : Nat), Reps K G vs ds → Reps K G (vs.drop n) (ds.drop n)
  | _, _, 0, r => r
  | _, _, _ + 1, .nil => .nil
  | _, _, n + 1, .cons _ r => Reps.drop n r
theorem Reps.set {v : V} {d : D} (h : Rep K G v d) : ∀ {vs : List V} {ds : List D} (i : Nat), Reps K G vs ds → Reps K G (vs.set i v) (ds.set i d)
  | _, _, _, .nil => .nil
  | _, _, 0, .cons _ r => .cons h r
  | _, _, i + 1, .cons q r => .cons q (Reps.set h i r)
theorem Reps.reverse : ∀ {vs : List V} {ds : List D}, Reps K G vs ds → Reps K G vs.reverse ds.reverse
  | _, _, .nil => .nil
  | _, _, .cons h r => by
    rw [List.reverse_cons, List.reverse_cons]
    exact (Reps.reverse r).append (.one h)
theorem Reps.of_get : ∀ {vs : List V} {ds : List D}, vs.length = ds.length → (∀ (i : Nat) v d, vs[i]? = some v → ds[i]? = some d → Rep K G v d) → Reps K G vs ds
  | [], [], _, _ => .nil
  | v :: vs, d :: ds, h, f => .cons (f 0 v d rfl rfl) (Reps.of_get (by simpa using h) fun i v' d' a b => f (i + 1) v' d' (by simpa using a) (by simpa using b))
  | [], _ :: _, h, _ => by simp at h
  | _ :: _, [], h, _ => by simp at h
theorem Reps.ints_iff : ∀ {vs : List V} {ns : List Int}, Reps K G vs (ns.map D.int) → vs = ns.map V.int
  | _, [], .nil => rfl
  | _, n :: ns, .cons h r => by
    cases h
    rw [Reps.ints_iff r]
    rfl
theorem Reps.of_ints : ∀ (ns : List Int), Reps K G (ns.map V.int) (ns.map D.int)
  | [] => .nil
  | n :: ns => .cons (.int n) (Reps.of_ints ns)
theorem Reps.bls_iff : ∀ {vs : List V} {ns : List Bool}, Reps K G vs (ns.map D.bl) → vs = ns.map V.bl
  | _, [], .nil => rfl
  | _, n :: ns, .cons h r => by
    cases h
    rw [Reps.bls_iff r]
    rfl
theorem Reps.of_bls : ∀ (ns : List Bool), Reps K G (ns.map V.bl) (ns.map D.bl)
  | [] => .nil
  | n :: ns => .cons (.bl n) (Reps.of_bls ns)
theorem Reps.strs_iff : ∀ {vs : List V} {ns : List Str}, Reps K G vs (ns.map D.str) → vs = ns.map V.str
  | _, [], .nil => rfl
  | _, n :: ns, .cons h r => by
    cases h
    rw [Reps.strs_iff r]
    rfl
theorem Reps.of_strs : ∀ (ns : List Str), Reps K G (ns.map V.str) (ns.map D.str)
  | [] => .nil
  | n :: ns => .cons (.str n) (Reps.of_strs ns)

/-- what an object holds -/
inductive Cont (K : PySem.W.Frag) (G : Hp) : HO → D → Prop
  | lst {vs : List V} {ds : List D} : Reps K G vs ds → Cont K G (.lst vs) (.lst ds)
  | dT {vs : List (List Key × V)} {ds : List (List Key × D)} : RepT K G vs ds → Cont K G (.dT vs) (.dT ds)
  | dK {vs : List (Key × V)} {ds : List (Key × D)} : RepK K G vs ds → Cont K G (.dK vs) (.dK ds)
theorem Cont.mono (e : Ex G G') {o : HO} {d : D} (h : Cont K G o d) : Cont K G' o d := by
  cases h with
  | lst r => exact .lst (r.mono e)
  | dT r => exact .dT (r.mono e)
  | dK r => exact .dK (r.mono e)
theorem Cont.rep {a : Addr} {o : HO} {d : D} (h : Cont K G o d) (e : G a = some o) : Rep K G (.ref a) d := by
  cases h with
  | lst r => exact .lst e r
  | dT r => exact .dT e r
  | dK r => exact .dK e r
/-- borrowed: shared data, or a container whose inside is shared -/
def BRep (K : PySem.W.Frag) (G H : Hp) (v : V) (d : D) : Prop := Rep K G v d ∨ ∃ l o, v = .ref l ∧ H l = some o ∧ Cont K G o d
theorem BRep.mono (g : Ex G G') (h : Ex H H') {v : V} {d : D} (r : BRep K G H v d) : BRep K G' H' v d := by
  rcases r with r | ⟨l, o, e, a, c⟩
  · exact .inl (r.mono g)
  · exact .inr ⟨l, o, e, h _ _ a, c.mono g⟩
theorem BRep.lst (gh : Ex G H) {v : V} {ds : List D} (r : BRep K G H v (.lst ds)) : ∃ l vs, v = .ref l ∧ H l = some (.lst vs) ∧ Reps K G vs ds := by
  rcases r with r | ⟨l, o, e, a, c⟩
  · cases r with
    | lst h r => exact ⟨_, _, rfl, gh _ _ h, r⟩
  · cases c with
    | lst r => exact ⟨_, _, e, a, r⟩
theorem BRep.dT (gh : Ex G H) {v : V} {ds : List (List Key × D)} (r : BRep K G H v (.dT ds)) : ∃ l vs, v = .ref l ∧ H l = some (.dT vs) ∧ RepT K G vs ds := by
  rcases r with r | ⟨l, o, e, a, c⟩
  · cases r with
    | dT h r => exact ⟨_, _, rfl, gh _ _ h, r⟩
  · cases c with
    | dT r => exact ⟨_, _, e, a, r⟩
theorem BRep.dK (gh : Ex G H) {v : V} {ds : List (Key × D)} (r : BRep K G H v (.dK ds)) : ∃ l vs, v = .ref l ∧ H l = some (.dK vs) ∧ RepK K G vs ds := by
  rcases r with r | ⟨l, o, e, a, c⟩
  · cases r with
    | dK h r => exact ⟨_, _, rfl, gh _ _ h, r⟩
  · cases c with
    | dK r => exact ⟨_, _, e, a, r⟩
theorem BRep.fT (gh : Ex G H) {v : V} {ds : List (List Key × D)} (r : BRep K G H v (.fT ds)) : ∃ l ob vs, v = .ref l ∧ H l = some (.frz ob (.dT vs)) ∧ RepT K G vs ds := by
  rcases r with r | ⟨l, o, e, a, c⟩
  · cases r with
    | fT h r => exact ⟨_, _, _, rfl, gh _ _ h, r⟩
  · cases c
theorem BRep.fK (gh : Ex G H) {v : V} {ds : List (Key × D)} (r : BRep K G H v (.fK ds)) : ∃ l ob vs, v = .ref l ∧ H l = some (.frz ob (.dK vs)) ∧ RepK K G vs ds := by
  rcases r with r | ⟨l, o, e, a, c⟩
  · cases r with
    | fK h r => exact ⟨_, _, _, rfl, gh _ _ h, r⟩
  · cases c
theorem BRep.tup {v : V} {ds : List D} (r : BRep K G H v (.tup ds)) : ∃ l vs, v = .ref l ∧ G l = some (.tup vs) ∧ Reps K G vs ds := by
  rcases r with r | ⟨l, o, e, a, c⟩
  · cases r with
    | tup h r => exact ⟨_, _, rfl, h, r⟩
  · cases c
theorem BRep.wt {v : V} {ds : List D} (r : BRep K G H v (.wt ds)) : ∃ l vs, v = .ref l ∧ SqT K G l vs ∧ Reps K G vs ds := by
  rcases r with r | ⟨l, o, e, a, c⟩
  · cases r with
    | wt h r => exact ⟨_, _, rfl, h, r⟩
  · cases c
theorem BRep.int {v : V} {i : Int} (r : BRep K G H v (.int i)) : v = .int i := by
  rcases r with r | ⟨l, o, e, a, c⟩
  · cases r; rfl
  · cases c
theorem BRep.bl {v : V} {i : Bool} (r : BRep K G H v (.bl i)) : v = .bl i := by
  rcases r with r | ⟨l, o, e, a, c⟩
  · cases r; rfl
  · cases c
theorem BRep.str {v : V} {i : Str} (r : BRep K G H v (.str i)) : v = .str i := by
  rcases r with r | ⟨l, o, e, a, c⟩
  · cases r; rfl
  · cases c
theorem BRep.non {v : V} (r : BRep K G H v .non) : v = .non := by
  rcases r with r | ⟨l, o, e, a, c⟩
  · cases r; rfl
  · cases c
theorem Rep.isInt {v : V} {i : Int} (r : Rep K G v (.int i)) : v = .int i := by cases r; rfl
theorem Rep.isBl {v : V} {i : Bool} (r : Rep K G v (.bl i)) : v = .bl i := by cases r; rfl
theorem Rep.isStr {v : V} {i : Str} (r : Rep K G v (.str i)) : v = .str i := by cases r; rfl
theorem Rep.isNon {v : V} (r : Rep K G v .non) : v = .non := by cases r; rfl
/-- no value that stands for other data than None is None -/
theorem BRep.notNon {v : V} {d : D} (r : BRep K G H v d) (h : v = .non) : d = .non := by
  subst h
  rcases r with r | ⟨l, o, e, a, c⟩
  · cases r; rfl
  · cases e
end

/-! ### the order of worlds -/
/-- what may become shared: a thing that was not there, or a tuple -/
def Nwd (H : Hp) (a : Addr) (o : HO) : Prop := H a = none ∨ ∃ xs, o = .tup xs
theorem Nwd.back {H H' : Hp} {a : Addr} {o : HO} (h : Ex H H') (n : Nwd H' a o) : Nwd H a o := by
  rcases n with n | n
  · exact .inl (Evl.fresh_back h n)
  · exact .inr n
structure Wle (G H G' H' : Hp) : Prop where
  g : Ex G G'
  h : Ex H H'
  gh : Ex G' H'
  nw : ∀ a o, G' a = some o → G a = some o ∨ Nwd H a o
theorem Wle.refl {G H : Hp} (e : Ex G H) : Wle G H G H := ⟨Ex.refl G, Ex.refl H, e, fun _ _ q => .inl q⟩
theorem Wle.trans {G H G1 H1 G2 H2 : Hp} (a : Wle G H G1 H1) (b : Wle G1 H1 G2 H2) : Wle G H G2 H2 :=
  ⟨a.g.trans b.g, a.h.trans b.h, b.gh, fun x o q => by
    rcases b.nw x o q with r | r
    · exact a.nw x o r
    · exact .inr (r.back a.h)⟩
/-- a new shared object -/
theorem Wle.new {G H : Hp} {p : Addr} {o : HO} (e : Ex G H) (hp : H p = none) : Wle G H (upd G p o) (upd H p o) := by
  have gp : G p = none := Evl.fresh_back e hp
  refine ⟨Ex.new gp, Ex.new hp, fun a u q => ?_, fun a u q => ?_⟩
  · by_cases z : a = p
    · subst z; rw [upd_same] at q ⊢; exact q
    · rw [upd_ne z] at q ⊢; exact e _ _ q
  · by_cases z : a = p
    · subst z; exact .inr (.inl hp)
    · rw [upd_ne z] at q; exact .inl q
/-- a new object that nobody shares yet -/
theorem Wle.newO {G H : Hp} {p : Addr} {o : HO} (e : Ex G H) (hp : H p = none) : Wle G H G (upd H p o) :=
  ⟨Ex.refl G, Ex.new hp, e.trans (Ex.new hp), fun _ _ q => .inl q⟩
/-- an object of H that is in no one's hands is shared from now on -/
theorem ex_share {G H : Hp} {p : Addr} {o : HO} (e : Ex G H) (hp : H p = some o) : Ex (upd G p o) H := fun a u q => by
  by_cases z : a = p
  · subst z; rw [upd_same] at q; cases q; exact hp
  · rw [upd_ne z] at q; exact e _ _ q
theorem ex_upd {G : Hp} {p : Addr} {o : HO} (hp : G p = none) : Ex G (upd G p o) := Ex.new hp
theorem Wle.share {G H G' H' : Hp} {p : Addr} {o : HO} (w : Wle G H G' H') (hp : H p = none) (gp : G' p = none) (ho : H' p = some o) : Wle G H (upd G' p o) H' :=
  ⟨w.g.trans (Ex.new gp), w.h, ex_share w.gh ho, fun a u q => by
    by_cases z : a = p
    · subst z; exact .inr (.inl hp)
    · rw [upd_ne z] at q; exact w.nw _ _ q⟩

/-! ### slots -/
inductive LV where
  /-- nothing known -/
  | un
  /-- shared data -/
  | sh (d : D)
  /-- a container of one's own -/
  | own (d : D)
  /-- a parameter that is only looked at -/
  | bor (d : D)
  /-- the script -/
  | scr (ns : List Int)
instance : Inhabited LV := ⟨.un⟩
abbrev Env := List LV
def LV.isOwn : LV → Bool
  | .own _ => true
  | _ => false
/-- the slot's value (if any) stands for what is said -/
def SlotOk (K : PySem.W.Frag) (H0 G H : Hp) (ov : Option V) : LV → Prop
  | .un => True
  | .sh d => ∃ v, ov = some v ∧ Rep K G v d
  | .own d => ∃ l o, ov = some (.ref l) ∧ G l = none ∧ H0 l = none ∧ H l = some o ∧ Cont K G o d
  | .bor d => ∃ v, ov = some v ∧ (Rep K G v d ∨ ∃ l o, v = .ref l ∧ H0 l = some o ∧ Cont K G o d)
  | .scr ns => ∃ a, ov = some (.ref a) ∧ SqL K H0 a (ns.map V.int)
/-- the base: shared heap and heap at a def's (or a loop's) entry -/
structure Bs where
  G0 : Hp
  H0 : Hp
structure EnvOk (K : PySem.W.Frag) (B : Bs) (ρ : Env) (σ : St) (G H : Hp) : Prop where
  len : σ.length = ρ.length
  g0 : Ex B.G0 G
  h0 : Ex B.H0 H
  gh : Ex G H
  nw : ∀ a o, G a = some o → B.G0 a = some o ∨ Nwd B.H0 a o
  sl : ∀ (i : Nat) (x : LV), ρ[i]? = some x → SlotOk K B.H0 G H (σ[i]?.join) x
  ds : ∀ (i j : Nat) (x y : LV) (l : Addr), ρ[i]? = some x → ρ[j]? = some y → x.isOwn = true → y.isOwn = true → σ[i]? = some (some (.ref l)) → σ[j]? = some (some (.ref l)) → i = j
section
variable {K : PySem.W.Frag} {B : Bs} {ρ : Env} {σ : St} {G G' H H' : Hp}
theorem SlotOk.mono {H0 : Hp} {ov : Option V} {x : LV} (s : SlotOk K H0 G H ov x) (w : Wle G H G' H') : SlotOk K H0 G' H' ov x := by
  cases x with
  | un => trivial
  | sh d =>
    obtain ⟨v, e, r⟩ := s
    exact ⟨v, e, r.mono w.g⟩
  | own d =>
    obtain ⟨l, o, e, g, h0, h, c⟩ := s
    refine ⟨l, o, e, ?_, h0, w.h _ _ h, c.mono w.g⟩
    cases q : G' l with
    | none => rfl
    | some u =>
      rcases w.nw l u q with r | r | ⟨xs, r⟩
      · rw [g] at r; cases r
      · rw [h] at r; cases r
      · subst r
        have q2 := w.gh _ _ q
        rw [w.h _ _ h] at q2
        cases q2
        cases c
  | bor d =>
    obtain ⟨v, e, r⟩ := s
    rcases r with r | ⟨l, o, e1, h, c⟩
    · exact ⟨v, e, .inl (r.mono w.g)⟩
    · exact ⟨v, e, .inr ⟨l, o, e1, h, c.mono w.g⟩⟩
  | scr ns => exact s
theorem EnvOk.mono (E : EnvOk K B ρ σ G H) (w : Wle G H G' H') : EnvOk K B ρ σ G' H' :=
  ⟨E.len, E.g0.trans w.g, E.h0.trans w.h, w.gh, fun a o q => by
    rcases w.nw a o q with r | r
    · exact E.nw a o r
    · exact .inr (r.back E.h0), fun i x e => (E.sl i x e).mono w, E.ds⟩
theorem EnvOk.wle (E : EnvOk K B ρ σ G H) : Wle G H G H := Wle.refl E.gh
/-- seen from another base: what is shared now -/
theorem EnvOk.rebase (E : EnvOk K B ρ σ G H) : EnvOk K ⟨G, B.H0⟩ ρ σ G H :=
  ⟨E.len, Ex.refl G, E.h0, E.gh, fun _ _ q => .inl q, E.sl, E.ds⟩
theorem EnvOk.unbase {G1 : Hp} (E : EnvOk K ⟨G1, B.H0⟩ ρ σ G H) (g : Ex B.G0 G1) (nw : ∀ a o, G1 a = some o → B.G0 a = some o ∨ Nwd B.H0 a o) : EnvOk K B ρ σ G H :=
  ⟨E.len, g.trans E.g0, E.h0, E.gh, fun a o q => by
    rcases E.nw a o q with r | r
    · exact nw a o r
    · exact .inr r, E.sl, E.ds⟩
theorem get_set_ne {α : Type} {l : List α} {i j : Nat} {x : α} (h : i ≠ j) : (l.set i x)[j]? = l[j]? := by
  rw [List.getElem?_set]
  simp [h]
/-- a slot is set to shared data -/
theorem EnvOk.setSh (E : EnvOk K B ρ σ G H) {i : Nat} {v : V} {d : D} (r : Rep K G v d) : EnvOk K B (ρ.set i (.sh d)) (σ.set i (some v)) G H := by
  refine ⟨by rw [List.length_set, List.length_set]; exact E.len, E.g0, E.h0, E.gh, E.nw, fun j x e => ?_, fun j k x y l ex ey ox oy sx sy => ?_⟩
  · by_cases z : i = j
    · subst z
      have hl : i < ρ.length := by
        have := (List.getElem?_eq_some_iff.mp e).1
        simpa using this
      rw [List.getElem?_set_self hl] at e
      cases e
      rw [List.getElem?_set_self (by rw [E.len]; exact hl)]
      exact ⟨v, rfl, r⟩
    · rw [get_set_ne z] at e ⊢
      exact E.sl j x e
  · have hj : i ≠ j := fun z => by
      subst z
      have hl : i < ρ.length := by
        have := (List.getElem?_eq_some_iff.mp ex).1
        simpa using this
      rw [List.getElem?_set_self hl] at ex
      cases ex
      cases ox
    have hk : i ≠ k := fun z => by
      subst z
      have hl : i < ρ.length := by
        have := (List.getElem?_eq_some_iff.mp ey).1
        simpa using this
      rw [List.getElem?_set_self hl] at ey
      cases ey
      cases oy
    rw [get_set_ne hj] at ex sx
    rw [get_set_ne hk] at ey sy
    exact E.ds j k x y l ex ey ox oy sx sy
/-- a slot is set to a new container -/
theorem EnvOk.setOwn (E : EnvOk K B ρ σ G H) {i : Nat} {p : Addr} {o : HO} {d : D} (hg : G p = none) (h0 : B.H0 p = none) (hp : H p = some o) (c : Cont K G o d)
    (nw : ∀ (j : Nat) (x : LV), j ≠ i → ρ[j]? = some x → x.isOwn = true → σ[j]? ≠ some (some (.ref p))) : EnvOk K B (ρ.set i (.own d)) (σ.set i (some (.ref p))) G H := by
  refine ⟨by rw [List.length_set, List.length_set]; exact E.len, E.g0, E.h0, E.gh, E.nw, fun j x e => ?_, fun j k x y l ex ey ox oy sx sy => ?_⟩
  · by_cases z : i = j
    · subst z
      have hl : i < ρ.length := by
        have := (List.getElem?_eq_some_iff.mp e).1
        simpa using this
      rw [List.getElem?_set_self hl] at e
      cases e
      rw [List.getElem?_set_self (by rw [E.len]; exact hl)]
      exact ⟨p, o, rfl, hg, h0, hp, c⟩
    · rw [get_set_ne z] at e ⊢
      exact E.sl j x e
  · have self : ∀ {m : Nat} {u : LV}, i = m → (ρ.set i (.own d))[m]? = some u → (σ.set i (some (.ref p)))[m]? = some (some (V.ref p)) := fun {m u} z e => by
      subst z
      have hl : i < ρ.length := by
        have := (List.getElem?_eq_some_iff.mp e).1
        simpa using this
      exact List.getElem?_set_self (by rw [E.len]; exact hl)
    by_cases zj : i = j
    · by_cases zk : i = k
      · omega
      · have q := self zj ex
        rw [sx] at q
        cases q
        rw [get_set_ne zk] at ey sy
        exact absurd sy (nw k y (fun e => zk e.symm) ey oy)
    · by_cases zk : i = k
      · have q := self zk ey
        rw [sy] at q
        cases q
        rw [get_set_ne zj] at ex sx
        exact absurd sx (nw j x (fun e => zj e.symm) ex ox)
      · rw [get_set_ne zj] at ex sx
        rw [get_set_ne zk] at ey sy
        exact E.ds j k x y l ex ey ox oy sx sy
/-- a slot is forgotten -/
theorem EnvOk.setUn (E : EnvOk K B ρ σ G H) {i : Nat} {ov : Option V} : EnvOk K B (ρ.set i .un) (σ.set i ov) G H := by
  refine ⟨by rw [List.length_set, List.length_set]; exact E.len, E.g0, E.h0, E.gh, E.nw, fun j x e => ?_, fun j k x y l ex ey ox oy sx sy => ?_⟩
  · by_cases z : i = j
    · subst z
      have hl : i < ρ.length := by
        have := (List.getElem?_eq_some_iff.mp e).1
        simpa using this
      rw [List.getElem?_set_self hl] at e
      cases e
      trivial
    · rw [get_set_ne z] at e ⊢
      exact E.sl j x e
  · have hj : i ≠ j := fun z => by
      subst z
      have hl : i < ρ.length := by
        have := (List.getElem?_eq_some_iff.mp ex).1
        simpa using this
      rw [List.getElem?_set_self hl] at ex
      cases ex
      cases ox
    have hk : i ≠ k := fun z => by
      subst z
      have hl : i < ρ.length := by
        have := (List.getElem?_eq_some_iff.mp ey).1
        simpa using this
      rw [List.getElem?_set_self hl] at ey
      cases ey
      cases oy
    rw [get_set_ne hj] at ex sx
    rw [get_set_ne hk] at ey sy
    exact E.ds j k x y l ex ey ox oy sx sy
end
end DL

/-! DL1: what a reading evaluates to over plain data: SE, SB, SF, ST, SA; operators. -/
namespace DL
open PySem L2
open Evl (Ex)

theorem EnvOk.write {K : PySem.W.Frag} {B : Bs} {ρ : Env} {σ : St} {G H : Hp} (E : EnvOk K B ρ σ G H) {i : Nat} {l : Addr} {d d' : D} {o' : HO} (hi : ρ[i]? = some (.own d)) (hl : σ[i]? = some (some (.ref l))) (c : Cont K G o' d') :
    EnvOk K B (ρ.set i (.own d')) σ G (upd H l o') := by
  obtain ⟨l', o, e, g, h0, h, _⟩ := E.sl i _ hi
  rw [hl] at e
  cases e
  have hlt : i < ρ.length := (List.getElem?_eq_some_iff.mp hi).1
  refine ⟨by rw [List.length_set]; exact E.len, E.g0, fun a u q => ?_, fun a u q => ?_, E.nw, fun j x e => ?_, fun j k x y m ex ey ox oy sx sy => ?_⟩
  · by_cases z : a = l
    · subst z; rw [h0] at q; cases q
    · rw [upd_ne z]; exact E.h0 _ _ q
  · by_cases z : a = l
    · subst z; rw [g] at q; cases q
    · rw [upd_ne z]; exact E.gh _ _ q
  · by_cases z : i = j
    · subst z
      rw [List.getElem?_set_self hlt] at e
      cases e
      rw [hl]
      exact ⟨l, o', rfl, g, h0, upd_same, c⟩
    · rw [get_set_ne z] at e
      have s := E.sl j x e
      cases x with
      | un => trivial
      | sh d => exact s
      | own d2 =>
        obtain ⟨m, u, e1, e2, e3, e4, e5⟩ := s
        have e1' : σ[j]? = some (some (V.ref m)) := by
          cases q : σ[j]? with
          | none => rw [q] at e1; cases e1
          | some u2 => rw [q] at e1; rw [show u2 = some (V.ref m) from e1]
        have ne : m ≠ l := fun z2 => by
          subst z2
          exact z (E.ds i j _ _ m hi e rfl rfl hl e1')
        exact ⟨m, u, e1, e2, e3, by rw [upd_ne ne]; exact e4, e5⟩
      | bor d2 => exact s
      | scr _ => exact s
  · have back : ∀ {m : Nat} {u : LV}, (ρ.set i (.own d'))[m]? = some u → u.isOwn = true → ∃ u', ρ[m]? = some u' ∧ u'.isOwn = true := fun {m u} e o => by
      by_cases z : i = m
      · subst z; exact ⟨_, hi, rfl⟩
      · rw [get_set_ne z] at e; exact ⟨u, e, o⟩
    obtain ⟨x', a1, a2⟩ := back ex ox
    obtain ⟨y', b1, b2⟩ := back ey oy
    exact E.ds j k x' y' m a1 b1 a2 b2 sx sy
/-- what one's own container is shared from now on -/
theorem EnvOk.freeze {K : PySem.W.Frag} {B : Bs} {ρ : Env} {σ : St} {G H : Hp} (E : EnvOk K B ρ σ G H) {i : Nat} {d : D} (hi : ρ[i]? = some (.own d)) :
    ∃ G', EnvOk K B (ρ.set i (.sh d)) σ G' H := by
  obtain ⟨l, o, e, g, h0, h, c⟩ := E.sl i _ hi
  have hl : σ[i]? = some (some (V.ref l)) := by
    cases q : σ[i]? with
    | none => rw [q] at e; cases e
    | some u2 => rw [q] at e; rw [show u2 = some (V.ref l) from e]
  have hlt : i < ρ.length := (List.getElem?_eq_some_iff.mp hi).1
  have xg : Ex G (upd G l o) := Ex.new g
  refine ⟨upd G l o, by rw [List.length_set]; exact E.len, E.g0.trans xg, E.h0, ex_share E.gh h, fun a u q => ?_, fun j x ej => ?_, fun j k x y m ex ey ox oy sx sy => ?_⟩
  · by_cases z : a = l
    · subst z; exact .inr (.inl h0)
    · rw [upd_ne z] at q; exact E.nw _ _ q
  · by_cases z : i = j
    · subst z
      rw [List.getElem?_set_self hlt] at ej
      cases ej
      rw [hl]
      exact ⟨.ref l, rfl, (c.mono xg).rep upd_same⟩
    · rw [get_set_ne z] at ej
      have s := E.sl j x ej
      cases x with
      | un => trivial
      | sh d => obtain ⟨v, e1, r⟩ := s; exact ⟨v, e1, r.mono xg⟩
      | own d2 =>
        obtain ⟨m, u, e1, e2, e3, e4, e5⟩ := s
        have e1' : σ[j]? = some (some (V.ref m)) := by
          cases q : σ[j]? with
          | none => rw [q] at e1; cases e1
          | some u2 => rw [q] at e1; rw [show u2 = some (V.ref m) from e1]
        have ne : m ≠ l := fun z2 => by
          subst z2
          exact z (E.ds i j _ _ m hi ej rfl rfl hl e1')
        exact ⟨m, u, e1, by rw [upd_ne ne]; exact e2, e3, e4, e5.mono xg⟩
      | bor d2 =>
        obtain ⟨v, e1, r⟩ := s
        rcases r with r | ⟨m, u, e2, e3, c2⟩
        · exact ⟨v, e1, .inl (r.mono xg)⟩
        · exact ⟨v, e1, .inr ⟨m, u, e2, e3, c2.mono xg⟩⟩
      | scr _ => exact s
  · have back : ∀ {m : Nat} {u : LV}, (ρ.set i (.sh d))[m]? = some u → u.isOwn = true → ∃ u', ρ[m]? = some u' ∧ u'.isOwn = true := fun {m u} e o => by
      by_cases z : i = m
      · subst z; exact ⟨_, hi, rfl⟩
      · rw [get_set_ne z] at e; exact ⟨u, e, o⟩
    obtain ⟨x', a1, a2⟩ := back ex ox
    obtain ⟨y', b1, b2⟩ := back ey oy
    exact E.ds j k x' y' m a1 b1 a2 b2 sx sy

/-! ### judgements -/
abbrev EvF := Env → Option D
def SE (K : PySem.W.Frag) (f : EvF) (t : TE) : Prop := ∀ (B : Bs) (ρ : Env) (σ : St) (G H : Hp), EnvOk K B ρ σ G H → ∀ d, f ρ = some d → ∀ Q : VK, (∀ v G' H', Wle G H G' H' → Rep K G' v d → Q v H') → t σ H Q
def SB (K : PySem.W.Frag) (f : EvF) (t : TE) : Prop := ∀ (B : Bs) (ρ : Env) (σ : St) (G H : Hp), EnvOk K B ρ σ G H → ∀ d, f ρ = some d → ∀ Q : VK, (∀ v G' H', Wle G H G' H' → BRep K G' H' v d → Q v H') → t σ H Q
/-- a new container -/
def SF (K : PySem.W.Frag) (f : EvF) (t : TE) : Prop := ∀ (B : Bs) (ρ : Env) (σ : St) (G H : Hp), EnvOk K B ρ σ G H → ∀ d, f ρ = some d → ∀ Q : VK, (∀ l o G' H', Wle G H G' H' → H l = none → G' l = none → H' l = some o → Cont K G' o d → Q (.ref l) H') → t σ H Q
def ST (K : PySem.W.Frag) (f : Env → Option Bool) (t : TT) : Prop := ∀ (B : Bs) (ρ : Env) (σ : St) (G H : Hp), EnvOk K B ρ σ G H → ∀ b, f ρ = some b → ∀ Q : Bool → Hp → Prop, (∀ G' H', Wle G H G' H' → Q b H') → t σ H Q
def ArgOk (K : PySem.W.Frag) (G H : Hp) : Bool → V → D → Prop
  | false, v, d => Rep K G v d
  | true, v, d => BRep K G H v d
inductive ArgsOk (K : PySem.W.Frag) (G H : Hp) : List Bool → List V → List D → Prop
  | nil : ArgsOk K G H [] [] []
  | cons {b : Bool} {v : V} {d : D} {bs : List Bool} {vs : List V} {ds : List D} : ArgOk K G H b v d → ArgsOk K G H bs vs ds → ArgsOk K G H (b :: bs) (v :: vs) (d :: ds)
def SA (K : PySem.W.Frag) (bs : List Bool) (f : Env → Option (List D)) (t : TA) : Prop := ∀ (B : Bs) (ρ : Env) (σ : St) (G H : Hp), EnvOk K B ρ σ G H → ∀ ds, f ρ = some ds → ∀ Q : List V → Hp → Prop, (∀ vs G' H', Wle G H G' H' → ArgsOk K G' H' bs vs ds → Q vs H') → t σ H Q
section
variable {K : PySem.W.Frag} {f g h : EvF} {ta tb tc : TE}
theorem ArgOk.mono {G H G' H' : Hp} {b : Bool} {v : V} {d : D} (a : ArgOk K G H b v d) (w : Wle G H G' H') : ArgOk K G' H' b v d := by
  cases b with
  | false => exact Rep.mono w.g a
  | true => exact BRep.mono w.g w.h a
theorem ArgsOk.length {G H : Hp} : ∀ {bs : List Bool} {vs : List V} {ds : List D}, ArgsOk K G H bs vs ds → vs.length = bs.length
  | _, _, _, .nil => rfl
  | _, _, _, .cons _ r => by rw [List.length_cons, List.length_cons, ArgsOk.length r]
theorem SE.b (s : SE K f ta) : SB K f ta := fun B ρ σ G H E d e Q q => s B ρ σ G H E d e Q fun v G' H' w r => q v G' H' w (.inl r)
theorem SF.e (s : SF K f ta) : SE K f ta := fun B ρ σ G H E d e Q q => s B ρ σ G H E d e Q fun l o G' H' w hl gl ho c =>
  q (.ref l) (upd G' l o) H' (w.share hl gl ho) ((c.mono (Ex.new gl)).rep upd_same)
/-! ### names, constants -/
def eVar (i : Nat) : EvF := fun ρ => match ρ[i]? with
  | some (.sh d) => some d
  | _ => none
def bVar (i : Nat) : EvF := fun ρ => match ρ[i]? with
  | some (.sh d) => some d
  | some (.own d) => some d
  | some (.bor d) => some d
  | _ => none
theorem SE.var {i : Nat} : SE K (eVar i) (tVar i) := fun B ρ σ G H E d e Q q => by
  unfold eVar at e
  cases z : ρ[i]? with
  | none => rw [z] at e; cases e
  | some x =>
    rw [z] at e
    cases x with
    | sh d' =>
      cases e
      obtain ⟨v, e1, r⟩ := E.sl i _ z
      refine ⟨v, ?_, q v G H E.wle r⟩
      cases y : σ[i]? with
      | none => rw [y] at e1; cases e1
      | some u2 => rw [y] at e1; rw [show u2 = some v from e1]
    | un => cases e
    | own _ => cases e
    | bor _ => cases e
    | scr _ => cases e
theorem SB.var {i : Nat} : SB K (bVar i) (tVar i) := fun B ρ σ G H E d e Q q => by
  unfold bVar at e
  have fin : ∀ {v : V}, σ[i]?.join = some v → BRep K G H v d → tVar i σ H Q := fun {v} e1 r => by
    refine ⟨v, ?_, q v G H E.wle r⟩
    cases y : σ[i]? with
    | none => rw [y] at e1; cases e1
    | some u2 => rw [y] at e1; rw [show u2 = some v from e1]
  cases z : ρ[i]? with
  | none => rw [z] at e; cases e
  | some x =>
    rw [z] at e
    cases x with
    | sh d' =>
      cases e
      obtain ⟨v, e1, r⟩ := E.sl i _ z
      exact fin e1 (.inl r)
    | un => cases e
    | own _ =>
      cases e
      obtain ⟨l, o, e1, _, _, h, c⟩ := E.sl i _ z
      exact fin e1 (.inr ⟨l, o, rfl, h, c⟩)
    | bor _ =>
      cases e
      obtain ⟨v, e1, r⟩ := E.sl i _ z
      rcases r with r | ⟨l, o, e2, h, c⟩
      · exact fin e1 (.inl r)
      · exact fin e1 (.inr ⟨l, o, e2, E.h0 _ _ h, c⟩)
    | scr _ => cases e
def eC (d : D) : EvF := fun _ => some d
theorem SE.c {v : V} {d : D} (r : ∀ G, Rep K G v d) : SE K (eC d) (tC v) := fun B ρ σ G H E d' e Q q => by
  cases e
  exact q v G H E.wle (r G)
theorem SE.int {i : Int} : SE K (eC (.int i)) (tC (.int i)) := .c fun _ => .int i
theorem SE.str {i : Str} : SE K (eC (.str i)) (tC (.str i)) := .c fun _ => .str i
theorem SE.bl {i : Bool} : SE K (eC (.bl i)) (tC (.bl i)) := .c fun _ => .bl i
theorem SE.non : SE K (eC .non) (tC .non) := .c fun _ => .non

/-! ### operators on values -/
/-- a two-place operation over data -/
def OpD (K : PySem.W.Frag) (op : D → D → Option D) (r : R2) : Prop := ∀ (G H : Hp) (v u : V) (x y z : D), Ex G H → BRep K G H v x → BRep K G H u y → op x y = some z →
  ∀ Q : VK, (∀ w G' H', Wle G H G' H' → Rep K G' w z → Q w H') → r v u H Q
/-- .. that makes a new container -/
def OpF (K : PySem.W.Frag) (op : D → D → Option D) (r : R2) : Prop := ∀ (G H : Hp) (v u : V) (x y z : D), Ex G H → BRep K G H v x → BRep K G H u y → op x y = some z →
  ∀ Q : VK, (∀ l o G' H', Wle G H G' H' → H l = none → G' l = none → H' l = some o → Cont K G' o z → Q (.ref l) H') → r v u H Q
def e2 (op : D → D → Option D) (f g : EvF) : EvF := fun ρ => match f ρ, g ρ with
  | some x, some y => op x y
  | _, _ => none
theorem e2_some {op : D → D → Option D} {f g : EvF} {ρ : Env} {z : D} (e : e2 op f g ρ = some z) : ∃ x y, f ρ = some x ∧ g ρ = some y ∧ op x y = some z := by
  unfold e2 at e
  cases p : f ρ with
  | none => rw [p] at e; cases e
  | some x =>
    cases q : g ρ with
    | none => rw [p, q] at e; cases e
    | some y => rw [p, q] at e; exact ⟨x, y, rfl, rfl, e⟩
theorem SE.op {op : D → D → Option D} {r : R2} (ho : OpD K op r) (ha : SB K f ta) (hb : SB K g tb) : SE K (e2 op f g) (tOp r ta tb) := fun B ρ σ G H E d e Q q => by
  obtain ⟨x, y, e1, e2, e3⟩ := e2_some e
  exact ha B ρ σ G H E x e1 _ fun v G1 H1 w1 r1 => hb B ρ σ G1 H1 (E.mono w1) y e2 _ fun u G2 H2 w2 r2 =>
    ho G2 H2 v u x y d w2.gh (r1.mono w2.g w2.h) r2 e3 Q fun w G3 H3 w3 r3 => q w G3 H3 ((w1.trans w2).trans w3) r3
theorem SF.op {op : D → D → Option D} {r : R2} (ho : OpF K op r) (ha : SB K f ta) (hb : SB K g tb) : SF K (e2 op f g) (tOp r ta tb) := fun B ρ σ G H E d e Q q => by
  obtain ⟨x, y, e1, e2, e3⟩ := e2_some e
  exact ha B ρ σ G H E x e1 _ fun v G1 H1 w1 r1 => hb B ρ σ G1 H1 (E.mono w1) y e2 _ fun u G2 H2 w2 r2 =>
    ho G2 H2 v u x y d w2.gh (r1.mono w2.g w2.h) r2 e3 Q fun l o G3 H3 w3 hl gl ho c => q l o G3 H3 ((w1.trans w2).trans w3) (Evl.fresh_back (w1.trans w2).h hl) gl ho c
/-- a one-place operation over data -/
def UnD (K : PySem.W.Frag) (op : D → Option D) (r : V → Hp → VK → Prop) : Prop := ∀ (G H : Hp) (v : V) (x z : D), Ex G H → BRep K G H v x → op x = some z →
  ∀ Q : VK, (∀ w G' H', Wle G H G' H' → Rep K G' w z → Q w H') → r v H Q
def e1 (op : D → Option D) (f : EvF) : EvF := fun ρ => match f ρ with
  | some x => op x
  | none => none
theorem e1_some {op : D → Option D} {f : EvF} {ρ : Env} {z : D} (e : e1 op f ρ = some z) : ∃ x, f ρ = some x ∧ op x = some z := by
  unfold e1 at e
  cases p : f ρ with
  | none => rw [p] at e; cases e
  | some x => rw [p] at e; exact ⟨x, rfl, e⟩
theorem SE.un {op : D → Option D} {r : V → Hp → VK → Prop} (ho : UnD K op r) (ha : SB K f ta) : SE K (e1 op f) (tUn r ta) := fun B ρ σ G H E d e Q q => by
  obtain ⟨x, e1, e3⟩ := e1_some e
  exact ha B ρ σ G H E x e1 _ fun v G1 H1 w1 r1 => ho G1 H1 v x d w1.gh r1 e3 Q fun w G3 H3 w3 r3 => q w G3 H3 (w1.trans w3) r3

/-- a call of a builtin over data -/
def CallD (K : PySem.W.Frag) (op : List D → Option D) (r : List V → Hp → VK → Prop) : Prop := ∀ (G H : Hp) (bs : List Bool) (vs : List V) (ds : List D) (z : D), Ex G H → ArgsOk K G H bs vs ds → op ds = some z →
  ∀ Q : VK, (∀ w G' H', Wle G H G' H' → Rep K G' w z → Q w H') → r vs H Q
def CallF (K : PySem.W.Frag) (op : List D → Option D) (r : List V → Hp → VK → Prop) : Prop := ∀ (G H : Hp) (bs : List Bool) (vs : List V) (ds : List D) (z : D), Ex G H → ArgsOk K G H bs vs ds → op ds = some z →
  ∀ Q : VK, (∀ l o G' H', Wle G H G' H' → H l = none → G' l = none → H' l = some o → Cont K G' o z → Q (.ref l) H') → r vs H Q
def eCall (op : List D → Option D) (f : Env → Option (List D)) : EvF := fun ρ => match f ρ with
  | some x => op x
  | none => none
theorem eCall_some {op : List D → Option D} {f : Env → Option (List D)} {ρ : Env} {z : D} (e : eCall op f ρ = some z) : ∃ x, f ρ = some x ∧ op x = some z := by
  unfold eCall at e
  cases p : f ρ with
  | none => rw [p] at e; cases e
  | some x => rw [p] at e; exact ⟨x, rfl, e⟩
variable {fs : Env → Option (List D)} {bs : List Bool} {tas : TA}
theorem SE.cb {op : List D → Option D} {r : List V → Hp → VK → Prop} (ho : CallD K op r) (ha : SA K bs fs tas) : SE K (eCall op fs) (tCB r tas) := fun B ρ σ G H E d e Q q => by
  obtain ⟨x, e1, e3⟩ := eCall_some e
  exact ha B ρ σ G H E x e1 _ fun v G1 H1 w1 r1 => ho G1 H1 bs v x d w1.gh r1 e3 Q fun w G3 H3 w3 r3 => q w G3 H3 (w1.trans w3) r3
theorem SF.cb {op : List D → Option D} {r : List V → Hp → VK → Prop} (ho : CallF K op r) (ha : SA K bs fs tas) : SF K (eCall op fs) (tCB r tas) := fun B ρ σ G H E d e Q q => by
  obtain ⟨x, e1, e3⟩ := eCall_some e
  exact ha B ρ σ G H E x e1 _ fun v G1 H1 w1 r1 => ho G1 H1 bs v x d w1.gh r1 e3 Q fun l o G3 H3 w3 hl gl ho c => q l o G3 H3 (w1.trans w3) (Evl.fresh_back w1.h hl) gl ho c
/-! ### argument lists -/
def aNil : Env → Option (List D) := fun _ => some []
def aCons (f : EvF) (fs : Env → Option (List D)) : Env → Option (List D) := fun ρ => match f ρ, fs ρ with
  | some d, some ds => some (d :: ds)
  | _, _ => none
theorem aCons_some {f : EvF} {fs : Env → Option (List D)} {ρ : Env} {z : List D} (e : aCons f fs ρ = some z) : ∃ x y, f ρ = some x ∧ fs ρ = some y ∧ z = x :: y := by
  unfold aCons at e
  cases p : f ρ with
  | none => rw [p] at e; cases e
  | some x =>
    cases q : fs ρ with
    | none => rw [p, q] at e; cases e
    | some y => rw [p, q] at e; cases e; exact ⟨x, y, rfl, rfl, rfl⟩
theorem SA.nil : SA K [] aNil tNil := fun B ρ σ G H E d e Q q => by
  cases e
  exact q [] G H E.wle .nil
theorem SA.cons (ha : SE K f ta) (hr : SA K bs fs tas) : SA K (false :: bs) (aCons f fs) (tCons ta tas) := fun B ρ σ G H E d e Q q => by
  obtain ⟨x, y, e1, e2, rfl⟩ := aCons_some e
  exact ha B ρ σ G H E x e1 _ fun v G1 H1 w1 r1 => hr B ρ σ G1 H1 (E.mono w1) y e2 _ fun vs G2 H2 w2 r2 =>
    q (v :: vs) G2 H2 (w1.trans w2) (.cons (ArgOk.mono (b := false) r1 w2) r2)
theorem SA.consB (ha : SB K f ta) (hr : SA K bs fs tas) : SA K (true :: bs) (aCons f fs) (tCons ta tas) := fun B ρ σ G H E d e Q q => by
  obtain ⟨x, y, e1, e2, rfl⟩ := aCons_some e
  exact ha B ρ σ G H E x e1 _ fun v G1 H1 w1 r1 => hr B ρ σ G1 H1 (E.mono w1) y e2 _ fun vs G2 H2 w2 r2 =>
    q (v :: vs) G2 H2 (w1.trans w2) (.cons (ArgOk.mono (b := true) r1 w2) r2)
/-- all shared -/
theorem ArgsOk.reps {G H : Hp} : ∀ {bs : List Bool} {vs : List V} {ds : List D}, ArgsOk K G H bs vs ds → (∀ b ∈ bs, b = false) → Reps K G vs ds
  | _, _, _, .nil, _ => .nil
  | _, _, _, .cons h r, f => by
    have e := f _ (List.mem_cons_self ..)
    subst e
    exact .cons h (ArgsOk.reps r fun b hb => f b (List.mem_cons_of_mem _ hb))
theorem ArgsOk.breps {G H : Hp} {b : Bool} {v : V} {d : D} {bs : List Bool} {vs : List V} {ds : List D} (h : ArgsOk K G H bs vs (d :: ds)) : ∃ v' b' bs' vs', bs = b' :: bs' ∧ vs = v' :: vs' ∧ BRep K G H v' d ∧ ArgsOk K G H bs' vs' ds := by
  cases h with
  | cons h r =>
    rename_i b' v' bs' vs'
    refine ⟨v', b', bs', vs', rfl, rfl, ?_, r⟩
    cases b' with
    | false => exact .inl h
    | true => exact h
theorem ArgsOk.one {G H : Hp} {bs : List Bool} {vs : List V} {d : D} (h : ArgsOk K G H bs vs [d]) : ∃ v, vs = [v] ∧ BRep K G H v d := by
  obtain ⟨v, b, bs', vs', rfl, rfl, r, h2⟩ := h.breps (b := true) (v := .non)
  cases h2
  exact ⟨v, rfl, r⟩
theorem ArgsOk.two {G H : Hp} {bs : List Bool} {vs : List V} {d d2 : D} (h : ArgsOk K G H bs vs [d, d2]) : ∃ v u, vs = [v, u] ∧ BRep K G H v d ∧ BRep K G H u d2 := by
  obtain ⟨v, b, bs', vs', rfl, rfl, r, h2⟩ := h.breps (b := true) (v := .non)
  obtain ⟨u, rfl, r2⟩ := h2.one
  exact ⟨v, u, rfl, r, r2⟩
theorem ArgsOk.three {G H : Hp} {bs : List Bool} {vs : List V} {d d2 d3 : D} (h : ArgsOk K G H bs vs [d, d2, d3]) : ∃ v u x, vs = [v, u, x] ∧ BRep K G H v d ∧ BRep K G H u d2 ∧ BRep K G H x d3 := by
  obtain ⟨v, b, bs', vs', rfl, rfl, r, h2⟩ := h.breps (b := true) (v := .non)
  obtain ⟨u, x, rfl, r2, r3⟩ := h2.two
  exact ⟨v, u, x, rfl, r, r2, r3⟩
/-! ### displays -/
def eLst (f : Env → Option (List D)) : EvF := fun ρ => match f ρ with
  | some ds => if ds.length ≤ 100000 then some (.lst ds) else none
  | none => none
def eTup (f : Env → Option (List D)) : EvF := fun ρ => match f ρ with
  | some ds => if ds.length ≤ 100000 then some (.tup ds) else none
  | none => none
theorem SF.lst (ha : SA K bs fs tas) (hb : ∀ b ∈ bs, b = false) : SF K (eLst fs) (tLst tas) := fun B ρ σ G H E d e Q q => by
  unfold eLst at e
  cases p : fs ρ with
  | none => rw [p] at e; cases e
  | some ds =>
    rw [p] at e
    by_cases hl : ds.length ≤ 100000
    · simp only [hl, if_true, Option.some.injEq] at e
      subst e
      refine ha B ρ σ G H E ds p _ fun vs G1 H1 w1 r1 => ?_
      have r := r1.reps hb
      refine ⟨by rw [r.length]; exact Evl.sz_of hl, fun p hp => ?_⟩
      have gp : G1 p = none := Evl.fresh_back w1.gh hp
      exact q p _ G1 _ (w1.trans (Wle.newO w1.gh hp)) (Evl.fresh_back w1.h hp) gp upd_same (.lst r)
    · simp [hl] at e
theorem SE.tup (ha : SA K bs fs tas) (hb : ∀ b ∈ bs, b = false) : SE K (eTup fs) (tTup tas) := fun B ρ σ G H E d e Q q => by
  unfold eTup at e
  cases p : fs ρ with
  | none => rw [p] at e; cases e
  | some ds =>
    rw [p] at e
    by_cases hl : ds.length ≤ 100000
    · simp only [hl, if_true, Option.some.injEq] at e
      subst e
      refine ha B ρ σ G H E ds p _ fun vs G1 H1 w1 r1 => ?_
      have r := r1.reps hb
      refine ⟨by rw [r.length]; exact Evl.sz_of hl, fun p hp => ?_⟩
      have gp : G1 p = none := Evl.fresh_back w1.gh hp
      exact q (.ref p) _ _ (w1.trans (Wle.new w1.gh hp)) (.tup upd_same (r.mono (Ex.new gp)))
    · simp [hl] at e
theorem SE.lst (ha : SA K bs fs tas) (hb : ∀ b ∈ bs, b = false) : SE K (eLst fs) (tLst tas) := (SF.lst ha hb).e
/-! ### tests -/
def qB (f : EvF) : Env → Option Bool := fun ρ => match f ρ with
  | some (.bl b) => some b
  | _ => none
theorem qB_some {f : EvF} {ρ : Env} {b : Bool} (e : qB f ρ = some b) : f ρ = some (.bl b) := by
  unfold qB at e
  split at e
  · cases e; assumption
  · cases e
theorem ST.b (ha : SB K f ta) : ST K (qB f) (tB ta) := fun B ρ σ G H E b e Q q => ha B ρ σ G H E _ (qB_some e) _ fun v G1 H1 w1 r1 => ⟨b, r1.bl, q G1 H1 w1⟩
theorem ST.test (ha : SB K f ta) : ST K (qB f) (tTest ta) := fun B ρ σ G H E b e Q q => ha B ρ σ G H E _ (qB_some e) _ fun v G1 H1 w1 r1 => ⟨b, r1.bl, q G1 H1 w1⟩
variable {c c2 : Env → Option Bool} {tt tt2 : TT}
def qAnd (c c2 : Env → Option Bool) : Env → Option Bool := fun ρ => match c ρ with
  | some true => c2 ρ
  | some false => some false
  | none => none
def qOr (c c2 : Env → Option Bool) : Env → Option Bool := fun ρ => match c ρ with
  | some true => some true
  | some false => c2 ρ
  | none => none
def qNot (c : Env → Option Bool) : Env → Option Bool := fun ρ => (c ρ).map (!·)
theorem ST.and (h1 : ST K c tt) (h2 : ST K c2 tt2) : ST K (qAnd c c2) (tAnd tt tt2) := fun B ρ σ G H E b e Q q => by
  unfold qAnd at e
  cases p : c ρ with
  | none => rw [p] at e; cases e
  | some x =>
    rw [p] at e
    refine h1 B ρ σ G H E x p _ fun G1 H1 w1 => ?_
    cases x with
    | true => exact iteT (h2 B ρ σ G1 H1 (E.mono w1) b e Q fun G2 H2 w2 => q G2 H2 (w1.trans w2))
    | false => cases e; exact iteF (q G1 H1 w1)
theorem ST.or (h1 : ST K c tt) (h2 : ST K c2 tt2) : ST K (qOr c c2) (tOr tt tt2) := fun B ρ σ G H E b e Q q => by
  unfold qOr at e
  cases p : c ρ with
  | none => rw [p] at e; cases e
  | some x =>
    rw [p] at e
    refine h1 B ρ σ G H E x p _ fun G1 H1 w1 => ?_
    cases x with
    | false => exact iteF (h2 B ρ σ G1 H1 (E.mono w1) b e Q fun G2 H2 w2 => q G2 H2 (w1.trans w2))
    | true => cases e; exact iteT (q G1 H1 w1)
theorem ST.not (h1 : ST K c tt) : ST K (qNot c) (tNot tt) := fun B ρ σ G H E b e Q q => by
  unfold qNot at e
  cases p : c ρ with
  | none => rw [p] at e; cases e
  | some x =>
    rw [p] at e
    cases e
    exact h1 B ρ σ G H E x p _ fun G1 H1 w1 => q G1 H1 w1
/-- as values -/
def eAnd (f g : EvF) : EvF := fun ρ => match f ρ with
  | some (.bl true) => g ρ
  | some (.bl false) => some (.bl false)
  | _ => none
def eOr (f g : EvF) : EvF := fun ρ => match f ρ with
  | some (.bl true) => some (.bl true)
  | some (.bl false) => g ρ
  | _ => none
def eNot (f : EvF) : EvF := fun ρ => match f ρ with
  | some (.bl b) => some (.bl (!b))
  | _ => none
theorem SE.and (ha : SB K f ta) (hb : SE K g tb) : SE K (eAnd f g) (tAndV ta tb) := fun B ρ σ G H E d e Q q => by
  unfold eAnd at e
  split at e
  · rename_i p
    exact ha B ρ σ G H E _ p _ fun v G1 H1 w1 r1 => ⟨true, r1.bl, iteT (hb B ρ σ G1 H1 (E.mono w1) d e Q fun u G2 H2 w2 r2 => q u G2 H2 (w1.trans w2) r2)⟩
  · rename_i p
    cases e
    exact ha B ρ σ G H E _ p _ fun v G1 H1 w1 r1 => ⟨false, r1.bl, iteF (q _ G1 H1 w1 (.bl false))⟩
  · cases e
theorem SE.or (ha : SB K f ta) (hb : SE K g tb) : SE K (eOr f g) (tOrV ta tb) := fun B ρ σ G H E d e Q q => by
  unfold eOr at e
  split at e
  · rename_i p
    cases e
    exact ha B ρ σ G H E _ p _ fun v G1 H1 w1 r1 => ⟨true, r1.bl, iteT (q _ G1 H1 w1 (.bl true))⟩
  · rename_i p
    exact ha B ρ σ G H E _ p _ fun v G1 H1 w1 r1 => ⟨false, r1.bl, iteF (hb B ρ σ G1 H1 (E.mono w1) d e Q fun u G2 H2 w2 r2 => q u G2 H2 (w1.trans w2) r2)⟩
  · cases e
theorem SE.not (ha : SB K f ta) : SE K (eNot f) (tNotV ta) := fun B ρ σ G H E d e Q q => by
  unfold eNot at e
  split at e
  · rename_i b p
    cases e
    exact ha B ρ σ G H E _ p _ fun v G1 H1 w1 r1 => ⟨b, r1.bl, q _ G1 H1 w1 (.bl _)⟩
  · cases e
def eIf (c : Env → Option Bool) (f g : EvF) : EvF := fun ρ => match c ρ with
  | some true => f ρ
  | some false => g ρ
  | none => none
theorem SE.ife (hc : ST K c tt) (ha : SE K f ta) (hb : SE K g tb) : SE K (eIf c f g) (tIf tt ta tb) := fun B ρ σ G H E d e Q q => by
  unfold eIf at e
  cases p : c ρ with
  | none => rw [p] at e; cases e
  | some x =>
    rw [p] at e
    refine hc B ρ σ G H E x p _ fun G1 H1 w1 => ?_
    cases x with
    | true => exact iteT (ha B ρ σ G1 H1 (E.mono w1) d e Q fun u G2 H2 w2 r2 => q u G2 H2 (w1.trans w2) r2)
    | false => exact iteF (hb B ρ σ G1 H1 (E.mono w1) d e Q fun u G2 H2 w2 r2 => q u G2 H2 (w1.trans w2) r2)
/-- a op b op' c -/
def eChain (op op' : D → D → Option D) (f g h : EvF) : EvF := fun ρ => match f ρ, g ρ with
  | some x, some y => match op x y with
    | some (.bl true) => (match h ρ with | some z => op' y z | none => none)
    | some (.bl false) => some (.bl false)
    | _ => none
  | _, _ => none
theorem SE.chain {op op' : D → D → Option D} {r r' : R2} (ho : OpD K op r) (ho' : OpD K op' r') (ha : SB K f ta) (hb : SB K g tb) (hc : SB K h tc) : SE K (eChain op op' f g h) (tChain r r' ta tb tc) := fun B ρ σ G H E d e Q q => by
  unfold eChain at e
  cases p1 : f ρ with
  | none => rw [p1] at e; cases e
  | some x =>
    cases p2 : g ρ with
    | none => rw [p1, p2] at e; cases e
    | some y =>
      rw [p1, p2] at e
      refine ha B ρ σ G H E x p1 _ fun v G1 H1 w1 r1 => hb B ρ σ G1 H1 (E.mono w1) y p2 _ fun u G2 H2 w2 r2 => ?_
      simp only at e
      split at e
      · rename_i p3
        refine ho G2 H2 v u x y _ w2.gh (r1.mono w2.g w2.h) r2 p3 _ fun z G3 H3 w3 r3 => ⟨true, r3.isBl, iteT ?_⟩
        have w13 := (w1.trans w2).trans w3
        cases p4 : h ρ with
        | none => rw [p4] at e; cases e
        | some z2 =>
          rw [p4] at e
          exact hc B ρ σ G3 H3 (E.mono w13) z2 p4 _ fun v4 G4 H4 w4 r4 => ho' G4 H4 u v4 y z2 d w4.gh (r2.mono (w3.trans w4).g (w3.trans w4).h) r4 e Q fun w G5 H5 w5 r5 => q w G5 H5 ((w13.trans w4).trans w5) r5
      · rename_i p3
        cases e
        exact ho G2 H2 v u x y _ w2.gh (r1.mono w2.g w2.h) r2 p3 _ fun z G3 H3 w3 r3 => ⟨false, r3.isBl, iteF (q _ G3 H3 ((w1.trans w2).trans w3) (.bl false))⟩
      · cases e
end
end DL

/-! DL2: targets, what is walked, list comprehensions. -/
namespace DL
open PySem L2
open Evl (Ex)
section
variable {K : PySem.W.Frag} {f : EvF} {ta te : TE}
/-! ### the block's names forgotten -/
def wipeE (ρ : Env) : List Nat → Env
  | [] => ρ
  | v :: vs => (wipeE ρ vs).set v .un
theorem EnvOk.wipe {B : Bs} {ρ : Env} {σ : St} {G H : Hp} (E : EnvOk K B ρ σ G H) : ∀ vs : List Nat, EnvOk K B (wipeE ρ vs) (L2.wipe σ vs) G H
  | [] => E
  | v :: vs => (E.wipe vs).setUn
theorem wipe_set {σ : St} {j : Nat} {x : Option V} : ∀ {vs : List Nat}, j ∈ vs → L2.wipe (σ.set j x) vs = L2.wipe σ vs
  | v :: vs, h => by
    by_cases m : j ∈ vs
    · unfold L2.wipe
      rw [wipe_set m]
    · have e : v = j := by
        rcases List.mem_cons.mp h with q | q
        · exact q.symm
        · exact absurd q m
      subst e
      unfold L2.wipe
      have : ∀ {ws : List Nat}, v ∉ ws → (L2.wipe (σ.set v x) ws) = (L2.wipe σ ws).set v x := fun {ws} => by
        induction ws with
        | nil => intro _; rfl
        | cons a r ih =>
          intro hn
          unfold L2.wipe
          rw [ih (fun q => hn (List.mem_cons_of_mem _ q)), List.set_comm]
          intro q
          exact hn (by rw [q]; exact List.mem_cons_self ..)
      rw [this m, List.set_set]
/-! ### targets -/
abbrev GvF := D → Env → Option Env
/-- behind the store: whatever world the names stood in, the new names stand in it -/
def Lift (K : PySem.W.Frag) (G : Hp) (ρ : Env) (σ : St) (ρ' : Env) (σ' : St) : Prop := ∀ (B : Bs) (G' H' : Hp), Ex G G' → EnvOk K B ρ σ G' H' → EnvOk K B ρ' σ' G' H'
def SG (K : PySem.W.Frag) (g : GvF) (js : List Nat) (tg : TG) : Prop := ∀ (ρ : Env) (σ : St) (G H : Hp) (v : V) (d : D), Ex G H → Rep K G v d → ∀ ρ', g d ρ = some ρ' → ∀ Q : St → Hp → Prop,
  (∀ σ', Lift K G ρ σ ρ' σ' → (∀ vs : List Nat, (∀ j ∈ js, j ∈ vs) → L2.wipe σ' vs = L2.wipe σ vs) → Q σ' H) → tg v σ H Q
abbrev GsF := List D → Env → Option Env
structure SGs (K : PySem.W.Frag) (g : GsF) (js : List Nat) (n : Nat) (tg : TGs) : Prop where
  len : ∀ ds ρ ρ', g ds ρ = some ρ' → ds.length = n
  run : ∀ (ρ : Env) (σ : St) (G H : Hp) (vs : List V) (ds : List D), Ex G H → Reps K G vs ds → ∀ ρ', g ds ρ = some ρ' → ∀ Q : St → Hp → Prop,
    (∀ σ', Lift K G ρ σ ρ' σ' → (∀ ws : List Nat, (∀ j ∈ js, j ∈ ws) → L2.wipe σ' ws = L2.wipe σ ws) → Q σ' H) → tg vs σ H Q
def gN (i : Nat) : GvF := fun d ρ => some (ρ.set i (.sh d))
theorem SG.name {i : Nat} : SG K (gN i) [i] (gName i) := fun ρ σ G H v d gh r ρ' e Q q => by
  cases e
  exact q _ (fun B G' H' g E => E.setSh (r.mono g)) fun vs h => wipe_set (h i (List.mem_singleton.mpr rfl))
def gsNil : GsF := fun ds ρ => match ds with
  | [] => some ρ
  | _ => none
def gsCons (g : GvF) (gs : GsF) : GsF := fun ds ρ => match ds with
  | d :: r => match g d ρ with
    | some ρ1 => gs r ρ1
    | none => none
  | [] => none
theorem SGs.nil : SGs K gsNil [] 0 gNil := ⟨fun ds ρ ρ' e => by
  (cases ds with
  | nil => rfl
  | cons _ _ => cases e), fun ρ σ G H vs ds gh r ρ' e Q q => by
  cases r with
  | nil =>
    cases e
    exact ⟨rfl, q σ (fun _ _ _ _ E => E) fun _ _ => rfl⟩
  | cons _ _ => cases e⟩
theorem gsCons_some {g : GvF} {gs : GsF} {ds : List D} {ρ ρ' : Env} (e : gsCons g gs ds ρ = some ρ') : ∃ d r ρ1, ds = d :: r ∧ g d ρ = some ρ1 ∧ gs r ρ1 = some ρ' := by
  cases ds with
  | nil => cases e
  | cons d r =>
    unfold gsCons at e
    simp only at e
    cases p : g d ρ with
    | none => rw [p] at e; cases e
    | some ρ1 => rw [p] at e; exact ⟨d, r, ρ1, rfl, p, e⟩
theorem SGs.cons {g : GvF} {gs : GsF} {js ks : List Nat} {n : Nat} {tg : TG} {tgs : TGs} (h1 : SG K g js tg) (h2 : SGs K gs ks n tgs) : SGs K (gsCons g gs) (js ++ ks) (n + 1) (gCons tg tgs) := ⟨fun ds ρ ρ' e => by
  obtain ⟨d, r, ρ1, rfl, _, e2⟩ := gsCons_some e
  rw [List.length_cons, h2.len _ _ _ e2], fun ρ σ G H vs ds gh r ρ' e Q q => by
  obtain ⟨d, ds, ρ1, rfl, e1, e2⟩ := gsCons_some e
  cases r with
  | cons ra rr =>
    exact ⟨_, _, rfl, h1 ρ σ G H _ d gh ra ρ1 e1 _ fun σ1 E1 w1 => h2.run ρ1 σ1 G H _ ds gh rr ρ' e2 Q fun σ2 E2 w2 => q σ2 (fun B G' H' g E => E2 B G' H' g (E1 B G' H' g E)) fun ws hw =>
      (w2 ws fun j hj => hw j (List.mem_append_right _ hj)).trans (w1 ws fun j hj => hw j (List.mem_append_left _ hj))⟩⟩
def gT (gs : GsF) : GvF := fun d ρ => match d with
  | .tup ds => gs ds ρ
  | _ => none
theorem SG.tup {gs : GsF} {js : List Nat} {n : Nat} {tgs : TGs} (h : SGs K gs js n tgs) : SG K (gT gs) js (gTup K n tgs) := fun ρ σ G H v d gh r ρ' e Q q => by
  unfold gT at e
  cases r with
  | tup hs rs =>
    exact ⟨_, _, rfl, SqT.of (gh _ _ hs), by rw [rs.length]; exact h.len _ _ _ e, h.run ρ σ G H _ _ gh rs ρ' e Q q⟩
  | _ => cases e
/-! ### what is walked -/
/-- J walks what ds stand for, as long as F stands -/
structure JOk (K : PySem.W.Frag) (J : It) (G1 F : Hp) (ds : List D) : Prop where
  go : ∀ (i : Nat) (G H : Hp), Ex G1 G → Ex F H → Ex G H → i < ds.length → J.go i H ∧ ∀ x H', J.yld i H x H' → ∃ G' d, ds[i]? = some d ∧ Wle G H G' H' ∧ Rep K G' x d
  stop : ∀ (G H : Hp), Ex G1 G → Ex F H → Ex G H → J.stop ds.length H
abbrev IvF := Env → Option (List D)
/-- a source that stands by itself | one that is looked at -/
def SI (K : PySem.W.Frag) (f : IvF) (wi : TI) : Prop := ∀ (B : Bs) (ρ : Env) (σ : St) (G H : Hp), EnvOk K B ρ σ G H → ∀ ds, f ρ = some ds → ∀ R : It → Hp → Prop, (∀ J G' H', Wle G H G' H' → JOk K J G' G' ds → R J H') → wi σ H R
def SIb (K : PySem.W.Frag) (f : IvF) (wi : TI) : Prop := ∀ (B : Bs) (ρ : Env) (σ : St) (G H : Hp), EnvOk K B ρ σ G H → ∀ ds, f ρ = some ds → ∀ R : It → Hp → Prop, (∀ J G' H', Wle G H G' H' → JOk K J G' H' ds → R J H') → wi σ H R
theorem SI.b {f : IvF} {wi : TI} (s : SI K f wi) : SIb K f wi := fun B ρ σ G H E ds e R q => s B ρ σ G H E ds e R fun J G' H' w j =>
  q J G' H' w ⟨fun i G2 H2 a b c => j.go i G2 H2 a (w.gh.trans b) c, fun G2 H2 a b c => j.stop G2 H2 a (w.gh.trans b) c⟩
/-- the items of a list or a tuple -/
def iSq (f : EvF) : IvF := fun ρ => match f ρ with
  | some (.lst ds) => some ds
  | some (.tup ds) => some ds
  | some (.wt ds) => some ds
  | _ => none
def tISeq (K : PySem.W.Frag) (tl : TE) : TI := fun σ H R => iList K tl σ H R ∨ iTup K tl σ H R
theorem pi_or {X : Cx} {tg iter : Expr} {w1 w2 : TI} (h1 : PI X tg iter w1) (h2 : PI X tg iter w2) : PI X tg iter (fun σ H R => w1 σ H R ∨ w2 σ H R) :=
  ⟨fun pins s σ H R I h => h.elim (h1.run pins s σ H R I) (h2.run pins s σ H R I)⟩
theorem pi_seq {X : Cx} {tg l : Expr} {tl : TE} (hl : PE X l tl) : PI X tg l (tISeq X.K tl) := pi_or (pi_list hl) (pi_tup hl)
theorem jok_list {G1 F : Hp} {a : Addr} {vs : List V} {ds : List D} (h : F a = some (.lst vs)) (r : Reps K G1 vs ds) : JOk K (Itl K a) G1 F ds := by
  refine ⟨fun i G H g f gh hi => ?_, fun G H g f gh => ?_⟩
  · have hq : SqL K H a vs := SqL.of (f _ _ h)
    have hv : i < vs.length := by rw [r.length]; exact hi
    refine ⟨⟨vs, vs[i], hq, by simp [hv]⟩, fun x H' y => ?_⟩
    obtain ⟨rfl, y⟩ := y
    obtain ⟨d, e, rd⟩ := r.getV (y _ hq)
    exact ⟨G, d, e, Wle.refl gh, rd.mono g⟩
  · exact ⟨vs, SqL.of (f _ _ h), by rw [r.length]; exact Nat.le_refl _⟩
theorem jok_tup {G1 F : Hp} {a : Addr} {vs : List V} {ds : List D} (h : SqT K G1 a vs) (r : Reps K G1 vs ds) : JOk K (Itt K a) G1 F ds := by
  refine ⟨fun i G H g f gh hi => ?_, fun G H g f gh => ?_⟩
  · have hq : SqT K H a vs := Evl.ex_t (g.trans gh) h
    have hv : i < vs.length := by rw [r.length]; exact hi
    refine ⟨⟨vs, vs[i], hq, by simp [hv]⟩, fun x H' y => ?_⟩
    obtain ⟨rfl, y⟩ := y
    obtain ⟨d, e, rd⟩ := r.getV (y _ hq)
    exact ⟨G, d, e, Wle.refl gh, rd.mono g⟩
  · exact ⟨vs, Evl.ex_t (g.trans gh) h, by rw [r.length]; exact Nat.le_refl _⟩
theorem SI.seq (s : SE K f ta) : SI K (iSq f) (tISeq K ta) := fun B ρ σ G H E ds e R q => by
  unfold iSq at e
  split at e
  · rename_i p
    cases e
    refine .inl (s B ρ σ G H E _ p _ fun v G1 H1 w r => ?_)
    cases r with
    | lst h rs => exact ⟨_, rfl, ⟨_, SqL.of (w.gh _ _ h)⟩, q _ G1 H1 w (jok_list h rs)⟩
  · rename_i p
    cases e
    refine .inr (s B ρ σ G H E _ p _ fun v G1 H1 w r => ?_)
    cases r with
    | tup h rs => exact ⟨_, rfl, ⟨_, SqT.of (w.gh _ _ h)⟩, q _ G1 H1 w (jok_tup (SqT.of h) rs)⟩
  · rename_i p
    cases e
    refine .inr (s B ρ σ G H E _ p _ fun v G1 H1 w r => ?_)
    cases r with
    | wt h rs => exact ⟨_, rfl, ⟨_, Evl.ex_t w.gh h⟩, q _ G1 H1 w (jok_tup h rs)⟩
  · cases e
theorem SIb.seq (s : SB K f ta) : SIb K (iSq f) (tISeq K ta) := fun B ρ σ G H E ds e R q => by
  unfold iSq at e
  split at e
  · rename_i p
    cases e
    refine .inl (s B ρ σ G H E _ p _ fun v G1 H1 w r => ?_)
    obtain ⟨l, vs, rfl, h, rs⟩ := r.lst w.gh
    exact ⟨_, rfl, ⟨_, SqL.of h⟩, q _ G1 H1 w (jok_list h rs)⟩
  · rename_i p
    cases e
    refine .inr (s B ρ σ G H E _ p _ fun v G1 H1 w r => ?_)
    obtain ⟨l, vs, rfl, h, rs⟩ := r.tup
    exact ⟨_, rfl, ⟨_, SqT.of (w.gh _ _ h)⟩, q _ G1 H1 w (jok_tup (SqT.of h) rs)⟩
  · rename_i p
    cases e
    refine .inr (s B ρ σ G H E _ p _ fun v G1 H1 w r => ?_)
    obtain ⟨l, vs, rfl, h, rs⟩ := r.wt
    exact ⟨_, rfl, ⟨_, Evl.ex_t w.gh h⟩, q _ G1 H1 w (jok_tup h rs)⟩
  · cases e
/-- range -/
def rng (lo : Int) (n : Nat) : List D := (List.range n).map fun i => D.int (lo + (i : Nat))
theorem rng_length {lo : Int} {n : Nat} : (rng lo n).length = n := by unfold rng; rw [List.length_map, List.length_range]
theorem rng_get {lo : Int} {n i : Nat} (h : i < n) : (rng lo n)[i]? = some (.int (lo + (i : Nat))) := by
  unfold rng
  rw [List.getElem?_map, List.getElem?_range h]
  rfl
theorem jok_rng {G1 F : Hp} {lo : Int} {n : Nat} : JOk K (Itr lo n) G1 F (rng lo n) := by
  refine ⟨fun i G H g f gh hi => ?_, fun G H g f gh => ?_⟩
  · rw [rng_length] at hi
    refine ⟨hi, fun x H' y => ?_⟩
    obtain ⟨rfl, rfl⟩ := y
    exact ⟨G, _, rng_get hi, Wle.refl gh, .int _⟩
  · show n ≤ (rng lo n).length
    rw [rng_length]
    exact Nat.le_refl _
def iR1 (f : Env → Option (List D)) : IvF := fun ρ => match f ρ with
  | some [.int j] => if j < 2 ^ 62 ∧ -(2 ^ 62) ≤ j then some (rng 0 j.toNat) else none
  | _ => none
def iR2 (f : Env → Option (List D)) : IvF := fun ρ => match f ρ with
  | some [.int i, .int j] => if -(2 ^ 62) ≤ i ∧ i < 2 ^ 62 ∧ -(2 ^ 62) ≤ j ∧ j < 2 ^ 62 then some (rng i (j - i).toNat) else none
  | _ => none
variable {fs : Env → Option (List D)} {bs : List Bool} {tas : TA}
theorem SI.r1 (s : SA K bs fs tas) : SI K (iR1 fs) (iRng1 tas) := fun B ρ σ G H E ds e R q => by
  unfold iR1 at e
  split at e
  · rename_i j p
    by_cases c : j < 2 ^ 62 ∧ -(2 ^ 62) ≤ j
    · rw [if_pos c] at e
      cases e
      refine s B ρ σ G H E _ p _ fun vs G1 H1 w r => ?_
      obtain ⟨v, rfl, r'⟩ := r.one
      cases r'.int
      exact ⟨j, rfl, c.2, c.1, q _ G1 H1 w jok_rng⟩
    · rw [if_neg c] at e; cases e
  · cases e
theorem SI.r2 (s : SA K bs fs tas) : SI K (iR2 fs) (iRng2 tas) := fun B ρ σ G H E ds e R q => by
  unfold iR2 at e
  split at e
  · rename_i i j p
    by_cases c : -(2 ^ 62) ≤ i ∧ i < 2 ^ 62 ∧ -(2 ^ 62) ≤ j ∧ j < 2 ^ 62
    · rw [if_pos c] at e
      cases e
      refine s B ρ σ G H E _ p _ fun vs G1 H1 w r => ?_
      obtain ⟨v, u, rfl, r1, r2⟩ := r.two
      cases r1.int
      cases r2.int
      exact ⟨i, j, rfl, c, q _ G1 H1 w jok_rng⟩
    · rw [if_neg c] at e; cases e
  · cases e
/-- enumerate -/
def enumD (ds : List D) : List D := ds.mapIdx fun i d => .tup [.int (i : Nat), d]
theorem jok_enum {G1 F : Hp} {a : Addr} {vs : List V} {ds : List D} (h : F a = some (.lst vs)) (r : Reps K G1 vs ds) : JOk K (Ite K a) G1 F (enumD ds) := by
  refine ⟨fun i G H g f gh hi => ?_, fun G H g f gh => ?_⟩
  · have hq : SqL K H a vs := SqL.of (f _ _ h)
    have hv : i < vs.length := by rw [r.length]; simpa [enumD] using hi
    refine ⟨⟨vs, vs[i], hq, by simp [hv]⟩, fun x H' y => ?_⟩
    obtain ⟨T, z, rfl, hT, rfl, y⟩ := y
    obtain ⟨d, e, rd⟩ := r.getV (y _ hq)
    have gT : G T = none := Evl.fresh_back gh hT
    refine ⟨_, .tup [.int (i : Nat), d], ?_, Wle.new gh hT, .tup upd_same (.cons (.int _) (.cons ((rd.mono g).mono (Ex.new gT)) .nil))⟩
    simp [enumD, List.getElem?_mapIdx, e]
  · exact ⟨vs, SqL.of (f _ _ h), by rw [r.length]; simp [enumD]⟩
def iEn (f : Env → Option (List D)) : IvF := fun ρ => match f ρ with
  | some [.lst ds] => some (enumD ds)
  | _ => none
theorem SI.enum (s : SA K [false] fs tas) : SI K (iEn fs) (iEnum K tas) := fun B ρ σ G H E ds e R q => by
  unfold iEn at e
  split at e
  · rename_i ds p
    cases e
    refine s B ρ σ G H E _ p _ fun vs G1 H1 w r => ?_
    cases r with
    | cons ra rr =>
      cases rr
      have ra : Rep K G1 _ _ := ra
      cases ra with
      | lst h rs => exact ⟨_, _, rfl, SqL.of (w.gh _ _ h), q _ G1 H1 w (jok_enum h rs)⟩
  · cases e
theorem SIb.enum (s : SA K bs fs tas) : SIb K (iEn fs) (iEnum K tas) := fun B ρ σ G H E ds e R q => by
  unfold iEn at e
  split at e
  · rename_i ds p
    cases e
    refine s B ρ σ G H E _ p _ fun vs G1 H1 w r => ?_
    obtain ⟨v, rfl, r'⟩ := r.one
    obtain ⟨l, ws, rfl, h, rs⟩ := r'.lst w.gh
    exact ⟨_, _, rfl, SqL.of h, q _ G1 H1 w (jok_enum h rs)⟩
  · cases e
/-- zip of two lists -/
def zipD (xs ys : List D) : List D := (xs.zip ys).map fun p => .tup [p.1, p.2]
theorem jok_zip {G1 F : Hp} {a b : Addr} {vs ws : List V} {xs ys : List D} (h : F a = some (.lst vs)) (h2 : F b = some (.lst ws)) (r : Reps K G1 vs xs) (r2 : Reps K G1 ws ys) : JOk K (Itz K a b) G1 F (zipD xs ys) := by
  have hl : (zipD xs ys).length = min xs.length ys.length := by simp [zipD]
  refine ⟨fun i G H g f gh hi => ?_, fun G H g f gh => ?_⟩
  · rw [hl] at hi
    have hq : SqL K H a vs := SqL.of (f _ _ h)
    have hq2 : SqL K H b ws := SqL.of (f _ _ h2)
    have hv : i < vs.length := by rw [r.length]; omega
    have hw : i < ws.length := by rw [r2.length]; omega
    refine ⟨⟨vs, ws, vs[i], ws[i], hq, hq2, by simp [hv], by simp [hw]⟩, fun x H' y => ?_⟩
    obtain ⟨T, z, z2, rfl, hT, rfl, y, y2⟩ := y
    obtain ⟨d, e, rd⟩ := r.getV (y _ hq)
    obtain ⟨d2, e2, rd2⟩ := r2.getV (y2 _ hq2)
    have gT : G T = none := Evl.fresh_back gh hT
    refine ⟨_, .tup [d, d2], ?_, Wle.new gh hT, .tup upd_same (.cons ((rd.mono g).mono (Ex.new gT)) (.cons ((rd2.mono g).mono (Ex.new gT)) .nil))⟩
    have z : (xs.zip ys)[i]? = some (d, d2) := List.getElem?_zip_eq_some.mpr ⟨e, e2⟩
    simp [zipD, z]
  · refine ⟨vs, ws, SqL.of (f _ _ h), SqL.of (f _ _ h2), ?_⟩
    rw [r.length, r2.length, hl]
    omega
def iZp (f : Env → Option (List D)) : IvF := fun ρ => match f ρ with
  | some [.lst xs, .lst ys] => some (zipD xs ys)
  | _ => none
theorem SI.zip (s : SA K [false, false] fs tas) : SI K (iZp fs) (iZip K tas) := fun B ρ σ G H E ds e R q => by
  unfold iZp at e
  split at e
  · rename_i xs ys p
    cases e
    refine s B ρ σ G H E _ p _ fun vs G1 H1 w r => ?_
    cases r with
    | cons ra rr =>
      cases rr with
      | cons rb rr =>
        cases rr
        have ra : Rep K G1 _ _ := ra
        have rb : Rep K G1 _ _ := rb
        cases ra with
        | lst h rs =>
          cases rb with
          | lst h2 rs2 => exact ⟨_, _, _, _, rfl, SqL.of (w.gh _ _ h), SqL.of (w.gh _ _ h2), q _ G1 H1 w (jok_zip h h2 rs rs2)⟩
  · cases e
/-- a text, sign by sign -/
def signs (s : Str) : List D := s.cps.toList.map fun c => D.str ⟨#[c]⟩
theorem jok_str {G1 F : Hp} {x : Str} : JOk K (Its x) G1 F (signs x) := by
  refine ⟨fun i G H g f gh hi => ?_, fun G H g f gh => ?_⟩
  · have hv : i < x.cps.size := by simpa [signs] using hi
    refine ⟨hv, fun v H' y => ?_⟩
    obtain ⟨rfl, c, e, rfl⟩ := y
    refine ⟨G, _, ?_, Wle.refl gh, .str _⟩
    have e' : x.cps.toList[i]? = some c := by rw [Array.getElem?_toList]; exact e
    simp [signs, e']
  · show x.cps.size ≤ (signs x).length
    simp [signs]
def iSt (f : EvF) : IvF := fun ρ => match f ρ with
  | some (.str x) => some (signs x)
  | _ => none
theorem SI.str (s : SB K f ta) : SI K (iSt f) (iStr ta) := fun B ρ σ G H E ds e R q => by
  unfold iSt at e
  split at e
  · rename_i x p
    cases e
    refine s B ρ σ G H E _ p _ fun v G1 H1 w r => ?_
    cases r.str
    exact ⟨x, rfl, q _ G1 H1 w jok_str⟩
  · cases e

/-! ### list comprehensions -/
/-- one item's step: nothing known | left out | kept -/
def compL (step : D → Option (Option D)) : List D → Option (List D)
  | [] => some []
  | d :: r => match step d, compL step r with
    | some none, some ys => some ys
    | some (some y), some ys => some (y :: ys)
    | _, _ => none
theorem compL_cons {step : D → Option (Option D)} {d : D} {r : List D} {out : List D} (e : compL step (d :: r) = some out) :
    (step d = some none ∧ compL step r = some out) ∨ ∃ y ys, step d = some (some y) ∧ compL step r = some ys ∧ out = y :: ys := by
  unfold compL at e
  split at e
  · cases e; exact .inl ⟨by assumption, by assumption⟩
  · cases e; exact .inr ⟨_, _, by assumption, by assumption, rfl⟩
  · cases e
def stepC (g : GvF) (c : Env → Option Bool) (h : EvF) (ρ : Env) : D → Option (Option D) := fun d => match g d ρ with
  | some ρ2 => match c ρ2 with
    | some true => (match h ρ2 with | some y => some (some y) | none => none)
    | some false => some none
    | none => none
  | none => none
theorem stepC_some {g : GvF} {c : Env → Option Bool} {h : EvF} {ρ : Env} {d : D} {o : Option D} (e : stepC g c h ρ d = some o) : ∃ ρ2, g d ρ = some ρ2 ∧ ((c ρ2 = some false ∧ o = none) ∨ ∃ y, c ρ2 = some true ∧ h ρ2 = some y ∧ o = some y) := by
  unfold stepC at e
  cases p1 : g d ρ with
  | none => rw [p1] at e; cases e
  | some ρ2 =>
    rw [p1] at e
    simp only at e
    refine ⟨ρ2, rfl, ?_⟩
    cases p2 : c ρ2 with
    | none => rw [p2] at e; cases e
    | some b =>
      rw [p2] at e
      cases b with
      | false => cases e; exact .inl ⟨rfl, rfl⟩
      | true =>
        simp only at e
        cases p3 : h ρ2 with
        | none => rw [p3] at e; cases e
        | some y => rw [p3] at e; cases e; exact .inr ⟨y, rfl, rfl, rfl⟩
def eComp (src : IvF) (g : GvF) (c : Env → Option Bool) (h : EvF) (vs : List Nat) : EvF := fun ρ => match src ρ with
  | some ds => if ds.length ≤ 100000 then (match compL (stepC g c h (wipeE ρ vs)) ds with | some ys => some (.lst ys) | none => none) else none
  | none => none
theorem eComp_some {src : IvF} {g : GvF} {c : Env → Option Bool} {h : EvF} {vs : List Nat} {ρ : Env} {d : D} (e : eComp src g c h vs ρ = some d) : ∃ ds ys, src ρ = some ds ∧ ds.length ≤ 100000 ∧ compL (stepC g c h (wipeE ρ vs)) ds = some ys ∧ d = .lst ys := by
  unfold eComp at e
  cases p : src ρ with
  | none => rw [p] at e; cases e
  | some ds =>
    rw [p] at e
    simp only at e
    by_cases hl : ds.length ≤ 100000
    · rw [if_pos hl] at e
      split at e
      · cases e; exact ⟨ds, _, rfl, hl, by assumption, rfl⟩
      · cases e
    · rw [if_neg hl] at e; cases e
theorem ST.yes : ST K (fun _ => some true) tYes := fun B ρ σ G H E b e Q q => by
  cases e
  exact q G H E.wle
theorem wipe_set_out {τ : St} {j : Nat} {x : Option V} : ∀ {ws : List Nat}, j ∉ ws → L2.wipe (τ.set j x) ws = (L2.wipe τ ws).set j x
  | [], _ => rfl
  | a :: r, hn => by
    unfold L2.wipe
    rw [wipe_set_out (fun q => hn (List.mem_cons_of_mem _ q)), List.set_comm]
    intro q
    exact hn (by rw [q]; exact List.mem_cons_self ..)
theorem wipe_twice {σ : St} : ∀ us : List Nat, L2.wipe (L2.wipe σ us) us = L2.wipe σ us
  | [] => rfl
  | a :: r => by
    show (L2.wipe ((L2.wipe σ r).set a none) r).set a none = (L2.wipe σ r).set a none
    by_cases m : a ∈ r
    · rw [wipe_set m, wipe_twice r]
    · rw [wipe_set_out m, wipe_twice r, List.set_set]
/-- an unshared object stays so -/
theorem Wle.keep {G H G' H' : Hp} {p : Addr} {o : HO} (w : Wle G H G' H') (g : G p = none) (h : H p = some o) (nt : ∀ xs, o ≠ .tup xs := by intro _ z; cases z) : G' p = none ∧ H' p = some o := by
  refine ⟨?_, w.h _ _ h⟩
  cases z : G' p with
  | none => rfl
  | some u =>
    rcases w.nw _ _ z with y | y | ⟨xs, y⟩
    · rw [g] at y; cases y
    · rw [h] at y; cases y
    · subst y
      have q2 := w.gh _ _ z
      rw [w.h _ _ h] at q2
      cases q2
      exact absurd rfl (nt xs)
/-- an unshared new object may change -/
theorem Wle.mut {G H G' H' : Hp} {p : Addr} {o : HO} (w : Wle G H G' H') (hp : H p = none) (g : G' p = none) : Wle G H G' (upd H' p o) :=
  ⟨w.g, Ex.mut w.h hp, fun a u z => by
    by_cases m : a = p
    · subst m; rw [g] at z; cases z
    · rw [upd_ne m]; exact w.gh _ _ z, w.nw⟩
theorem SF.comp {src : IvF} {wi : TI} {g : GvF} {js : List Nat} {tg : TG} {c : Env → Option Bool} {tt : TT} {h : EvF} {vs : List Nat} (hi : SIb K src wi) (hg : SG K g js tg) (hc : ST K c tt) (he : SE K h te) (hj : ∀ j ∈ js, j ∈ vs) :
    SF K (eComp src g c h vs) (tLc wi tg tt te vs) := fun B ρ σ G H E d e Q q => by
  obtain ⟨ds, ys, e1, hl, e2, rfl⟩ := eComp_some e
  refine hi B ρ σ G H E ds e1 _ fun J G1 H1 w1 jok Dl hD => ?_
  have gD1 : G1 Dl = none := Evl.fresh_back w1.gh hD
  have E1 := (E.mono w1).wipe vs
  refine ⟨fun i m H' => m = ds.length - i ∧ i ≤ ds.length ∧ ∃ G' acc ws post, Wle G1 H1 G' H' ∧ G' Dl = none ∧ H' Dl = some (.lst ws) ∧ Reps K G' ws acc ∧ ys = acc ++ post ∧ compL (stepC g c h (wipeE ρ vs)) (ds.drop i) = some post ∧ acc.length ≤ i,
    ⟨ds.length, rfl, Nat.zero_le _, G1, [], [], ys, Wle.newO w1.gh hD, gD1, upd_same, .nil, rfl, e2, Nat.le_refl _⟩, ?_⟩
  rintro i m H2 ⟨rfl, hi', G2, acc, ws, post, w2, gD2, hD2, r2, ey, ep, ha⟩
  by_cases hlt : i < ds.length
  · refine .inr ?_
    obtain ⟨go, yl⟩ := jok.go i G2 H2 w2.g w2.h w2.gh hlt
    refine ⟨go, fun H' => i + 1 ≤ ds.length ∧ ∃ G' acc ws post, Wle G1 H1 G' H' ∧ G' Dl = none ∧ H' Dl = some (.lst ws) ∧ Reps K G' ws acc ∧ ys = acc ++ post ∧ compL (stepC g c h (wipeE ρ vs)) (ds.drop (i + 1)) = some post ∧ acc.length ≤ i + 1,
      fun H' hN => ⟨ds.length - (i + 1), by omega, rfl, hN⟩, fun x H3 hy => ?_⟩
    obtain ⟨G3, d, ed, w3, rd⟩ := yl x H3 hy
    have edr : ds.drop i = d :: ds.drop (i + 1) := by
      have hd : ds[i] = d := by
        rw [List.getElem?_eq_getElem hlt] at ed
        exact Option.some.inj ed
      rw [← hd]
      exact List.drop_eq_getElem_cons hlt
    rw [edr] at ep
    have E3 := E1.mono (w2.trans w3)
    -- the step
    obtain ⟨o, es, eo⟩ : ∃ o, stepC g c h (wipeE ρ vs) d = some o ∧ ((o = none ∧ compL (stepC g c h (wipeE ρ vs)) (ds.drop (i + 1)) = some post) ∨ ∃ y post', o = some y ∧ compL (stepC g c h (wipeE ρ vs)) (ds.drop (i + 1)) = some post' ∧ post = y :: post') := by
      rcases compL_cons ep with ⟨es, ep'⟩ | ⟨y, post', es, ep', rfl⟩
      · exact ⟨none, es, .inl ⟨rfl, ep'⟩⟩
      · exact ⟨some y, es, .inr ⟨y, post', rfl, ep', rfl⟩⟩
    obtain ⟨ρ2, p1, p2⟩ := stepC_some es
    refine hg _ _ G3 H3 x d E3.gh rd ρ2 p1 _ fun σ2 L4 hw => ⟨by rw [hw vs hj]; exact wipe_twice vs, ?_⟩
    have E4 := L4 B G3 H3 (Ex.refl _) E3
    rcases p2 with ⟨p2, rfl⟩ | ⟨y, p2, p3, rfl⟩
    · rcases eo with ⟨_, ep'⟩ | ⟨_, _, z, _⟩
      · refine hc B ρ2 σ2 G3 H3 E4 _ p2 _ fun G4 H4 w4 => iteF ?_
        have k := (w3.trans w4).keep gD2 hD2
        exact ⟨hlt, G4, acc, ws, post, w2.trans (w3.trans w4), k.1, k.2, r2.mono (w3.trans w4).g, ey, ep', by omega⟩
      · cases z
    · rcases eo with ⟨z, _⟩ | ⟨_, post', z, ep', rfl⟩
      · cases z
      · cases z
        refine hc B ρ2 σ2 G3 H3 E4 _ p2 _ fun G4 H4 w4 => iteT ?_
        refine he B ρ2 σ2 G4 H4 (E4.mono w4) y p3 _ fun v G5 H5 w5 r5 => ?_
        have w25 := (w3.trans w4).trans w5
        have k := w25.keep gD2 hD2
        have wl : ws.length ≤ i := by rw [r2.length]; exact ha
        exact ⟨ws, k.2, Evl.sz_lt (by omega), hlt, G5, acc ++ [y], ws ++ [v], post', (w2.trans w25).mut hD k.1, k.1, upd_same, (r2.mono w25.g).append (.one r5), by rw [ey]; simp, ep', by rw [List.length_append, List.length_singleton]; omega⟩
  · have e : i = ds.length := by omega
    subst e
    refine .inl ⟨jok.stop G2 H2 w2.g w2.h w2.gh, ?_⟩
    rw [List.drop_length] at ep
    cases ep
    rw [List.append_nil] at ey
    subst ey
    exact q Dl _ G2 H2 (w1.trans w2) (Evl.fresh_back w1.h hD) gD2 hD2 (.lst r2)
end
end DL

/-! DL3: statements, loops, defs. -/
namespace DL
open PySem PySem.Spec PyProof.Rows L2
open Evl (Ex)
inductive Out where
  | nx (ρ : Env) | rt (d : D) | bk (ρ : Env) | ct (ρ : Env)
abbrev XF := Env → Option Out
structure WOk (B : Bs) (G H : Hp) : Prop where
  g0 : Ex B.G0 G
  h0 : Ex B.H0 H
  gh : Ex G H
  nw : ∀ a o, G a = some o → B.G0 a = some o ∨ Nwd B.H0 a o
def Post (K : PySem.W.Frag) (B : Bs) (E : Ends) : Out → Prop
  | .nx ρ => ∀ σ G H, EnvOk K B ρ σ G H → E.nx σ H
  | .bk ρ => ∀ σ G H, EnvOk K B ρ σ G H → E.bk σ H
  | .ct ρ => ∀ σ G H, EnvOk K B ρ σ G H → E.ct σ H
  | .rt d => ∀ v G H, WOk B G H → Rep K G v d → E.rt v H
def SS (K : PySem.W.Frag) (x : XF) (t : TS) : Prop := ∀ (B : Bs) (ρ : Env) (σ : St) (G H : Hp), EnvOk K B ρ σ G H → ∀ o, x ρ = some o → ∀ E : Ends, Post K B E o → t E σ H
section
variable {K : PySem.W.Frag} {f g h : EvF} {ta tb te : TE} {x y : XF} {t u : TS}
theorem EnvOk.w {B : Bs} {ρ : Env} {σ : St} {G H : Hp} (E : EnvOk K B ρ σ G H) : WOk B G H := ⟨E.g0, E.h0, E.gh, E.nw⟩
def xNext : XF := fun ρ => some (.nx ρ)
theorem SS.next : SS K xNext tNext := fun B ρ σ G H E o e D q => by
  cases e
  exact q σ G H E
def xSeq (x y : XF) : XF := fun ρ => match x ρ with
  | some (.nx ρ') => y ρ'
  | o => o
theorem SS.seq (h1 : SS K x t) (h2 : SS K y u) : SS K (xSeq x y) (tSeq t u) := fun B ρ σ G H E o e D q => by
  unfold xSeq at e
  cases p : x ρ with
  | none => rw [p] at e; cases e
  | some o1 =>
    rw [p] at e
    refine h1 B ρ σ G H E o1 p _ ?_
    cases o1 with
    | nx ρ' => exact fun σ' G' H' E' => h2 B ρ' σ' G' H' E' o e D q
    | rt d => cases e; exact q
    | bk ρ' => cases e; exact q
    | ct ρ' => cases e; exact q
def xAsg (f : EvF) (g : GvF) : XF := fun ρ => match f ρ with
  | some d => (match g d ρ with | some ρ' => some (.nx ρ') | none => none)
  | none => none
theorem SS.asg {g : GvF} {js : List Nat} {tg : TG} (he : SE K f te) (hg : SG K g js tg) : SS K (xAsg f g) (tAsg te tg) := fun B ρ σ G H E o e D q => by
  unfold xAsg at e
  cases p : f ρ with
  | none => rw [p] at e; cases e
  | some d =>
    rw [p] at e
    simp only at e
    cases p2 : g d ρ with
    | none => rw [p2] at e; cases e
    | some ρ' =>
      rw [p2] at e
      cases e
      exact he B ρ σ G H E d p _ fun v G1 H1 w r => hg ρ σ G1 H1 v d w.gh r ρ' p2 _ fun σ' L' _ => q σ' G1 H1 (L' B G1 H1 (Ex.refl _) (E.mono w))
/-- a new container in a name -/
def xAsgO (i : Nat) (f : EvF) : XF := fun ρ => match f ρ with
  | some d => some (.nx (ρ.set i (.own d)))
  | none => none
theorem SS.asgO {i : Nat} (he : SF K f te) : SS K (xAsgO i f) (tAsg te (gName i)) := fun B ρ σ G H E o e D q => by
  unfold xAsgO at e
  cases p : f ρ with
  | none => rw [p] at e; cases e
  | some d =>
    rw [p] at e
    cases e
    refine he B ρ σ G H E d p _ fun l ob G1 H1 w hl gl hlo c => q _ G1 H1 ((E.mono w).setOwn gl (Evl.fresh_back E.h0 hl) hlo c fun j y hj ey oy z => ?_)
    have s := E.sl j y ey
    cases y with
    | own d2 =>
      obtain ⟨m, u, e1, e2, e3, e4, e5⟩ := s
      rw [z] at e1
      cases e1
      rw [hl] at e4
      cases e4
    | _ => cases oy
/-- a, b = e1, e2 -/
def xPar (i j : Nat) (fs : Env → Option (List D)) : XF := fun ρ => match fs ρ with
  | some [d, d2] => some (.nx ((ρ.set i (.sh d)).set j (.sh d2)))
  | _ => none
variable {fs : Env → Option (List D)} {bs : List Bool} {tas : TA}
theorem SS.par {i j : Nat} (ha : SA K [false, false] fs tas) : SS K (xPar i j fs) (tPar i j tas) := fun B ρ σ G H E o e D q => by
  unfold xPar at e
  split at e
  · rename_i d d2 p
    cases e
    refine ha B ρ σ G H E _ p _ fun vs G1 H1 w r => ?_
    cases r with
    | cons ra rr =>
      cases rr with
      | cons rb rr =>
        cases rr
        exact ⟨_, _, rfl, q _ G1 H1 (((E.mono w).setSh ra).setSh rb)⟩
  · cases e
/-- name op= e -/
theorem bVar_get {B : Bs} {ρ : Env} {σ : St} {G H : Hp} (E : EnvOk K B ρ σ G H) {i : Nat} {d : D} (e : bVar i ρ = some d) : ∃ v, σ[i]? = some (some v) ∧ BRep K G H v d := by
  have back : ∀ {v : V}, σ[i]?.join = some v → σ[i]? = some (some v) := fun {v} e1 => by
    cases y : σ[i]? with
    | none => rw [y] at e1; cases e1
    | some u2 => rw [y] at e1; rw [show u2 = some v from e1]
  unfold bVar at e
  cases z : ρ[i]? with
  | none => rw [z] at e; cases e
  | some x =>
    rw [z] at e
    cases x with
    | sh d' =>
      cases e
      obtain ⟨v, e1, r⟩ := E.sl i _ z
      exact ⟨v, back e1, .inl r⟩
    | un => cases e
    | own _ =>
      cases e
      obtain ⟨l, o, e1, _, _, h, c⟩ := E.sl i _ z
      exact ⟨_, back e1, .inr ⟨l, o, rfl, h, c⟩⟩
    | bor _ =>
      cases e
      obtain ⟨v, e1, r⟩ := E.sl i _ z
      rcases r with r | ⟨l, o, e2, h, c⟩
      · exact ⟨v, back e1, .inl r⟩
      · exact ⟨v, back e1, .inr ⟨l, o, e2, E.h0 _ _ h, c⟩⟩
    | scr _ => cases e
def xAug (i : Nat) (op : D → D → Option D) (f : EvF) : XF := fun ρ => match bVar i ρ, f ρ with
  | some a, some b => (match op a b with | some z => some (.nx (ρ.set i (.sh z))) | none => none)
  | _, _ => none
theorem SS.aug {i : Nat} {op : D → D → Option D} {r : R2} (ho : OpD K op r) (he : SB K f te) : SS K (xAug i op f) (tAug i te r) := fun B ρ σ G H E o e D q => by
  unfold xAug at e
  cases p1 : bVar i ρ with
  | none => rw [p1] at e; cases e
  | some a =>
    cases p2 : f ρ with
    | none => rw [p1, p2] at e; cases e
    | some b =>
      rw [p1, p2] at e
      simp only at e
      cases p3 : op a b with
      | none => rw [p3] at e; cases e
      | some z =>
        rw [p3] at e
        cases e
        obtain ⟨v, sv, rv⟩ := bVar_get E p1
        refine ⟨v, sv, he B ρ σ G H E b p2 _ fun u G1 H1 w1 r1 => ho G1 H1 v u a b z w1.gh (rv.mono w1.g w1.h) r1 p3 _ fun w G2 H2 w2 r2 => q _ G2 H2 ((E.mono (w1.trans w2)).setSh r2)⟩
def xDrop (f : EvF) : XF := fun ρ => match f ρ with
  | some _ => some (.nx ρ)
  | none => none
theorem SS.drop (he : SE K f te) : SS K (xDrop f) (tDrop te) := fun B ρ σ G H E o e D q => by
  unfold xDrop at e
  cases p : f ρ with
  | none => rw [p] at e; cases e
  | some d =>
    rw [p] at e
    cases e
    exact he B ρ σ G H E d p _ fun v G1 H1 w r => q σ G1 H1 (E.mono w)
def xRet (f : EvF) : XF := fun ρ => match f ρ with
  | some d => some (.rt d)
  | none => none
theorem SS.ret (he : SE K f te) : SS K (xRet f) (tRet te) := fun B ρ σ G H E o e D q => by
  unfold xRet at e
  cases p : f ρ with
  | none => rw [p] at e; cases e
  | some d =>
    rw [p] at e
    cases e
    exact he B ρ σ G H E d p _ fun v G1 H1 w r => q v G1 H1 (E.mono w).w r
def xRetN : XF := fun _ => some (.rt .non)
theorem SS.retN : SS K xRetN tRetN := fun B ρ σ G H E o e D q => by
  cases e
  exact q .non G H E.w .non
def xBrk : XF := fun ρ => some (.bk ρ)
def xCt : XF := fun ρ => some (.ct ρ)
theorem SS.brk : SS K xBrk tBreak := fun B ρ σ G H E o e D q => by
  cases e
  exact q σ G H E
theorem SS.ct : SS K xCt tCont := fun B ρ σ G H E o e D q => by
  cases e
  exact q σ G H E
def xNever : XF := fun _ => none
theorem SS.never {t : TS} : SS K xNever t := fun B ρ σ G H E o e D q => by cases e
def xIf (c : Env → Option Bool) (x y : XF) : XF := fun ρ => match c ρ with
  | some b => if b = true then x ρ else y ρ
  | none => none
theorem SS.ifs {c : Env → Option Bool} {tc : TT} (hc : ST K c tc) (h1 : SS K x t) (h2 : SS K y u) : SS K (xIf c x y) (tIfS tc t u) := fun B ρ σ G H E o e D q => by
  unfold xIf at e
  cases p : c ρ with
  | none => rw [p] at e; cases e
  | some b =>
    rw [p] at e
    refine hc B ρ σ G H E b p _ fun G1 H1 w => ?_
    cases b with
    | true => exact iteT (h1 B ρ σ G1 H1 (E.mono w) o e D q)
    | false => exact iteF (h2 B ρ σ G1 H1 (E.mono w) o e D q)
/-- from here on the name's container is shared -/
def frzE (i : Nat) (ρ : Env) : Env := match ρ[i]? with
  | some (.own d) => ρ.set i (.sh d)
  | _ => ρ
def xFrz (i : Nat) (x : XF) : XF := fun ρ => x (frzE i ρ)
theorem SS.frz {i : Nat} (h : SS K x t) : SS K (xFrz i x) t := fun B ρ σ G H E o e D q => by
  unfold xFrz frzE at e
  split at e
  · rename_i d p
    obtain ⟨G', E'⟩ := E.freeze p
    exact h B _ σ G' H E' o e D q
  · exact h B ρ σ G H E o e D q
/-- name.append(e) -/
def xApp (i : Nat) (f : EvF) : XF := fun ρ => match ρ[i]?, f ρ with
  | some (.own (.lst ds)), some d => if ds.length < 100000 then some (.nx (ρ.set i (.own (.lst (ds ++ [d]))))) else none
  | _, _ => none
theorem own_at {B : Bs} {ρ : Env} {σ : St} {G H : Hp} (E : EnvOk K B ρ σ G H) {i : Nat} {d : D} (p : ρ[i]? = some (.own d)) : ∃ l o, σ[i]? = some (some (V.ref l)) ∧ H l = some o ∧ Cont K G o d := by
  obtain ⟨l, o, e1, e2, e3, e4, e5⟩ := E.sl i _ p
  refine ⟨l, o, ?_, e4, e5⟩
  cases z : σ[i]? with
  | none => rw [z] at e1; cases e1
  | some u2 => rw [z] at e1; rw [show u2 = some (V.ref l) from e1]
theorem tyL {H : Hp} {l : Addr} {vs : List V} (h : H l = some (.lst vs)) : tyV K "list" (.ref l) H := .inl ⟨rfl, _, SqL.of h⟩
theorem SS.app {i : Nat} (he : SE K f te) : SS K (xApp i f) (tDrop (tBM K "list" rAppend (tVar i) (tCons te tNil))) := fun B ρ σ G H E o e D q => by
  unfold xApp at e
  split at e
  · rename_i ds d p p2
    by_cases hl : ds.length < 100000
    · rw [if_pos hl] at e
      cases e
      obtain ⟨l, o, sl, hlo, c⟩ := own_at E p
      cases c with
      | lst r =>
        refine ⟨.ref l, sl, tyL hlo, he B ρ σ G H E d p2 _ fun v G1 H1 w r1 => ?_⟩
        have E1 := E.mono w
        refine ⟨l, _, v, rfl, rfl, w.h _ _ hlo, by rw [r.length]; exact Evl.sz_lt hl, q σ G1 _ (E1.write p sl (.lst ((r.mono w.g).append (.one r1))))⟩
    · rw [if_neg hl] at e; cases e
  · cases e
/-- name.extend(e) -/
def xExt (i : Nat) (f : EvF) : XF := fun ρ => match ρ[i]?, f ρ with
  | some (.own (.lst ds)), some (.lst es) => if ds.length + es.length ≤ 100000 then some (.nx (ρ.set i (.own (.lst (ds ++ es))))) else none
  | _, _ => none
theorem SS.ext {i : Nat} (he : SB K f te) : SS K (xExt i f) (tDrop (tBM K "list" rExtend (tVar i) (tCons te tNil))) := fun B ρ σ G H E o e D q => by
  unfold xExt at e
  split at e
  · rename_i ds es p p2
    by_cases hl : ds.length + es.length ≤ 100000
    · rw [if_pos hl] at e
      cases e
      obtain ⟨l, o, sl, hlo, c⟩ := own_at E p
      cases c with
      | lst r =>
        refine ⟨.ref l, sl, tyL hlo, he B ρ σ G H E _ p2 _ fun v G1 H1 w r1 => ?_⟩
        obtain ⟨b, ws, rfl, hb, rs⟩ := r1.lst w.gh
        have E1 := E.mono w
        refine ⟨l, b, _, ws, rfl, rfl, w.h _ _ hlo, hb, by rw [r.length, rs.length]; exact Evl.sz_of hl, q σ G1 _ (E1.write p sl (.lst ((r.mono w.g).append rs)))⟩
    · rw [if_neg hl] at e; cases e
  · cases e
/-- names are forgotten -/
theorem EnvOk.forget1 {B : Bs} {ρ : Env} {σ : St} {G H : Hp} (E : EnvOk K B ρ σ G H) {i : Nat} : EnvOk K B (ρ.set i .un) σ G H := by
  have back : ∀ {j : Nat} {y : LV}, (ρ.set i .un)[j]? = some y → y = .un ∨ ρ[j]? = some y := fun {j y} e => by
    by_cases z : i = j
    · subst z
      have hl : i < ρ.length := by
        have := (List.getElem?_eq_some_iff.mp e).1
        simpa using this
      rw [List.getElem?_set_self hl] at e
      exact .inl (Option.some.inj e).symm
    · rw [get_set_ne z] at e
      exact .inr e
  refine ⟨by rw [List.length_set]; exact E.len, E.g0, E.h0, E.gh, E.nw, fun j y e => ?_, fun j k y z l ey ez oy oz sy sz => ?_⟩
  · rcases back e with rfl | e'
    · trivial
    · exact E.sl j y e'
  · rcases back ey with rfl | e1
    · cases oy
    · rcases back ez with rfl | e2
      · cases oz
      · exact E.ds j k y z l e1 e2 oy oz sy sz
theorem EnvOk.forget {B : Bs} {ρ : Env} {σ : St} {G H : Hp} (E : EnvOk K B ρ σ G H) : ∀ js : List Nat, EnvOk K B (wipeE ρ js) σ G H
  | [] => E
  | j :: js => (E.forget js).forget1
def xFgt (js : List Nat) (x : XF) : XF := fun ρ => match x ρ with
  | some (.nx ρ') => some (.nx (wipeE ρ' js))
  | o => o
theorem SS.fgt {js : List Nat} (h : SS K x t) : SS K (xFgt js x) t := fun B ρ σ G H E o e D q => by
  unfold xFgt at e
  cases p : x ρ with
  | none => rw [p] at e; cases e
  | some o1 =>
    rw [p] at e
    refine h B ρ σ G H E o1 p D ?_
    cases o1 with
    | nx ρ' => cases e; exact fun σ' G' H' E' => q σ' G' H' (E'.forget js)
    | rt d => cases e; exact q
    | bk ρ' => cases e; exact q
    | ct ρ' => cases e; exact q
/-! ### loops -/
def iterF (js : List Nat) (body : XF) (g : GvF) : List D → Env → Option Out
  | [], ρ => some (.nx ρ)
  | d :: r, ρ => match g d ρ with
    | none => none
    | some ρ1 => match body ρ1 with
      | some (.nx ρ2) => iterF js body g r (wipeE ρ2 js)
      | some (.ct ρ2) => iterF js body g r (wipeE ρ2 js)
      | some (.bk ρ2) => some (.nx (wipeE ρ2 js))
      | some (.rt d) => some (.rt d)
      | none => none
def xFor (js : List Nat) (src : IvF) (g : GvF) (body : XF) : XF := fun ρ => match src ρ with
  | some ds => iterF js body g ds (wipeE ρ js)
  | none => none
theorem WOk.unbase {B : Bs} {G1 G H : Hp} (w : WOk ⟨G1, B.H0⟩ G H) (g : Ex B.G0 G1) (nw : ∀ a o, G1 a = some o → B.G0 a = some o ∨ Nwd B.H0 a o) : WOk B G H :=
  ⟨g.trans w.g0, w.h0, w.gh, fun a o q => by
    rcases w.nw a o q with r | r
    · exact nw a o r
    · exact .inr r⟩
theorem SS.for_ {src : IvF} {wi : TI} {g : GvF} {js js' : List Nat} {tg : TG} {body : XF} {tb : TS} (hi : SI K src wi) (hg : SG K g js' tg) (hb : SS K body tb) : SS K (xFor js src g body) (tFor wi tg tb) := fun B ρ σ G H E o e D q => by
  unfold xFor at e
  cases p : src ρ with
  | none => rw [p] at e; cases e
  | some ds =>
    rw [p] at e
    simp only at e
    refine hi B ρ σ G H E ds p _ fun J G1 H1 w1 jok => ?_
    have E1 := E.mono w1
    have g1 := E1.g0
    have n1 := E1.nw
    refine ⟨fun i m σ' H' => m = ds.length - i ∧ i ≤ ds.length ∧ ∃ ρ' G', EnvOk K ⟨G1, B.H0⟩ ρ' σ' G' H' ∧ iterF js body g (ds.drop i) ρ' = some o,
      ⟨ds.length, rfl, Nat.zero_le _, wipeE ρ js, G1, (E1.forget js).rebase, e⟩, ?_⟩
    rintro i m σ2 H2 ⟨rfl, hi', ρ2, G2, E2, e2⟩
    by_cases hlt : i < ds.length
    · refine .inr ?_
      obtain ⟨go, yl⟩ := jok.go i G2 H2 E2.g0 (E2.g0.trans E2.gh) E2.gh hlt
      refine ⟨go, fun σ' H' => i + 1 ≤ ds.length ∧ ∃ ρ' G', EnvOk K ⟨G1, B.H0⟩ ρ' σ' G' H' ∧ iterF js body g (ds.drop (i + 1)) ρ' = some o, fun σ' H' hN => ⟨ds.length - (i + 1), by omega, rfl, hN⟩, fun v H3 hy => ?_⟩
      obtain ⟨G3, d, ed, w3, rd⟩ := yl v H3 hy
      have edr : ds.drop i = d :: ds.drop (i + 1) := by
        have hd : ds[i] = d := by
          rw [List.getElem?_eq_getElem hlt] at ed
          exact Option.some.inj ed
        rw [← hd]
        exact List.drop_eq_getElem_cons hlt
      rw [edr] at e2
      unfold iterF at e2
      cases p1 : g d ρ2 with
      | none => rw [p1] at e2; cases e2
      | some ρ3 =>
        rw [p1] at e2
        simp only at e2
        refine hg ρ2 σ2 G3 H3 v d w3.gh rd ρ3 p1 _ fun σ3 L3 _ => ?_
        have E3 := L3 ⟨G1, B.H0⟩ G3 H3 (Ex.refl _) (E2.mono w3)
        cases p2 : body ρ3 with
        | none => rw [p2] at e2; cases e2
        | some o3 =>
          rw [p2] at e2
          refine hb ⟨G1, B.H0⟩ ρ3 σ3 G3 H3 E3 o3 p2 _ ?_
          cases o3 with
          | nx ρ4 => exact fun σ4 G4 H4 E4 => ⟨hlt, _, G4, E4.forget js, e2⟩
          | ct ρ4 => exact fun σ4 G4 H4 E4 => ⟨hlt, _, G4, E4.forget js, e2⟩
          | bk ρ4 =>
            cases e2
            exact fun σ4 G4 H4 E4 => q σ4 G4 H4 ((E4.forget js).unbase g1 n1)
          | rt d4 =>
            cases e2
            exact fun v4 G4 H4 w4 r4 => q v4 G4 H4 (w4.unbase g1 n1) r4
    · have ei : i = ds.length := by omega
      subst ei
      rw [List.drop_length] at e2
      cases e2
      exact .inl ⟨jok.stop G2 H2 E2.g0 (E2.g0.trans E2.gh) E2.gh, q σ2 G2 H2 (E2.unbase g1 n1)⟩
def iterW (js : List Nat) (c : Env → Option Bool) (body : XF) : Nat → Env → Option Out
  | 0, _ => none
  | m + 1, ρ => match c ρ with
    | some true => (match body ρ with
      | some (.nx ρ2) => iterW js c body m (wipeE ρ2 js)
      | some (.ct ρ2) => iterW js c body m (wipeE ρ2 js)
      | some (.bk ρ2) => some (.nx (wipeE ρ2 js))
      | some (.rt d) => some (.rt d)
      | none => none)
    | some false => some (.nx ρ)
    | none => none
def xWhile (js : List Nat) (n : Nat) (c : Env → Option Bool) (body : XF) : XF := fun ρ => iterW js c body n (wipeE ρ js)
theorem SS.while_ {js : List Nat} {n : Nat} {c : Env → Option Bool} {tc : TT} {body : XF} {tb : TS} (hc : ST K c tc) (hb : SS K body tb) : SS K (xWhile js n c body) (tWhile tc tb) := fun B ρ σ G H E o e D q => by
  refine ⟨fun m σ' H' => ∃ ρ' G', EnvOk K B ρ' σ' G' H' ∧ iterW js c body m ρ' = some o, ⟨n, _, G, E.forget js, e⟩, ?_⟩
  rintro m σ2 H2 ⟨ρ2, G2, E2, e2⟩
  cases m with
  | zero => cases e2
  | succ m =>
    unfold iterW at e2
    cases p : c ρ2 with
    | none => rw [p] at e2; cases e2
    | some b =>
      rw [p] at e2
      refine hc B ρ2 σ2 G2 H2 E2 b p _ fun G3 H3 w3 => ?_
      cases b with
      | false =>
        cases e2
        exact iteF (q σ2 G3 H3 (E2.mono w3))
      | true =>
        simp only at e2
        refine iteT ⟨fun σ' H' => ∃ ρ' G', EnvOk K B ρ' σ' G' H' ∧ iterW js c body m ρ' = some o, fun σ' H' hN => ⟨m, Nat.lt_succ_self _, hN⟩, ?_⟩
        cases p2 : body ρ2 with
        | none => rw [p2] at e2; cases e2
        | some o3 =>
          rw [p2] at e2
          refine hb B ρ2 σ2 G3 H3 (E2.mono w3) o3 p2 _ ?_
          cases o3 with
          | nx ρ4 => exact fun σ4 G4 H4 E4 => ⟨_, G4, E4.forget js, e2⟩
          | ct ρ4 => exact fun σ4 G4 H4 E4 => ⟨_, G4, E4.forget js, e2⟩
          | bk ρ4 => cases e2; exact fun σ4 G4 H4 E4 => q σ4 G4 H4 (E4.forget js)
          | rt d4 => cases e2; exact q
/-! ### defs -/
def spD (K : PySem.W.Frag) (bs : List Bool) (F : List D → Option D) : Sp := fun vs H Q _ => ∃ G ds r, Ex G H ∧ ArgsOk K G H bs vs ds ∧ F ds = some r ∧ ∀ v G' H', Wle G H G' H' → Rep K G' v r → Q v H'
theorem SE.call {F : List D → Option D} (ha : SA K bs fs tas) : SE K (eCall F fs) (tCall (spD K bs F) [] E0 tas) := fun B ρ σ G H E d e Q q => by
  obtain ⟨ds, e1, e3⟩ := eCall_some e
  refine ha B ρ σ G H E ds e1 _ fun vs G1 H1 w1 r1 => ?_
  rw [List.append_nil]
  exact ⟨G1, ds, d, w1.gh, r1, e3, fun v G2 H2 w2 r2 => q v G2 H2 (w1.trans w2) r2⟩
/-- what a def begins with -/
def envP : List Bool → List D → Env
  | false :: bs, d :: ds => .sh d :: envP bs ds
  | true :: bs, d :: ds => .bor d :: envP bs ds
  | _, _ => []
def env0 (bs : List Bool) (ds : List D) (n : Nat) : Env := envP bs ds ++ List.replicate (n - bs.length) .un
theorem envP_slots {G H : Hp} : ∀ {bs : List Bool} {vs : List V} {ds : List D}, ArgsOk K G H bs vs ds → (envP bs ds).length = vs.length ∧ ∀ (i : Nat) (x : LV), (envP bs ds)[i]? = some x → SlotOk K H G H ((vs.map some)[i]?.join) x ∧ x.isOwn = false
  | _, _, _, .nil => ⟨rfl, fun i x e => by simp [envP] at e⟩
  | _, _, _, .cons (b := b) h r => by
    obtain ⟨l, f⟩ := envP_slots r
    cases b with
    | false =>
      refine ⟨by simp [envP, l], fun i x e => ?_⟩
      cases i with
      | zero =>
        simp [envP] at e
        subst e
        exact ⟨⟨_, rfl, h⟩, rfl⟩
      | succ i =>
        simp [envP] at e
        simpa using f i x e
    | true =>
      refine ⟨by simp [envP, l], fun i x e => ?_⟩
      cases i with
      | zero =>
        simp [envP] at e
        subst e
        refine ⟨⟨_, rfl, ?_⟩, rfl⟩
        rcases (show BRep K G H _ _ from h) with r | ⟨m, o, e1, e2, c⟩
        · exact .inl r
        · exact .inr ⟨m, o, e1, e2, c⟩
      | succ i =>
        simp [envP] at e
        simpa using f i x e
theorem env_start {G H : Hp} {bs : List Bool} {vs : List V} {ds : List D} {N : List Str} (gh : Ex G H) (a : ArgsOk K G H bs vs ds) (hn : bs.length ≤ N.length) : EnvOk K ⟨G, H⟩ (env0 bs ds N.length) (L2.start N vs) G H := by
  obtain ⟨l, f⟩ := envP_slots a
  have lb : vs.length = bs.length := a.length
  have get : ∀ (i : Nat) (x : LV), (env0 bs ds N.length)[i]? = some x → ((envP bs ds)[i]? = some x ∧ (L2.start N vs)[i]? = (vs.map some)[i]?) ∨ x = .un := fun i x e => by
    unfold env0 at e
    by_cases h : i < (envP bs ds).length
    · rw [List.getElem?_append_left h] at e
      refine .inl ⟨e, ?_⟩
      unfold L2.start
      rw [List.getElem?_append_left (by rw [List.length_map, ← l]; exact h)]
    · rw [List.getElem?_append_right (by omega)] at e
      have := (List.getElem?_eq_some_iff.mp e).2
      simp at this
      exact .inr this.symm
  refine ⟨?_, Ex.refl G, Ex.refl H, gh, fun _ _ q => .inl q, fun i x e => ?_, fun i j x y m ex ey ox oy sx sy => ?_⟩
  · unfold L2.start env0
    simp [l]
    omega
  · rcases get i x e with ⟨h1, h2⟩ | h
    · rw [h2]
      exact (f i x h1).1
    · subst h
      trivial
  · rcases get i x ex with ⟨h1, h2⟩ | h
    · rw [(f i x h1).2] at ox
      cases ox
    · subst h
      cases ox
/-- how a body ends for its def -/
def Ret (o : Option Out) (r : D) : Prop := o = some (.rt r) ∨ (r = .non ∧ ∃ ρ, o = some (.nx ρ))
theorem fn_ok {P : Program} {w : World} {mg : Str → Option Value} {base : Heap} {x' qual : Str} {st : Stmt} {fa : Addr} {fd : FuncData} {N ps : List Str} {k : Nat} (F : Fun K x' qual st fa fd) (S : FnScope N ps (defScope st)) {bs : List Bool} {Fm : List D → Option D} {xb : XF}
    (hbs : bs.length = ps.length) (hn : ps.length ≤ N.length) (hx : ∀ ds r, Fm ds = some r → Ret (xb (env0 bs ds N.length)) r)
    (body : ∀ (cdv : Value) (A : Around) (outer : List PySem.Env) (s : Shared) (H : Hp) (E : XK), Room k (A.deeper (envOfC qual (defScope st) s.heap.objs.size fa cdv)) →
      ∃ t, PSs (cxOf CX0 P w K mg base N qual (defScope st) fa cdv A outer s H E).nox (defBody st) t ∧ SS K xb t) : FnOk P w K mg base CX0 (k + 1) fa fd ps (spD K bs Fm) := by
  refine F.ok S (fun vs H Q E h => ?_) (fun cdv A outer s H vs Q E hr h => ?_)
  · obtain ⟨G, ds, r, _, a, _⟩ := h
    rw [a.length, hbs]
  · obtain ⟨G, ds, r, gh, a, e, q⟩ := h
    obtain ⟨t, pt, ss⟩ := body cdv A outer s H E hr
    refine ⟨t, pt, ?_⟩
    have E0' := env_start (N := N) gh a (by omega)
    have fin : ∀ v G' H', WOk ⟨G, H⟩ G' H' → Rep K G' v r → Q v H' := fun v G' H' w rr => q v G' H' ⟨w.g0, w.h0, w.gh, w.nw⟩ rr
    rcases hx ds r e with h1 | ⟨rfl, ρ, h1⟩
    · exact ss _ _ _ _ _ E0' _ h1 _ fin
    · exact ss _ _ _ _ _ E0' _ h1 _ fun σ' G' H' E' => fin .non G' H' E'.w .non
end
end DL

/-! DL4: operators and builtins over plain data. -/
namespace DL
open PySem PySem.Spec PyProof.Rows L2
open Evl (Ex)
/-! ### plain data as the model's -/
mutual
def D.toPy : D → PyData
  | .non => .none
  | .bl b => .bool b
  | .int i => .int i
  | .str s => .str s
  | .lst xs => .list (D.toPys xs)
  | .tup xs => .tuple (D.toPys xs)
  | .wt xs => .tuple (D.toPys xs)
  | .dT _ => .dict []
  | .dK _ => .dict []
  | .fT _ => .dict []
  | .fK _ => .dict []
def D.toPys : List D → List PyData
  | [] => []
  | x :: xs => D.toPy x :: D.toPys xs
end
/-- no dict within, no deeper than n -/
def D.ok : Nat → D → Bool
  | _, .non => true
  | _, .bl _ => true
  | _, .int _ => true
  | _, .str s => PyData.strOk s
  | n + 1, .lst xs => xs.all (D.ok n)
  | n + 1, .tup xs => xs.all (D.ok n)
  | n + 1, .wt xs => xs.all (D.ok n)
  | _, _ => false
def D.eqv (x y : D) : Bool := PyData.eqv x.toPy y.toPy
section
variable {K : PySem.W.Frag} {G H : Hp}
theorem dpAll_of {n : Nat} (f : ∀ (v : V) (d : D), Rep K G v d → Ex G H → D.ok n d = true → Dp K H v d.toPy) : ∀ {vs : List V} {ds : List D}, Reps K G vs ds → Ex G H → ds.all (D.ok n) = true → DpAll K H vs (D.toPys ds)
  | [], [], _, gh, o => .nil
  | _ :: _, _ :: _, .cons ra rr, gh, o => by
    rw [List.all_cons, Bool.and_eq_true] at o
    exact .cons (f _ _ ra gh o.1) (dpAll_of f rr gh o.2)
theorem dp_of : ∀ (n : Nat) (v : V) (d : D), Rep K G v d → Ex G H → D.ok n d = true → Dp K H v d.toPy
  | n, v, .non, r, gh, o => by cases r; exact .non
  | n, v, .bl b, r, gh, o => by cases r; exact .bl b
  | n, v, .int i, r, gh, o => by cases r; exact .int i
  | n, v, .str s, r, gh, o => by cases r; exact .str s
  | 0, v, .lst xs, r, gh, o => by cases o
  | n + 1, v, .lst xs, r, gh, o => by
    cases r with
    | lst h rs =>
      unfold D.toPy
      exact .lst (SqL.of (gh _ _ h)) (dpAll_of (dp_of n) rs gh o)
  | 0, v, .tup xs, r, gh, o => by cases o
  | n + 1, v, .tup xs, r, gh, o => by
    cases r with
    | tup h rs =>
      unfold D.toPy
      exact .tup (SqT.of (gh _ _ h)) (dpAll_of (dp_of n) rs gh o)
  | 0, v, .wt xs, r, gh, o => by cases o
  | n + 1, v, .wt xs, r, gh, o => by
    cases r with
    | wt h rs =>
      unfold D.toPy
      exact .tup (Evl.ex_t gh h) (dpAll_of (dp_of n) rs gh o)
  | 0, v, .dT xs, r, gh, o => by cases o
  | n + 1, v, .dT xs, r, gh, o => by cases o
  | 0, v, .dK xs, r, gh, o => by cases o
  | n + 1, v, .dK xs, r, gh, o => by cases o
  | 0, v, .fT xs, r, gh, o => by cases o
  | n + 1, v, .fT xs, r, gh, o => by cases o
  | 0, v, .fK xs, r, gh, o => by cases o
  | n + 1, v, .fK xs, r, gh, o => by cases o
theorem dps_of (n : Nat) {vs : List V} {ds : List D} (r : Reps K G vs ds) (gh : Ex G H) (o : ds.all (D.ok n) = true) : DpAll K H vs (D.toPys ds) := dpAll_of (dp_of n) r gh o
theorem bdp_of (n : Nat) {v : V} {d : D} (r : BRep K G H v d) (gh : Ex G H) (o : D.ok n d = true) : Dp K H v d.toPy := by
  rcases r with r | ⟨l, ob, rfl, h, c⟩
  · exact dp_of n v d r gh o
  · cases c with
    | lst rs =>
      cases n with
      | zero => cases o
      | succ n => exact .lst (SqL.of h) (dps_of n rs gh o)
    | dT _ => cases n <;> cases o
    | dK _ => cases n <;> cases o
theorem lay_of : ∀ (n : Nat) (d : D), D.ok n d = true → d.toPy.canLay0 = true ∧ d.toPy.depth ≤ n
  | n, .non, o => ⟨rfl, Nat.zero_le _⟩
  | n, .bl b, o => ⟨rfl, Nat.zero_le _⟩
  | n, .int i, o => ⟨rfl, Nat.zero_le _⟩
  | n, .str s, o => ⟨by cases n <;> exact o, Nat.zero_le _⟩
  | 0, .lst xs, o => by cases o
  | n + 1, .lst xs, o => by
    have o' : xs.all (D.ok n) = true := o
    have z : PyData.canLayAll0 (D.toPys xs) = true ∧ PyData.depthAll (D.toPys xs) ≤ n := by
      clear o
      induction xs with
      | nil => exact ⟨rfl, Nat.zero_le _⟩
      | cons x xs ih =>
        rw [List.all_cons, Bool.and_eq_true] at o'
        obtain ⟨a, b⟩ := lay_of n x o'.1
        obtain ⟨c, d⟩ := ih o'.2
        unfold D.toPys
        exact ⟨by unfold PyData.canLayAll0; rw [a, c]; rfl, by unfold PyData.depthAll; exact Nat.max_le.mpr ⟨b, d⟩⟩
    unfold D.toPy
    exact ⟨by unfold PyData.canLay0; exact z.1, by unfold PyData.depth; omega⟩
  | 0, .tup xs, o => by cases o
  | n + 1, .tup xs, o => by
    have o' : xs.all (D.ok n) = true := o
    have z : PyData.canLayAll0 (D.toPys xs) = true ∧ PyData.depthAll (D.toPys xs) ≤ n := by
      clear o
      induction xs with
      | nil => exact ⟨rfl, Nat.zero_le _⟩
      | cons x xs ih =>
        rw [List.all_cons, Bool.and_eq_true] at o'
        obtain ⟨a, b⟩ := lay_of n x o'.1
        obtain ⟨c, d⟩ := ih o'.2
        unfold D.toPys
        exact ⟨by unfold PyData.canLayAll0; rw [a, c]; rfl, by unfold PyData.depthAll; exact Nat.max_le.mpr ⟨b, d⟩⟩
    unfold D.toPy
    exact ⟨by unfold PyData.canLay0; exact z.1, by unfold PyData.depth; omega⟩
  | 0, .wt xs, o => by cases o
  | n + 1, .wt xs, o => by
    have o' : xs.all (D.ok n) = true := o
    have z : PyData.canLayAll0 (D.toPys xs) = true ∧ PyData.depthAll (D.toPys xs) ≤ n := by
      clear o
      induction xs with
      | nil => exact ⟨rfl, Nat.zero_le _⟩
      | cons x xs ih =>
        rw [List.all_cons, Bool.and_eq_true] at o'
        obtain ⟨a, b⟩ := lay_of n x o'.1
        obtain ⟨c, d⟩ := ih o'.2
        unfold D.toPys
        exact ⟨by unfold PyData.canLayAll0; rw [a, c]; rfl, by unfold PyData.depthAll; exact Nat.max_le.mpr ⟨b, d⟩⟩
    unfold D.toPy
    exact ⟨by unfold PyData.canLay0; exact z.1, by unfold PyData.depth; omega⟩
  | 0, .dT xs, o => by cases o
  | n + 1, .dT xs, o => by cases o
  | 0, .dK xs, o => by cases o
  | n + 1, .dK xs, o => by cases o
  | 0, .fT xs, o => by cases o
  | n + 1, .fT xs, o => by cases o
  | 0, .fK xs, o => by cases o
  | n + 1, .fK xs, o => by cases o
theorem shaped_of {d : D} (o : D.ok 60 d = true) : SeqAt.shaped d.toPy = true := by
  obtain ⟨a, b⟩ := lay_of 60 d o
  unfold SeqAt.shaped
  rw [a, decide_eq_true (show d.toPy.depth ≤ 64 by omega)]
  rfl
end
/-! ### == -/
def dEq (x y : D) : Option D := if D.ok 60 x && D.ok 60 y then some (.bl (D.eqv x y)) else none
def dNe (x y : D) : Option D := if D.ok 60 x && D.ok 60 y then some (.bl (!D.eqv x y)) else none
section
variable {K : PySem.W.Frag}
theorem od_eq : OpD K dEq (rEqD K) := fun G H v u x y z gh a b e Q q => by
  unfold dEq at e
  by_cases c : (D.ok 60 x && D.ok 60 y) = true
  · rw [if_pos c] at e
    cases e
    rw [Bool.and_eq_true] at c
    exact ⟨_, _, bdp_of 60 a gh c.1, bdp_of 60 b gh c.2, shaped_of c.1, shaped_of c.2, q _ G H (Wle.refl gh) (.bl _)⟩
  · rw [if_neg c] at e; cases e
theorem od_ne : OpD K dNe (rNeD K) := fun G H v u x y z gh a b e Q q => by
  unfold dNe at e
  by_cases c : (D.ok 60 x && D.ok 60 y) = true
  · rw [if_pos c] at e
    cases e
    rw [Bool.and_eq_true] at c
    exact ⟨_, _, bdp_of 60 a gh c.1, bdp_of 60 b gh c.2, shaped_of c.1, shaped_of c.2, q _ G H (Wle.refl gh) (.bl _)⟩
  · rw [if_neg c] at e; cases e
/-! ### ints -/
def dI (g : Int → Int → D) : D → D → Option D
  | .int i, .int j => some (g i j)
  | _, _ => none
theorem dI_some {g : Int → Int → D} {x y z : D} (e : dI g x y = some z) : ∃ i j, x = .int i ∧ y = .int j ∧ z = g i j := by
  unfold dI at e
  split at e
  · cases e; exact ⟨_, _, rfl, rfl, rfl⟩
  · cases e
def dLt := dI fun i j => .bl (decide (i < j))
def dLe := dI fun i j => .bl (decide (i ≤ j))
def dGt := dI fun i j => .bl (decide (j < i))
def dGe := dI fun i j => .bl (decide (j ≤ i))
theorem od_b {p : Int → Int → Bool} : OpD K (dI fun i j => .bl (p i j)) (rI0 fun i j => .bl (p i j)) := fun G H v u x y z gh a b e Q q => by
  obtain ⟨i, j, rfl, rfl, rfl⟩ := dI_some e
  exact ⟨i, j, a.int, b.int, q _ G H (Wle.refl gh) (.bl _)⟩
theorem od_lt : OpD K dLt (rI0 fun i j => .bl (decide (i < j))) := od_b
theorem od_le : OpD K dLe (rI0 fun i j => .bl (decide (i ≤ j))) := od_b
theorem od_gt : OpD K dGt (rI0 fun i j => .bl (decide (j < i))) := od_b
theorem od_ge : OpD K dGe (rI0 fun i j => .bl (decide (j ≤ i))) := od_b
def dSub := dI fun i j => .int (i - j)
theorem od_sub : OpD K dSub (rI0 fun i j => .int (i - j)) := fun G H v u x y z gh a b e Q q => by
  obtain ⟨i, j, rfl, rfl, rfl⟩ := dI_some e
  exact ⟨i, j, a.int, b.int, q _ G H (Wle.refl gh) (.int _)⟩
/-- under a condition -/
def dIc (C : Int → Int → Bool) (g : Int → Int → Int) : D → D → Option D
  | .int i, .int j => if C i j = true then some (.int (g i j)) else none
  | _, _ => none
theorem dIc_some {C : Int → Int → Bool} {g : Int → Int → Int} {x y z : D} (e : dIc C g x y = some z) : ∃ i j, x = .int i ∧ y = .int j ∧ C i j = true ∧ z = .int (g i j) := by
  unfold dIc at e
  split at e
  · rename_i i j
    by_cases c : C i j = true
    · rw [if_pos c] at e; cases e; exact ⟨_, _, rfl, rfl, c, rfl⟩
    · rw [if_neg c] at e; cases e
  · cases e
theorem od_ic {C : Int → Int → Bool} {P : Int → Int → Prop} {g : Int → Int → Int} (h : ∀ i j, C i j = true → P i j) : OpD K (dIc C g) (rI P fun i j => .int (g i j)) := fun G H v u x y z gh a b e Q q => by
  obtain ⟨i, j, rfl, rfl, c, rfl⟩ := dIc_some e
  exact ⟨i, j, a.int, b.int, h i j c, q _ G H (Wle.refl gh) (.int _)⟩
/-- floor division and rest, by a positive divisor -/
def cDiv (i j : Int) : Bool := decide (0 < j ∧ j < 1073741824)
def dDiv := dIc cDiv fun i j => i / j
theorem od_div : OpD K dDiv (rI CDiv fun i j => .int (i / j)) := od_ic fun i j c => by simpa [cDiv, CDiv] using c
def dMod := dIc (fun _ j => decide (0 < j)) fun i j => i % j
theorem od_mod : OpD K dMod (rI (fun _ j => 0 < j) fun i j => .int (i % j)) := od_ic fun i j c => of_decide_eq_true c
def cPow (i j : Int) : Bool := decide (0 ≤ j ∧ j ≤ 1000000 ∧ i.natAbs < 2 ^ 64)
def dPow := dIc cPow fun i j => i ^ j.toNat
theorem cPow_ok {i j : Int} (c : cPow i j = true) : CPow i j := by
  unfold cPow at c
  unfold CPow
  exact of_decide_eq_true c
theorem od_pow : OpD K dPow (rI CPow fun i j => .int (i ^ j.toNat)) := od_ic fun i j c => cPow_ok c
def dShl := dIc cPow fun i j => i * 2 ^ j.toNat
theorem od_shl : OpD K dShl (rI CPow fun i j => .int (i * 2 ^ j.toNat)) := od_ic fun i j c => cPow_ok c
def dShr := dIc (fun _ j => decide (0 ≤ j)) fun i j => i / 2 ^ j.toNat
theorem od_shr : OpD K dShr (rI (fun _ j => 0 ≤ j) fun i j => .int (i / 2 ^ j.toNat)) := od_ic fun i j c => of_decide_eq_true c
/-! ### + -/
def rAddS : R2 := fun x y H Q => ∃ i j, x = .str i ∧ y = .str j ∧ i.length + j.length ≤ sizeLine ∧ Q (.str (i ++ j)) H
def rAddI : R2 := rI0 fun i j => .int (i + j)
def rAddA (K : PySem.W.Frag) : R2 := fun x y H Q => rAddI x y H Q ∨ (fun x y H Q => rAddS x y H Q ∨ (fun x y H Q => rCat x y H Q ∨ rCatT K x y H Q) x y H Q) x y H Q
theorem op_addA {X : Cx} : OpR X (binaryOp .Add) (rAddA X.K) := OpR.or op_add (OpR.or op_add_str (OpR.or op_cat op_catT))
def dAdd : D → D → Option D
  | .int i, .int j => some (.int (i + j))
  | .str a, .str b => if a.length + b.length ≤ 100000 then some (.str (a ++ b)) else none
  | .lst a, .lst b => if a.length + b.length ≤ 100000 then some (.lst (a ++ b)) else none
  | .tup a, .tup b => if a.length + b.length ≤ 100000 ∧ a.length ≠ 0 then some (.tup (a ++ b)) else none
  | _, _ => none
/-- two lists -/
def dCat : D → D → Option D
  | .lst a, .lst b => if a.length + b.length ≤ 100000 then some (.lst (a ++ b)) else none
  | _, _ => none
theorem of_cat : OpF K dCat (rAddA K) := fun G H v u x y z gh a b e Q q => by
  unfold dCat at e
  split at e
  · rename_i xs ys
    by_cases c : xs.length + ys.length ≤ 100000
    · rw [if_pos c] at e
      cases e
      obtain ⟨l, vs, rfl, h, r⟩ := a.lst gh
      obtain ⟨m, ws, rfl, h2, r2⟩ := b.lst gh
      refine .inr (.inr (.inl ⟨l, m, vs, ws, rfl, rfl, h, h2, by rw [r.length, r2.length]; exact Evl.sz_of c, fun p hp => ?_⟩))
      exact q p _ G _ (Wle.newO gh hp) hp (Evl.fresh_back gh hp) upd_same (.lst (r.append r2))
    · rw [if_neg c] at e; cases e
  · cases e
theorem od_add : OpD K dAdd (rAddA K) := fun G H v u x y z gh a b e Q q => by
  unfold dAdd at e
  split at e
  · cases e
    exact .inl ⟨_, _, a.int, b.int, q _ G H (Wle.refl gh) (.int _)⟩
  · rename_i s t
    by_cases c : s.length + t.length ≤ 100000
    · rw [if_pos c] at e
      cases e
      exact .inr (.inl ⟨_, _, a.str, b.str, Evl.sz_of c, q _ G H (Wle.refl gh) (.str _)⟩)
    · rw [if_neg c] at e; cases e
  · rename_i xs ys
    refine of_cat G H v u (.lst xs) (.lst ys) z gh a b e Q fun l o G' H' w hl gl ho c => q (.ref l) (upd G' l o) H' (w.share hl gl ho) ((c.mono (Ex.new gl)).rep upd_same)
  · rename_i xs ys
    by_cases c : xs.length + ys.length ≤ 100000 ∧ xs.length ≠ 0
    · rw [if_pos c] at e
      cases e
      obtain ⟨l, vs, rfl, h, r⟩ := a.tup
      obtain ⟨m, ws, rfl, h2, r2⟩ := b.tup
      refine .inr (.inr (.inr ⟨l, m, vs, ws, rfl, rfl, SqT.of (gh _ _ h), SqT.of (gh _ _ h2), fun z => c.2 (by rw [← r.length, z]; rfl), by rw [r.length, r2.length]; exact Evl.sz_of c.1, fun ew => ?_, fun ew p hp => ?_⟩))
      · have : ys = [] := List.eq_nil_of_length_eq_zero (by rw [← r2.length, ew]; rfl)
        rw [this, List.append_nil] at q
        exact q _ G H (Wle.refl gh) (.tup h r)
      · have gp : G p = none := Evl.fresh_back gh hp
        exact q _ _ _ (Wle.new gh hp) (.tup upd_same ((r.append r2).mono (Ex.new gp)))
    · rw [if_neg c] at e; cases e
  · cases e
/-! ### * -/
def rMulA : R2 := fun x y H Q => (rI CMul fun i j => .int (i * j)) x y H Q ∨ rRep x y H Q
theorem op_mulA {X : Cx} : OpR X (binaryOp .Mult) rMulA := OpR.or op_mul op_rep
def cMul (i j : Int) : Bool := decide ((-(2 ^ 64) < i ∧ i < 2 ^ 64) ∨ (-(2 ^ 64) < j ∧ j < 2 ^ 64))
def dRep : D → D → Option D
  | .lst a, .int k => if -(2 ^ 63) ≤ k ∧ k < 2 ^ 63 ∧ a.length * k.toNat ≤ 100000 then some (.lst (List.replicate k.toNat a).flatten) else none
  | _, _ => none
def dMul : D → D → Option D
  | .int i, .int j => if cMul i j = true then some (.int (i * j)) else none
  | .lst a, .int k => dRep (.lst a) (.int k)
  | _, _ => none
theorem Reps.rep {G : Hp} {vs : List V} {ds : List D} (r : Reps K G vs ds) : ∀ k : Nat, Reps K G (List.replicate k vs).flatten (List.replicate k ds).flatten
  | 0 => .nil
  | k + 1 => by
    rw [List.replicate_succ, List.replicate_succ, List.flatten_cons, List.flatten_cons]
    exact r.append (Reps.rep r k)
theorem of_rep : OpF K dRep rMulA := fun G H v u x y z gh a b e Q q => by
  unfold dRep at e
  split at e
  · rename_i xs k
    by_cases c : -(2 ^ 63) ≤ k ∧ k < 2 ^ 63 ∧ xs.length * k.toNat ≤ 100000
    · rw [if_pos c] at e
      cases e
      obtain ⟨l, vs, rfl, h, r⟩ := a.lst gh
      refine .inr ⟨l, k, vs, rfl, b.int, h, c.1, c.2.1, by rw [r.length]; exact Evl.sz_of c.2.2, fun p hp => ?_⟩
      exact q p _ G _ (Wle.newO gh hp) hp (Evl.fresh_back gh hp) upd_same (.lst (r.rep _))
    · rw [if_neg c] at e; cases e
  · cases e
theorem od_mul : OpD K dMul rMulA := fun G H v u x y z gh a b e Q q => by
  unfold dMul at e
  split at e
  · rename_i i j
    by_cases c : cMul i j = true
    · rw [if_pos c] at e
      cases e
      have c' : CMul i j := by
        unfold cMul at c
        unfold CMul
        exact of_decide_eq_true c
      exact .inl ⟨_, _, a.int, b.int, c', q _ G H (Wle.refl gh) (.int _)⟩
    · rw [if_neg c] at e; cases e
  · exact of_rep G H v u _ _ z gh a b e Q fun l o G' H' w hl gl ho c => q (.ref l) (upd G' l o) H' (w.share hl gl ho) ((c.mono (Ex.new gl)).rep upd_same)
  · cases e
/-! ### minus, None -/
def dNeg : D → Option D
  | .int i => some (.int (-i))
  | _ => none
theorem ud_neg : UnD K dNeg (rU fun i => .int (-i)) := fun G H v x z gh a e Q q => by
  unfold dNeg at e
  split at e
  · cases e
    exact ⟨_, a.int, q _ G H (Wle.refl gh) (.int _)⟩
  · cases e
theorem SE.negc {i : Int} : SE K (eC (.int (-i))) (tUn (rU fun i => .int (-i)) (tC (.int i))) := fun B ρ σ G H E d e Q q => by
  cases e
  exact ⟨i, rfl, q _ G H E.wle (.int _)⟩
def D.isNon : D → Bool
  | .non => true
  | _ => false
theorem BRep.isNon {G H : Hp} {v : V} {d : D} (r : BRep K G H v d) : decide (v = .non) = d.isNon := by
  cases d with
  | non => rw [r.non]; rfl
  | _ => exact decide_eq_false fun z => by have := r.notNon z; cases this
def dIsN (x y : D) : Option D := match y with
  | .non => some (.bl x.isNon)
  | _ => none
def dNotN (x y : D) : Option D := match y with
  | .non => some (.bl (!x.isNon))
  | _ => none
theorem od_isN : OpD K dIsN (fun x y H Q => y = .non ∧ Q (.bl (decide (x = .non))) H) := fun G H v u x y z gh a b e Q q => by
  unfold dIsN at e
  split at e
  · cases e
    refine ⟨b.non, ?_⟩
    rw [a.isNon]
    exact q _ G H (Wle.refl gh) (.bl _)
  · cases e
theorem od_notN : OpD K dNotN (fun x y H Q => y = .non ∧ Q (.bl (!decide (x = .non))) H) := fun G H v u x y z gh a b e Q q => by
  unfold dNotN at e
  split at e
  · cases e
    refine ⟨b.non, ?_⟩
    rw [a.isNon]
    exact q _ G H (Wle.refl gh) (.bl _)
  · cases e
/-! ### in -/
def dInL (x y : D) : Option D := match y with
  | .lst ds => if D.ok 60 x && D.ok 60 y then some (.bl (ds.any fun z => D.eqv z x)) else none
  | _ => none
theorem toPys_map : ∀ ds : List D, D.toPys ds = ds.map D.toPy
  | [] => rfl
  | d :: ds => by unfold D.toPys; rw [toPys_map ds]; rfl
theorem od_inL : OpD K dInL (rInD K) := fun G H v u x y z gh a b e Q q => by
  unfold dInL at e
  split at e
  · rename_i ds
    by_cases c : (D.ok 60 x && D.ok 60 (.lst ds)) = true
    · rw [if_pos c] at e
      cases e
      rw [Bool.and_eq_true] at c
      have h := bdp_of 60 b gh c.2
      have hs := shaped_of c.2
      unfold D.toPy at h hs
      refine ⟨_, _, bdp_of 60 a gh c.1, h, shaped_of c.1, hs, ?_⟩
      have e : ((D.toPys ds).any fun z => PyData.eqv z x.toPy) = ds.any fun z => D.eqv z x := by
        rw [toPys_map, List.any_map]
        rfl
      rw [e]
      exact q _ G H (Wle.refl gh) (.bl _)
    · rw [if_neg c] at e; cases e
  · cases e
def dNotInL (x y : D) : Option D := match y with
  | .lst ds => if D.ok 60 x && D.ok 60 y then some (.bl (!ds.any fun z => D.eqv z x)) else none
  | _ => none
theorem od_notInL : OpD K dNotInL (rNotInD K) := fun G H v u x y z gh a b e Q q => by
  unfold dNotInL at e
  split at e
  · rename_i ds
    by_cases c : (D.ok 60 x && D.ok 60 (.lst ds)) = true
    · rw [if_pos c] at e
      cases e
      rw [Bool.and_eq_true] at c
      have h := bdp_of 60 b gh c.2
      have hs := shaped_of c.2
      unfold D.toPy at h hs
      refine ⟨_, _, bdp_of 60 a gh c.1, h, shaped_of c.1, hs, ?_⟩
      have e : ((D.toPys ds).any fun z => PyData.eqv z x.toPy) = ds.any fun z => D.eqv z x := by
        rw [toPys_map, List.any_map]
        rfl
      rw [e]
      exact q _ G H (Wle.refl gh) (.bl _)
    · rw [if_neg c] at e; cases e
  · cases e
/-- in a tuple of flat things -/
def flatD : D → Bool
  | .int _ => true
  | .str _ => true
  | .bl _ => true
  | .non => true
  | _ => false
def D.toV : D → V
  | .int i => .int i
  | .str s => .str s
  | .bl b => .bl b
  | _ => .non
theorem rep_flat {G : Hp} {v : V} {d : D} (r : Rep K G v d) (f : flatD d = true) : v = d.toV ∧ flatV v = true := by
  cases r <;> first | exact ⟨rfl, rfl⟩ | cases f
theorem brep_flat {G H : Hp} {v : V} {d : D} (r : BRep K G H v d) (f : flatD d = true) : v = d.toV ∧ flatV v = true := by
  rcases r with r | ⟨l, o, rfl, h, c⟩
  · exact rep_flat r f
  · cases c <;> cases f
theorem reps_flat {G : Hp} : ∀ {vs : List V} {ds : List D}, Reps K G vs ds → ds.all flatD = true → vs = ds.map D.toV ∧ vs.all flatV = true
  | _, _, .nil, _ => ⟨rfl, rfl⟩
  | _, _, .cons h r, f => by
    rw [List.all_cons, Bool.and_eq_true] at f
    obtain ⟨a, b⟩ := rep_flat h f.1
    obtain ⟨c, d⟩ := reps_flat r f.2
    exact ⟨by rw [List.map_cons, a, c], by rw [List.all_cons, b, d]; rfl⟩
theorem eqV_eqv {x y : D} (fx : flatD x = true) (fy : flatD y = true) : eqV x.toV y.toV = D.eqv x y := by
  cases x <;> cases y <;> first | rfl | (exact absurd fx Bool.false_ne_true) | (exact absurd fy Bool.false_ne_true)
theorem inV_any {x : D} (fx : flatD x = true) : ∀ {ds : List D}, ds.all flatD = true → inV x.toV (ds.map D.toV) = ds.any fun z => D.eqv z x
  | [], _ => rfl
  | d :: ds, f => by
    rw [List.all_cons, Bool.and_eq_true] at f
    have ih := inV_any fx f.2
    unfold inV at ih ⊢
    rw [List.map_cons, List.any_cons, List.any_cons, ih, eqV_eqv f.1 fx]
/-- in a list (of data of any depth) or a tuple (of flat things) -/
def dIn (x y : D) : Option D := match y with
  | .lst ds => dInL x (.lst ds)
  | .tup ds => if flatD x && ds.all flatD then some (.bl (ds.any fun z => D.eqv z x)) else none
  | .wt ds => if flatD x && ds.all flatD then some (.bl (ds.any fun z => D.eqv z x)) else none
  | _ => none
def dNotIn (x y : D) : Option D := match y with
  | .lst ds => dNotInL x (.lst ds)
  | .tup ds => if flatD x && ds.all flatD then some (.bl (!ds.any fun z => D.eqv z x)) else none
  | .wt ds => if flatD x && ds.all flatD then some (.bl (!ds.any fun z => D.eqv z x)) else none
  | _ => none
def rInA (K : PySem.W.Frag) : R2 := fun x y H Q => rInD K x y H Q ∨ rIn K false x y H Q
def rNotInA (K : PySem.W.Frag) : R2 := fun x y H Q => rNotInD K x y H Q ∨ rIn K true x y H Q
theorem op_inA {X : Cx} (hu : X.A.units + 65 < cLine) : OpR X (compareOp .In) (rInA X.K) := OpR.or (op_inD hu) op_in_seq
theorem op_notInA {X : Cx} (hu : X.A.units + 65 < cLine) : OpR X (compareOp .NotIn) (rNotInA X.K) := OpR.or (op_notInD hu) op_notIn_seq
theorem od_in : OpD K dIn (rInA K) := fun G H v u x y z gh a b e Q q => by
  unfold dIn at e
  split at e
  · exact .inl (od_inL G H v u x _ z gh a b e Q q)
  · rename_i ds
    by_cases c : (flatD x && ds.all flatD) = true
    · rw [if_pos c] at e
      cases e
      rw [Bool.and_eq_true] at c
      obtain ⟨l, vs, rfl, h, r⟩ := b.tup
      obtain ⟨e1, e2⟩ := brep_flat a c.1
      obtain ⟨e3, e4⟩ := reps_flat r c.2
      refine .inr ⟨l, vs, rfl, .inr (SqT.of (gh _ _ h)), e2, e4, ?_⟩
      rw [e1, e3, inV_any c.1 c.2]
      exact q _ G H (Wle.refl gh) (.bl _)
    · rw [if_neg c] at e; cases e
  · rename_i ds
    by_cases c : (flatD x && ds.all flatD) = true
    · rw [if_pos c] at e
      cases e
      rw [Bool.and_eq_true] at c
      obtain ⟨l, vs, rfl, h, r⟩ := b.wt
      obtain ⟨e1, e2⟩ := brep_flat a c.1
      obtain ⟨e3, e4⟩ := reps_flat r c.2
      refine .inr ⟨l, vs, rfl, .inr (Evl.ex_t gh h), e2, e4, ?_⟩
      rw [e1, e3, inV_any c.1 c.2]
      exact q _ G H (Wle.refl gh) (.bl _)
    · rw [if_neg c] at e; cases e
  · cases e
theorem od_notIn : OpD K dNotIn (rNotInA K) := fun G H v u x y z gh a b e Q q => by
  unfold dNotIn at e
  split at e
  · exact .inl (od_notInL G H v u x _ z gh a b e Q q)
  · rename_i ds
    by_cases c : (flatD x && ds.all flatD) = true
    · rw [if_pos c] at e
      cases e
      rw [Bool.and_eq_true] at c
      obtain ⟨l, vs, rfl, h, r⟩ := b.tup
      obtain ⟨e1, e2⟩ := brep_flat a c.1
      obtain ⟨e3, e4⟩ := reps_flat r c.2
      refine .inr ⟨l, vs, rfl, .inr (SqT.of (gh _ _ h)), e2, e4, ?_⟩
      rw [e1, e3, inV_any c.1 c.2]
      exact q _ G H (Wle.refl gh) (.bl _)
    · rw [if_neg c] at e; cases e
  · rename_i ds
    by_cases c : (flatD x && ds.all flatD) = true
    · rw [if_pos c] at e
      cases e
      rw [Bool.and_eq_true] at c
      obtain ⟨l, vs, rfl, h, r⟩ := b.wt
      obtain ⟨e1, e2⟩ := brep_flat a c.1
      obtain ⟨e3, e4⟩ := reps_flat r c.2
      refine .inr ⟨l, vs, rfl, .inr (Evl.ex_t gh h), e2, e4, ?_⟩
      rw [e1, e3, inV_any c.1 c.2]
      exact q _ G H (Wle.refl gh) (.bl _)
    · rw [if_neg c] at e; cases e
  · cases e
/-! ### subscripts -/
def rIxA (K : PySem.W.Frag) : R2 := rIx K
def dIx : D → D → Option D
  | .lst ds, .int i => atI ds i
  | .tup ds, .int i => atI ds i
  | .wt ds, .int i => atI ds i
  | .str s, .int i => if s.length ≤ 100000 then (match atI s.cps.toList i with | some c => some (.str ⟨#[c]⟩) | none => none) else none
  | _, _ => none
theorem Reps.atI {G : Hp} {vs : List V} {ds : List D} {i : Int} {d : D} (r : Reps K G vs ds) (h : L2.atI ds i = some d) : ∃ v, L2.atI vs i = some v ∧ Rep K G v d := by
  unfold L2.atI at h ⊢
  rw [r.length]
  cases e : ixN ds.length i with
  | none => rw [e] at h; cases h
  | some j =>
    rw [e] at h
    obtain ⟨v, h1, h2⟩ := r.get (i := j) (d := d) h
    exact ⟨v, h1, h2⟩
theorem od_ix : OpD K dIx (rIx K) := fun G H v u x y z gh a b e Q q => by
  unfold dIx at e
  split at e
  · obtain ⟨l, vs, rfl, h, r⟩ := a.lst gh
    obtain ⟨w, h1, h2⟩ := r.atI e
    exact .inl ⟨l, vs, _, w, rfl, b.int, SqL.of h, h1, q _ G H (Wle.refl gh) h2⟩
  · obtain ⟨l, vs, rfl, h, r⟩ := a.tup
    obtain ⟨w, h1, h2⟩ := r.atI e
    exact .inr (.inl ⟨l, vs, _, w, rfl, b.int, SqT.of (gh _ _ h), h1, q _ G H (Wle.refl gh) h2⟩)
  · obtain ⟨l, vs, rfl, h, r⟩ := a.wt
    obtain ⟨w, h1, h2⟩ := r.atI e
    exact .inr (.inl ⟨l, vs, _, w, rfl, b.int, Evl.ex_t gh h, h1, q _ G H (Wle.refl gh) h2⟩)
  · rename_i s i
    by_cases c : s.length ≤ 100000
    · rw [if_pos c] at e
      split at e
      · cases e
        rename_i c' hc
        exact .inr (.inr ⟨s, i, c', a.str, b.int, Evl.sz_of c, hc, q _ G H (Wle.refl gh) (.str _)⟩)
      · cases e
    · rw [if_neg c] at e; cases e
  · cases e
end
/-! ### slices -/
section
variable {K : PySem.W.Frag} {f : EvF} {te : TE}
abbrev OvF := Env → Option (Option Int)
def SO (K : PySem.W.Frag) (o : OvF) (t : TO) : Prop := ∀ (B : Bs) (ρ : Env) (σ : St) (G H : Hp), EnvOk K B ρ σ G H → ∀ i, o ρ = some i → ∀ Q : Option Int → Hp → Prop, (∀ G' H', Wle G H G' H' → Q i H') → t σ H Q
def oNo : OvF := fun _ => some none
def oSo (f : EvF) : OvF := fun ρ => match f ρ with
  | some (.int i) => some (some i)
  | _ => none
theorem SO.no : SO K oNo tNoPart := fun B ρ σ G H E i e Q q => by
  cases e
  exact q G H E.wle
theorem SO.so (s : SB K f te) : SO K (oSo f) (tPart te) := fun B ρ σ G H E i e Q q => by
  unfold oSo at e
  split at e
  · rename_i j p
    cases e
    exact s B ρ σ G H E _ p _ fun v G1 H1 w r => ⟨j, r.int, q G1 H1 w⟩
  · cases e
def cutD {α : Type} (xs : List α) (lo hi : Option Int) : List α := (xs.drop (HT.sIx xs.length 0 lo)).take (HT.sIx xs.length xs.length hi - HT.sIx xs.length 0 lo)
theorem Reps.cut {G : Hp} {vs : List V} {ds : List D} (r : Reps K G vs ds) (lo hi : Option Int) : Reps K G (cutV vs lo hi) (cutD ds lo hi) := by
  unfold cutV cutD
  rw [r.length]
  exact (r.drop _).take _
/-- a slice of a list -/
def eSlL (f : EvF) (lo hi : OvF) : EvF := fun ρ => match f ρ, lo ρ, hi ρ with
  | some (.lst ds), some l, some h => some (.lst (cutD ds l h))
  | _, _, _ => none
theorem eSlL_some {f : EvF} {lo hi : OvF} {ρ : Env} {d : D} (e : eSlL f lo hi ρ = some d) : ∃ ds l h, f ρ = some (.lst ds) ∧ lo ρ = some l ∧ hi ρ = some h ∧ d = .lst (cutD ds l h) := by
  unfold eSlL at e
  split at e
  · cases e; exact ⟨_, _, _, by assumption, by assumption, by assumption, rfl⟩
  · cases e
/-- any sequence: lists and texts; of tuples a real part -/
def rSlA (K : PySem.W.Frag) : V → Option Int → Option Int → Hp → VK → Prop := fun x lo hi H Q => rSlL K x lo hi H Q ∨ (fun x lo hi H Q => rSlT K x lo hi H Q ∨ (∃ z, x = .str z ∧ z.length ≤ sizeLine ∧ Q (.str (cutS z lo hi)) H)) x lo hi H Q
theorem sl_any {X : Cx} : SlR X (rSlA X.K) := SlR.or sl_list (SlR.or sl_tup sl_str)
theorem SF.sl {lo hi : OvF} {tl th : TO} (s : SB K f te) (hl : SO K lo tl) (hh : SO K hi th) : SF K (eSlL f lo hi) (tSl (rSlA K) te tl th) := fun B ρ σ G H E d e Q q => by
  obtain ⟨ds, l, h, e1, e2, e3, rfl⟩ := eSlL_some e
  refine s B ρ σ G H E _ e1 _ fun v G1 H1 w1 r1 => hl B ρ σ G1 H1 (E.mono w1) l e2 _ fun G2 H2 w2 => hh B ρ σ G2 H2 (E.mono (w1.trans w2)) h e3 _ fun G3 H3 w3 => ?_
  have w := (w1.trans w2).trans w3
  obtain ⟨a, vs, rfl, ha, rs⟩ := (r1.mono (w2.trans w3).g (w2.trans w3).h).lst w.gh
  refine .inl ⟨a, vs, rfl, SqL.of ha, fun p hp => ?_⟩
  exact q p _ G3 _ (w.trans (Wle.newO w.gh hp)) (Evl.fresh_back w.h hp) (Evl.fresh_back w.gh hp) upd_same (.lst (rs.cut l h))
def eSl (f : EvF) (lo hi : OvF) : EvF := fun ρ => match f ρ, lo ρ, hi ρ with
  | some (.lst ds), some l, some h => some (.lst (cutD ds l h))
  | some (.str z), some l, some h => if z.length ≤ 100000 then some (.str (cutS z l h)) else none
  | some (.tup ds), some l, some h => if HT.sIx ds.length 0 l = 0 ∧ HT.sIx ds.length ds.length h = ds.length then none else some (.tup (cutD ds l h))
  | _, _, _ => none
theorem SE.sl {lo hi : OvF} {tl th : TO} (s : SB K f te) (hl : SO K lo tl) (hh : SO K hi th) : SE K (eSl f lo hi) (tSl (rSlA K) te tl th) := fun B ρ σ G H E d e Q q => by
  unfold eSl at e
  split at e
  · rename_i ds l h e1 e2 e3
    exact (SF.sl s hl hh).e B ρ σ G H E d (by unfold eSlL; rw [e1, e2, e3]; exact e) Q q
  · rename_i z l h e1 e2 e3
    by_cases c : z.length ≤ 100000
    · rw [if_pos c] at e
      cases e
      refine s B ρ σ G H E _ e1 _ fun v G1 H1 w1 r1 => hl B ρ σ G1 H1 (E.mono w1) l e2 _ fun G2 H2 w2 => hh B ρ σ G2 H2 (E.mono (w1.trans w2)) h e3 _ fun G3 H3 w3 => ?_
      have w := (w1.trans w2).trans w3
      exact .inr (.inr ⟨z, r1.str, Evl.sz_of c, q _ G3 H3 w (.str _)⟩)
    · rw [if_neg c] at e; cases e
  · rename_i ds l h e1 e2 e3
    by_cases c : HT.sIx ds.length 0 l = 0 ∧ HT.sIx ds.length ds.length h = ds.length
    · rw [if_pos c] at e; cases e
    · rw [if_neg c] at e
      cases e
      refine s B ρ σ G H E _ e1 _ fun v G1 H1 w1 r1 => hl B ρ σ G1 H1 (E.mono w1) l e2 _ fun G2 H2 w2 => hh B ρ σ G2 H2 (E.mono (w1.trans w2)) h e3 _ fun G3 H3 w3 => ?_
      have w := (w1.trans w2).trans w3
      obtain ⟨a, vs, rfl, ha, rs⟩ := (r1.mono (w2.trans w3).g (w2.trans w3).h).tup
      refine .inr (.inl ⟨a, vs, rfl, SqT.of (w.gh _ _ ha), by rw [rs.length]; exact c, fun p hp => ?_⟩)
      have gp := Evl.fresh_back w.gh hp
      exact q _ _ _ (w.trans (Wle.new w.gh hp)) (.tup upd_same ((rs.cut l h).mono (Ex.new gp)))
  · cases e
/-- xs[::-1] -/
def dRev : D → Option D
  | .lst ds => some (.lst ds.reverse)
  | _ => none
theorem SF.rev (s : SB K f te) : SF K (e1 dRev f) (tRevL K te) := fun B ρ σ G H E d e Q q => by
  obtain ⟨x, e1, e3⟩ := e1_some e
  unfold dRev at e3
  split at e3
  · cases e3
    refine s B ρ σ G H E _ e1 _ fun v G1 H1 w r => ?_
    obtain ⟨a, vs, rfl, ha, rs⟩ := r.lst w.gh
    exact ⟨a, vs, rfl, SqL.of ha, fun p hp => q p _ G1 _ (w.trans (Wle.newO w.gh hp)) (Evl.fresh_back w.h hp) (Evl.fresh_back w.gh hp) upd_same (.lst rs.reverse)⟩
  · cases e3
theorem SE.rev (s : SB K f te) : SE K (e1 dRev f) (tRevL K te) := (SF.rev s).e
end
end DL

/-! DL5: calls of builtins over plain data; dicts. -/
namespace DL
open PySem PySem.Spec PyProof.Rows L2
open Evl (Ex)
/-- a list's items as ints, as truths -/
def intsOf : List D → Option (List Int)
  | [] => some []
  | .int i :: r => (intsOf r).map (i :: ·)
  | _ => none
def blsOf : List D → Option (List Bool)
  | [] => some []
  | .bl i :: r => (blsOf r).map (i :: ·)
  | _ => none
theorem intsOf_map : ∀ ns : List Int, intsOf (ns.map D.int) = some ns
  | [] => rfl
  | n :: ns => by rw [List.map_cons, intsOf, intsOf_map ns]; rfl
theorem blsOf_map : ∀ ns : List Bool, blsOf (ns.map D.bl) = some ns
  | [] => rfl
  | n :: ns => by rw [List.map_cons, blsOf, blsOf_map ns]; rfl
theorem intsOf_some : ∀ {ds : List D} {ns : List Int}, intsOf ds = some ns → ds = ns.map D.int
  | [], ns, e => by cases e; rfl
  | .int i :: r, ns, e => by
    unfold intsOf at e
    cases p : intsOf r with
    | none => rw [p] at e; cases e
    | some ms => rw [p] at e; cases e; rw [intsOf_some p]; rfl
  | .non :: r, ns, e => by cases e
  | .bl _ :: r, ns, e => by cases e
  | .str _ :: r, ns, e => by cases e
  | .lst _ :: r, ns, e => by cases e
  | .tup _ :: r, ns, e => by cases e
  | .wt _ :: r, ns, e => by cases e
  | .dT _ :: r, ns, e => by cases e
  | .dK _ :: r, ns, e => by cases e
  | .fT _ :: r, ns, e => by cases e
  | .fK _ :: r, ns, e => by cases e
theorem blsOf_some : ∀ {ds : List D} {ns : List Bool}, blsOf ds = some ns → ds = ns.map D.bl
  | [], ns, e => by cases e; rfl
  | .bl i :: r, ns, e => by
    unfold blsOf at e
    cases p : blsOf r with
    | none => rw [p] at e; cases e
    | some ms => rw [p] at e; cases e; rw [blsOf_some p]; rfl
  | .non :: r, ns, e => by cases e
  | .int _ :: r, ns, e => by cases e
  | .str _ :: r, ns, e => by cases e
  | .lst _ :: r, ns, e => by cases e
  | .tup _ :: r, ns, e => by cases e
  | .wt _ :: r, ns, e => by cases e
  | .dT _ :: r, ns, e => by cases e
  | .dK _ :: r, ns, e => by cases e
  | .fT _ :: r, ns, e => by cases e
  | .fK _ :: r, ns, e => by cases e
section
variable {K : PySem.W.Frag}
/-! ### len -/
def rLenA (K : PySem.W.Frag) : List V → Hp → VK → Prop := fun xs H Q => (∃ x n, xs = [x] ∧ LenV K x H n ∧ Q (.int n) H) ∨ (∃ p kvs, xs = [V.ref p] ∧ H p = some (.dK kvs) ∧ Q (.int kvs.length) H)
def dLen : List D → Option D
  | [.lst ds] => some (.int (ds.length : Nat))
  | [.tup ds] => some (.int (ds.length : Nat))
  | [.wt ds] => some (.int (ds.length : Nat))
  | [.str s] => if s.length ≤ 100000 then some (.int (s.length : Nat)) else none
  | _ => none
theorem cd_len : CallD K dLen (fun xs H Q => ∃ x n, xs = [x] ∧ LenV K x H n ∧ Q (.int n) H) := fun G H bs vs ds z gh a e Q q => by
  unfold dLen at e
  split at e
  · cases e
    obtain ⟨v, rfl, r⟩ := a.one
    obtain ⟨l, ws, rfl, h, rs⟩ := r.lst gh
    exact ⟨_, _, rfl, .inl ⟨ws, SqL.of h, by rw [rs.length]⟩, q _ G H (Wle.refl gh) (.int _)⟩
  · cases e
    obtain ⟨v, rfl, r⟩ := a.one
    obtain ⟨l, ws, rfl, h, rs⟩ := r.tup
    exact ⟨_, _, rfl, .inr ⟨ws, SqT.of (gh _ _ h), by rw [rs.length]⟩, q _ G H (Wle.refl gh) (.int _)⟩
  · cases e
    obtain ⟨v, rfl, r⟩ := a.one
    obtain ⟨l, ws, rfl, h, rs⟩ := r.wt
    exact ⟨_, _, rfl, .inr ⟨ws, Evl.ex_t gh h, by rw [rs.length]⟩, q _ G H (Wle.refl gh) (.int _)⟩
  · rename_i s
    by_cases c : s.length ≤ 100000
    · rw [if_pos c] at e
      cases e
      obtain ⟨v, rfl, r⟩ := a.one
      cases r.str
      exact ⟨_, _, rfl, ⟨Evl.sz_of c, rfl⟩, q _ G H (Wle.refl gh) (.int _)⟩
    · rw [if_neg c] at e; cases e
  · cases e
/-! ### sum, all, any -/
def dSum : List D → Option D
  | [.lst ds] => match intsOf ds with
    | some ns => some (.int ns.sum)
    | none => none
  | _ => none
theorem cd_sum : CallD K dSum (rSum K) := fun G H bs vs ds z gh a e Q q => by
  unfold dSum at e
  split at e
  · split at e
    · rename_i ns p
      cases e
      obtain ⟨v, rfl, r⟩ := a.one
      obtain ⟨l, ws, rfl, h, rs⟩ := r.lst gh
      rw [intsOf_some p] at rs
      rw [rs.ints_iff] at h
      exact ⟨l, ns, rfl, SqL.of h, q _ G H (Wle.refl gh) (.int _)⟩
    · cases e
  · cases e
def dAll : List D → Option D
  | [.lst ds] => match blsOf ds with
    | some ns => some (.bl (ns.all id))
    | none => none
  | _ => none
def dAny : List D → Option D
  | [.lst ds] => match blsOf ds with
    | some ns => some (.bl (ns.any id))
    | none => none
  | _ => none
theorem cd_all : CallD K dAll (rAll K) := fun G H bs vs ds z gh a e Q q => by
  unfold dAll at e
  split at e
  · split at e
    · rename_i ns p
      cases e
      obtain ⟨v, rfl, r⟩ := a.one
      obtain ⟨l, ws, rfl, h, rs⟩ := r.lst gh
      rw [blsOf_some p] at rs
      rw [rs.bls_iff] at h
      exact ⟨l, ns, rfl, SqL.of h, q _ G H (Wle.refl gh) (.bl _)⟩
    · cases e
  · cases e
theorem cd_any : CallD K dAny (rAny K) := fun G H bs vs ds z gh a e Q q => by
  unfold dAny at e
  split at e
  · split at e
    · rename_i ns p
      cases e
      obtain ⟨v, rfl, r⟩ := a.one
      obtain ⟨l, ws, rfl, h, rs⟩ := r.lst gh
      rw [blsOf_some p] at rs
      rw [rs.bls_iff] at h
      exact ⟨l, ns, rfl, SqL.of h, q _ G H (Wle.refl gh) (.bl _)⟩
    · cases e
  · cases e
/-! ### abs, int, min, max -/
def dAbs : List D → Option D
  | [.int i] => some (.int (if i < 0 then -i else i))
  | _ => none
theorem cd_abs : CallD K dAbs (fun xs H Q => ∃ i, xs = [.int i] ∧ Q (.int (if i < 0 then -i else i)) H) := fun G H bs vs ds z gh a e Q q => by
  unfold dAbs at e
  split at e
  · cases e
    obtain ⟨v, rfl, r⟩ := a.one
    cases r.int
    exact ⟨_, rfl, q _ G H (Wle.refl gh) (.int _)⟩
  · cases e
def dInt : List D → Option D
  | [.int i] => some (.int i)
  | [.bl k] => some (.int (if k then 1 else 0))
  | _ => none
theorem cd_int : CallD K dInt (fun xs H Q => (∃ i, xs = [.int i] ∧ Q (.int i) H) ∨ ∃ k, xs = [.bl k] ∧ Q (.int (if k then 1 else 0)) H) := fun G H bs vs ds z gh a e Q q => by
  unfold dInt at e
  split at e
  · cases e
    obtain ⟨v, rfl, r⟩ := a.one
    cases r.int
    exact .inl ⟨_, rfl, q _ G H (Wle.refl gh) (.int _)⟩
  · cases e
    obtain ⟨v, rfl, r⟩ := a.one
    cases r.bl
    exact .inr ⟨_, rfl, q _ G H (Wle.refl gh) (.int _)⟩
  · cases e
def minF (n : Int) (ns : List Int) : Int := ns.foldl (fun a b => if b < a then b else a) n
def maxF (n : Int) (ns : List Int) : Int := ns.foldl (fun a b => if a < b then b else a) n
theorem minF_spec : ∀ (ns : List Int) (n : Int), minF n ns ∈ n :: ns ∧ ∀ y ∈ n :: ns, minF n ns ≤ y
  | [], n => ⟨List.mem_cons_self .., fun y hy => by rw [List.mem_singleton.mp hy]; exact Int.le_refl _⟩
  | m :: ns, n => by
    show minF (if m < n then m else n) ns ∈ n :: m :: ns ∧ ∀ y ∈ n :: m :: ns, minF (if m < n then m else n) ns ≤ y
    obtain ⟨a, b⟩ := minF_spec ns (if m < n then m else n)
    by_cases c : m < n
    · rw [if_pos c] at a b ⊢
      refine ⟨List.mem_cons_of_mem _ a, fun y hy => ?_⟩
      rcases List.mem_cons.mp hy with e | hy
      · have := b m (List.mem_cons_self ..); omega
      · exact b y hy
    · rw [if_neg c] at a b ⊢
      refine ⟨?_, fun y hy => ?_⟩
      · rcases List.mem_cons.mp a with e | h
        · rw [e]; exact List.mem_cons_self ..
        · exact List.mem_cons_of_mem _ (List.mem_cons_of_mem _ h)
      · rcases List.mem_cons.mp hy with e | hy
        · rw [e]; exact b n (List.mem_cons_self ..)
        · rcases List.mem_cons.mp hy with e | hy
          · have := b n (List.mem_cons_self ..); omega
          · exact b y (List.mem_cons_of_mem _ hy)
theorem maxF_spec : ∀ (ns : List Int) (n : Int), maxF n ns ∈ n :: ns ∧ ∀ y ∈ n :: ns, y ≤ maxF n ns
  | [], n => ⟨List.mem_cons_self .., fun y hy => by rw [List.mem_singleton.mp hy]; exact Int.le_refl _⟩
  | m :: ns, n => by
    show maxF (if n < m then m else n) ns ∈ n :: m :: ns ∧ ∀ y ∈ n :: m :: ns, y ≤ maxF (if n < m then m else n) ns
    obtain ⟨a, b⟩ := maxF_spec ns (if n < m then m else n)
    by_cases c : n < m
    · rw [if_pos c] at a b ⊢
      refine ⟨List.mem_cons_of_mem _ a, fun y hy => ?_⟩
      rcases List.mem_cons.mp hy with e | hy
      · have := b m (List.mem_cons_self ..); omega
      · exact b y hy
    · rw [if_neg c] at a b ⊢
      refine ⟨?_, fun y hy => ?_⟩
      · rcases List.mem_cons.mp a with e | h
        · rw [e]; exact List.mem_cons_self ..
        · exact List.mem_cons_of_mem _ (List.mem_cons_of_mem _ h)
      · rcases List.mem_cons.mp hy with e | hy
        · rw [e]; exact b n (List.mem_cons_self ..)
        · rcases List.mem_cons.mp hy with e | hy
          · have := b n (List.mem_cons_self ..); omega
          · exact b y (List.mem_cons_of_mem _ hy)
/-- min(i, j), min(ints) -/
def dMin : List D → Option D
  | [.int i, .int j] => some (.int (if j < i then j else i))
  | [.lst ds] => match intsOf ds with
    | some (n :: ns) => some (.int (minF n ns))
    | _ => none
  | _ => none
def dMax : List D → Option D
  | [.int i, .int j] => some (.int (if j > i then j else i))
  | [.lst ds] => match intsOf ds with
    | some (n :: ns) => some (.int (maxF n ns))
    | _ => none
  | _ => none
def rMinA (K : PySem.W.Frag) : List V → Hp → VK → Prop := fun xs H Q => (∃ i j, xs = [.int i, .int j] ∧ Q (.int (if j < i then j else i)) H) ∨ rMin K xs H Q
def rMaxA (K : PySem.W.Frag) : List V → Hp → VK → Prop := fun xs H Q => (∃ i j, xs = [.int i, .int j] ∧ Q (.int (if j > i then j else i)) H) ∨ rMax K xs H Q
theorem cr_minA {X : Cx} (hc : X.calm = true) : CallR X (.builtin "min") (rMinA X.K) := CallR.or (call_min2 hc) (cr_min hc)
theorem cr_maxA {X : Cx} (hc : X.calm = true) : CallR X (.builtin "max") (rMaxA X.K) := CallR.or (call_max2 hc) (cr_max hc)
theorem cd_min : CallD K dMin (rMinA K) := fun G H bs vs ds z gh a e Q q => by
  unfold dMin at e
  split at e
  · cases e
    obtain ⟨v, u, rfl, r, r2⟩ := a.two
    cases r.int
    cases r2.int
    exact .inl ⟨_, _, rfl, q _ G H (Wle.refl gh) (.int _)⟩
  · split at e
    · rename_i n ns p
      cases e
      obtain ⟨v, rfl, r⟩ := a.one
      obtain ⟨l, ws, rfl, h, rs⟩ := r.lst gh
      rw [intsOf_some p] at rs
      rw [rs.ints_iff] at h
      refine .inr ⟨l, n :: ns, rfl, SqL.of h, Nat.zero_lt_succ _, fun m h1 h2 => ?_⟩
      obtain ⟨s1, s2⟩ := minF_spec ns n
      have e : m = minF n ns := by
        have := h2 _ s1
        have := s2 _ h1
        omega
      rw [e]
      exact q _ G H (Wle.refl gh) (.int _)
    · cases e
  · cases e
theorem cd_max : CallD K dMax (rMaxA K) := fun G H bs vs ds z gh a e Q q => by
  unfold dMax at e
  split at e
  · cases e
    obtain ⟨v, u, rfl, r, r2⟩ := a.two
    cases r.int
    cases r2.int
    exact .inl ⟨_, _, rfl, q _ G H (Wle.refl gh) (.int _)⟩
  · split at e
    · rename_i n ns p
      cases e
      obtain ⟨v, rfl, r⟩ := a.one
      obtain ⟨l, ws, rfl, h, rs⟩ := r.lst gh
      rw [intsOf_some p] at rs
      rw [rs.ints_iff] at h
      refine .inr ⟨l, n :: ns, rfl, SqL.of h, Nat.zero_lt_succ _, fun m h1 h2 => ?_⟩
      obtain ⟨s1, s2⟩ := maxF_spec ns n
      have e : m = maxF n ns := by
        have := h2 _ s1
        have := s2 _ h1
        omega
      rw [e]
      exact q _ G H (Wle.refl gh) (.int _)
    · cases e
  · cases e
/-! ### list(..), tuple(..) -/
def dList : List D → Option D
  | [.lst ds] => some (.lst ds)
  | [.tup ds] => some (.lst ds)
  | _ => none
theorem cf_list : CallF K dList (fun xs H Q => ∃ p ys, xs = [.ref p] ∧ (SqL K H p ys ∨ SqT K H p ys) ∧ ∀ l, H l = none → Q (.ref l) (upd H l (.lst ys))) := fun G H bs vs ds z gh a e Q q => by
  unfold dList at e
  split at e
  · cases e
    obtain ⟨v, rfl, r⟩ := a.one
    obtain ⟨l, ws, rfl, h, rs⟩ := r.lst gh
    exact ⟨l, ws, rfl, .inl (SqL.of h), fun p hp => q p _ G _ (Wle.newO gh hp) hp (Evl.fresh_back gh hp) upd_same (.lst rs)⟩
  · cases e
    obtain ⟨v, rfl, r⟩ := a.one
    obtain ⟨l, ws, rfl, h, rs⟩ := r.tup
    exact ⟨l, ws, rfl, .inr (SqT.of (gh _ _ h)), fun p hp => q p _ G _ (Wle.newO gh hp) hp (Evl.fresh_back gh hp) upd_same (.lst rs)⟩
  · cases e
theorem cf_d {op : List D → Option D} {r : List V → Hp → VK → Prop} (h : CallF K op r) : CallD K op r := fun G H bs vs ds z gh a e Q q =>
  h G H bs vs ds z gh a e Q fun l o G' H' w hl gl ho c => q (.ref l) (upd G' l o) H' (w.share hl gl ho) ((c.mono (Ex.new gl)).rep upd_same)
def dTuple : List D → Option D
  | [.lst ds] => some (.tup ds)
  | [.tup ds] => some (.tup ds)
  | _ => none
theorem cd_tuple : CallD K dTuple (fun xs H Q => ∃ p ys, xs = [.ref p] ∧ ((SqL K H p ys ∧ ∀ l, H l = none → Q (.ref l) (upd H l (.tup ys))) ∨ (SqT K H p ys ∧ Q (.ref p) H))) := fun G H bs vs ds z gh a e Q q => by
  unfold dTuple at e
  split at e
  · cases e
    obtain ⟨v, rfl, r⟩ := a.one
    obtain ⟨l, ws, rfl, h, rs⟩ := r.lst gh
    refine ⟨l, ws, rfl, .inl ⟨SqL.of h, fun p hp => ?_⟩⟩
    have gp := Evl.fresh_back gh hp
    exact q _ _ _ (Wle.new gh hp) (.tup upd_same (rs.mono (Ex.new gp)))
  · cases e
    obtain ⟨v, rfl, r⟩ := a.one
    obtain ⟨l, ws, rfl, h, rs⟩ := r.tup
    exact ⟨l, ws, rfl, .inr ⟨SqT.of (gh _ _ h), q _ G H (Wle.refl gh) (.tup h rs)⟩⟩
  · cases e
/-- list(range(..)) -/
def eLrg (f : IvF) : EvF := fun ρ => match f ρ with
  | some ds => some (.lst ds)
  | none => none
def cRg (a b : Int) : Bool := decide (-(2 ^ 62) ≤ a ∧ a < 2 ^ 62 ∧ -(2 ^ 62) ≤ b ∧ b < 2 ^ 62 ∧ (b - a).toNat ≤ 2 ^ 24)
def eRg1 (f : EvF) : EvF := fun ρ => match f ρ with
  | some (.int n) => if cRg 0 n = true then some (.lst (rng 0 (n - 0).toNat)) else none
  | _ => none
def eRg2 (f g : EvF) : EvF := fun ρ => match f ρ, g ρ with
  | some (.int i), some (.int j) => if cRg i j = true then some (.lst (rng i (j - i).toNat)) else none
  | _, _ => none
theorem reps_rg {G : Hp} (a b : Int) : Reps K G (rgV a b) (rng a (b - a).toNat) := by
  unfold rgV rng
  generalize (b - a).toNat = n
  generalize List.range n = l
  induction l with
  | nil => exact .nil
  | cons x xs ih => exact .cons (.int _) ih
theorem cRg_ok {a b : Int} (c : cRg a b = true) : RgOk a b := by
  unfold cRg at c
  unfold RgOk
  exact of_decide_eq_true c
variable {f g : EvF} {ta tb : TE}
theorem SF.rg1 (s : SB K f ta) : SF K (eRg1 f) (tLstRg (tRg1 ta)) := fun B ρ σ G H E d e Q q => by
  unfold eRg1 at e
  split at e
  · rename_i n p
    by_cases c : cRg 0 n = true
    · rw [if_pos c] at e
      cases e
      exact s B ρ σ G H E _ p _ fun v G1 H1 w r => ⟨n, r.int, cRg_ok c, fun p hp => q p _ G1 _ (w.trans (Wle.newO w.gh hp)) (Evl.fresh_back w.h hp) (Evl.fresh_back w.gh hp) upd_same (.lst (reps_rg 0 n))⟩
    · rw [if_neg c] at e; cases e
  · cases e
theorem SF.rg2 (s : SB K f ta) (s2 : SB K g tb) : SF K (eRg2 f g) (tLstRg (tRg2 ta tb)) := fun B ρ σ G H E d e Q q => by
  unfold eRg2 at e
  split at e
  · rename_i i j p p2
    by_cases c : cRg i j = true
    · rw [if_pos c] at e
      cases e
      exact s B ρ σ G H E _ p _ fun v G1 H1 w r => s2 B ρ σ G1 H1 (E.mono w) _ p2 _ fun u G2 H2 w2 r2 => ⟨i, j, r.int, r2.int, cRg_ok c, fun p hp => q p _ G2 _ ((w.trans w2).trans (Wle.newO w2.gh hp)) (Evl.fresh_back (w.trans w2).h hp) (Evl.fresh_back w2.gh hp) upd_same (.lst (reps_rg i j))⟩
    · rw [if_neg c] at e; cases e
  · cases e
/-! ### sorted -/
def dSortI : List D → Option D
  | [.lst ds] => match intsOf ds with
    | some ns => some (.lst ((ns.mergeSort (fun a b => decide (a ≤ b))).map D.int))
    | none => none
  | _ => none
theorem sorted_uniq {xs ys : List Int} (h : xs.Perm ys) (a : xs.Pairwise (· ≤ ·)) (b : ys.Pairwise (· ≤ ·)) : xs = ys := List.Perm.eq_of_pairwise (fun x y _ _ h1 h2 => by omega) a b h
theorem cf_sortI : CallF K dSortI (rSortedI K) := fun G H bs vs ds z gh a e Q q => by
  unfold dSortI at e
  split at e
  · split at e
    · rename_i ns p
      cases e
      obtain ⟨v, rfl, r⟩ := a.one
      obtain ⟨l, ws, rfl, h, rs⟩ := r.lst gh
      rw [intsOf_some p] at rs
      rw [rs.ints_iff] at h
      refine ⟨l, ns, rfl, SqL.of h, fun ms p2 hp hs hn => ?_⟩
      have e : ms = ns.mergeSort (fun a b => decide (a ≤ b)) := by
        refine sorted_uniq (hp.trans (List.mergeSort_perm ns _).symm) hs ?_
        have := List.pairwise_mergeSort (le := fun a b : Int => decide (a ≤ b)) (fun a b c h1 h2 => by simp at *; omega) (fun a b => by simp; omega) ns
        exact this.imp fun h => of_decide_eq_true h
      rw [e]
      exact q p2 _ G _ (Wle.newO gh hn) hn (Evl.fresh_back gh hn) upd_same (.lst (Reps.of_ints _))
    · cases e
  · cases e
/-- pairs of ints -/
def prOf : List D → Option (List (Int × Int))
  | [] => some []
  | .tup [.int i, .int j] :: r => (prOf r).map ((i, j) :: ·)
  | _ => none
abbrev prD (p : Int × Int) : D := .tup [.int p.1, .int p.2]
theorem prOf_map : ∀ ns : List (Int × Int), prOf (ns.map prD) = some ns
  | [] => rfl
  | (i, j) :: ns => by rw [List.map_cons, prOf, prOf_map ns]; rfl
theorem prOf_some : ∀ {ds : List D} {ns : List (Int × Int)}, prOf ds = some ns → ds = ns.map prD
  | [], ns, e => by cases e; rfl
  | d :: r, ns, e => by
    unfold prOf at e
    split at e
    · rename_i z; cases z
    · rename_i i j r' z
      cases z
      cases p : prOf r with
      | none => rw [p] at e; cases e
      | some ms => rw [p] at e; cases e; rw [prOf_some p]; rfl
    · cases e
def leP (a b : Int × Int) : Bool := decide (a.1 < b.1 ∨ (a.1 = b.1 ∧ a.2 ≤ b.2))
theorem leP_trans (a b c : Int × Int) (h1 : leP a b = true) (h2 : leP b c = true) : leP a c = true := by
  unfold leP at *
  simp at *
  omega
theorem leP_total (a b : Int × Int) : (leP a b || leP b a) = true := by
  unfold leP
  simp
  omega
theorem leP_anti {a b : Int × Int} (h1 : leP a b = true) (h2 : leP b a = true) : a = b := by
  unfold leP at *
  simp at *
  obtain ⟨a1, a2⟩ := a
  obtain ⟨b1, b2⟩ := b
  simp at *
  omega
def sortP (ns : List (Int × Int)) : List (Int × Int) := ns.mergeSort leP
theorem sortP_uniq {xs ys : List (Int × Int)} (h : xs.Perm ys) (a : xs.Pairwise fun a b => leP a b = true) : xs = sortP ys := by
  have b : (sortP ys).Pairwise fun a b => leP a b = true := List.pairwise_mergeSort leP_trans leP_total ys
  exact List.Perm.eq_of_pairwise (fun x y _ _ h1 h2 => leP_anti h1 h2) a b (h.trans (List.mergeSort_perm ys leP).symm)
def dSortP : List D → Option D
  | [.lst ds] => match prOf ds with
    | some ns => some (.lst ((sortP ns).map prD))
    | none => none
  | _ => none
end
end DL

/-! DL6: comprehensions of two clauses, dicts, sorted pairs, the script. -/
namespace DL
open PySem PySem.Spec PyProof.Rows L2
open Evl (Ex)
section
variable {K : PySem.W.Frag} {f g h : EvF} {ta tb te : TE}
/-! ### two clauses -/
def compM (step : D → Option (List D)) : List D → Option (List D)
  | [] => some []
  | d :: r => match step d, compM step r with
    | some a, some b => some (a ++ b)
    | _, _ => none
theorem compM_cons {step : D → Option (List D)} {d : D} {r out : List D} (e : compM step (d :: r) = some out) : ∃ a b, step d = some a ∧ compM step r = some b ∧ out = a ++ b := by
  unfold compM at e
  split at e
  · cases e; exact ⟨_, _, by assumption, by assumption, rfl⟩
  · cases e
def stepM (g : GvF) (c : Env → Option Bool) (src1 : IvF) (g1 : GvF) (c1 : Env → Option Bool) (h : EvF) (vs1 : List Nat) (ρ : Env) : D → Option (List D) := fun d => match g d ρ with
  | some ρ2 => match c ρ2 with
    | some true => (match src1 ρ2 with
      | some ds1 => compL (stepC g1 c1 h (wipeE ρ2 vs1)) ds1
      | none => none)
    | some false => some []
    | none => none
  | none => none
theorem stepM_some {g : GvF} {c : Env → Option Bool} {src1 : IvF} {g1 : GvF} {c1 : Env → Option Bool} {h : EvF} {vs1 : List Nat} {ρ : Env} {d : D} {o : List D} (e : stepM g c src1 g1 c1 h vs1 ρ d = some o) :
    ∃ ρ2, g d ρ = some ρ2 ∧ ((c ρ2 = some false ∧ o = []) ∨ ∃ ds1, c ρ2 = some true ∧ src1 ρ2 = some ds1 ∧ compL (stepC g1 c1 h (wipeE ρ2 vs1)) ds1 = some o) := by
  unfold stepM at e
  cases p1 : g d ρ with
  | none => rw [p1] at e; cases e
  | some ρ2 =>
    rw [p1] at e
    simp only at e
    refine ⟨ρ2, rfl, ?_⟩
    cases p2 : c ρ2 with
    | none => rw [p2] at e; cases e
    | some b =>
      rw [p2] at e
      cases b with
      | false => cases e; exact .inl ⟨rfl, rfl⟩
      | true =>
        simp only at e
        cases p3 : src1 ρ2 with
        | none => rw [p3] at e; cases e
        | some ds1 => rw [p3] at e; exact .inr ⟨ds1, rfl, rfl, e⟩
def eComp2 (src : IvF) (g : GvF) (c : Env → Option Bool) (src1 : IvF) (g1 : GvF) (c1 : Env → Option Bool) (h : EvF) (vs vs1 : List Nat) : EvF := fun ρ => match src ρ with
  | some ds => (match compM (stepM g c src1 g1 c1 h vs1 (wipeE ρ vs)) ds with
    | some ys => if ys.length ≤ 100000 then some (.lst ys) else none
    | none => none)
  | none => none
theorem eComp2_some {src : IvF} {g : GvF} {c : Env → Option Bool} {src1 : IvF} {g1 : GvF} {c1 : Env → Option Bool} {h : EvF} {vs vs1 : List Nat} {ρ : Env} {d : D} (e : eComp2 src g c src1 g1 c1 h vs vs1 ρ = some d) :
    ∃ ds ys, src ρ = some ds ∧ compM (stepM g c src1 g1 c1 h vs1 (wipeE ρ vs)) ds = some ys ∧ ys.length ≤ 100000 ∧ d = .lst ys := by
  unfold eComp2 at e
  cases p : src ρ with
  | none => rw [p] at e; cases e
  | some ds =>
    rw [p] at e
    simp only at e
    split at e
    · rename_i ys p2
      by_cases hl : ys.length ≤ 100000
      · rw [if_pos hl] at e; cases e; exact ⟨ds, ys, rfl, p2, hl, rfl⟩
      · rw [if_neg hl] at e; cases e
    · cases e
theorem SF.comp2 {src src1 : IvF} {wi wi1 : TI} {g g1 : GvF} {js js1 : List Nat} {tg tg1 : TG} {c c1 : Env → Option Bool} {tt tt1 : TT} {h : EvF} {vs vs1 : List Nat} (hi : SIb K src wi) (hg : SG K g js tg) (hc : ST K c tt)
    (hi1 : SI K src1 wi1) (hg1 : SG K g1 js1 tg1) (hc1 : ST K c1 tt1) (he : SE K h te) (hj : ∀ j ∈ js, j ∈ vs) (hj1 : ∀ j ∈ js1, j ∈ vs1) :
    SF K (eComp2 src g c src1 g1 c1 h vs vs1) (tLc2 wi tg tt wi1 tg1 tt1 te vs vs1) := fun B ρ σ G H E d e Q q => by
  obtain ⟨ds, ys, e1, e2, hl, rfl⟩ := eComp2_some e
  refine hi B ρ σ G H E ds e1 _ fun J G1 H1 w1 jok Dl hD => ?_
  have gD1 : G1 Dl = none := Evl.fresh_back w1.gh hD
  have E1 := (E.mono w1).wipe vs
  refine ⟨fun i m H' => m = ds.length - i ∧ i ≤ ds.length ∧ ∃ G' acc ws post, Wle G1 H1 G' H' ∧ G' Dl = none ∧ H' Dl = some (.lst ws) ∧ Reps K G' ws acc ∧ ys = acc ++ post ∧ compM (stepM g c src1 g1 c1 h vs1 (wipeE ρ vs)) (ds.drop i) = some post,
    ⟨ds.length, rfl, Nat.zero_le _, G1, [], [], ys, Wle.newO w1.gh hD, gD1, upd_same, .nil, rfl, e2⟩, ?_⟩
  rintro i m H2 ⟨rfl, hi', G2, acc, ws, post, w2, gD2, hD2, r2, ey, ep⟩
  by_cases hlt : i < ds.length
  · refine .inr ?_
    obtain ⟨go, yl⟩ := jok.go i G2 H2 w2.g w2.h w2.gh hlt
    refine ⟨go, fun H' => i + 1 ≤ ds.length ∧ ∃ G' acc ws post, Wle G1 H1 G' H' ∧ G' Dl = none ∧ H' Dl = some (.lst ws) ∧ Reps K G' ws acc ∧ ys = acc ++ post ∧ compM (stepM g c src1 g1 c1 h vs1 (wipeE ρ vs)) (ds.drop (i + 1)) = some post,
      fun H' hN => ⟨ds.length - (i + 1), by omega, rfl, hN⟩, fun x H3 hy => ?_⟩
    obtain ⟨G3, d, ed, w3, rd⟩ := yl x H3 hy
    have edr : ds.drop i = d :: ds.drop (i + 1) := by
      have hd : ds[i] = d := by
        rw [List.getElem?_eq_getElem hlt] at ed
        exact Option.some.inj ed
      rw [← hd]
      exact List.drop_eq_getElem_cons hlt
    rw [edr] at ep
    have E3 := E1.mono (w2.trans w3)
    obtain ⟨a, post', es, ep', rfl⟩ := compM_cons ep
    obtain ⟨ρ2, p1, p2⟩ := stepM_some es
    refine hg _ _ G3 H3 x d E3.gh rd ρ2 p1 _ fun σ2 L4 hw => ⟨by rw [hw vs hj]; exact wipe_twice vs, ?_⟩
    have E4 := L4 B G3 H3 (Ex.refl _) E3
    rcases p2 with ⟨p2, rfl⟩ | ⟨ds1, p2, p3, p4⟩
    · refine hc B ρ2 σ2 G3 H3 E4 _ p2 _ fun G4 H4 w4 => iteF ?_
      have k := (w3.trans w4).keep gD2 hD2
      exact ⟨hlt, G4, acc, ws, post', w2.trans (w3.trans w4), k.1, k.2, r2.mono (w3.trans w4).g, ey, ep'⟩
    · refine hc B ρ2 σ2 G3 H3 E4 _ p2 _ fun G4 H4 w4 => iteT ?_
      refine hi1 B ρ2 σ2 G4 H4 (E4.mono w4) ds1 p3 _ fun J1 G5 H5 w5 jok1 => ?_
      have w25 := (w3.trans w4).trans w5
      have w15 := w2.trans w25
      have k5 := w25.keep gD2 hD2
      refine ⟨fun j k H' => k = ds1.length - j ∧ j ≤ ds1.length ∧ ∃ G' acc' ws' p', Wle G1 H1 G' H' ∧ Ex G5 G' ∧ G' Dl = none ∧ H' Dl = some (.lst ws') ∧ Reps K G' ws' acc' ∧ ys = acc' ++ (p' ++ post') ∧ compL (stepC g1 c1 h (wipeE ρ2 vs1)) (ds1.drop j) = some p',
        ⟨ds1.length, rfl, Nat.zero_le _, G5, acc, ws, a, w15, Ex.refl _, k5.1, k5.2, r2.mono w25.g, ey, p4⟩, ?_⟩
      rintro j k H6 ⟨rfl, hj', G6, acc6, ws6, p6, w6, g56, gD6, hD6, r6, ey6, ep6⟩
      by_cases hlt1 : j < ds1.length
      · refine .inr ?_
        obtain ⟨go1, yl1⟩ := jok1.go j G6 H6 g56 (g56.trans w6.gh) w6.gh hlt1
        refine ⟨go1, fun H' => j + 1 ≤ ds1.length ∧ ∃ G' acc' ws' p', Wle G1 H1 G' H' ∧ Ex G5 G' ∧ G' Dl = none ∧ H' Dl = some (.lst ws') ∧ Reps K G' ws' acc' ∧ ys = acc' ++ (p' ++ post') ∧ compL (stepC g1 c1 h (wipeE ρ2 vs1)) (ds1.drop (j + 1)) = some p',
          fun H' hN => ⟨ds1.length - (j + 1), by omega, rfl, hN⟩, fun x1 H7 hy1 => ?_⟩
        obtain ⟨G7, d1, ed1, w7, rd1⟩ := yl1 x1 H7 hy1
        have edr1 : ds1.drop j = d1 :: ds1.drop (j + 1) := by
          have hd : ds1[j] = d1 := by
            rw [List.getElem?_eq_getElem hlt1] at ed1
            exact Option.some.inj ed1
          rw [← hd]
          exact List.drop_eq_getElem_cons hlt1
        rw [edr1] at ep6
        have w17 := w6.trans w7
        have g37 : Ex G3 G7 := (((w4.trans w5).g.trans g56).trans w7.g)
        have E7 := (L4 B G7 H7 g37 (E1.mono w17)).wipe vs1
        obtain ⟨o, es1, eo⟩ : ∃ o, stepC g1 c1 h (wipeE ρ2 vs1) d1 = some o ∧ ((o = none ∧ compL (stepC g1 c1 h (wipeE ρ2 vs1)) (ds1.drop (j + 1)) = some p6) ∨ ∃ y p7, o = some y ∧ compL (stepC g1 c1 h (wipeE ρ2 vs1)) (ds1.drop (j + 1)) = some p7 ∧ p6 = y :: p7) := by
          rcases compL_cons ep6 with ⟨es, ep'⟩ | ⟨y, p7, es, ep', rfl⟩
          · exact ⟨none, es, .inl ⟨rfl, ep'⟩⟩
          · exact ⟨some y, es, .inr ⟨y, p7, rfl, ep', rfl⟩⟩
        obtain ⟨ρ3, q1, q2⟩ := stepC_some es1
        refine hg1 _ _ G7 H7 x1 d1 E7.gh rd1 ρ3 q1 _ fun σ3 L8 hw1 => ⟨by rw [hw1 vs1 hj1]; exact wipe_twice vs1, ?_⟩
        have E8 := L8 B G7 H7 (Ex.refl _) E7
        rcases q2 with ⟨q2, rfl⟩ | ⟨y, q2, q3, rfl⟩
        · rcases eo with ⟨_, ep7⟩ | ⟨_, _, z, _⟩
          · refine hc1 B ρ3 σ3 G7 H7 E8 _ q2 _ fun G8 H8 w8 => iteF ?_
            have k8 := (w7.trans w8).keep gD6 hD6
            exact ⟨hlt1, G8, acc6, ws6, p6, w6.trans (w7.trans w8), g56.trans (w7.trans w8).g, k8.1, k8.2, r6.mono (w7.trans w8).g, ey6, ep7⟩
          · cases z
        · rcases eo with ⟨z, _⟩ | ⟨_, p7, z, ep7, rfl⟩
          · cases z
          · cases z
            refine hc1 B ρ3 σ3 G7 H7 E8 _ q2 _ fun G8 H8 w8 => iteT ?_
            refine he B ρ3 σ3 G8 H8 (E8.mono w8) y q3 _ fun v G9 H9 w9 r9 => ?_
            have w69 := (w7.trans w8).trans w9
            have k9 := w69.keep gD6 hD6
            have wl : ws6.length < 100000 := by
              rw [r6.length]
              have : ys.length = acc6.length + (p7.length + 1 + post'.length) := by rw [ey6]; simp; omega
              omega
            exact ⟨ws6, k9.2, Evl.sz_lt wl, hlt1, G9, acc6 ++ [y], ws6 ++ [v], p7, (w6.trans w69).mut hD k9.1, g56.trans w69.g, k9.1, upd_same, (r6.mono w69.g).append (.one r9), by rw [ey6]; simp, ep7⟩
      · have ej : j = ds1.length := by omega
        subst ej
        refine .inl ⟨jok1.stop G6 H6 g56 (g56.trans w6.gh) w6.gh, ?_⟩
        rw [List.drop_length] at ep6
        cases ep6
        exact ⟨hlt, G6, acc6, ws6, post', w6, gD6, hD6, r6, by rw [ey6]; rfl, ep'⟩
  · have e : i = ds.length := by omega
    subst e
    refine .inl ⟨jok.stop G2 H2 w2.g w2.h w2.gh, ?_⟩
    rw [List.drop_length] at ep
    cases ep
    rw [List.append_nil] at ey
    subst ey
    exact q Dl _ G2 H2 (w1.trans w2) (Evl.fresh_back w1.h hD) gD2 hD2 (.lst r2)
/-! ### sorted(pairs of ints) -/
def pairAt (H : Hp) : V → Int × Int
  | .ref t => match H t with
    | some (.tup [.int i, .int j]) => (i, j)
    | _ => (0, 0)
  | _ => (0, 0)
theorem reps_pairs {G H : Hp} (gh : Ex G H) : ∀ {ws : List V} {ns : List (Int × Int)}, Reps K G ws (ns.map prD) → (∀ x ∈ ws, (∃ t, x = V.ref t ∧ H t = some (.tup [.int (pairAt H x).1, .int (pairAt H x).2])) ∧ Rep K G x (prD (pairAt H x))) ∧ ws.map (pairAt H) = ns
  | _, [], .nil => ⟨fun x hx => absurd hx List.not_mem_nil, rfl⟩
  | _, (i, j) :: ns, .cons (v := v) hr r => by
    obtain ⟨a, b⟩ := reps_pairs gh r
    cases hr with
    | tup h2 rs =>
      rename_i t vs
      have e : vs = [.int i, .int j] := by
        cases rs with
        | cons ra rr =>
          cases rr with
          | cons rb rr =>
            cases rr
            rw [Rep.isInt ra, Rep.isInt rb]
      subst e
      have e1 : pairAt H (.ref t) = (i, j) := by
        unfold pairAt
        simp only [gh _ _ h2]
      refine ⟨fun x hx => ?_, by rw [List.map_cons, e1, b]⟩
      rcases List.mem_cons.mp hx with z | z
      · subst z
        rw [e1]
        exact ⟨⟨t, rfl, gh _ _ h2⟩, .tup h2 rs⟩
      · exact a x z
theorem reps_of_all {G : Hp} {k : V → D} : ∀ {ws : List V}, (∀ x ∈ ws, Rep K G x (k x)) → Reps K G ws (ws.map k)
  | [], _ => .nil
  | x :: xs, f => .cons (f x (List.mem_cons_self ..)) (reps_of_all fun y hy => f y (List.mem_cons_of_mem _ hy))
theorem cf_sortP : CallF K dSortP (rSortedPO K) := fun G H bs vs ds z gh a e Q q => by
  unfold dSortP at e
  split at e
  · split at e
    · rename_i ns p
      cases e
      obtain ⟨v, rfl, r⟩ := a.one
      obtain ⟨l, ws, rfl, hl, rs⟩ := r.lst gh
      rw [prOf_some p] at rs
      obtain ⟨f1, f2⟩ := reps_pairs gh rs
      refine ⟨l, ws, pairAt H, rfl, SqL.of hl, fun x hx => (f1 x hx).1, fun ys p2 h1 h2 hn => ?_⟩
      have hk : (ys.map (pairAt H)).Perm ns := by
        rw [← f2]
        exact h2.perm.map _
      have hs : (ys.map (pairAt H)).Pairwise fun a b => leP a b = true := by
        rw [List.pairwise_map]
        refine h1.imp fun {a b} hab => ?_
        have := SrtO.lexB_no.mp hab
        unfold leP
        simp
        omega
      have e := sortP_uniq hk hs
      refine q p2 _ G _ (Wle.newO gh hn) hn (Evl.fresh_back gh hn) upd_same (.lst ?_)
      rw [← e, List.map_map]
      exact reps_of_all fun x hx => (f1 x (h2.perm.mem_iff.mp hx)).2
    · cases e
  · cases e
/-! ### dicts -/
def kOf : D → Option Key
  | .int i => some (.inl i)
  | .str s => some (.inr s)
  | _ => none
def ksOf : List D → Option (List Key)
  | [] => some []
  | d :: r => match kOf d, ksOf r with
    | some k, some ks => some (k :: ks)
    | _, _ => none
def tkOf : D → Option (List Key)
  | .tup ds => ksOf ds
  | _ => none
theorem kOf_rep {G : Hp} {v : V} {d : D} {k : Key} (r : Rep K G v d) (e : kOf d = some k) : v = kV k := by
  cases r <;> first | (cases e; rfl) | cases e
theorem ksOf_rep {G : Hp} : ∀ {vs : List V} {ds : List D} {ks : List Key}, Reps K G vs ds → ksOf ds = some ks → vs = ks.map kV
  | _, _, _, .nil, e => by cases e; rfl
  | _, _, ks, .cons h r, e => by
    unfold ksOf at e
    split at e
    · cases e
      rename_i k ks' e1 e2
      rw [kOf_rep h e1, ksOf_rep r e2]
      rfl
    · cases e
theorem tkOf_rep {G : Hp} {v : V} {d : D} {ks : List Key} (r : Rep K G v d) (e : tkOf d = some ks) : ∃ b, v = .ref b ∧ G b = some (.tup (ks.map kV)) := by
  cases r with
  | tup h rs => exact ⟨_, rfl, by rw [← ksOf_rep rs e]; exact h⟩
  | _ => cases e
theorem brep_flatK {G H : Hp} {v : V} {d : D} {k : Key} (r : BRep K G H v d) (e : kOf d = some k) : v = kV k := by
  rcases r with r | ⟨l, o, rfl, h, c⟩
  · exact kOf_rep r e
  · cases c <;> cases e
theorem brep_tk {G H : Hp} {v : V} {d : D} {ks : List Key} (r : BRep K G H v d) (e : tkOf d = some ks) : ∃ b, v = .ref b ∧ G b = some (.tup (ks.map kV)) := by
  rcases r with r | ⟨l, o, rfl, h, c⟩
  · exact tkOf_rep r e
  · cases c <;> cases e
def valD {κ : Type} [DecidableEq κ] (kvs : List (κ × D)) (k : κ) : Option D := (kvs.find? fun kv => decide (kv.1 = k)).map (·.2)
def putD {κ : Type} [DecidableEq κ] (kvs : List (κ × D)) (k : κ) (v : D) : List (κ × D) := if (kvs.any fun kv => decide (kv.1 = k)) = true then kvs.map fun kv => if kv.1 = k then (kv.1, v) else kv else kvs ++ [(k, v)]
theorem RepT.val {G : Hp} {k : List Key} : ∀ {vs : List (List Key × V)} {ds : List (List Key × D)}, RepT K G vs ds → (valV vs k = none ∧ valD ds k = none) ∨ ∃ v d, valV vs k = some v ∧ valD ds k = some d ∧ Rep K G v d
  | _, _, .nil => .inl ⟨rfl, rfl⟩
  | _, _, .cons (k := k') hr r => by
    by_cases e : k' = k
    · exact .inr ⟨_, _, by simp [valV, e], by simp [valD, e], hr⟩
    · rcases RepT.val (k := k) r with ⟨a, b⟩ | ⟨v, d, a, b, c⟩
      · exact .inl ⟨by simpa [valV, e] using a, by simpa [valD, e] using b⟩
      · exact .inr ⟨v, d, by simpa [valV, e] using a, by simpa [valD, e] using b, c⟩
theorem RepK.val {G : Hp} {k : Key} : ∀ {vs : List (Key × V)} {ds : List (Key × D)}, RepK K G vs ds → (valV vs k = none ∧ valD ds k = none) ∨ ∃ v d, valV vs k = some v ∧ valD ds k = some d ∧ Rep K G v d
  | _, _, .nil => .inl ⟨rfl, rfl⟩
  | _, _, .cons (k := k') hr r => by
    by_cases e : k' = k
    · exact .inr ⟨_, _, by simp [valV, e], by simp [valD, e], hr⟩
    · rcases RepK.val (k := k) r with ⟨a, b⟩ | ⟨v, d, a, b, c⟩
      · exact .inl ⟨by simpa [valV, e] using a, by simpa [valD, e] using b⟩
      · exact .inr ⟨v, d, by simpa [valV, e] using a, by simpa [valD, e] using b, c⟩
theorem RepT.any {G : Hp} {k : List Key} : ∀ {vs : List (List Key × V)} {ds : List (List Key × D)}, RepT K G vs ds → (vs.any fun kv => decide (kv.1 = k)) = ds.any fun kv => decide (kv.1 = k)
  | _, _, .nil => rfl
  | _, _, .cons hr r => by rw [List.any_cons, List.any_cons, RepT.any r]
theorem RepT.repl {G : Hp} {k : List Key} {v : V} {d : D} (h : Rep K G v d) : ∀ {vs : List (List Key × V)} {ds : List (List Key × D)}, RepT K G vs ds → RepT K G (vs.map fun kv => if kv.1 = k then (kv.1, v) else kv) (ds.map fun kv => if kv.1 = k then (kv.1, d) else kv)
  | _, _, .nil => .nil
  | _, _, .cons (k := k') hr r => by
    rw [List.map_cons, List.map_cons]
    by_cases e : k' = k
    · simp only [e, if_true]
      exact .cons h (RepT.repl h r)
    · simp only [e, if_false]
      exact .cons hr (RepT.repl h r)
theorem RepT.snoc {G : Hp} {k : List Key} {v : V} {d : D} (h : Rep K G v d) : ∀ {vs : List (List Key × V)} {ds : List (List Key × D)}, RepT K G vs ds → RepT K G (vs ++ [(k, v)]) (ds ++ [(k, d)])
  | _, _, .nil => .cons h .nil
  | _, _, .cons hr r => .cons hr (RepT.snoc h r)
theorem RepT.put {G : Hp} {k : List Key} {v : V} {d : D} (h : Rep K G v d) {vs : List (List Key × V)} {ds : List (List Key × D)} (r : RepT K G vs ds) : RepT K G (putK vs k v) (putD ds k d) := by
  unfold putK putD
  rw [r.any]
  split
  · exact r.repl h
  · exact r.snoc h
theorem RepT.length {G : Hp} : ∀ {vs : List (List Key × V)} {ds : List (List Key × D)}, RepT K G vs ds → vs.length = ds.length
  | _, _, .nil => rfl
  | _, _, .cons _ r => by rw [List.length_cons, List.length_cons, RepT.length r]
theorem RepK.any {G : Hp} {k : Key} : ∀ {vs : List (Key × V)} {ds : List (Key × D)}, RepK K G vs ds → (vs.any fun kv => decide (kv.1 = k)) = ds.any fun kv => decide (kv.1 = k)
  | _, _, .nil => rfl
  | _, _, .cons hr r => by rw [List.any_cons, List.any_cons, RepK.any r]
theorem RepK.repl {G : Hp} {k : Key} {v : V} {d : D} (h : Rep K G v d) : ∀ {vs : List (Key × V)} {ds : List (Key × D)}, RepK K G vs ds → RepK K G (vs.map fun kv => if kv.1 = k then (kv.1, v) else kv) (ds.map fun kv => if kv.1 = k then (kv.1, d) else kv)
  | _, _, .nil => .nil
  | _, _, .cons (k := k') hr r => by
    rw [List.map_cons, List.map_cons]
    by_cases e : k' = k
    · simp only [e, if_true]
      exact .cons h (RepK.repl h r)
    · simp only [e, if_false]
      exact .cons hr (RepK.repl h r)
theorem RepK.snoc {G : Hp} {k : Key} {v : V} {d : D} (h : Rep K G v d) : ∀ {vs : List (Key × V)} {ds : List (Key × D)}, RepK K G vs ds → RepK K G (vs ++ [(k, v)]) (ds ++ [(k, d)])
  | _, _, .nil => .cons h .nil
  | _, _, .cons hr r => .cons hr (RepK.snoc h r)
theorem RepK.put {G : Hp} {k : Key} {v : V} {d : D} (h : Rep K G v d) {vs : List (Key × V)} {ds : List (Key × D)} (r : RepK K G vs ds) : RepK K G (putK vs k v) (putD ds k d) := by
  unfold putK putD
  rw [r.any]
  split
  · exact r.repl h
  · exact r.snoc h
theorem RepK.length {G : Hp} : ∀ {vs : List (Key × V)} {ds : List (Key × D)}, RepK K G vs ds → vs.length = ds.length
  | _, _, .nil => rfl
  | _, _, .cons _ r => by rw [List.length_cons, List.length_cons, RepK.length r]
/-- what a dict has at a key: the key is none of its kind | the answer -/
def getD (x y : D) : Option (Option D) := match x with
  | .dT kvs => (tkOf y).map (valD kvs)
  | .dK kvs => (kOf y).map (valD kvs)
  | .fT kvs => (tkOf y).map (valD kvs)
  | .fK kvs => (kOf y).map (valD kvs)
  | _ => none
theorem getD_ok {G H : Hp} {v u : V} {x y : D} {o : Option D} (gh : Ex G H) (a : BRep K G H v x) (b : BRep K G H u y) (e : getD x y = some o) : ∃ l ov, v = .ref l ∧ DGet H l u ov ∧ ((ov = none ∧ o = none) ∨ ∃ w d, ov = some w ∧ o = some d ∧ Rep K G w d) := by
  unfold getD at e
  split at e
  · cases p : tkOf y with
    | none => rw [p] at e; cases e
    | some k =>
      rw [p] at e
      cases e
      obtain ⟨l, vs, rfl, h, r⟩ := a.dT gh
      obtain ⟨b', rfl, hb⟩ := brep_tk b p
      rcases RepT.val (k := k) r with ⟨e1, e2⟩ | ⟨w, d, e1, e2, e3⟩
      · exact ⟨l, _, rfl, DGet.t h (gh _ _ hb), .inl ⟨e1, e2⟩⟩
      · exact ⟨l, _, rfl, DGet.t h (gh _ _ hb), .inr ⟨w, d, e1, e2, e3⟩⟩
  · cases p : kOf y with
    | none => rw [p] at e; cases e
    | some k =>
      rw [p] at e
      cases e
      obtain ⟨l, vs, rfl, h, r⟩ := a.dK gh
      cases brep_flatK b p
      rcases RepK.val (k := k) r with ⟨e1, e2⟩ | ⟨w, d, e1, e2, e3⟩
      · exact ⟨l, _, rfl, DGet.k h, .inl ⟨e1, e2⟩⟩
      · exact ⟨l, _, rfl, DGet.k h, .inr ⟨w, d, e1, e2, e3⟩⟩
  · cases p : tkOf y with
    | none => rw [p] at e; cases e
    | some k =>
      rw [p] at e
      cases e
      obtain ⟨l, ob, vs, rfl, h, r⟩ := a.fT gh
      obtain ⟨b', rfl, hb⟩ := brep_tk b p
      rcases RepT.val (k := k) r with ⟨e1, e2⟩ | ⟨w, d, e1, e2, e3⟩
      · exact ⟨l, _, rfl, .inr ⟨_, k, b', .inr ⟨_, h⟩, rfl, gh _ _ hb, rfl⟩, .inl ⟨e1, e2⟩⟩
      · exact ⟨l, _, rfl, .inr ⟨_, k, b', .inr ⟨_, h⟩, rfl, gh _ _ hb, rfl⟩, .inr ⟨w, d, e1, e2, e3⟩⟩
  · cases p : kOf y with
    | none => rw [p] at e; cases e
    | some k =>
      rw [p] at e
      cases e
      obtain ⟨l, ob, vs, rfl, h, r⟩ := a.fK gh
      cases brep_flatK b p
      rcases RepK.val (k := k) r with ⟨e1, e2⟩ | ⟨w, d, e1, e2, e3⟩
      · exact ⟨l, _, rfl, .inl ⟨_, k, .inr ⟨_, h⟩, rfl, rfl⟩, .inl ⟨e1, e2⟩⟩
      · exact ⟨l, _, rfl, .inl ⟨_, k, .inr ⟨_, h⟩, rfl, rfl⟩, .inr ⟨w, d, e1, e2, e3⟩⟩
  · cases e
def rDGet : R2 := fun x y H Q => ∃ a v, x = .ref a ∧ DGet H a y (some v) ∧ Q v H
theorem ix_dict {X : Cx} (hu : X.A.units + 1 < cLine) : IxR X rDGet := by
  intro value slice pins s σ H x y v u Q I rx ry h hs
  obtain ⟨a, z, rfl, g, q⟩ := h
  cases rx
  have hT := dict_typeIs I g
  unfold subscriptTail
  refine wpAny_bind ?_
  rw [getitemInPython_of_ne hT.not_modules]
  refine wpAny_bind (wpAny_specialOf hT PySem.F.slot_dict_getitem.lookup ?_)
  have fin : wpAny (model X.prog X.w) X.A (subscripted slice false (.ref a) u) (fun r s₃ => wpAny (model X.prog X.w) X.A (letTemporaryGo value (.ref a) r >>= fun _ => pure r) (EP X pins σ Q) X.xe s₃) X.xe s := by
    rw [hs]
    exact wpAny_operating (d_getItem hu I g ry fun w' s3 I3 rw' => wpAny_bind (wpAny_letTemporaryGo (wpAny_pure ⟨z, H, I3, rw', q⟩)))
  first
    | exact wpAny_pure (wpAny_bind fin)
    | exact wpAny_bind (wpAny_pure (wpAny_bind fin))
    | exact wpAny_bind fin
def rIxD (K : PySem.W.Frag) : R2 := fun x y H Q => rIx K x y H Q ∨ rDGet x y H Q
theorem ix_any {X : Cx} (hu : X.A.units + 1 < cLine) : IxR X (rIxD X.K) := IxR.or ix_seq (ix_dict hu)
/-- x[y]: of a list, a tuple, a text, a dict -/
def dAt (x y : D) : Option D := match x with
  | .dT kvs => (getD (.dT kvs) y).join
  | .dK kvs => (getD (.dK kvs) y).join
  | .fT kvs => (getD (.fT kvs) y).join
  | .fK kvs => (getD (.fK kvs) y).join
  | _ => dIx x y
theorem od_at : OpD K dAt (rIxD K) := fun G H v u x y z gh a b e Q q => by
  unfold dAt at e
  split at e
  · cases p : getD (.dT _) y with
    | none => rw [p] at e; cases e
    | some o =>
      rw [p] at e
      cases e
      obtain ⟨l, ov, rfl, g, h⟩ := getD_ok gh a b p
      rcases h with ⟨_, z⟩ | ⟨w, d, rfl, z, r⟩
      · cases z
      · cases z
        exact .inr ⟨l, w, rfl, g, q _ G H (Wle.refl gh) r⟩
  · cases p : getD (.dK _) y with
    | none => rw [p] at e; cases e
    | some o =>
      rw [p] at e
      cases e
      obtain ⟨l, ov, rfl, g, h⟩ := getD_ok gh a b p
      rcases h with ⟨_, z⟩ | ⟨w, d, rfl, z, r⟩
      · cases z
      · cases z
        exact .inr ⟨l, w, rfl, g, q _ G H (Wle.refl gh) r⟩
  · cases p : getD (.fT _) y with
    | none => rw [p] at e; cases e
    | some o =>
      rw [p] at e
      cases e
      obtain ⟨l, ov, rfl, g, h⟩ := getD_ok gh a b p
      rcases h with ⟨_, z⟩ | ⟨w, d, rfl, z, r⟩
      · cases z
      · cases z
        exact .inr ⟨l, w, rfl, g, q _ G H (Wle.refl gh) r⟩
  · cases p : getD (.fK _) y with
    | none => rw [p] at e; cases e
    | some o =>
      rw [p] at e
      cases e
      obtain ⟨l, ov, rfl, g, h⟩ := getD_ok gh a b p
      rcases h with ⟨_, z⟩ | ⟨w, d, rfl, z, r⟩
      · cases z
      · cases z
        exact .inr ⟨l, w, rfl, g, q _ G H (Wle.refl gh) r⟩
  · exact .inl (od_ix G H v u x y z gh a b e Q q)
/-- y in x, of dicts too -/
def rDIn : R2 := fun y x H Q => ∃ a o, x = .ref a ∧ DGet H a y o ∧ Q (.bl o.isSome) H
def rDNotIn : R2 := fun y x H Q => ∃ a o, x = .ref a ∧ DGet H a y o ∧ Q (.bl (!o.isSome)) H
theorem op_dIn {X : Cx} (hu : X.A.units + 1 < cLine) : OpR X (compareOp .In) rDIn := by
  intro pins s σ H y x u v Q I ry rx h
  obtain ⟨a, o, rfl, g, q⟩ := h
  cases rx
  exact d_in hu I g ry fun s3 I3 => ⟨.bl o.isSome, H, I3, rfl, q⟩
theorem op_dNotIn {X : Cx} (hu : X.A.units + 1 < cLine) : OpR X (compareOp .NotIn) rDNotIn := by
  intro pins s σ H y x u v Q I ry rx h
  obtain ⟨a, o, rfl, g, q⟩ := h
  cases rx
  exact d_notIn hu I g ry fun s3 I3 => ⟨.bl (!o.isSome), H, I3, rfl, q⟩
def rInD2 (K : PySem.W.Frag) : R2 := fun x y H Q => rInA K x y H Q ∨ rDIn x y H Q
def rNotInD2 (K : PySem.W.Frag) : R2 := fun x y H Q => rNotInA K x y H Q ∨ rDNotIn x y H Q
theorem op_inX {X : Cx} (hu : X.A.units + 65 < cLine) : OpR X (compareOp .In) (rInD2 X.K) := OpR.or (op_inA hu) (op_dIn (by omega))
theorem op_notInX {X : Cx} (hu : X.A.units + 65 < cLine) : OpR X (compareOp .NotIn) (rNotInD2 X.K) := OpR.or (op_notInA hu) (op_dNotIn (by omega))
def dInX (x y : D) : Option D := match y with
  | .dT kvs => (getD (.dT kvs) x).map fun o => .bl o.isSome
  | .dK kvs => (getD (.dK kvs) x).map fun o => .bl o.isSome
  | .fT kvs => (getD (.fT kvs) x).map fun o => .bl o.isSome
  | .fK kvs => (getD (.fK kvs) x).map fun o => .bl o.isSome
  | _ => dIn x y
def dNotInX (x y : D) : Option D := match y with
  | .dT kvs => (getD (.dT kvs) x).map fun o => .bl (!o.isSome)
  | .dK kvs => (getD (.dK kvs) x).map fun o => .bl (!o.isSome)
  | .fT kvs => (getD (.fT kvs) x).map fun o => .bl (!o.isSome)
  | .fK kvs => (getD (.fK kvs) x).map fun o => .bl (!o.isSome)
  | _ => dNotIn x y
theorem od_inX : OpD K dInX (rInD2 K) := fun G H v u x y z gh a b e Q q => by
  unfold dInX at e
  have dict : ∀ {o : Option D}, getD y x = some o → (D.bl o.isSome) = z → rDIn v u H Q := fun {o} p ez => by
    obtain ⟨l, ov, rfl, g, h⟩ := getD_ok gh b a p
    refine ⟨l, ov, rfl, g, ?_⟩
    have ee : ov.isSome = o.isSome := by
      rcases h with ⟨rfl, rfl⟩ | ⟨w, d, rfl, rfl, _⟩ <;> rfl
    subst ez
    rw [ee]
    exact q _ G H (Wle.refl gh) (.bl _)
  split at e
  · cases p : getD (.dT _) x with
    | none => rw [p] at e; cases e
    | some o => rw [p] at e; cases e; exact .inr (dict p rfl)
  · cases p : getD (.dK _) x with
    | none => rw [p] at e; cases e
    | some o => rw [p] at e; cases e; exact .inr (dict p rfl)
  · cases p : getD (.fT _) x with
    | none => rw [p] at e; cases e
    | some o => rw [p] at e; cases e; exact .inr (dict p rfl)
  · cases p : getD (.fK _) x with
    | none => rw [p] at e; cases e
    | some o => rw [p] at e; cases e; exact .inr (dict p rfl)
  · exact .inl (od_in G H v u x y z gh a b e Q q)
theorem od_notInX : OpD K dNotInX (rNotInD2 K) := fun G H v u x y z gh a b e Q q => by
  unfold dNotInX at e
  have dict : ∀ {o : Option D}, getD y x = some o → (D.bl (!o.isSome)) = z → rDNotIn v u H Q := fun {o} p ez => by
    obtain ⟨l, ov, rfl, g, h⟩ := getD_ok gh b a p
    refine ⟨l, ov, rfl, g, ?_⟩
    have ee : ov.isSome = o.isSome := by
      rcases h with ⟨rfl, rfl⟩ | ⟨w, d, rfl, rfl, _⟩ <;> rfl
    subst ez
    rw [ee]
    exact q _ G H (Wle.refl gh) (.bl _)
  split at e
  · cases p : getD (.dT _) x with
    | none => rw [p] at e; cases e
    | some o => rw [p] at e; cases e; exact .inr (dict p rfl)
  · cases p : getD (.dK _) x with
    | none => rw [p] at e; cases e
    | some o => rw [p] at e; cases e; exact .inr (dict p rfl)
  · cases p : getD (.fT _) x with
    | none => rw [p] at e; cases e
    | some o => rw [p] at e; cases e; exact .inr (dict p rfl)
  · cases p : getD (.fK _) x with
    | none => rw [p] at e; cases e
    | some o => rw [p] at e; cases e; exact .inr (dict p rfl)
  · exact .inl (od_notIn G H v u x y z gh a b e Q q)
/-- {} -/
theorem SF.newT : SF K (eC (.dT [])) tDNewT := fun B ρ σ G H E d e Q q => by
  cases e
  exact fun p hp => q p _ G _ (Wle.newO E.gh hp) hp (Evl.fresh_back E.gh hp) upd_same (.dT .nil)
theorem SF.newK : SF K (eC (.dK [])) tDNewK := fun B ρ σ G H E d e Q q => by
  cases e
  exact fun p hp => q p _ G _ (Wle.newO E.gh hp) hp (Evl.fresh_back E.gh hp) upd_same (.dK .nil)
/-- name[key] = value -/
def putX (x y v : D) : Option D := match x with
  | .dT kvs => (match tkOf y with | some k => if kvs.length < 100000 then some (.dT (putD kvs k v)) else none | none => none)
  | .dK kvs => (match kOf y with | some k => if kvs.length < 100000 then some (.dK (putD kvs k v)) else none | none => none)
  | _ => none
def xPut (i : Nat) (f g : EvF) : XF := fun ρ => match ρ[i]?, f ρ, g ρ with
  | some (.own x), some y, some v => (match putX x y v with | some x' => some (.nx (ρ.set i (.own x'))) | none => none)
  | _, _, _ => none
theorem SS.put {i : Nat} (hk : SE K f ta) (hv : SE K g tb) : SS K (xPut i f g) (sDPut (tVar i) ta tb) := fun B ρ σ G H E o e D q => by
  unfold xPut at e
  split at e
  · rename_i x y v p p2 p3
    split at e
    · rename_i x' p4
      cases e
      obtain ⟨l, ob, sl, hlo, c⟩ := own_at E p
      refine hv B ρ σ G H E v p3 _ fun w G1 H1 w1 r1 => ⟨.ref l, sl, hk B ρ σ G1 H1 (E.mono w1) y p2 _ fun u G2 H2 w2 r2 => ?_⟩
      have w12 := w1.trans w2
      have E2 := E.mono w12
      have hl2 := w12.h _ _ hlo
      unfold putX at p4
      split at p4
      · rename_i kvs
        split at p4
        · rename_i k pk
          by_cases hl : kvs.length < 100000
          · rw [if_pos hl] at p4
            cases p4
            cases c with
            | dT rc =>
              obtain ⟨b, rfl, hb⟩ := tkOf_rep r2 pk
              exact ⟨l, _, rfl, DPut.t hl2 (w2.gh _ _ hb) (by rw [rc.length]; exact Evl.sz_lt hl), q σ G2 _ (E2.write p sl (.dT ((rc.mono w12.g).put (r1.mono w2.g))))⟩
          · rw [if_neg hl] at p4; cases p4
        · cases p4
      · rename_i kvs
        split at p4
        · rename_i k pk
          by_cases hl : kvs.length < 100000
          · rw [if_pos hl] at p4
            cases p4
            cases c with
            | dK rc =>
              cases kOf_rep r2 pk
              exact ⟨l, _, rfl, DPut.k hl2 (by rw [rc.length]; exact Evl.sz_lt hl), q σ G2 _ (E2.write p sl (.dK ((rc.mono w12.g).put (r1.mono w2.g))))⟩
          · rw [if_neg hl] at p4; cases p4
        · cases p4
      · cases p4
    · cases e
  · cases e
/-! ### the script -/
def eLenScr (i : Nat) : EvF := fun ρ => match ρ[i]? with
  | some (.scr ns) => some (.int (ns.length : Nat))
  | _ => none
def eIxScr (i : Nat) (f : EvF) : EvF := fun ρ => match ρ[i]?, f ρ with
  | some (.scr ns), some (.int k) => (match atI ns k with | some n => some (.int n) | none => none)
  | _, _ => none
theorem scr_at {B : Bs} {ρ : Env} {σ : St} {G H : Hp} (E : EnvOk K B ρ σ G H) {i : Nat} {ns : List Int} (p : ρ[i]? = some (.scr ns)) : ∃ a, σ[i]? = some (some (V.ref a)) ∧ SqL K H a (ns.map V.int) := by
  obtain ⟨a, e, h⟩ := E.sl i _ p
  refine ⟨a, ?_, Evl.ex_l E.h0 h⟩
  cases z : σ[i]? with
  | none => rw [z] at e; cases e
  | some u2 => rw [z] at e; rw [show u2 = some (V.ref a) from e]
theorem SE.lenScr {i : Nat} : SE K (eLenScr i) (tCB (fun xs H Q => ∃ x n, xs = [x] ∧ LenV K x H n ∧ Q (.int n) H) (tCons (tVar i) tNil)) := fun B ρ σ G H E d e Q q => by
  unfold eLenScr at e
  split at e
  · rename_i ns p
    cases e
    obtain ⟨a, sa, hs⟩ := scr_at E p
    exact ⟨.ref a, sa, .ref a, ns.length, rfl, .inl ⟨_, hs, by rw [List.length_map]⟩, q _ G H E.wle (.int _)⟩
  · cases e
theorem SE.ixScr {i : Nat} (s : SE K f ta) : SE K (eIxScr i f) (tOp (rIxD K) (tVar i) ta) := fun B ρ σ G H E d e Q q => by
  unfold eIxScr at e
  split at e
  · rename_i ns k p p2
    split at e
    · rename_i n pn
      cases e
      obtain ⟨a, sa, hs⟩ := scr_at E p
      refine ⟨.ref a, sa, s B ρ σ G H E _ p2 _ fun v G1 H1 w r => .inl (.inl ⟨a, _, k, .int n, rfl, r.isInt, Evl.ex_l w.h hs, ?_, q _ G1 H1 w (.int _)⟩)⟩
      unfold L2.atI at pn ⊢
      rw [List.length_map]
      cases z : ixN ns.length k with
      | none => rw [z] at pn; cases pn
      | some j =>
        rw [z] at pn
        show (ns.map V.int)[j]? = some (V.int n)
        rw [List.getElem?_map, show ns[j]? = some n from pn]
        rfl
    · cases e
  · cases e
end
end DL

/-! DL7: defs called by name; typed data as plain data; the script's defs. -/
namespace DL
open PySem PySem.Spec PyProof.Rows L2
open Evl (Ex)
theorem hu65 {A : Around} {k : Nat} (hr : Room k A) : A.units + 65 < cLine := by
  have := hr.un
  omega
/-- a def of the text keeps a promise, and is found by its name -/
structure Cal (P : Program) (w : World) (K : PySem.W.Frag) (mg : Str → Option Value) (base : Heap) (x : Str) (k : Nat) (ps : List Str) (sp : Sp) : Prop where
  ex : ∃ f fd, FnOk P w K mg base CX0 k f fd ps sp ∧ mg x = some (.ref f) ∧ PySem.W.keepIn K (.ref f) = true ∧ Binds K fd ps []
section
variable {X : Cx} {x : Str} {j k : Nat} {ps : List Str} {sp : Sp} {e : Expr} {es : List Expr} {t : TA} {p pos : Pos}
theorem pe_callC (h : Cal X.prog X.w X.K X.mg X.base x j ps sp) (hr : Room k X.A) (hj : j ≤ k) (hg : Gl X x) (ha : PA X (e :: es) t)
    (hdb : (x == ("__debug__" : Str)) = false := by decide) (he : starEach (e :: es) X.env = (false, eval e X.env) :: starEach es X.env := by rfl) (hpl : (backTo pos (starEach es X.env)).any (·.1) = false := by rfl) :
    PE X (.Call (.Name x p) (e :: es) [] pos) (tCall sp [] E0 t) := by
  obtain ⟨f, fd, F, m, kp, b⟩ := h.ex
  exact pe_call F (hr.mono hj) hg m kp b .nil pass0 ha hdb he hpl
end
/-- where a def of the text stands -/
def DefAt (K : PySem.W.Frag) (mg : Str → Option Value) (x : Str) (st : Stmt) : Prop := ∃ f fd, Fun K x x st f fd ∧ mg x = some (.ref f)
section
variable {P : Program} {w : World} {K : PySem.W.Frag} {mg : Str → Option Value} {base : Heap} {x : Str} {st : Stmt} {N ps : List Str} {k : Nat}
theorem Cal.mk' {bs : List Bool} {Fm : List D → Option D} {xb : XF} (h : DefAt K mg x st) (S : FnScope N ps (defScope st))
    (hbind : ∀ (kV doc pm : Value) (an : Option Addr) (cdv ct : Value) (us : List Value), us.length = ps.length → bindArgs (PySem.W.fnOf x x (defArgs st) (defBody st) (defScope st) .none kV doc pm an cdv ct) ⟨us, []⟩ = pure (ps.zip us))
    (hbs : bs.length = ps.length) (hn : ps.length ≤ N.length) (hx : ∀ ds r, Fm ds = some r → Ret (xb (env0 bs ds N.length)) r)
    (body : ∀ (fa : Addr) (cdv : Value) (A : Around) (outer : List PySem.Env) (s : Shared) (H : Hp) (E : XK), Room k (A.deeper (envOfC x (defScope st) s.heap.objs.size fa cdv)) →
      ∃ t, PSs (cxOf CX0 P w K mg base N x (defScope st) fa cdv A outer s H E).nox (defBody st) t ∧ SS K xb t) : Cal P w K mg base x (k + 1) ps (spD K bs Fm) := by
  obtain ⟨f, fd, F, m⟩ := h
  exact ⟨f, fd, fn_ok F S hbs hn hx (body f), m, F.kp, F.binds hbind⟩
/-- the script's defs -/
def spS (K : PySem.W.Frag) (F : List Int → Option D) : Sp := fun vs H Q _ => ∃ G a ns r, Ex G H ∧ vs = [.ref a] ∧ SqL K H a (ns.map V.int) ∧ F ns = some r ∧ ∀ v G' H', Wle G H G' H' → Rep K G' v r → Q v H'
def envS (ns : List Int) (n : Nat) : Env := .scr ns :: List.replicate (n - 1) .un
theorem env_startS {G H : Hp} {a : Addr} {ns : List Int} {N : List Str} (gh : Ex G H) (h : SqL K H a (ns.map V.int)) (hn : 1 ≤ N.length) : EnvOk K ⟨G, H⟩ (envS ns N.length) (L2.start N [.ref a]) G H := by
  have get : ∀ (i : Nat) (x : LV), (envS ns N.length)[i]? = some x → (i = 0 ∧ x = .scr ns) ∨ x = .un := fun i x e => by
    cases i with
    | zero => exact .inl ⟨rfl, (Option.some.inj e).symm⟩
    | succ i =>
      have e' : (List.replicate (N.length - 1) LV.un)[i]? = some x := e
      have := (List.getElem?_eq_some_iff.mp e').2
      rw [List.getElem_replicate] at this
      exact .inr this.symm
  refine ⟨?_, Ex.refl G, Ex.refl H, gh, fun _ _ q => .inl q, fun i x e => ?_, fun i j x y m ex ey ox oy sx sy => ?_⟩
  · unfold L2.start envS
    simp
  · rcases get i x e with ⟨rfl, rfl⟩ | rfl
    · exact ⟨a, rfl, h⟩
    · trivial
  · rcases get i x ex with ⟨_, rfl⟩ | rfl <;> cases ox
theorem fn_okS {x' qual : Str} {fa : Addr} {fd : FuncData} (F : Fun K x' qual st fa fd) {y : Str} (S : FnScope N [y] (defScope st)) {Fm : List Int → Option D} {xb : XF}
    (hn : 1 ≤ N.length) (hx : ∀ ns r, Fm ns = some r → Ret (xb (envS ns N.length)) r)
    (body : ∀ (cdv : Value) (A : Around) (outer : List PySem.Env) (s : Shared) (H : Hp) (E : XK), Room k (A.deeper (envOfC qual (defScope st) s.heap.objs.size fa cdv)) →
      ∃ t, PSs (cxOf CX0 P w K mg base N qual (defScope st) fa cdv A outer s H E).nox (defBody st) t ∧ SS K xb t) : FnOk P w K mg base CX0 (k + 1) fa fd [y] (spS K Fm) := by
  refine F.ok S (fun vs H Q E h => ?_) (fun cdv A outer s H vs Q E hr h => ?_)
  · obtain ⟨G, a, ns, r, _, rfl, _⟩ := h
    rfl
  · obtain ⟨G, a, ns, r, gh, rfl, hs, e, q⟩ := h
    obtain ⟨t, pt, ss⟩ := body cdv A outer s H E hr
    refine ⟨t, pt, ?_⟩
    have E0' := env_startS (N := N) gh hs hn
    have fin : ∀ v G' H', WOk ⟨G, H⟩ G' H' → Rep K G' v r → Q v H' := fun v G' H' w rr => q v G' H' ⟨w.g0, w.h0, w.gh, w.nw⟩ rr
    rcases hx ns r e with h1 | ⟨rfl, ρ, h1⟩
    · exact ss _ _ _ _ _ E0' _ h1 _ fin
    · exact ss _ _ _ _ _ E0' _ h1 _ fun σ' G' H' E' => fin .non G' H' E'.w .non
theorem Cal.mkS {y : Str} {Fm : List Int → Option D} {xb : XF} (h : DefAt K mg x st) (S : FnScope N [y] (defScope st))
    (hbind : ∀ (kV doc pm : Value) (an : Option Addr) (cdv ct : Value) (us : List Value), us.length = [y].length → bindArgs (PySem.W.fnOf x x (defArgs st) (defBody st) (defScope st) .none kV doc pm an cdv ct) ⟨us, []⟩ = pure ([y].zip us))
    (hn : 1 ≤ N.length) (hx : ∀ ns r, Fm ns = some r → Ret (xb (envS ns N.length)) r)
    (body : ∀ (fa : Addr) (cdv : Value) (A : Around) (outer : List PySem.Env) (s : Shared) (H : Hp) (E : XK), Room k (A.deeper (envOfC x (defScope st) s.heap.objs.size fa cdv)) →
      ∃ t, PSs (cxOf CX0 P w K mg base N x (defScope st) fa cdv A outer s H E).nox (defBody st) t ∧ SS K xb t) : Cal P w K mg base x (k + 1) [y] (spS K Fm) := by
  obtain ⟨f, fd, F, m⟩ := h
  exact ⟨f, fd, fn_okS F S hn hx (body f), m, F.kp, F.binds hbind⟩
/-- a def of the script called on the script -/
def eScr (i : Nat) (F : List Int → Option D) : EvF := fun ρ => match ρ[i]? with
  | some (.scr ns) => F ns
  | _ => none
theorem SE.callS {i : Nat} {F : List Int → Option D} : SE K (eScr i F) (tCall (spS K F) [] E0 (tCons (tVar i) tNil)) := fun B ρ σ G H E d e Q q => by
  unfold eScr at e
  split at e
  · rename_i ns p
    obtain ⟨a, sa, hs⟩ := scr_at E p
    exact ⟨.ref a, sa, G, a, ns, d, E.gh, rfl, hs, e, fun v G' H' w r => q v G' H' w r⟩
  · cases e
end
/-! ### x += n -/
def dAddI := dI fun i j => .int (i + j)
theorem od_addI {K : PySem.W.Frag} : OpD K dAddI (rI0 fun i j => .int (i + j)) := fun G H v u x y z gh a b e Q q => by
  obtain ⟨i, j, rfl, rfl, rfl⟩ := dI_some e
  exact ⟨i, j, a.int, b.int, q _ G H (Wle.refl gh) (.int _)⟩
/-! ### typed data -/
class Enc (α : Type) where
  enc : α → D
  inj : ∀ a b : α, enc a = enc b → a = b
open Enc (enc)
instance : Enc Int := ⟨D.int, fun _ _ h => by cases h; rfl⟩
instance : Enc Bool := ⟨D.bl, fun _ _ h => by cases h; rfl⟩
instance : Enc Str := ⟨D.str, fun _ _ h => by cases h; rfl⟩
instance : Enc Unit := ⟨fun _ => .non, fun _ _ _ => rfl⟩
theorem map_inj {α β : Type} {f : α → β} (h : ∀ a b, f a = f b → a = b) : ∀ {xs ys : List α}, xs.map f = ys.map f → xs = ys
  | [], [], _ => rfl
  | [], _ :: _, e => by cases e
  | _ :: _, [], e => by cases e
  | x :: xs, y :: ys, e => by
    rw [List.map_cons, List.map_cons] at e
    injection e with e1 e2
    rw [h _ _ e1, map_inj h e2]
instance {α : Type} [Enc α] : Enc (List α) := ⟨fun xs => .lst (xs.map enc), fun a b h => by
  injection h with h
  exact map_inj Enc.inj h⟩
instance {α β : Type} [Enc α] [Enc β] : Enc (α × β) := ⟨fun p => .tup [enc p.1, enc p.2], fun a b h => by
  injection h with h
  injection h with h1 h2
  injection h2 with h2 _
  exact Prod.ext (Enc.inj _ _ h1) (Enc.inj _ _ h2)⟩
/-- three in a tuple -/
structure T3 (α β γ : Type) where
  a : α
  b : β
  c : γ
deriving DecidableEq
instance {α β γ : Type} [Enc α] [Enc β] [Enc γ] : Enc (T3 α β γ) := ⟨fun p => .tup [enc p.a, enc p.b, enc p.c], fun a b h => by
  injection h with h
  injection h with h1 h2
  injection h2 with h2 h3
  injection h3 with h3 _
  cases a
  cases b
  exact congr (congr (congrArg T3.mk (Enc.inj _ _ h1)) (Enc.inj _ _ h2)) (Enc.inj _ _ h3)⟩
section
variable {α β γ δ ε ζ : Type} [Enc α] [Enc β] [Enc γ] [Enc δ] [Enc ε]
open Classical in
/-- a def's value by typed arguments -/
noncomputable def fn1 (pre : α → Prop) (m : α → D) : List D → Option D := fun ds => if h : ∃ a, ds = [enc a] ∧ pre a then some (m h.choose) else none
open Classical in
noncomputable def fn2 (pre : α → β → Prop) (m : α → β → D) : List D → Option D := fun ds => if h : ∃ p : α × β, ds = [enc p.1, enc p.2] ∧ pre p.1 p.2 then some (m h.choose.1 h.choose.2) else none
open Classical in
noncomputable def fn3 (pre : α → β → γ → Prop) (m : α → β → γ → D) : List D → Option D := fun ds => if h : ∃ p : α × β × γ, ds = [enc p.1, enc p.2.1, enc p.2.2] ∧ pre p.1 p.2.1 p.2.2 then some (m h.choose.1 h.choose.2.1 h.choose.2.2) else none
open Classical in
noncomputable def fn4 (pre : α → β → γ → δ → Prop) (m : α → β → γ → δ → D) : List D → Option D := fun ds => if h : ∃ p : α × β × γ × δ, ds = [enc p.1, enc p.2.1, enc p.2.2.1, enc p.2.2.2] ∧ pre p.1 p.2.1 p.2.2.1 p.2.2.2 then some (m h.choose.1 h.choose.2.1 h.choose.2.2.1 h.choose.2.2.2) else none
theorem fn1_ev {pre : α → Prop} {m : α → D} {a : α} (h : pre a) : fn1 pre m [enc a] = some (m a) := by
  unfold fn1
  have e : ∃ b, [enc a] = [enc b] ∧ pre b := ⟨a, rfl, h⟩
  rw [dif_pos e]
  have := e.choose_spec.1
  injection this with h1 _
  rw [← Enc.inj _ _ h1]
theorem fn1_el {pre : α → Prop} {m : α → D} {ds : List D} {r : D} (e : fn1 pre m ds = some r) : ∃ a, ds = [enc a] ∧ pre a ∧ r = m a := by
  unfold fn1 at e
  split at e
  · rename_i h
    cases e
    exact ⟨_, h.choose_spec.1, h.choose_spec.2, rfl⟩
  · cases e
theorem fn2_ev {pre : α → β → Prop} {m : α → β → D} {a : α} {b : β} (h : pre a b) : fn2 pre m [enc a, enc b] = some (m a b) := by
  unfold fn2
  have e : ∃ p : α × β, [enc a, enc b] = [enc p.1, enc p.2] ∧ pre p.1 p.2 := ⟨(a, b), rfl, h⟩
  rw [dif_pos e]
  have := e.choose_spec.1
  injection this with h1 h2
  injection h2 with h2 _
  rw [← Enc.inj _ _ h1, ← Enc.inj _ _ h2]
theorem fn2_el {pre : α → β → Prop} {m : α → β → D} {ds : List D} {r : D} (e : fn2 pre m ds = some r) : ∃ a b, ds = [enc a, enc b] ∧ pre a b ∧ r = m a b := by
  unfold fn2 at e
  split at e
  · rename_i h
    cases e
    exact ⟨_, _, h.choose_spec.1, h.choose_spec.2, rfl⟩
  · cases e
theorem fn3_ev {pre : α → β → γ → Prop} {m : α → β → γ → D} {a : α} {b : β} {c : γ} (h : pre a b c) : fn3 pre m [enc a, enc b, enc c] = some (m a b c) := by
  unfold fn3
  have e : ∃ p : α × β × γ, [enc a, enc b, enc c] = [enc p.1, enc p.2.1, enc p.2.2] ∧ pre p.1 p.2.1 p.2.2 := ⟨(a, b, c), rfl, h⟩
  rw [dif_pos e]
  have := e.choose_spec.1
  injection this with h1 h2
  injection h2 with h2 h3
  injection h3 with h3 _
  rw [← Enc.inj _ _ h1, ← Enc.inj _ _ h2, ← Enc.inj _ _ h3]
theorem fn3_el {pre : α → β → γ → Prop} {m : α → β → γ → D} {ds : List D} {r : D} (e : fn3 pre m ds = some r) : ∃ a b c, ds = [enc a, enc b, enc c] ∧ pre a b c ∧ r = m a b c := by
  unfold fn3 at e
  split at e
  · rename_i h
    cases e
    exact ⟨_, _, _, h.choose_spec.1, h.choose_spec.2, rfl⟩
  · cases e
theorem fn4_ev {pre : α → β → γ → δ → Prop} {m : α → β → γ → δ → D} {a : α} {b : β} {c : γ} {d : δ} (h : pre a b c d) : fn4 pre m [enc a, enc b, enc c, enc d] = some (m a b c d) := by
  unfold fn4
  have e : ∃ p : α × β × γ × δ, [enc a, enc b, enc c, enc d] = [enc p.1, enc p.2.1, enc p.2.2.1, enc p.2.2.2] ∧ pre p.1 p.2.1 p.2.2.1 p.2.2.2 := ⟨(a, b, c, d), rfl, h⟩
  rw [dif_pos e]
  have := e.choose_spec.1
  injection this with h1 h2
  injection h2 with h2 h3
  injection h3 with h3 h4
  injection h4 with h4 _
  rw [← Enc.inj _ _ h1, ← Enc.inj _ _ h2, ← Enc.inj _ _ h3, ← Enc.inj _ _ h4]
theorem fn4_el {pre : α → β → γ → δ → Prop} {m : α → β → γ → δ → D} {ds : List D} {r : D} (e : fn4 pre m ds = some r) : ∃ a b c d, ds = [enc a, enc b, enc c, enc d] ∧ pre a b c d ∧ r = m a b c d := by
  unfold fn4 at e
  split at e
  · rename_i h
    cases e
    exact ⟨_, _, _, _, h.choose_spec.1, h.choose_spec.2, rfl⟩
  · cases e
end
end DL

/-! DL8: how evaluators come out on typed data. -/
namespace DL
open PySem PySem.Spec PyProof.Rows L2
open Evl (Ex)
open Enc (enc)
theorem nr {α : Type} {a b : α} (h : a = b) : a = b := h
/-! ### gcd -/
def dGcd : List D → Option D
  | [.int i, .int j] => some (.int ((Nat.gcd i.natAbs j.natAbs : Nat) : Int))
  | _ => none
theorem cd_gcd {K : PySem.W.Frag} : CallD K dGcd rGcd := fun G H bs vs ds z gh a e Q q => by
  unfold dGcd at e
  split at e
  · cases e
    obtain ⟨v, u, rfl, r1, r2⟩ := a.two
    exact ⟨_, _, by rw [r1.int, r2.int], q _ G H (Wle.refl gh) (.int _)⟩
  · cases e
/-! ### equality of typed data -/
class Nice (α : Type) [Enc α] where
  dep : Nat
  ok : ∀ (a : α) (m : Nat), dep ≤ m → D.ok m (enc a) = true
  eqv : ∀ a b : α, D.eqv (enc a) (enc b) = true ↔ a = b
instance : Nice Int := ⟨0, fun a m _ => by cases m <;> rfl, fun a b => by
  show (decide (a = b)) = true ↔ a = b
  exact decide_eq_true_iff⟩
instance : Nice Bool := ⟨0, fun a m _ => by cases m <;> rfl, fun a b => by
  cases a <;> cases b <;> decide⟩
theorem eqvAll_map {α : Type} [Enc α] [Nice α] : ∀ xs ys : List α, PyData.eqvAll (D.toPys (xs.map enc)) (D.toPys (ys.map enc)) = true ↔ xs = ys
  | [], [] => ⟨fun _ => rfl, fun _ => rfl⟩
  | [], y :: ys => ⟨fun h => Bool.noConfusion (show false = true from h), fun h => nomatch h⟩
  | x :: xs, [] => ⟨fun h => Bool.noConfusion (show false = true from h), fun h => nomatch h⟩
  | x :: xs, y :: ys => by
    rw [List.map_cons, List.map_cons, D.toPys, D.toPys, PyData.eqvAll, Bool.and_eq_true, eqvAll_map xs ys]
    have := Nice.eqv x y
    unfold D.eqv at this
    rw [this]
    constructor
    · rintro ⟨rfl, rfl⟩; rfl
    · intro h; injection h with a b; exact ⟨a, b⟩
instance {α : Type} [Enc α] [Nice α] : Nice (List α) := ⟨Nice.dep α + 1, fun xs m h => by
  cases m with
  | zero => omega
  | succ m =>
    show (xs.map enc).all (D.ok m) = true
    rw [List.all_eq_true]
    intro d hd
    obtain ⟨a, _, rfl⟩ := List.mem_map.mp hd
    exact Nice.ok a m (by omega), fun a b => by
  show PyData.eqv (.list (D.toPys (a.map enc))) (.list (D.toPys (b.map enc))) = true ↔ a = b
  rw [PyData.eqv]
  exact eqvAll_map a b⟩
instance {α β : Type} [Enc α] [Enc β] [Nice α] [Nice β] : Nice (α × β) := ⟨max (Nice.dep α) (Nice.dep β) + 1, fun p m h => by
  cases m with
  | zero => omega
  | succ m =>
    show [enc p.1, enc p.2].all (D.ok m) = true
    rw [List.all_cons, List.all_cons, Nice.ok p.1 m (by omega), Nice.ok p.2 m (by omega)]
    rfl, fun a b => by
  show PyData.eqv (.tuple (D.toPys [enc a.1, enc a.2])) (.tuple (D.toPys [enc b.1, enc b.2])) = true ↔ a = b
  rw [PyData.eqv]
  have h1 := Nice.eqv a.1 b.1
  have h2 := Nice.eqv a.2 b.2
  unfold D.eqv at h1 h2
  rw [D.toPys, D.toPys, D.toPys, D.toPys, D.toPys, D.toPys, PyData.eqvAll, PyData.eqvAll, PyData.eqvAll, Bool.and_eq_true, Bool.and_eq_true, h1, h2]
  constructor
  · rintro ⟨x, y, _⟩; exact Prod.ext x y
  · rintro rfl; exact ⟨rfl, rfl, rfl⟩⟩
theorem eqv_dec {α : Type} [Enc α] [Nice α] [DecidableEq α] (a b : α) : D.eqv (enc a) (enc b) = decide (a = b) := by
  by_cases h : a = b
  · rw [decide_eq_true h]; exact (Nice.eqv a b).mpr h
  · rw [decide_eq_false h]
    cases q : D.eqv (enc a) (enc b) with
    | false => rfl
    | true => exact absurd ((Nice.eqv a b).mp q) h
theorem dEq_enc {α : Type} [Enc α] [Nice α] [DecidableEq α] (h : Nice.dep α ≤ 60) (a b : α) : dEq (enc a) (enc b) = some (.bl (decide (a = b))) := by
  unfold dEq
  rw [Nice.ok a 60 h, Nice.ok b 60 h, eqv_dec]
  rfl
theorem dNe_enc {α : Type} [Enc α] [Nice α] [DecidableEq α] (h : Nice.dep α ≤ 60) (a b : α) : dNe (enc a) (enc b) = some (.bl (!decide (a = b))) := by
  unfold dNe
  rw [Nice.ok a 60 h, Nice.ok b 60 h, eqv_dec]
  rfl
theorem dEq_int (a b : Int) : dEq (.int a) (.int b) = some (.bl (decide (a = b))) := dEq_enc (by decide) a b
theorem dNe_int (a b : Int) : dNe (.int a) (.int b) = some (.bl (!decide (a = b))) := dNe_enc (by decide) a b
theorem dEq_bl (a b : Bool) : dEq (.bl a) (.bl b) = some (.bl (decide (a = b))) := dEq_enc (by decide) a b
theorem dNe_bl (a b : Bool) : dNe (.bl a) (.bl b) = some (.bl (!decide (a = b))) := dNe_enc (by decide) a b
/-! ### ints -/
theorem cMul_l {i j : Int} (h : -(2 ^ 64) < i ∧ i < 2 ^ 64) : cMul i j = true := decide_eq_true (.inl h)
theorem cMul_r {i j : Int} (h : -(2 ^ 64) < j ∧ j < 2 ^ 64) : cMul i j = true := decide_eq_true (.inr h)
theorem dMul_l {i j : Int} (h : -18446744073709551616 < i ∧ i < 18446744073709551616) : dMul (.int i) (.int j) = some (.int (i * j)) := by
  unfold dMul
  exact if_pos (cMul_l h)
theorem dMul_r {i j : Int} (h : -18446744073709551616 < j ∧ j < 18446744073709551616) : dMul (.int i) (.int j) = some (.int (i * j)) := by
  unfold dMul
  exact if_pos (cMul_r h)
theorem dDiv_i {i j : Int} (h : 0 < j ∧ j < 1073741824) : dDiv (.int i) (.int j) = some (.int (i / j)) := if_pos (decide_eq_true h)
theorem dMod_i {i j : Int} (h : 0 < j) : dMod (.int i) (.int j) = some (.int (i % j)) := if_pos (decide_eq_true h)
theorem dSub_i (i j : Int) : dSub (.int i) (.int j) = some (.int (i - j)) := nr rfl
theorem dAdd_i (i j : Int) : dAdd (.int i) (.int j) = some (.int (i + j)) := nr rfl
theorem dAddI_i (i j : Int) : dAddI (.int i) (.int j) = some (.int (i + j)) := nr rfl
theorem dNeg_i (i : Int) : dNeg (.int i) = some (.int (-i)) := nr rfl
theorem dLt_i (i j : Int) : dLt (.int i) (.int j) = some (.bl (decide (i < j))) := nr rfl
theorem dLe_i (i j : Int) : dLe (.int i) (.int j) = some (.bl (decide (i ≤ j))) := nr rfl
theorem dGt_i (i j : Int) : dGt (.int i) (.int j) = some (.bl (decide (j < i))) := nr rfl
theorem dGe_i (i j : Int) : dGe (.int i) (.int j) = some (.bl (decide (j ≤ i))) := nr rfl
theorem dInt_i (i : Int) : dInt [.int i] = some (.int i) := nr rfl
theorem dInt_b (i : Bool) : dInt [.bl i] = some (.int (if i then 1 else 0)) := nr rfl
theorem dAbs_i (i : Int) : dAbs [.int i] = some (.int (if i < 0 then -i else i)) := nr rfl
theorem dMin_i (i j : Int) : dMin [.int i, .int j] = some (.int (if j < i then j else i)) := nr rfl
theorem dMax_i (i j : Int) : dMax [.int i, .int j] = some (.int (if i < j then j else i)) := nr rfl
theorem dGcd_i (i j : Int) : dGcd [.int i, .int j] = some (.int ((Nat.gcd i.natAbs j.natAbs : Nat) : Int)) := nr rfl
/-! ### pairs and lists -/
theorem enc_int (i : Int) : enc i = D.int i := nr rfl
theorem enc_bool (i : Bool) : enc i = D.bl i := nr rfl
section
variable {α β γ : Type} [Enc α] [Enc β] [Enc γ]
theorem tup_ii (a b : Int) : D.tup [.int a, .int b] = enc (a, b) := nr rfl
theorem tup_ee (a : α) (b : β) : D.tup [enc a, enc b] = enc (a, b) := nr rfl
theorem tup_ei (a : α) (b : Int) : D.tup [enc a, .int b] = enc (a, b) := nr rfl
theorem tup_ie (a : Int) (b : β) : D.tup [.int a, enc b] = enc (a, b) := nr rfl
theorem fold_list (xs : List α) : D.lst (xs.map enc) = enc xs := nr rfl
theorem fold_listF (xs : List α) : D.lst (xs.map fun a => enc a) = enc xs := nr rfl
theorem lst1 (a : α) : D.lst [enc a] = enc [a] := nr rfl
theorem lst2 (a b : α) : D.lst [enc a, enc b] = enc [a, b] := nr rfl
theorem lst1i (a : Int) : D.lst [.int a] = enc [a] := nr rfl
theorem lst2i (a b : Int) : D.lst [.int a, .int b] = enc [a, b] := nr rfl
theorem dAt_p0 (p : α × β) : dAt (enc p) (.int 0) = some (enc p.1) := nr rfl
theorem dAt_p1 (p : α × β) : dAt (enc p) (.int 1) = some (enc p.2) := nr rfl
theorem ixN_of {n : Nat} {i : Int} (h : 0 ≤ i ∧ i < n) : ixN n i = some i.toNat := by
  unfold ixN
  rw [if_pos h.1, if_pos h.2]
theorem ixN_neg {n : Nat} {i : Int} (h : -n ≤ i ∧ i < 0) : ixN n i = some (i + n).toNat := by
  unfold ixN
  rw [if_neg (by omega), if_pos h.1]
theorem getD_map [Inhabited α] (xs : List α) (k : Nat) (h : k < xs.length) : (xs.map enc)[k]? = some (enc (xs.getD k default)) := by
  rw [List.getElem?_map, List.getD_eq_getElem?_getD, List.getElem?_eq_getElem h]
  rfl
theorem dAt_l [Inhabited α] (xs : List α) (i : Int) (h : 0 ≤ i ∧ i < xs.length) : dAt (enc xs) (.int i) = some (enc (xs.getD i.toNat default)) := by
  show atI (xs.map enc) i = _
  unfold atI
  rw [List.length_map, ixN_of h]
  exact getD_map xs _ (by omega)
theorem dAt_neg [Inhabited α] (xs : List α) (i : Int) (h : -xs.length ≤ i ∧ i < 0) : dAt (enc xs) (.int i) = some (enc (xs.getD (i + xs.length).toNat default)) := by
  show atI (xs.map enc) i = _
  unfold atI
  rw [List.length_map, ixN_neg h]
  exact getD_map xs _ (by omega)
theorem dLen_l (xs : List α) : dLen [enc xs] = some (.int (xs.length : Nat)) := by
  show some (D.int ((xs.map enc).length : Nat)) = _
  rw [List.length_map]
theorem dSum_l (xs : List Int) : dSum [enc xs] = some (.int xs.sum) := by
  show (match intsOf (xs.map D.int) with | some ns => some (D.int ns.sum) | none => none) = _
  rw [intsOf_map]
theorem dAll_l (xs : List Bool) : dAll [enc xs] = some (.bl (xs.all id)) := by
  show (match blsOf (xs.map D.bl) with | some ns => some (D.bl (ns.all id)) | none => none) = _
  rw [blsOf_map]
theorem dAny_l (xs : List Bool) : dAny [enc xs] = some (.bl (xs.any id)) := by
  show (match blsOf (xs.map D.bl) with | some ns => some (D.bl (ns.any id)) | none => none) = _
  rw [blsOf_map]
theorem dAdd_l (xs ys : List α) (h : xs.length + ys.length ≤ 100000) : dAdd (enc xs) (enc ys) = some (enc (xs ++ ys)) := by
  show (if (xs.map enc).length + (ys.map enc).length ≤ 100000 then some (D.lst (xs.map enc ++ ys.map enc)) else none) = _
  rw [if_pos (by simpa using h), ← List.map_append]
  rfl
theorem dCat_l (xs ys : List α) (h : xs.length + ys.length ≤ 100000) : dCat (enc xs) (enc ys) = some (enc (xs ++ ys)) := dAdd_l xs ys h
theorem dMulL (xs : List α) (k : Int) (h : 0 ≤ k ∧ k < 1000000 ∧ xs.length * k.toNat ≤ 100000) : dMul (enc xs) (.int k) = some (enc (List.replicate k.toNat xs).flatten) := by
  show (if -(2 ^ 63) ≤ k ∧ k < 2 ^ 63 ∧ (xs.map enc).length * k.toNat ≤ 100000 then some (D.lst (List.replicate k.toNat (xs.map enc)).flatten) else none) = _
  rw [if_pos ⟨by omega, by omega, by rw [List.length_map]; exact h.2.2⟩]
  congr 1
  show _ = D.lst ((List.replicate k.toNat xs).flatten.map enc)
  rw [List.map_flatten, List.map_replicate]
/-! ### what is walked -/
def seqOf : Option D → Option (List D)
  | some (.lst ds) => some ds
  | some (.tup ds) => some ds
  | some (.wt ds) => some ds
  | _ => none
theorem iSq_eq (f : EvF) (ρ : Env) : iSq f ρ = seqOf (f ρ) := nr rfl
theorem seqOf_l (xs : List α) : seqOf (some (enc xs)) = some (xs.map enc) := nr rfl
theorem seqOf_p (p : α × α) : seqOf (some (enc p)) = some ([p.1, p.2].map enc) := nr rfl
def rngI (lo : Int) (n : Nat) : List Int := (List.range n).map fun i => lo + (i : Nat)
theorem rng_eq (lo : Int) (n : Nat) : rng lo n = (rngI lo n).map enc := by
  unfold rng rngI
  rw [List.map_map]
  rfl
theorem mem_rngI {lo : Int} {n : Nat} {x : Int} : x ∈ rngI lo n ↔ lo ≤ x ∧ x < lo + n := by
  unfold rngI
  rw [List.mem_map]
  constructor
  · rintro ⟨i, hi, rfl⟩
    have := List.mem_range.mp hi
    omega
  · rintro ⟨a, b⟩
    exact ⟨(x - lo).toNat, List.mem_range.mpr (by omega), by omega⟩
theorem rngI_length (lo : Int) (n : Nat) : (rngI lo n).length = n := by simp [rngI]
theorem iR1_i (f : Env → Option (List D)) (ρ : Env) (j : Int) (e : f ρ = some [.int j]) (h : -4611686018427387904 ≤ j ∧ j < 4611686018427387904) : iR1 f ρ = some ((rngI 0 j.toNat).map enc) := by
  unfold iR1
  rw [e, ← rng_eq]
  exact if_pos ⟨by omega, by omega⟩
def r1Of : Option (List D) → Option (List D)
  | some [.int j] => if j < 2 ^ 62 ∧ -(2 ^ 62) ≤ j then some (rng 0 j.toNat) else none
  | _ => none
def r2Of : Option (List D) → Option (List D)
  | some [.int i, .int j] => if -(2 ^ 62) ≤ i ∧ i < 2 ^ 62 ∧ -(2 ^ 62) ≤ j ∧ j < 2 ^ 62 then some (rng i (j - i).toNat) else none
  | _ => none
theorem iR1_eq (f : Env → Option (List D)) (ρ : Env) : iR1 f ρ = r1Of (f ρ) := nr rfl
theorem iR2_eq (f : Env → Option (List D)) (ρ : Env) : iR2 f ρ = r2Of (f ρ) := nr rfl
theorem r1Of_i (j : Int) (h : -4611686018427387904 ≤ j ∧ j < 4611686018427387904) : r1Of (some [.int j]) = some ((rngI 0 j.toNat).map enc) := by
  rw [← rng_eq]
  exact if_pos ⟨by omega, by omega⟩
theorem r2Of_i (i j : Int) (h : -4611686018427387904 ≤ i ∧ i < 4611686018427387904 ∧ -4611686018427387904 ≤ j ∧ j < 4611686018427387904) : r2Of (some [.int i, .int j]) = some ((rngI i (j - i).toNat).map enc) := by
  rw [← rng_eq]
  exact if_pos ⟨by omega, by omega, by omega, by omega⟩
def enI (xs : List α) : List (Int × α) := xs.mapIdx fun i a => ((i : Nat), a)
def enOf : Option (List D) → Option (List D)
  | some [.lst ds] => some (enumD ds)
  | _ => none
theorem iEn_eq (f : Env → Option (List D)) (ρ : Env) : iEn f ρ = enOf (f ρ) := nr rfl
theorem enOf_l (xs : List α) : enOf (some [enc xs]) = some ((enI xs).map enc) := by
  show some (enumD (xs.map enc)) = _
  unfold enumD enI
  congr 1
  apply List.ext_getElem?
  intro i
  rw [List.getElem?_mapIdx, List.getElem?_map, List.getElem?_map, List.getElem?_mapIdx]
  cases xs[i]? <;> rfl
theorem mem_enI {xs : List α} {p : Int × α} (h : p ∈ enI xs) : p.2 ∈ xs ∧ 0 ≤ p.1 ∧ p.1 < xs.length ∧ xs[p.1.toNat]? = some p.2 := by
  unfold enI at h
  obtain ⟨i, hi, rfl⟩ := List.mem_mapIdx.mp h
  exact ⟨List.getElem_mem _, Int.natCast_nonneg i, by omega, by simp⟩
/-! ### slices -/
def slOf : Option D → Option (Option Int) → Option (Option Int) → Option D
  | some (.lst ds), some l, some h => some (.lst (cutD ds l h))
  | some (.str z), some l, some h => if z.length ≤ 100000 then some (.str (cutS z l h)) else none
  | some (.tup ds), some l, some h => if HT.sIx ds.length 0 l = 0 ∧ HT.sIx ds.length ds.length h = ds.length then none else some (.tup (cutD ds l h))
  | _, _, _ => none
theorem eSl_eq (f : EvF) (lo hi : OvF) (ρ : Env) : eSl f lo hi ρ = slOf (f ρ) (lo ρ) (hi ρ) := nr rfl
theorem cutD_map (xs : List α) (lo hi : Option Int) : cutD (xs.map enc) lo hi = (cutD xs lo hi).map enc := by
  unfold cutD
  rw [List.length_map, List.map_take, List.map_drop]
theorem slOf_l (xs : List α) (lo hi : Option Int) : slOf (some (enc xs)) (some lo) (some hi) = some (enc (cutD xs lo hi)) := by
  show some (D.lst (cutD (xs.map enc) lo hi)) = _
  rw [cutD_map]
  rfl
theorem cut_from (xs : List α) (i : Int) (h : 0 ≤ i) : cutD xs (some i) none = xs.drop i.toNat := by
  have e1 : HT.sIx xs.length 0 (some i) = min i.toNat xs.length := by
    unfold HT.sIx; simp; omega
  have e2 : HT.sIx xs.length xs.length none = xs.length := by
    unfold HT.sIx; simp
  unfold cutD
  rw [e1, e2]
  by_cases c : i.toNat ≤ xs.length
  · rw [Nat.min_eq_left c, List.take_of_length_le (by rw [List.length_drop]; exact Nat.le_refl _)]
  · rw [Nat.min_eq_right (by omega), List.drop_length, List.take_nil, List.drop_eq_nil_of_le (by omega)]
theorem cut_to (xs : List α) (i : Int) (h : 0 ≤ i) : cutD xs none (some i) = xs.take i.toNat := by
  have e1 : HT.sIx xs.length 0 none = 0 := by
    unfold HT.sIx; simp
  have e2 : HT.sIx xs.length xs.length (some i) = min i.toNat xs.length := by
    unfold HT.sIx; simp; omega
  unfold cutD
  rw [e1, e2, List.drop_zero, Nat.sub_zero]
  by_cases c : i.toNat ≤ xs.length
  · rw [Nat.min_eq_left c]
  · rw [Nat.min_eq_right (by omega), List.take_length, List.take_of_length_le (by omega)]
theorem cut_both (xs : List α) (i j : Int) (h : 0 ≤ i ∧ 0 ≤ j) : cutD xs (some i) (some j) = (xs.take j.toNat).drop i.toNat := by
  have e1 : HT.sIx xs.length 0 (some i) = min i.toNat xs.length := by
    unfold HT.sIx; simp; omega
  have e2 : HT.sIx xs.length xs.length (some j) = min j.toNat xs.length := by
    unfold HT.sIx; simp; omega
  unfold cutD
  rw [e1, e2]
  rw [List.drop_take]
  by_cases c : i.toNat ≤ xs.length
  · rw [Nat.min_eq_left c]
    by_cases c2 : j.toNat ≤ xs.length
    · rw [Nat.min_eq_left c2]
    · rw [Nat.min_eq_right (by omega), List.take_of_length_le (by rw [List.length_drop]; exact Nat.le_refl _), List.take_of_length_le (by rw [List.length_drop]; omega)]
  · rw [Nat.min_eq_right (a := i.toNat) (by omega), List.drop_length, List.take_nil, List.drop_eq_nil_of_le (by omega), List.take_nil]
/-! ### comprehensions and loops -/
theorem compL_map {f : α → β} {st : D → Option (Option D)} : ∀ {xs : List α}, (∀ a ∈ xs, st (enc a) = some (some (enc (f a)))) → compL st (xs.map enc) = some ((xs.map f).map enc)
  | [], _ => rfl
  | x :: xs, h => by
    rw [List.map_cons, compL, h x (List.mem_cons_self ..), compL_map fun a ha => h a (List.mem_cons_of_mem _ ha)]
    rfl
theorem compL_filt {p : α → Bool} {f : α → β} {st : D → Option (Option D)} : ∀ {xs : List α}, (∀ a ∈ xs, st (enc a) = some (if p a = true then some (enc (f a)) else none)) → compL st (xs.map enc) = some (((xs.filter p).map f).map enc)
  | [], _ => rfl
  | x :: xs, h => by
    rw [List.map_cons, compL, h x (List.mem_cons_self ..), compL_filt fun a ha => h a (List.mem_cons_of_mem _ ha)]
    by_cases c : p x = true
    · rw [if_pos c, List.filter_cons_of_pos c]; rfl
    · rw [if_neg c, List.filter_cons_of_neg c]
theorem compM_flat {f : α → List β} {st : D → Option (List D)} : ∀ {xs : List α}, (∀ a ∈ xs, st (enc a) = some ((f a).map enc)) → compM st (xs.map enc) = some ((xs.flatMap f).map enc)
  | [], _ => rfl
  | x :: xs, h => by
    rw [List.map_cons, compM, h x (List.mem_cons_self ..), compM_flat fun a ha => h a (List.mem_cons_of_mem _ ha), List.flatMap_cons, List.map_append]
end
/-- one turn of a loop -/
def turnF (js : List Nat) (body : XF) (g : GvF) (d : D) (ρ : Env) : Option Out := match g d ρ with
  | none => none
  | some ρ1 => match body ρ1 with
    | some (.nx ρ2) => some (.nx (wipeE ρ2 js))
    | some (.ct ρ2) => some (.nx (wipeE ρ2 js))
    | some (.bk ρ2) => some (.bk (wipeE ρ2 js))
    | some (.rt d) => some (.rt d)
    | none => none
theorem iterF_cons (js : List Nat) (body : XF) (g : GvF) (d : D) (r : List D) (ρ : Env) : iterF js body g (d :: r) ρ = match turnF js body g d ρ with
    | some (.nx ρ2) => iterF js body g r ρ2
    | some (.bk ρ2) => some (.nx ρ2)
    | some (.rt d) => some (.rt d)
    | _ => none := by
  rw [iterF, turnF]
  cases g d ρ with
  | none => rfl
  | some ρ1 =>
    simp only
    cases body ρ1 with
    | none => rfl
    | some o => cases o <;> rfl
theorem iterF_fold {α S : Type} [Enc α] {js : List Nat} {body : XF} {g : GvF} {R : S → Env} {st : S → α → S} {P : S → Prop} : ∀ {xs : List α} {s : S}, P s → (∀ a ∈ xs, ∀ s, P s → turnF js body g (enc a) (R s) = some (.nx (R (st s a))) ∧ P (st s a)) →
    iterF js body g (xs.map enc) (R s) = some (.nx (R (xs.foldl st s))) ∧ P (xs.foldl st s)
  | [], s, hs, _ => ⟨rfl, hs⟩
  | x :: xs, s, hs, h => by
    obtain ⟨e, p⟩ := h x (List.mem_cons_self ..) s hs
    rw [List.map_cons, iterF_cons, e]
    exact iterF_fold p fun a ha => h a (List.mem_cons_of_mem _ ha)
/-- the same with the number of the turn in sight -/
theorem iterF_steps {α S : Type} [Enc α] {js : List Nat} {body : XF} {g : GvF} {R : S → Env} {st : S → α → S} {P : Nat → S → Prop} : ∀ {xs : List α} {n : Nat} {s : S}, P n s → (∀ (i : Nat) a, xs[i]? = some a → ∀ s, P (n + i) s → turnF js body g (enc a) (R s) = some (.nx (R (st s a))) ∧ P (n + i + 1) (st s a)) →
    iterF js body g (xs.map enc) (R s) = some (.nx (R (xs.foldl st s))) ∧ P (n + xs.length) (xs.foldl st s)
  | [], n, s, hs, _ => ⟨rfl, hs⟩
  | x :: xs, n, s, hs, h => by
    obtain ⟨e, p⟩ := h 0 x rfl s hs
    rw [List.map_cons, iterF_cons, e]
    have := iterF_steps (n := n + 1) (xs := xs) p fun i a ha s' hp => by
      have := h (i + 1) a (by simpa using ha) s' (by rw [show n + (i + 1) = n + 1 + i by omega]; exact hp)
      rw [show n + (i + 1) + 1 = n + 1 + i + 1 by omega] at this
      exact this
    refine ⟨this.1, ?_⟩
    have t2 := this.2
    rw [List.foldl_cons, List.length_cons, show n + (xs.length + 1) = n + 1 + xs.length by omega]
    exact t2
/-- a loop that changes nothing, or answers -/
theorem iterF_find {α : Type} [Enc α] {js : List Nat} {body : XF} {g : GvF} {ρ : Env} {p : α → Option D} : ∀ {xs : List α}, (∀ a ∈ xs, turnF js body g (enc a) ρ = some (match p a with | some d => .rt d | none => .nx ρ)) →
    iterF js body g (xs.map enc) ρ = some (match xs.findSome? p with | some d => .rt d | none => .nx ρ)
  | [], _ => rfl
  | x :: xs, h => by
    rw [List.map_cons, iterF_cons, h x (List.mem_cons_self ..), List.findSome?_cons]
    cases p x with
    | none => exact iterF_find fun a ha => h a (List.mem_cons_of_mem _ ha)
    | some d => rfl
theorem iterF_same {α : Type} [Enc α] {js : List Nat} {body : XF} {g : GvF} {ρ : Env} : ∀ {xs : List α}, (∀ a ∈ xs, turnF js body g (enc a) ρ = some (.nx ρ)) → iterF js body g (xs.map enc) ρ = some (.nx ρ)
  | [], _ => rfl
  | x :: xs, h => by
    rw [List.map_cons, iterF_cons, h x (List.mem_cons_self ..)]
    exact iterF_same fun a ha => h a (List.mem_cons_of_mem _ ha)
theorem xSeq_nx {x y : XF} {ρ ρ' : Env} (h : x ρ = some (.nx ρ')) : xSeq x y ρ = y ρ' := by
  unfold xSeq
  rw [h]
theorem xSeq_rt {x y : XF} {ρ : Env} {d : D} (h : x ρ = some (.rt d)) : xSeq x y ρ = some (.rt d) := by
  unfold xSeq
  rw [h]
end DL

namespace DL
open PySem PySem.Spec PyProof.Rows L2
open Enc (enc)
theorem gT_p {α β : Type} [Enc α] [Enc β] (g1 g2 : GvF) (p : α × β) (ρ : Env) : gT (gsCons g1 (gsCons g2 gsNil)) (enc p) ρ = match g1 (enc p.1) ρ with | some ρ1 => g2 (enc p.2) ρ1 | none => none := by
  show gsCons g1 (gsCons g2 gsNil) [enc p.1, enc p.2] ρ = _
  unfold gsCons
  simp only
  cases g1 (enc p.1) ρ with
  | none => rfl
  | some ρ1 =>
    simp only
    cases g2 (enc p.2) ρ1 <;> rfl
def andO : Option D → Option D → Option D
  | some (.bl true), o => o
  | some (.bl false), _ => some (.bl false)
  | _, _ => none
def orO : Option D → Option D → Option D
  | some (.bl true), _ => some (.bl true)
  | some (.bl false), o => o
  | _, _ => none
def qandO : Option Bool → Option Bool → Option Bool
  | some true, o => o
  | some false, _ => some false
  | none, _ => none
def qorO : Option Bool → Option Bool → Option Bool
  | some true, _ => some true
  | some false, o => o
  | none, _ => none
def ifO : Option Bool → Option D → Option D → Option D
  | some true, o, _ => o
  | some false, _, o => o
  | none, _, _ => none
def chO (op op' : D → D → Option D) : Option D → Option D → Option D → Option D
  | some x, some y, h => match op x y with
    | some (.bl true) => (match h with | some z => op' y z | none => none)
    | some (.bl false) => some (.bl false)
    | _ => none
  | _, _, _ => none
theorem eAnd_eq (f g : EvF) (ρ : Env) : eAnd f g ρ = andO (f ρ) (g ρ) := by
  unfold eAnd andO
  cases f ρ with
  | none => rfl
  | some d => cases d <;> first | rfl | (rename_i b; cases b <;> rfl)
theorem eOr_eq (f g : EvF) (ρ : Env) : eOr f g ρ = orO (f ρ) (g ρ) := by
  unfold eOr orO
  cases f ρ with
  | none => rfl
  | some d => cases d <;> first | rfl | (rename_i b; cases b <;> rfl)
theorem qAnd_eq (f g : Env → Option Bool) (ρ : Env) : qAnd f g ρ = qandO (f ρ) (g ρ) := by
  unfold qAnd qandO
  cases f ρ with
  | none => rfl
  | some b => cases b <;> rfl
theorem qOr_eq (f g : Env → Option Bool) (ρ : Env) : qOr f g ρ = qorO (f ρ) (g ρ) := by
  unfold qOr qorO
  cases f ρ with
  | none => rfl
  | some b => cases b <;> rfl
theorem eIf_eq (c : Env → Option Bool) (f g : EvF) (ρ : Env) : eIf c f g ρ = ifO (c ρ) (f ρ) (g ρ) := by
  unfold eIf ifO
  cases c ρ with
  | none => rfl
  | some b => cases b <;> rfl
theorem eChain_eq (op op' : D → D → Option D) (f g h : EvF) (ρ : Env) : eChain op op' f g h ρ = chO op op' (f ρ) (g ρ) (h ρ) := by
  unfold eChain chO
  cases f ρ with
  | none => rfl
  | some x =>
    cases g ρ with
    | none => rfl
    | some y => rfl
theorem andO_bb (a b : Bool) : andO (some (.bl a)) (some (.bl b)) = some (.bl (a && b)) := by cases a <;> rfl
theorem andO_t (o : Option D) : andO (some (.bl true)) o = o := nr rfl
theorem andO_f (o : Option D) : andO (some (.bl false)) o = some (.bl false) := nr rfl
theorem orO_bb (a b : Bool) : orO (some (.bl a)) (some (.bl b)) = some (.bl (a || b)) := by cases a <;> rfl
theorem orO_t (o : Option D) : orO (some (.bl true)) o = some (.bl true) := nr rfl
theorem orO_f (o : Option D) : orO (some (.bl false)) o = o := nr rfl
theorem qandO_bb (a b : Bool) : qandO (some a) (some b) = some (a && b) := by cases a <;> rfl
theorem qandO_t (o : Option Bool) : qandO (some true) o = o := nr rfl
theorem qandO_f (o : Option Bool) : qandO (some false) o = some false := nr rfl
theorem qorO_bb (a b : Bool) : qorO (some a) (some b) = some (a || b) := by cases a <;> rfl
theorem qorO_t (o : Option Bool) : qorO (some true) o = some true := nr rfl
theorem qorO_f (o : Option Bool) : qorO (some false) o = o := nr rfl
theorem ifO_s (a : Bool) (x y : D) : ifO (some a) (some x) (some y) = some (if a = true then x else y) := by cases a <;> rfl
theorem ifO_t (x y : Option D) : ifO (some true) x y = x := nr rfl
theorem ifO_f (x y : Option D) : ifO (some false) x y = y := nr rfl
theorem chO_s (op op' : D → D → Option D) (x y z : D) : chO op op' (some x) (some y) (some z) = andO (op x y) (op' y z) := by
  unfold chO
  simp only
  cases op x y with
  | none => rfl
  | some d => cases d <;> first | rfl | (rename_i b; cases b <;> rfl)
theorem ite_int (c : Prop) [Decidable c] (i j : Int) : (if c then D.int i else D.int j) = D.int (if c then i else j) := by split <;> rfl
theorem ite_bl (c : Prop) [Decidable c] (i j : Bool) : (if c then D.bl i else D.bl j) = D.bl (if c then i else j) := by split <;> rfl
theorem ite_enc {α : Type} [Enc α] (c : Prop) [Decidable c] (i j : α) : (if c then enc i else enc j) = (enc (if c then i else j) : D) := by split <;> rfl
theorem dIsN_non (x : D) : dIsN x .non = some (.bl x.isNon) := nr rfl
theorem dNotN_non (x : D) : dNotN x .non = some (.bl (!x.isNon)) := nr rfl
def seqO : Option Out → XF → Option Out
  | some (.nx ρ), y => y ρ
  | o, _ => o
theorem xSeq_eq (x y : XF) (ρ : Env) : xSeq x y ρ = seqO (x ρ) y := by
  unfold xSeq seqO
  cases x ρ with
  | none => rfl
  | some o => cases o <;> rfl
theorem seqO_nx (ρ : Env) (y : XF) : seqO (some (.nx ρ)) y = y ρ := nr rfl
theorem seqO_rt (d : D) (y : XF) : seqO (some (.rt d)) y = some (.rt d) := nr rfl
theorem seqO_bk (ρ : Env) (y : XF) : seqO (some (.bk ρ)) y = some (.bk ρ) := nr rfl
theorem seqO_ct (ρ : Env) (y : XF) : seqO (some (.ct ρ)) y = some (.ct ρ) := nr rfl
def compO (st : D → Option (Option D)) : Option (List D) → Option D
  | some ds => if ds.length ≤ 100000 then (match compL st ds with | some ys => some (.lst ys) | none => none) else none
  | none => none
theorem eComp_eq (src : IvF) (g : GvF) (c : Env → Option Bool) (h : EvF) (vs : List Nat) (ρ : Env) : eComp src g c h vs ρ = compO (stepC g c h (wipeE ρ vs)) (src ρ) := nr rfl
section
variable {α β : Type} [Enc α] [Enc β]
theorem compO_map {f : α → β} {st : D → Option (Option D)} {xs : List α} (hl : xs.length ≤ 100000) (h : ∀ a ∈ xs, st (enc a) = some (some (enc (f a)))) : compO st (some (xs.map enc)) = some (enc (xs.map f)) := by
  unfold compO
  simp only
  rw [List.length_map, if_pos hl, compL_map h]
  rfl
theorem compO_filt {p : α → Bool} {f : α → β} {st : D → Option (Option D)} {xs : List α} (hl : xs.length ≤ 100000) (h : ∀ a ∈ xs, st (enc a) = some (if p a = true then some (enc (f a)) else none)) : compO st (some (xs.map enc)) = some (enc ((xs.filter p).map f)) := by
  unfold compO
  simp only
  rw [List.length_map, if_pos hl, compL_filt h]
  rfl
def compO2 (st : D → Option (List D)) : Option (List D) → Option D
  | some ds => (match compM st ds with
    | some ys => if ys.length ≤ 100000 then some (.lst ys) else none
    | none => none)
  | none => none
theorem eComp2_eq (src : IvF) (g : GvF) (c : Env → Option Bool) (src1 : IvF) (g1 : GvF) (c1 : Env → Option Bool) (h : EvF) (vs vs1 : List Nat) (ρ : Env) : eComp2 src g c src1 g1 c1 h vs vs1 ρ = compO2 (stepM g c src1 g1 c1 h vs1 (wipeE ρ vs)) (src ρ) := nr rfl
theorem compO2_flat {f : α → List β} {st : D → Option (List D)} {xs : List α} (hl : (xs.flatMap f).length ≤ 100000) (h : ∀ a ∈ xs, st (enc a) = some ((f a).map enc)) : compO2 st (some (xs.map enc)) = some (enc (xs.flatMap f)) := by
  unfold compO2
  simp only
  rw [compM_flat h]
  simp only
  rw [List.length_map, if_pos hl]
  rfl
theorem someite {γ : Type} (c : Prop) [Decidable c] (x y : γ) : (if c then some x else some y) = some (if c then x else y) := by split <;> rfl
end
def appO (i : Nat) (ρ : Env) : Option LV → Option D → Option Out
  | some (.own (.lst ds)), some d => if ds.length < 100000 then some (.nx (ρ.set i (.own (.lst (ds ++ [d]))))) else none
  | _, _ => none
def extO (i : Nat) (ρ : Env) : Option LV → Option D → Option Out
  | some (.own (.lst ds)), some (.lst es) => if ds.length + es.length ≤ 100000 then some (.nx (ρ.set i (.own (.lst (ds ++ es))))) else none
  | _, _ => none
theorem xApp_eq (i : Nat) (f : EvF) (ρ : Env) : xApp i f ρ = appO i ρ (ρ[i]?) (f ρ) := nr rfl
theorem xExt_eq (i : Nat) (f : EvF) (ρ : Env) : xExt i f ρ = extO i ρ (ρ[i]?) (f ρ) := nr rfl
section
variable {α β : Type} [Enc α] [Enc β]
theorem appO_l (i : Nat) (ρ : Env) (xs : List α) (a : α) (h : xs.length < 100000) : appO i ρ (some (.own (enc xs))) (some (enc a)) = some (.nx (ρ.set i (.own (enc (xs ++ [a]))))) := by
  show (if (xs.map enc).length < 100000 then some (Out.nx (ρ.set i (.own (.lst (xs.map enc ++ [enc a]))))) else none) = _
  rw [List.length_map, if_pos h]
  show _ = some (Out.nx (ρ.set i (.own (.lst ((xs ++ [a]).map enc)))))
  rw [List.map_append]
  rfl
theorem appO_i (i : Nat) (ρ : Env) (xs : List Int) (a : Int) (h : xs.length < 100000) : appO i ρ (some (.own (enc xs))) (some (.int a)) = some (.nx (ρ.set i (.own (enc (xs ++ [a]))))) := appO_l i ρ xs a h
theorem extO_l (i : Nat) (ρ : Env) (xs ys : List α) (h : xs.length + ys.length ≤ 100000) : extO i ρ (some (.own (enc xs))) (some (enc ys)) = some (.nx (ρ.set i (.own (enc (xs ++ ys))))) := by
  show (if (xs.map enc).length + (ys.map enc).length ≤ 100000 then some (Out.nx (ρ.set i (.own (.lst (xs.map enc ++ ys.map enc))))) else none) = _
  rw [List.length_map, List.length_map, if_pos h]
  show _ = some (Out.nx (ρ.set i (.own (.lst ((xs ++ ys).map enc)))))
  rw [List.map_append]
end
/-- one turn of a while -/
def turnW (js : List Nat) (body : XF) (ρ : Env) : Option Out := match body ρ with
  | some (.nx ρ2) => some (.nx (wipeE ρ2 js))
  | some (.ct ρ2) => some (.nx (wipeE ρ2 js))
  | some (.bk ρ2) => some (.bk (wipeE ρ2 js))
  | some (.rt d) => some (.rt d)
  | none => none
theorem iterW_go {js : List Nat} {c : Env → Option Bool} {body : XF} {m : Nat} {ρ ρ' : Env} (hc : c ρ = some true) (hb : turnW js body ρ = some (.nx ρ')) : iterW js c body (m + 1) ρ = iterW js c body m ρ' := by
  rw [iterW, hc]
  unfold turnW at hb
  cases p : body ρ with
  | none => rw [p] at hb; cases hb
  | some o =>
    rw [p] at hb
    cases o with
    | nx ρ2 => simp only at hb ⊢; injection hb with hb; injection hb with hb; rw [hb]
    | ct ρ2 => simp only at hb ⊢; injection hb with hb; injection hb with hb; rw [hb]
    | bk ρ2 => simp only at hb; injection hb with hb; cases hb
    | rt d => simp only at hb; injection hb with hb; cases hb
theorem iterW_end {js : List Nat} {c : Env → Option Bool} {body : XF} {m : Nat} {ρ : Env} (hc : c ρ = some false) : iterW js c body (m + 1) ρ = some (.nx ρ) := by
  rw [iterW, hc]
theorem iterW_seq {js : List Nat} {c : Env → Option Bool} {body : XF} (ρs : Nat → Env) (n : Nat) (h : ∀ i, i < n → c (ρs i) = some true ∧ turnW js body (ρs i) = some (.nx (ρs (i + 1)))) (hn : c (ρs n) = some false) : ∀ m k, k ≤ n → n - k < m → iterW js c body m (ρs k) = some (.nx (ρs n))
  | 0, k, _, hm => by omega
  | m + 1, k, hk, hm => by
    by_cases e : k = n
    · subst e; exact iterW_end hn
    · obtain ⟨a, b⟩ := h k (by omega)
      rw [iterW_go a b]
      exact iterW_seq ρs n h hn m (k + 1) (by omega) (by omega)
theorem atI_of {α : Type} [Inhabited α] (xs : List α) (i : Int) (h : 0 ≤ i ∧ i < xs.length) : atI xs i = some (xs.getD i.toNat default) := by
  unfold atI
  rw [ixN_of h]
  show xs[i.toNat]? = _
  rw [List.getD_eq_getElem?_getD, List.getElem?_eq_getElem (by omega)]
  rfl
theorem getD_mem {α : Type} (xs : List α) (k : Nat) (x : α) (h : k < xs.length) : xs.getD k x ∈ xs := by
  rw [List.getD_eq_getElem?_getD, List.getElem?_eq_getElem h]
  exact List.getElem_mem h
theorem dPow_18 : dPow (.int 10) (.int 18) = some (.int 1000000000000000000) := nr rfl
/-! ### every evaluator by what its parts come to -/
def retO : Option D → Option Out
  | some d => some (.rt d)
  | none => none
theorem xRet_eq (f : EvF) (ρ : Env) : xRet f ρ = retO (f ρ) := nr rfl
theorem retO_s (d : D) : retO (some d) = some (.rt d) := nr rfl
def nxO : Option Env → Option Out
  | some ρ => some (.nx ρ)
  | none => none
theorem nxO_s (ρ : Env) : nxO (some ρ) = some (.nx ρ) := nr rfl
def asgQ (g : GvF) (ρ : Env) : Option D → Option Out
  | some d => nxO (g d ρ)
  | none => none
theorem xAsg_eq (f : EvF) (g : GvF) (ρ : Env) : xAsg f g ρ = asgQ g ρ (f ρ) := by
  unfold xAsg asgQ nxO
  cases f ρ with
  | none => rfl
  | some d => rfl
theorem asgQ_s (g : GvF) (ρ : Env) (d : D) : asgQ g ρ (some d) = nxO (g d ρ) := nr rfl
def asgOQ (i : Nat) (ρ : Env) : Option D → Option Out
  | some d => some (.nx (ρ.set i (.own d)))
  | none => none
theorem xAsgO_eq (i : Nat) (f : EvF) (ρ : Env) : xAsgO i f ρ = asgOQ i ρ (f ρ) := nr rfl
theorem asgOQ_s (i : Nat) (ρ : Env) (d : D) : asgOQ i ρ (some d) = some (.nx (ρ.set i (.own d))) := nr rfl
def parQ (i j : Nat) (ρ : Env) : Option (List D) → Option Out
  | some [d, d2] => some (.nx ((ρ.set i (.sh d)).set j (.sh d2)))
  | _ => none
theorem xPar_eq (i j : Nat) (f : Env → Option (List D)) (ρ : Env) : xPar i j f ρ = parQ i j ρ (f ρ) := nr rfl
theorem parQ_s (i j : Nat) (ρ : Env) (d d2 : D) : parQ i j ρ (some [d, d2]) = some (.nx ((ρ.set i (.sh d)).set j (.sh d2))) := nr rfl
def setQ (i : Nat) (ρ : Env) : Option D → Option Out
  | some d => some (.nx (ρ.set i (.sh d)))
  | none => none
theorem setQ_s (i : Nat) (ρ : Env) (d : D) : setQ i ρ (some d) = some (.nx (ρ.set i (.sh d))) := nr rfl
def e2Q (op : D → D → Option D) : Option D → Option D → Option D
  | some x, some y => op x y
  | _, _ => none
theorem e2_eq (op : D → D → Option D) (f g : EvF) (ρ : Env) : e2 op f g ρ = e2Q op (f ρ) (g ρ) := nr rfl
theorem e2Q_s (op : D → D → Option D) (x y : D) : e2Q op (some x) (some y) = op x y := nr rfl
theorem xAug_eq (i : Nat) (op : D → D → Option D) (f : EvF) (ρ : Env) : xAug i op f ρ = setQ i ρ (e2Q op (bVar i ρ) (f ρ)) := by
  unfold xAug e2Q setQ
  cases bVar i ρ with
  | none => rfl
  | some a =>
    cases f ρ with
    | none => rfl
    | some b => first | (simp only; done) | (simp only; cases op a b <;> rfl)
def e1Q (op : D → Option D) : Option D → Option D
  | some x => op x
  | none => none
theorem e1_eq (op : D → Option D) (f : EvF) (ρ : Env) : e1 op f ρ = e1Q op (f ρ) := nr rfl
theorem e1Q_s (op : D → Option D) (x : D) : e1Q op (some x) = op x := nr rfl
def dropQ (ρ : Env) : Option D → Option Out
  | some _ => some (.nx ρ)
  | none => none
theorem xDrop_eq (f : EvF) (ρ : Env) : xDrop f ρ = dropQ ρ (f ρ) := nr rfl
theorem dropQ_s (ρ : Env) (d : D) : dropQ ρ (some d) = some (.nx ρ) := nr rfl
theorem xRetN_eq (ρ : Env) : xRetN ρ = some (.rt .non) := nr rfl
theorem xNext_eq (ρ : Env) : xNext ρ = some (.nx ρ) := nr rfl
theorem xBrk_eq (ρ : Env) : xBrk ρ = some (.bk ρ) := nr rfl
theorem xCt_eq (ρ : Env) : xCt ρ = some (.ct ρ) := nr rfl
def ifX (x y : XF) (ρ : Env) : Option Bool → Option Out
  | some b => if b = true then x ρ else y ρ
  | none => none
theorem xIf_eq (c : Env → Option Bool) (x y : XF) (ρ : Env) : xIf c x y ρ = ifX x y ρ (c ρ) := nr rfl
theorem ifX_t (x y : XF) (ρ : Env) : ifX x y ρ (some true) = x ρ := nr rfl
theorem ifX_f (x y : XF) (ρ : Env) : ifX x y ρ (some false) = y ρ := by
  show (if false = true then x ρ else y ρ) = y ρ
  rw [if_neg (by decide)]
theorem ifX_s (x y : XF) (ρ : Env) (b : Bool) : ifX x y ρ (some b) = if b = true then x ρ else y ρ := nr rfl
theorem xFrz_own (i : Nat) (x : XF) (ρ : Env) : xFrz i x ρ = x (frzE i ρ) := nr rfl
def frzQ (i : Nat) (ρ : Env) : Option LV → Env
  | some (.own d) => ρ.set i (.sh d)
  | _ => ρ
theorem frzE_eq (i : Nat) (ρ : Env) : frzE i ρ = frzQ i ρ (ρ[i]?) := nr rfl
theorem frzQ_own (i : Nat) (ρ : Env) (d : D) : frzQ i ρ (some (.own d)) = ρ.set i (.sh d) := nr rfl
theorem frzQ_sh (i : Nat) (ρ : Env) (d : D) : frzQ i ρ (some (.sh d)) = ρ := nr rfl
def forQ (js : List Nat) (g : GvF) (body : XF) (ρ : Env) : Option (List D) → Option Out
  | some ds => iterF js body g ds ρ
  | none => none
theorem xFor_eq (js : List Nat) (src : IvF) (g : GvF) (body : XF) (ρ : Env) : xFor js src g body ρ = forQ js g body (wipeE ρ js) (src ρ) := nr rfl
theorem forQ_s (js : List Nat) (g : GvF) (body : XF) (ρ : Env) (ds : List D) : forQ js g body ρ (some ds) = iterF js body g ds ρ := nr rfl
theorem xWhile_eq (js : List Nat) (n : Nat) (c : Env → Option Bool) (body : XF) (ρ : Env) : xWhile js n c body ρ = iterW js c body n (wipeE ρ js) := nr rfl
def varQ : Option LV → Option D
  | some (.sh d) => some d
  | some (.own d) => none
  | _ => none
def lookQ : Option LV → Option D
  | some (.sh d) => some d
  | some (.own d) => some d
  | some (.bor d) => some d
  | _ => none
theorem eVar_eq (i : Nat) (ρ : Env) : eVar i ρ = varQ (ρ[i]?) := by
  unfold eVar varQ
  cases ρ[i]? with
  | none => rfl
  | some x => cases x <;> rfl
theorem bVar_eq (i : Nat) (ρ : Env) : bVar i ρ = lookQ (ρ[i]?) := by
  unfold bVar lookQ
  cases ρ[i]? with
  | none => rfl
  | some x => cases x <;> rfl
theorem varQ_s (d : D) : varQ (some (.sh d)) = some d := nr rfl
theorem lookQ_s (d : D) : lookQ (some (.sh d)) = some d := nr rfl
theorem lookQ_o (d : D) : lookQ (some (.own d)) = some d := nr rfl
theorem lookQ_b (d : D) : lookQ (some (.bor d)) = some d := nr rfl
theorem eC_eq (d : D) (ρ : Env) : eC d ρ = some d := nr rfl
theorem gN_eq (i : Nat) (d : D) (ρ : Env) : gN i d ρ = some (ρ.set i (.sh d)) := nr rfl
theorem aNil_eq (ρ : Env) : aNil ρ = some [] := nr rfl
def consQ : Option D → Option (List D) → Option (List D)
  | some d, some ds => some (d :: ds)
  | _, _ => none
theorem aCons_eq (f : EvF) (fs : Env → Option (List D)) (ρ : Env) : aCons f fs ρ = consQ (f ρ) (fs ρ) := nr rfl
theorem consQ_s (d : D) (ds : List D) : consQ (some d) (some ds) = some (d :: ds) := nr rfl
def callQ (op : List D → Option D) : Option (List D) → Option D
  | some ds => op ds
  | none => none
theorem eCall_eq (op : List D → Option D) (fs : Env → Option (List D)) (ρ : Env) : eCall op fs ρ = callQ op (fs ρ) := nr rfl
theorem callQ_s (op : List D → Option D) (ds : List D) : callQ op (some ds) = op ds := nr rfl
def lstQ : Option (List D) → Option D
  | some ds => if ds.length ≤ 100000 then some (.lst ds) else none
  | none => none
def tupQ : Option (List D) → Option D
  | some ds => if ds.length ≤ 100000 then some (.tup ds) else none
  | none => none
theorem eLst_eq (fs : Env → Option (List D)) (ρ : Env) : eLst fs ρ = lstQ (fs ρ) := nr rfl
theorem eTup_eq (fs : Env → Option (List D)) (ρ : Env) : eTup fs ρ = tupQ (fs ρ) := nr rfl
theorem lstQ0 : lstQ (some []) = some (.lst []) := nr rfl
theorem lstQ_l {ds : List D} (h : ds.length ≤ 100000) : lstQ (some ds) = some (.lst ds) := if_pos h
theorem tupQ_l {ds : List D} (h : ds.length ≤ 100000) : tupQ (some ds) = some (.tup ds) := if_pos h
theorem lstQ1 (a : D) : lstQ (some [a]) = some (.lst [a]) := lstQ_l (by simp)
theorem lstQ2 (a b : D) : lstQ (some [a, b]) = some (.lst [a, b]) := lstQ_l (by simp)
theorem lstQ3 (a b c : D) : lstQ (some [a, b, c]) = some (.lst [a, b, c]) := lstQ_l (by simp)
theorem lstQ4 (a b c d : D) : lstQ (some [a, b, c, d]) = some (.lst [a, b, c, d]) := lstQ_l (by simp)
theorem lstQ8 (a b c d e f g h : D) : lstQ (some [a, b, c, d, e, f, g, h]) = some (.lst [a, b, c, d, e, f, g, h]) := lstQ_l (by simp)
theorem tupQ2 (a b : D) : tupQ (some [a, b]) = some (.tup [a, b]) := tupQ_l (by simp)
theorem tupQ3 (a b c : D) : tupQ (some [a, b, c]) = some (.tup [a, b, c]) := tupQ_l (by simp)
def boolQ : Option D → Option Bool
  | some (.bl b) => some b
  | _ => none
theorem qB_eq (f : EvF) (ρ : Env) : qB f ρ = boolQ (f ρ) := by
  unfold qB boolQ
  cases f ρ with
  | none => rfl
  | some d => cases d <;> rfl
theorem boolQ_s (b : Bool) : boolQ (some (.bl b)) = some b := nr rfl
def notQ : Option D → Option D
  | some (.bl b) => some (.bl (!b))
  | _ => none
theorem eNot_eq (f : EvF) (ρ : Env) : eNot f ρ = notQ (f ρ) := by
  unfold eNot notQ
  cases f ρ with
  | none => rfl
  | some d => cases d <;> rfl
theorem notQ_s (b : Bool) : notQ (some (.bl b)) = some (.bl (!b)) := nr rfl
def qnotQ : Option Bool → Option Bool
  | some b => some (!b)
  | none => none
theorem qNot_eq (c : Env → Option Bool) (ρ : Env) : qNot c ρ = qnotQ (c ρ) := by
  unfold qNot qnotQ
  cases c ρ <;> rfl
theorem qnotQ_s (b : Bool) : qnotQ (some b) = some (!b) := nr rfl
theorem oNo_eq (ρ : Env) : oNo ρ = some none := nr rfl
def soQ : Option D → Option (Option Int)
  | some (.int i) => some (some i)
  | _ => none
theorem oSo_eq (f : EvF) (ρ : Env) : oSo f ρ = soQ (f ρ) := by
  unfold oSo soQ
  cases f ρ with
  | none => rfl
  | some d => cases d <;> rfl
theorem soQ_s (i : Int) : soQ (some (.int i)) = some (some i) := nr rfl
/-- a step of a comprehension -/
def stQ (c : Env → Option Bool) (h : EvF) : Option Env → Option (Option D)
  | some ρ2 => (match c ρ2 with
    | some true => (match h ρ2 with | some y => some (some y) | none => none)
    | some false => some none
    | none => none)
  | none => none
def stR (h : Option D) : Option Bool → Option (Option D)
  | some true => (match h with | some y => some (some y) | none => none)
  | some false => some none
  | none => none
theorem stepC_eq (g : GvF) (c : Env → Option Bool) (h : EvF) (ρ : Env) (d : D) : stepC g c h ρ d = stQ c h (g d ρ) := by
  unfold stepC stQ
  cases g d ρ <;> rfl
theorem stQ_s (c : Env → Option Bool) (h : EvF) (ρ2 : Env) : stQ c h (some ρ2) = stR (h ρ2) (c ρ2) := by
  show (match c ρ2 with
    | some true => (match h ρ2 with | some y => some (some y) | none => none)
    | some false => some none
    | none => none) = _
  unfold stR
  cases c ρ2 with
  | none => rfl
  | some b => cases b <;> rfl
theorem stR_t (y : D) : stR (some y) (some true) = some (some y) := nr rfl
theorem stR_f (o : Option D) : stR o (some false) = some none := nr rfl
theorem stR_b (y : D) (b : Bool) : stR (some y) (some b) = some (if b = true then some y else none) := by cases b <;> rfl
def stM (src1 : Option (List D)) (k : List D → Option (List D)) : Option Bool → Option (List D)
  | some true => (match src1 with | some ds => k ds | none => none)
  | some false => some []
  | none => none
theorem stepM_eq (g : GvF) (c : Env → Option Bool) (src1 : IvF) (g1 : GvF) (c1 : Env → Option Bool) (h : EvF) (vs1 : List Nat) (ρ ρ2 : Env) (d : D) (e : g d ρ = some ρ2) : stepM g c src1 g1 c1 h vs1 ρ d = stM (src1 ρ2) (compL (stepC g1 c1 h (wipeE ρ2 vs1))) (c ρ2) := by
  unfold stepM stM
  rw [e]
  first
  | done
  | (simp only; done)
  | (simp only
     cases c ρ2 with
     | none => rfl
     | some b => cases b <;> rfl)
def stMQ (c : Env → Option Bool) (src1 : IvF) (g1 : GvF) (c1 : Env → Option Bool) (h : EvF) (vs1 : List Nat) : Option Env → Option (List D)
  | some ρ2 => stM (src1 ρ2) (compL (stepC g1 c1 h (wipeE ρ2 vs1))) (c ρ2)
  | none => none
theorem stepM_eq' (g : GvF) (c : Env → Option Bool) (src1 : IvF) (g1 : GvF) (c1 : Env → Option Bool) (h : EvF) (vs1 : List Nat) (ρ : Env) (d : D) : stepM g c src1 g1 c1 h vs1 ρ d = stMQ c src1 g1 c1 h vs1 (g d ρ) := by
  cases e : g d ρ with
  | none => unfold stepM stMQ; rw [e]
  | some ρ2 => exact stepM_eq g c src1 g1 c1 h vs1 ρ ρ2 d e
theorem stMQ_s (c : Env → Option Bool) (src1 : IvF) (g1 : GvF) (c1 : Env → Option Bool) (h : EvF) (vs1 : List Nat) (ρ2 : Env) : stMQ c src1 g1 c1 h vs1 (some ρ2) = stM (src1 ρ2) (compL (stepC g1 c1 h (wipeE ρ2 vs1))) (c ρ2) := nr rfl
theorem stM_t (ds : List D) (k : List D → Option (List D)) : stM (some ds) k (some true) = k ds := nr rfl
theorem stM_f (o : Option (List D)) (k : List D → Option (List D)) : stM o k (some false) = some [] := nr rfl
/-- a turn -/
def tnQ (js : List Nat) : Option Out → Option Out
  | some (.nx ρ2) => some (.nx (wipeE ρ2 js))
  | some (.ct ρ2) => some (.nx (wipeE ρ2 js))
  | some (.bk ρ2) => some (.bk (wipeE ρ2 js))
  | some (.rt d) => some (.rt d)
  | none => none
def tnB (js : List Nat) (body : XF) : Option Env → Option Out
  | some ρ1 => tnQ js (body ρ1)
  | none => none
theorem turnF_eq (js : List Nat) (body : XF) (g : GvF) (d : D) (ρ : Env) : turnF js body g d ρ = tnB js body (g d ρ) := by
  unfold turnF tnB tnQ
  cases g d ρ with
  | none => rfl
  | some ρ1 =>
    first
    | (simp only; done)
    | (simp only
       cases body ρ1 with
       | none => rfl
       | some o => cases o <;> rfl)
theorem tnB_s (js : List Nat) (body : XF) (ρ1 : Env) : tnB js body (some ρ1) = tnQ js (body ρ1) := nr rfl
theorem turnW_eq (js : List Nat) (body : XF) (ρ : Env) : turnW js body ρ = tnQ js (body ρ) := by
  unfold turnW tnQ
  cases body ρ with
  | none => rfl
  | some o => cases o <;> rfl
theorem tnQ_nx (js : List Nat) (ρ : Env) : tnQ js (some (.nx ρ)) = some (.nx (wipeE ρ js)) := nr rfl
theorem tnQ_ct (js : List Nat) (ρ : Env) : tnQ js (some (.ct ρ)) = some (.nx (wipeE ρ js)) := nr rfl
theorem tnQ_bk (js : List Nat) (ρ : Env) : tnQ js (some (.bk ρ)) = some (.bk (wipeE ρ js)) := nr rfl
theorem tnQ_rt (js : List Nat) (d : D) : tnQ js (some (.rt d)) = some (.rt d) := nr rfl
/-- the script -/
def scrLen : Option LV → Option D
  | some (.scr ns) => some (.int (ns.length : Nat))
  | _ => none
theorem eLenScr_eq (i : Nat) (ρ : Env) : eLenScr i ρ = scrLen (ρ[i]?) := nr rfl
theorem scrLen_s (ns : List Int) : scrLen (some (.scr ns)) = some (.int (ns.length : Nat)) := nr rfl
def scrIx : Option LV → Option D → Option D
  | some (.scr ns), some (.int k) => (match atI ns k with | some n => some (.int n) | none => none)
  | _, _ => none
theorem eIxScr_eq (i : Nat) (f : EvF) (ρ : Env) : eIxScr i f ρ = scrIx (ρ[i]?) (f ρ) := nr rfl
theorem scrIx_s (ns : List Int) (k : Int) (n : Int) (h : atI ns k = some n) : scrIx (some (.scr ns)) (some (.int k)) = some (.int n) := by
  show (match atI ns k with | some n => some (D.int n) | none => none) = _
  rw [h]
def scrF (F : List Int → Option D) : Option LV → Option D
  | some (.scr ns) => F ns
  | _ => none
theorem eScr_eq (i : Nat) (F : List Int → Option D) (ρ : Env) : eScr i F ρ = scrF F (ρ[i]?) := nr rfl
theorem scrF_s (F : List Int → Option D) (ns : List Int) : scrF F (some (.scr ns)) = F ns := nr rfl
theorem env0_1 (d : D) (n : Nat) : env0 [false] [d] n = .sh d :: List.replicate (n - 1) .un := nr rfl
theorem env0_2 (d d2 : D) (n : Nat) : env0 [false, false] [d, d2] n = .sh d :: .sh d2 :: List.replicate (n - 2) .un := nr rfl
theorem env0_3 (d d2 d3 : D) (n : Nat) : env0 [false, false, false] [d, d2, d3] n = .sh d :: .sh d2 :: .sh d3 :: List.replicate (n - 3) .un := nr rfl
theorem env0_4 (d d2 d3 d4 : D) (n : Nat) : env0 [false, false, false, false] [d, d2, d3, d4] n = .sh d :: .sh d2 :: .sh d3 :: .sh d4 :: List.replicate (n - 4) .un := nr rfl
theorem env0_0 (n : Nat) : env0 [] [] n = List.replicate n .un := nr rfl
theorem isNon_non : D.isNon .non = true := nr rfl
theorem isNon_int (i : Int) : D.isNon (.int i) = false := nr rfl
theorem isNon_l {α : Type} [Enc α] (xs : List α) : D.isNon (enc xs) = false := nr rfl
theorem isNon_p {α β : Type} [Enc α] [Enc β] (p : α × β) : D.isNon (enc p) = false := nr rfl
end DL

/-! DLA: dict comprehensions with tuples for keys. -/
namespace DL
open PySem PySem.Spec PyProof.Rows L2
open Evl (Ex)
theorem put_tuple {X : Cx} {pn : List (Addr × Obj)} {τ : St} {F : Hp} {s0 : Shared} {E : Value → Shared → Prop} {dd : Addr} {kvs : List (List Key × V)} {ks : List Key} {bb : Addr} {z : V} {rz : Value} {P : Unit → Shared → Prop} (room : X.A.units + 1 < cLine)
    (inv : Inv X pn τ F s0) (hdd : F dd = some (.dT kvs)) (few : kvs.length < sizeLine) (hbb : F bb = some (.tup (ks.map kV))) (rel : RelV z rz) (go : ∀ s', Inv X pn τ (upd F dd (.dT (putK kvs ks z))) s' → P () s') :
    wpAny (model X.prog X.w) X.A (dictSet dd (.ref bb) rz) P E s0 := by
  obtain ⟨z1, z2, xs, kt, dh⟩ := dt_of inv.hok hdd
  have z3 : xs.length ≤ sizeLine := by rw [← Paired.length kt]; exact z1
  have z4 : (putK kvs ks z).length ≤ sizeLine := by have := length_putK kvs ks z; omega
  refine wpAny_dictSet_heap (hsz := z3) (show (tupleKind (mixKind X.prog X.w)).room X.A from Nat.lt_of_le_of_lt (Nat.le_succ _) room) (key_of inv.hok hbb) dh fun h' dh' sb => go _ ?_
  obtain ⟨ob, es, ep, e1, e2, e3, e4, _, e6⟩ := dh'
  refine d_write inv (by rw [hdd]; exact True.intro) sb ⟨ob, e1⟩ ⟨z4, z2, _, (kt.put ks hbb rel).keeps fun c ys ec => ?_, ob, es, ep, e1, e2, e3, e4, e6⟩
  rw [upd_ne (ne_of ec hdd (fun q => nomatch q))]
  exact ec
section
variable {X : Cx}
/-- {k: v for target in source if ..}, the keys tuples: D the new dict -/
def tDcT (wi : TI) (g : TG) (tt : TT) (tk tv : TE) (vs : List Nat) : TE := fun σ H Q => wi σ H fun J H1 => ∀ D, H1 D = none → ∃ W : Nat → Nat → Hp → Prop, (∃ m, W 0 m (upd H1 D (.dT []))) ∧ ∀ i m H, W i m H →
  (J.stop i H ∧ Q (.ref D) H) ∨ (J.go i H ∧ ∃ Nx : Hp → Prop, (∀ H', Nx H' → ∃ m', m' < m ∧ W (i + 1) m' H') ∧ ∀ x H', J.yld i H x H' → g x (L2.wipe σ vs) H' fun σ2 H2 => L2.wipe σ2 vs = L2.wipe σ vs ∧ tt σ2 H2 fun b H3 =>
    if b = true then tk σ2 H3 fun y H4 => tv σ2 H4 fun z H5 => ∃ kvs k b, y = V.ref b ∧ H5 b = some (.tup (k.map kV)) ∧ H5 D = some (.dT kvs) ∧ kvs.length < sizeLine ∧ Nx (upd H5 D (.dT (putK kvs k z))) else Nx H3)
theorem dcT_core {pn : List (Addr × Obj)} {s0 : Shared} {τ : St} {F : Hp} {Q : VK} {use : Option (Value → Sem Unit)} {Qf : Value → Shared → Prop} {pos' : Pos} {kx vx tg src : Expr} {fs : List Expr} {scope : Scope} {own : List (Str × Nat)} {pos : Pos} {wi : TI} {g : TG} {tt : TT} {tk tv : TE} (room : X.A.units + 1 < cLine) (calm : X.calm = true) (nd : X.N.Nodup) (hi : PI X tg src wi) (ok : BlkOk X.N X.env.scope scope own)
    (hg : ∀ (s : Shared) (H : Hp) (C : Addr) (cl : List (Str × Addr)) (fp : List Addr), PG (X.blk s H scope (compEnvC scope cl C X.env) fp) tg g)
    (ht : ∀ (s : Shared) (H : Hp) (C : Addr) (cl : List (Str × Addr)) (fp : List Addr), PTs (X.blk s H scope (compEnvC scope cl C X.env) fp) fs tt)
    (hk : ∀ (s : Shared) (H : Hp) (C : Addr) (cl : List (Str × Addr)) (fp : List Addr), PE (X.blk s H scope (compEnvC scope cl C X.env) fp) kx tk)
    (hv : ∀ (s : Shared) (H : Hp) (C : Addr) (cl : List (Str × Addr)) (fp : List Addr), PE (X.blk s H scope (compEnvC scope cl C X.env) fp) vx tv) (hs : ∀ x, foldedSetIterable src X.env x = pure x) (inv : Inv X pn τ F s0) (pr : tDcT wi g tt tk tv (own.map (·.2)) τ F Q)
    (back : ∀ D C s' m F', Inv X pn τ F' s' → Q (.ref D) F' → s'.heap.Ns C m → FpOk X pn F' C → compPost (model X.prog X.w) X.A X.xe use Qf (.ref D) C (.ok .next) s') :
    wpAny (model X.prog X.w) X.A (comprehension (.DictComp kx vx [⟨tg, src, fs, 0⟩] scope pos) scope X.env pos' newDict false (eval src X.env) use) Qf X.xe s0 := by
  have cells : ∀ y ∈ scope.names, y.2 = .free → ∃ c, X.env.cells.lookup y.1 = some c := fun y hy e => by
    rcases ok.free y hy e with k | k <;> exact inv.ok.has _ (by first | exact .inl k | exact .inr k)
  refine wpAny_comprehension_free (use := use) rfl hs (closure_ok cells) ok.kind (fun y hy e => by rw [ok.uniq y hy, e])
    (thn (hi.run pn s0 τ F _ inv pr) fun xv s1 hx => thn hx fun itv s2 h2 => ?_)
  obtain ⟨it, fp, tn, J, F2, ei, inv2, turns, st2, fo2, pr2⟩ := h2
  subst ei
  refine wpAny_newObj_type (newEnv_comp ?_)
  generalize hnew : s2.heap.objs.size = dd
  have isNew : F2 dd = none := inv2.hok.fresh (Nat.le_of_eq hnew)
  obtain ⟨W, ⟨m0, w0⟩, each⟩ := pr2 dd isNew
  generalize hs3 : ({ s2 with heap := s2.heap.push { cls := .type "dict", data := .dict #[] } } : Shared) = s3
  have inv3 : Inv X pn τ (upd F2 dd (.dT [])) s3 := by
    subst hs3
    refine inv2.laid (t' := s2.toks) (fun b o e => Heap.get?_push_of_some _ e) (Nat.le_of_eq hnew) ?_
    subst hnew
    exact dt_empty s2.heap inv2.big
  have heap3 : s3.heap = s2.heap.push { cls := .type "dict", data := .dict #[] } := by rw [← hs3]
  have below : ∀ b ∈ fp, b < s2.heap.objs.size := fun b hb => by
    obtain ⟨ob, eo, _⟩ := turns.obj _ _ st2 b hb
    exact Heap.lt_size eo
  have fo3 : ∀ b ∈ fp, FpOk X pn (upd F2 dd (.dT [])) b ∧ b < s3.heap.objs.size := fun b hb => by
    have lt := below b hb
    refine ⟨⟨?_, (fo2 b hb).2⟩, by rw [heap3, Heap.size_push]; exact Nat.lt_succ_of_lt lt⟩
    rw [upd_ne (by rw [← hnew]; exact Nat.ne_of_lt lt)]
    exact (fo2 b hb).1
  have st3 : tn 0 s3.heap := turns.keep _ _ _ st2 fun b _ o e => by rw [heap3]; exact Heap.get?_push_of_some _ e
  have inv4 := block_start inv3 ok nd fo3
  have pg := hg s3 (upd F2 dd (.dT [])) s3.heap.objs.size (cellsFrom (s3.heap.objs.size + 1) scope.names (cloFrom X.env.cells scope.names [])) fp
  have pt := ht s3 (upd F2 dd (.dT [])) s3.heap.objs.size (cellsFrom (s3.heap.objs.size + 1) scope.names (cloFrom X.env.cells scope.names [])) fp
  have pk := hk s3 (upd F2 dd (.dT [])) s3.heap.objs.size (cellsFrom (s3.heap.objs.size + 1) scope.names (cloFrom X.env.cells scope.names [])) fp
  have pv := hv s3 (upd F2 dd (.dT [])) s3.heap.objs.size (cellsFrom (s3.heap.objs.size + 1) scope.names (cloFrom X.env.cells scope.names [])) fp
  show codeAny _ _ (.compStart (.DictComp kx vx [⟨tg, src, fs, 0⟩] scope pos) 0 (.ref it) (.ref dd) (compEnvC scope (cellsFrom (s3.heap.objs.size + 1) scope.names (cloFrom X.env.cells scope.names [])) s3.heap.objs.size X.env)) (compPost (model X.prog X.w) X.A X.xe use Qf (.ref dd) s3.heap.objs.size) { s3 with heap := pushCells (s3.heap.push { cls := .type "dict", data := .dict #[] }) scope.names }
  have nfp : ∀ b ∈ fp, (upd F2 dd (.dT [])) b = none := fun b hb => (fo3 b hb).1.1
  generalize hce : compEnvC scope (cellsFrom (s3.heap.objs.size + 1) scope.names (cloFrom X.env.cells scope.names [])) s3.heap.objs.size X.env = ce at inv4 pg pt pk pv ⊢
  have ceL : ce.locals = s3.heap.objs.size := by rw [← hce]; rfl
  generalize hF3 : upd F2 dd (.dT []) = F3 at inv3 inv4 pg pt pk pv w0 nfp fo3
  generalize hs4 : ({ s3 with heap := pushCells (s3.heap.push { cls := .type "dict", data := .dict #[] }) scope.names } : Shared) = s4 at inv4 ⊢
  have st4 : tn 0 s4.heap := turns.keep _ _ _ st3 fun b _ o e => by rw [← hs4]; exact pushCells_keeps _ _ _ _ (Heap.get?_push_of_some _ e)
  have stays : ∀ {τ' : St} {F' : Hp} {s' : Shared}, Inv (X.blk s3 F3 scope ce fp) [] τ' F' s' → (∀ b ∈ fp, F' b = none) → ∀ b ∈ fp, FpOk (X.blk s3 F3 scope ce fp) [] F' b := fun {τ' F' s'} i' hn b hb =>
    ⟨hn b hb, (i'.ok.exf b hb).1, i'.ok.exfs b hb, .inl hb, fun x c e => (i'.ok.exf b hb).2 x c e, fun p hp => absurd (show p ∈ ([] : List (Addr × Obj)) ++ [] from hp) (by simp)⟩
  have loop : codeAny (model X.prog X.w) X.A (.compLoop (.DictComp kx vx [⟨tg, src, fs, 0⟩] scope pos) 0 (.ref it) (.ref dd) ce) (compPost (model X.prog X.w) X.A X.xe use Qf (.ref dd) s3.heap.objs.size) s4 := by
    refine compLoop_anyD (fun n s' => ∃ i F', Inv (X.blk s3 F3 scope ce fp) [] (L2.wipe τ (own.map (·.2))) F' s' ∧ tn i s'.heap ∧ (∀ b ∈ fp, F' b = none) ∧ W i n F') ?_ m0 ⟨0, F3, inv4, st4, nfp, w0⟩
    rintro n s5 ⟨i, F5, inv5, st5, n5, w5⟩
    rcases each i n F5 w5 with ⟨stop, last⟩ | ⟨go, Nx, hNx, step⟩
    · refine thnF (turns.done (X.blk s3 F3 scope ce fp) rfl rfl rfl calm i [] s5 _ F5 (fun _ _ => False) inv5 (stays inv5 n5) st5 stop) fun r s6 ⟨er, inv6⟩ => ?_
      subst er
      have inv7 : Inv X pn τ F5 s6 := inv3.call' (ch := fp) inv6.os inv6.base inv6.hok inv6.bare fun b hb => ⟨(fo3 b hb).1.2.2.2.1, (fo3 b hb).1.2.1, (fo3 b hb).1.2.2.2.2.1, (fo3 b hb).1.2.2.2.2.2⟩
      have noC : F5 s3.heap.objs.size = none := by
        have q : F5 ce.locals = none := inv6.free
        rw [ceL] at q
        exact q
      obtain ⟨m, hm, _⟩ := inv6.loc
      have hm : s6.heap.Ns ce.locals m := hm
      rw [ceL] at hm
      exact back dd s3.heap.objs.size s6 m F5 inv7 last hm (inv3.fpOk (Nat.le_refl _) noC)
    · refine thnF (turns.item (X.blk s3 F3 scope ce fp) rfl rfl rfl calm i [] s5 _ F5 (fun _ _ => False) inv5 (stays inv5 n5) st5 go) fun r s6 ⟨u, er, h6⟩ => ?_
      subst er
      refine thnF h6 fun _ s7 ⟨x, F7, inv7, r7, y7, st7, n7⟩ => ?_
      have inv7' := inv7.pinned (stays inv7 n7) (turns.obj _ _ st7)
      refine thnF (pg.run _ s7 _ F7 x u _ inv7' r7 (step x F7 y7)) fun _ s8 ⟨τ8, F8, inv8, wi8, q8⟩ => ?_
      refine thnF (pt.run _ s8 τ8 F8 _ inv8 q8) fun b s9 ⟨F9, inv9, q9⟩ => ?_
      have fin : ∀ {s' : Shared} {F' : Hp}, Inv (X.blk s3 F3 scope ce fp) ([] ++ pinsAt fp s7.heap) τ8 F' s' → Nx F' → ∃ m, m < n ∧ ∃ i F', Inv (X.blk s3 F3 scope ce fp) [] (L2.wipe τ (own.map (·.2))) F' s' ∧ tn i s'.heap ∧ (∀ b ∈ fp, F' b = none) ∧ W i m F' := fun {s' F'} i' nx => by
        obtain ⟨m', lt, w'⟩ := hNx F' nx
        have pins : ∀ b ∈ fp, ∀ o, s7.heap.get? b = some o → s'.heap.get? b = some o ∧ F' b = none := fun b hb o e =>
          let q := i'.pin (b, o) (List.mem_append_right _ (List.mem_append_right _ (mem_pinsAt hb e)))
          ⟨q.1, q.2.1⟩
        refine ⟨m', lt, i + 1, F', (i'.unpinned (pins := [])).weak (by rw [← wi8, wipe_length]) (fun j v e => ?_), turns.keep _ _ _ st7 fun b hb o e => (pins b hb o e).1, fun b hb => ?_, w'⟩
        · rw [← wi8] at e
          exact (wipe_some e).1
        · obtain ⟨o, e, _⟩ := turns.obj _ _ st7 b hb
          exact (pins b hb o e).2
      cases b with
      | false =>
        simp only [Bool.false_eq_true, if_false] at q9 ⊢
        exact fin inv9 q9
      | true =>
        simp only [if_true] at q9 ⊢
        refine thnF (pk.run _ s9 τ8 F9 _ inv9 q9) fun zk s10 ⟨yk, F10, inv10, r10, q10⟩ => ?_
        refine thnF (pv.run _ s10 τ8 F10 _ inv10 q10) fun zv s11 ⟨yv, F11, inv11, r11, kvs, k, bk, ek, hbk, hdd, few, nx⟩ => ?_
        subst ek
        cases (show zk = Value.ref bk from r10)
        exact put_tuple (X := X.blk s3 F3 scope ce fp) room inv11 hdd few hbk r11 fun s12 inv12 => fin inv12 nx
  exact codeAny_compStart_dict loop (turns.self X.A 0 _ _ _ st4 loop)
theorem pe_dcT {kx vx tg src : Expr} {fs : List Expr} {scope : Scope} {own : List (Str × Nat)} {pos : Pos} {wi : TI} {g : TG} {tt : TT} {tk tv : TE} (room : X.A.units + 1 < cLine) (calm : X.calm = true) (nd : X.N.Nodup) (hi : PI X tg src wi) (ok : BlkOk X.N X.env.scope scope own)
    (hg : ∀ (s : Shared) (H : Hp) (C : Addr) (cl : List (Str × Addr)) (fp : List Addr), PG (X.blk s H scope (compEnvC scope cl C X.env) fp) tg g)
    (ht : ∀ (s : Shared) (H : Hp) (C : Addr) (cl : List (Str × Addr)) (fp : List Addr), PTs (X.blk s H scope (compEnvC scope cl C X.env) fp) fs tt)
    (hk : ∀ (s : Shared) (H : Hp) (C : Addr) (cl : List (Str × Addr)) (fp : List Addr), PE (X.blk s H scope (compEnvC scope cl C X.env) fp) kx tk)
    (hv : ∀ (s : Shared) (H : Hp) (C : Addr) (cl : List (Str × Addr)) (fp : List Addr), PE (X.blk s H scope (compEnvC scope cl C X.env) fp) vx tv) (hs : ∀ x, foldedSetIterable src X.env x = pure x := by intro _; rfl) :
    PE X (.DictComp kx vx [⟨tg, src, fs, 0⟩] scope pos) (tDcT wi g tt tk tv (own.map (·.2))) := by
  refine ⟨fun pn s0 τ F Q inv pr => ?_⟩
  rw [arm_eval_DictComp]
  refine dcT_core room calm nd hi ok hg ht hk hv hs inv pr fun D C s' m F' i' q hm fo => ⟨m, hm, fun h'' sb => ?_⟩
  obtain ⟨f0, f1, f2, f3, f4, f5⟩ := fo
  exact ⟨.ref D, F', i'.turned (t' := s'.toks) (fun b o hb e => (sb.2 b hb).trans e) f0 f1 f3 f4 f5, rfl, q⟩
theorem ps_setDcT {i : Nat} {y : Str} {py spos : Pos} {kx vx tg src : Expr} {fs : List Expr} {scope : Scope} {own : List (Str × Nat)} {pos : Pos} {wi : TI} {g : TG} {tt : TT} {tk tv : TE} (room : X.A.units + 1 < cLine) (calm : X.calm = true) (nd : X.N.Nodup) (hy : X.N[i]? = some y) (hyl : X.env.scope.names.lookup y = some .local)
    (swap : swapsWith (.DictComp kx vx [⟨tg, src, fs, 0⟩] scope pos) (some (.Name y py)) spos.line X.env = pure true) (hi : PI X tg src wi) (ok : BlkOk X.N X.env.scope scope own)
    (hg : ∀ (s : Shared) (H : Hp) (C : Addr) (cl : List (Str × Addr)) (fp : List Addr), PG (X.blk s H scope (compEnvC scope cl C X.env) fp) tg g)
    (ht : ∀ (s : Shared) (H : Hp) (C : Addr) (cl : List (Str × Addr)) (fp : List Addr), PTs (X.blk s H scope (compEnvC scope cl C X.env) fp) fs tt)
    (hk : ∀ (s : Shared) (H : Hp) (C : Addr) (cl : List (Str × Addr)) (fp : List Addr), PE (X.blk s H scope (compEnvC scope cl C X.env) fp) kx tk)
    (hv : ∀ (s : Shared) (H : Hp) (C : Addr) (cl : List (Str × Addr)) (fp : List Addr), PE (X.blk s H scope (compEnvC scope cl C X.env) fp) vx tv) (hs : ∀ x, foldedSetIterable src X.env x = pure x := by intro _; rfl) :
    PS X (.Assign [.Name y py] (.DictComp kx vx [⟨tg, src, fs, 0⟩] scope pos) spos) (tAsg (tDcT wi g tt tk tv (own.map (·.2))) (gName i)) := by
  refine ⟨fun pn s0 τ F D inv pr => ?_⟩
  rw [exec_Assign_Name_used _ _ _ _ swap]
  refine wpAny_bind (wpAny_standAt (wpAny_bind ?_))
  show wpAny _ X.A (do let _ ← comprehension (.DictComp kx vx [⟨tg, src, fs, 0⟩] scope pos) scope X.env (firstIterPos [⟨tg, src, fs, 0⟩] pos) newDict false (eval src X.env) (some (assign (.Name y py) X.env))) _ _ s0
  have pr : tDcT wi g tt tk tv (own.map (·.2)) τ F (fun x F1 => gName i x τ F1 D.nx) := pr
  refine wpAny_bind (thn (dcT_core (Qf := fun _ s' => SP X pn D .next s') room calm nd hi ok hg ht hk hv hs inv pr fun L C s' m F' i' q hm fo => ?_) fun _ s' z => wpAny_pure (wpAny_pure z))
  show wpAny _ _ (assign (.Name y py) X.env (.ref L)) _ _ _
  refine wpAny_assign_Name (store_ok2 (v := V.ref L) i' nd hy (.inl hyl) rfl (fun s2 i2 ⟨at_, sb, here⟩ => ?_) (.inr hyl))
  obtain ⟨f0, f1, f2, f3, f4, f5⟩ := fo
  have apart : C ≠ at_ := by
    rcases here with z | z
    · rw [z]; exact f1
    · exact fun e => f4 y at_ z e.symm
  refine ⟨m, hm.sameBut sb apart, fun h3 sb3 => ?_⟩
  exact ⟨_, F', i2.turned (t' := s2.toks) (fun b o hb e => (sb3.2 b hb).trans e) f0 f1 f3 f4 f5, q⟩
theorem sw_dict {kx vx : Expr} {gs : List Comprehension} {scope : Scope} {pos py : Pos} {y : Str} {l : Nat} {env : PySem.Env} (isFn : env.scope.kind = .function) (loc : env.scope.names.lookup y = some .local) (row : (py.line == pos.line) = true)
    (none_ : (scope.names.any fun (n, k) => n == y && (k == .local || k == .cell)) = false) : swapsWith (.DictComp kx vx gs scope pos) (some (.Name y py)) l env = pure true := by
  have ky : env.kindOf y = some .local := loc
  have bk : env.blockKind = .function := by unfold Env.blockKind; rw [isFn]; rfl
  unfold swapsWith
  simp only [bk, ky, none_, Expr.pos, row]
  rfl
end
end DL
namespace DL
open PySem PySem.Spec PyProof.Rows L2
open Evl (Ex)
section
variable {K : PySem.W.Frag}
def stepD (g : GvF) (c : Env → Option Bool) (fk fv : EvF) (ρ : Env) : D → Option (Option (List Key × D)) := fun d => match g d ρ with
  | some ρ2 => match c ρ2 with
    | some true => (match fk ρ2, fv ρ2 with
      | some x, some y => (match tkOf x with | some k => some (some (k, y)) | none => none)
      | _, _ => none)
    | some false => some none
    | none => none
  | none => none
theorem stepD_some {g : GvF} {c : Env → Option Bool} {fk fv : EvF} {ρ : Env} {d : D} {o : Option (List Key × D)} (e : stepD g c fk fv ρ d = some o) : ∃ ρ2, g d ρ = some ρ2 ∧ ((c ρ2 = some false ∧ o = none) ∨ ∃ x y k, c ρ2 = some true ∧ fk ρ2 = some x ∧ fv ρ2 = some y ∧ tkOf x = some k ∧ o = some (k, y)) := by
  unfold stepD at e
  cases p1 : g d ρ with
  | none => rw [p1] at e; cases e
  | some ρ2 =>
    rw [p1] at e
    simp only at e
    refine ⟨ρ2, rfl, ?_⟩
    cases p2 : c ρ2 with
    | none => rw [p2] at e; cases e
    | some b =>
      rw [p2] at e
      cases b with
      | false => cases e; exact .inl ⟨rfl, rfl⟩
      | true =>
        simp only at e
        split at e
        · rename_i x y p3 p4
          split at e
          · rename_i k p5
            cases e
            exact .inr ⟨x, y, k, rfl, p3, p4, p5, rfl⟩
          · cases e
        · cases e
def dcL (st : D → Option (Option (List Key × D))) : List D → List (List Key × D) → Option (List (List Key × D))
  | [], acc => some acc
  | d :: r, acc => match st d with
    | none => none
    | some none => dcL st r acc
    | some (some p) => dcL st r (putD acc p.1 p.2)
def eDcT (src : IvF) (g : GvF) (c : Env → Option Bool) (fk fv : EvF) (vs : List Nat) : EvF := fun ρ => match src ρ with
  | some ds => if ds.length ≤ 100000 then (match dcL (stepD g c fk fv (wipeE ρ vs)) ds [] with | some kvs => some (.dT kvs) | none => none) else none
  | none => none
theorem eDcT_some {src : IvF} {g : GvF} {c : Env → Option Bool} {fk fv : EvF} {vs : List Nat} {ρ : Env} {d : D} (e : eDcT src g c fk fv vs ρ = some d) : ∃ ds ys, src ρ = some ds ∧ ds.length ≤ 100000 ∧ dcL (stepD g c fk fv (wipeE ρ vs)) ds [] = some ys ∧ d = .dT ys := by
  unfold eDcT at e
  cases p : src ρ with
  | none => rw [p] at e; cases e
  | some ds =>
    rw [p] at e
    simp only at e
    by_cases hl : ds.length ≤ 100000
    · rw [if_pos hl] at e
      split at e
      · cases e; exact ⟨ds, _, rfl, hl, by assumption, rfl⟩
      · cases e
    · rw [if_neg hl] at e; cases e
theorem putD_len {κ : Type} [DecidableEq κ] (acc : List (κ × D)) (k : κ) (d : D) : (putD acc k d).length ≤ acc.length + 1 := by
  unfold putD
  split
  · rw [List.length_map]; omega
  · rw [List.length_append, List.length_singleton]; exact Nat.le_refl _
theorem SF.dcT {src : IvF} {wi : TI} {g : GvF} {js : List Nat} {tg : TG} {c : Env → Option Bool} {tt : TT} {fk fv : EvF} {tk tv : TE} {vs : List Nat} (hi : SIb K src wi) (hg : SG K g js tg) (hc : ST K c tt) (hk : SE K fk tk) (hv : SE K fv tv) (hj : ∀ j ∈ js, j ∈ vs) :
    SF K (eDcT src g c fk fv vs) (tDcT wi tg tt tk tv vs) := fun B ρ σ G H E d e Q q => by
  obtain ⟨ds, ys, e1, hl, e2, rfl⟩ := eDcT_some e
  refine hi B ρ σ G H E ds e1 _ fun J G1 H1 w1 jok Dl hD => ?_
  have gD1 : G1 Dl = none := Evl.fresh_back w1.gh hD
  have E1 := (E.mono w1).wipe vs
  refine ⟨fun i m H' => m = ds.length - i ∧ i ≤ ds.length ∧ ∃ G' acc ws, Wle G1 H1 G' H' ∧ G' Dl = none ∧ H' Dl = some (.dT ws) ∧ RepT K G' ws acc ∧ dcL (stepD g c fk fv (wipeE ρ vs)) (ds.drop i) acc = some ys ∧ acc.length ≤ i,
    ⟨ds.length, rfl, Nat.zero_le _, G1, [], [], Wle.newO w1.gh hD, gD1, upd_same, .nil, e2, Nat.le_refl _⟩, ?_⟩
  rintro i m H2 ⟨rfl, hi', G2, acc, ws, w2, gD2, hD2, r2, ep, ha⟩
  by_cases hlt : i < ds.length
  · refine .inr ?_
    obtain ⟨go, yl⟩ := jok.go i G2 H2 w2.g w2.h w2.gh hlt
    refine ⟨go, fun H' => i + 1 ≤ ds.length ∧ ∃ G' acc ws, Wle G1 H1 G' H' ∧ G' Dl = none ∧ H' Dl = some (.dT ws) ∧ RepT K G' ws acc ∧ dcL (stepD g c fk fv (wipeE ρ vs)) (ds.drop (i + 1)) acc = some ys ∧ acc.length ≤ i + 1,
      fun H' hN => ⟨ds.length - (i + 1), by omega, rfl, hN⟩, fun x H3 hy => ?_⟩
    obtain ⟨G3, d, ed, w3, rd⟩ := yl x H3 hy
    have edr : ds.drop i = d :: ds.drop (i + 1) := by
      have hd : ds[i] = d := by
        rw [List.getElem?_eq_getElem hlt] at ed
        exact Option.some.inj ed
      rw [← hd]
      exact List.drop_eq_getElem_cons hlt
    rw [edr] at ep
    have E3 := E1.mono (w2.trans w3)
    unfold dcL at ep
    cases es : stepD g c fk fv (wipeE ρ vs) d with
    | none => rw [es] at ep; cases ep
    | some o =>
      rw [es] at ep
      obtain ⟨ρ2, p1, p2⟩ := stepD_some es
      refine hg _ _ G3 H3 x d E3.gh rd ρ2 p1 _ fun σ2 L4 hw => ⟨by rw [hw vs hj]; exact wipe_twice vs, ?_⟩
      have E4 := L4 B G3 H3 (Ex.refl _) E3
      rcases p2 with ⟨p2, rfl⟩ | ⟨xk, yv, k, p2, p3, p4, p5, rfl⟩
      · refine hc B ρ2 σ2 G3 H3 E4 _ p2 _ fun G4 H4 w4 => iteF ?_
        have kp := (w3.trans w4).keep gD2 hD2
        exact ⟨hlt, G4, acc, ws, w2.trans (w3.trans w4), kp.1, kp.2, r2.mono (w3.trans w4).g, ep, by omega⟩
      · refine hc B ρ2 σ2 G3 H3 E4 _ p2 _ fun G4 H4 w4 => iteT ?_
        refine hk B ρ2 σ2 G4 H4 (E4.mono w4) xk p3 _ fun u G5 H5 w5 r5 => hv B ρ2 σ2 G5 H5 (E4.mono (w4.trans w5)) yv p4 _ fun z G6 H6 w6 r6 => ?_
        have w36 := ((w3.trans w4).trans w5).trans w6
        have kp := w36.keep gD2 hD2
        obtain ⟨b, rfl, hb⟩ := tkOf_rep r5 p5
        have wl : ws.length ≤ i := by rw [r2.length]; exact ha
        have pl := putD_len acc k yv
        exact ⟨ws, k, b, rfl, w6.gh _ _ (w6.g _ _ hb), kp.2, Evl.sz_lt (by omega), hlt, G6, putD acc k yv, putK ws k z, (w2.trans w36).mut hD kp.1, kp.1, upd_same, (r2.mono w36.g).put r6, ep, by omega⟩
  · have e : i = ds.length := by omega
    subst e
    refine .inl ⟨jok.stop G2 H2 w2.g w2.h w2.gh, ?_⟩
    rw [List.drop_length] at ep
    cases ep
    exact q Dl _ G2 H2 (w1.trans w2) (Evl.fresh_back w1.h hD) gD2 hD2 (.dT r2)
end
end DL

/-! DLB: list(zip(xs, ys)) of two lists. -/
namespace DL
open PySem PySem.Spec PyProof.Rows L2
open Evl (Ex)
theorem zip_len_no : typeLookup (.type "zip") "__len__" = pure none := am_miss_of_fast (by decide +kernel)
theorem zip_hint_no : typeLookup (.type "zip") "__length_hint__" = pure none := am_miss_of_fast (by decide +kernel)
theorem vals_back {i : Nat} {u : Value} : ∀ {xs : List V} {us : List Value}, Vals xs us → us[i]? = some u → ∃ x, xs[i]? = some x ∧ RelV x u := fun {xs us} r e => by
  have hl := r.length
  have hi : i < xs.length := by rw [hl]; exact (List.getElem?_eq_some_iff.mp e).1
  obtain ⟨u', e', rr⟩ := r.get (i := i) (x := xs[i]) (List.getElem?_eq_getElem hi)
  rw [e] at e'
  cases e'
  exact ⟨xs[i], List.getElem?_eq_getElem hi, rr⟩
/-- the pairs that were made, in their order -/
structure ZM (xs ys : Array Value) (lo : Addr) (h : Heap) (as : List Addr) : Prop where
  up : as.Pairwise (· < ·)
  lo : ∀ a ∈ as, lo ≤ a
  at_ : ∀ (j : Nat) (a : Addr), as[j]? = some a → ∃ x y, xs[j]? = some x ∧ ys[j]? = some y ∧ IsPair h a x y
/-- where a zip of lists stands behind i turns -/
def ZSt (h : Heap) (z TI TO i1 i2 l1 l2 : Addr) (xs ys : Array Value) (i : Nat) : Prop := IsPair h TI (.ref i1) (.ref i2) ∧ h.IsListIter i1 l1 i ∧ h.IsListIter i2 l2 i ∧ h.IsList l1 xs ∧ h.IsList l2 ys ∧
  ((IsZip h z TI TO .none ∧ ∃ a b, IsPair h TO a b) ∨ ∃ T f oT, IsZipHeld h z TI TO T f ∧ h.get? T = some oT ∧ T ≠ z ∧ T ≠ i1 ∧ T ≠ i2)
section
variable {prog : Program} {w : World} {A : Around} {s : Shared} {xs ys : Array Value} {z TI TO i1 i2 l1 l2 S : Addr}
theorem ZSt.keep {h h' : Heap} {i : Nat} (st : ZSt h z TI TO i1 i2 l1 l2 xs ys i) (hk : ∀ b o, b ≠ S → h.get? b = some o → h'.get? b = some o) (dS : z ≠ S ∧ TI ≠ S ∧ TO ≠ S ∧ i1 ≠ S ∧ i2 ≠ S ∧ l1 ≠ S ∧ l2 ≠ S) (nT : ∀ T f, IsZipHeld h z TI TO T f → T ≠ S) : ZSt h' z TI TO i1 i2 l1 l2 xs ys i := by
  obtain ⟨a1, a2, a3, a4, a5, a6⟩ := st
  obtain ⟨d1, d2, d3, d4, d5, d6, d7⟩ := dS
  refine ⟨hk _ _ d2 a1, a2.at fun o e => hk _ o d4 e, a3.at fun o e => hk _ o d5 e, a4.at fun o e => hk _ o d6 e, a5.at fun o e => hk _ o d7 e, ?_⟩
  rcases a6 with ⟨b1, x, y, b2⟩ | ⟨T, f, oT, b1, b2, b3⟩
  · exact .inl ⟨hk _ _ d1 b1, x, y, hk _ _ d3 b2⟩
  · exact .inr ⟨T, f, oT, hk _ _ d1 b1, hk _ _ (nT T f b1) b2, b3⟩
/-- one more pair -/
theorem ZSt.next {i : Nat} {Q : Option Value → Shared → Prop} {E : Value → Shared → Prop} (D : ZipApart z TI TO i1 i2 l1 l2) (st : ZSt s.heap z TI TO i1 i2 l1 l2 xs ys i) {x y : Value} (ex : xs[i]? = some x) (ey : ys[i]? = some y)
    (hQ : ∀ h', ZSt h' z TI TO i1 i2 l1 l2 xs ys (i + 1) → IsPair h' s.heap.objs.size x y → h'.objs.size = s.heap.objs.size + 1 → (∀ T f, IsZipHeld h' z TI TO T f → T = s.heap.objs.size ∨ ∃ g, IsZipHeld s.heap z TI TO T g) →
      (∀ c o, c ≠ z → c ≠ TO → c ≠ i1 → c ≠ i2 → s.heap.get? c = some o → h'.get? c = some o) → Q (some (.ref s.heap.objs.size)) { s with heap := h' }) :
    wpAny (model prog w) A (pyNext (.ref z)) Q E s := by
  obtain ⟨a1, a2, a3, a4, a5, a6⟩ := st
  have lt : ∀ {c o}, s.heap.get? c = some o → s.heap.objs.size ≠ c := fun e => Nat.ne_of_gt (Heap.lt_size e)
  have n1 : s.heap.objs.size ≠ i1 := let ⟨_, e, _⟩ := a2; lt e
  have n2 : s.heap.objs.size ≠ i2 := let ⟨_, e, _⟩ := a3; lt e
  have heldInj : ∀ (h : Heap) (T U : Addr) (f g : Bool), IsZipHeld h z TI TO T f → IsZipHeld h z TI TO U g → T = U := fun h T U f g e1 e2 => by
    have e3 := e1.symm.trans e2
    injection e3 with e3
    injection e3 with _ _ e4 _
    injection e4 with e4
    have e5 : rawInt T = rawInt U := by
      have := congrArg (fun q : Array Value => q[0]?) e4
      exact Option.some.inj this
    have e6 : (T : Int) = (U : Int) := by
      unfold rawInt at e5
      injection e5
    exact Int.ofNat.inj e6
  rcases a6 with ⟨b1, u, v, b2⟩ | ⟨T, f, oT, b1, b2, b3, b4, b5⟩
  · refine wpAny_pyNext_zip_item D b1 a1 b2 a2 a3 a4 a5 ex ey fun h' c1 c2 c3 c4 c5 c6 hk => hQ h' ?_ c5 c6 (fun T f e => .inl (heldInj _ _ _ _ _ e c1)) hk
    exact ⟨hk _ _ D.TIz D.TITO D.TIi1 D.TIi2 a1, c3, c4, a4.at fun o e => hk _ o D.l1z D.l1TO D.l1i1 D.l1i2 e, a5.at fun o e => hk _ o D.l2z D.l2TO D.l2i1 D.l2i2 e, .inr ⟨_, false, _, c1, c5, lt b1, n1, n2⟩⟩
  · refine wpAny_pyNext_zip_item_held D b1 b2 a1 a2 a3 a4 a5 ex ey fun h' c1 c3 c4 c5 c6 hk => hQ h' ?_ c5 c6 (fun U g e => .inr ⟨f, by rw [heldInj _ _ _ _ _ e c1]; exact b1⟩) fun c o e1 _ e3 e4 e5 => hk c o e1 e3 e4 e5
    exact ⟨hk _ _ D.TIz D.TIi1 D.TIi2 a1, c3, c4, a4.at fun o e => hk _ o D.l1z D.l1i1 D.l1i2 e, a5.at fun o e => hk _ o D.l2z D.l2i1 D.l2i2 e, .inr ⟨T, true, oT, c1, hk _ _ b3 b4 b5 b2, b3, b4, b5⟩⟩
theorem ZSt.last {i : Nat} {Q : Option Value → Shared → Prop} {E : Value → Shared → Prop} (hh : A.handled = none) (D : ZipApart z TI TO i1 i2 l1 l2) (st : ZSt s.heap z TI TO i1 i2 l1 l2 xs ys i) (e : xs[i]? = none ∨ ys[i]? = none)
    (hQ : ∀ h', (∀ c o, c ≠ z → c ≠ TO → c ≠ i1 → c ≠ i2 → s.heap.get? c = some o → h'.get? c = some o) → Q none { s with heap := h' }) : wpAny (model prog w) A (pyNext (.ref z)) Q E s := by
  obtain ⟨a1, a2, a3, a4, a5, a6⟩ := st
  rcases a6 with ⟨b1, u, v, b2⟩ | ⟨T, f, oT, b1, b2, b3⟩
  · exact wpAny_pyNext_zip_end hh D b1 a1 b2 a2 a3 a4 a5 e fun h' hk => hQ h' hk
  · exact wpAny_pyNext_zip_end_held hh D b1 b2 a1 a2 a3 a4 a5 e fun h' hk => hQ h' fun c o e1 _ e3 e4 e5 => hk c o e1 e3 e4 e5
theorem zip_loop {R : Result → Shared → Prop} (hh : A.handled = none) (D : ZipApart z TI TO i1 i2 l1 l2) (dS : z ≠ S ∧ TI ≠ S ∧ TO ≠ S ∧ i1 ≠ S ∧ i2 ≠ S ∧ l1 ≠ S ∧ l2 ≠ S) (few : min xs.size ys.size ≤ sizeLine) (res : Value) {h0 : Heap} {lo : Addr}
    (low : z < lo ∧ TO < lo ∧ i1 < lo ∧ i2 < lo ∧ S < lo)
    (hR : ∀ h' tk acc c as, (∀ b o, b ≠ S → b ≠ z → b ≠ TO → b ≠ i1 → b ≠ i2 → h0.get? b = some o → h'.get? b = some o) → h'.get? S = some { cls := .type "list", dict := none, data := .seq acc c, slots := #[] } →
      as.length = min xs.size ys.size → ZM xs ys lo h' as → acc.toList = as.map Value.ref → R (.ok (.ret res)) { s with heap := h', toks := tk }) :
    ∀ (k i : Nat) (h : Heap) (tk c : Nat) (acc : Array Value) (as : List Addr), min xs.size ys.size - i = k → i ≤ min xs.size ys.size → ZSt h z TI TO i1 i2 l1 l2 xs ys i → (∀ T f, IsZipHeld h z TI TO T f → T ≠ S) →
      (∀ b o, b ≠ S → b ≠ z → b ≠ TO → b ≠ i1 → b ≠ i2 → h0.get? b = some o → h.get? b = some o) → h.get? S = some { cls := .type "list", dict := none, data := .seq acc c, slots := #[] } → acc.toList = as.map Value.ref → as.length = i → ZM xs ys lo h as → lo ≤ h.objs.size →
      codeAny (model prog w) A (.builtin "list.extend.loop" ⟨[.ref S, .ref z, res], []⟩) R { s with heap := h, toks := tk } := by
  have far : ∀ {a : Addr}, lo ≤ a → a ≠ S ∧ a ≠ z ∧ a ≠ TO ∧ a ≠ i1 ∧ a ≠ i2 := fun {a} ha =>
    ⟨Nat.ne_of_gt (Nat.lt_of_lt_of_le low.2.2.2.2 ha), Nat.ne_of_gt (Nat.lt_of_lt_of_le low.1 ha), Nat.ne_of_gt (Nat.lt_of_lt_of_le low.2.1 ha), Nat.ne_of_gt (Nat.lt_of_lt_of_le low.2.2.1 ha), Nat.ne_of_gt (Nat.lt_of_lt_of_le low.2.2.2.1 ha)⟩
  intro k
  induction k with
  | zero =>
    intro i h tk c acc as hk hi st nT keep hS hacc hal zm hlo
    refine codeAny_builtin PySem.F.entry_extend_loop ?_
    rw [Around.under_plainId PySem.F.plain_extend_loop _]
    show wpAny _ A.in1 (pyNext (.ref z) >>= _) _ _ _
    have en : xs[i]? = none ∨ ys[i]? = none := by
      rcases Nat.le_total xs.size ys.size with q | q
      · exact .inl (Array.getElem?_eq_none (by rw [Nat.min_eq_left q] at hk hi; omega))
      · exact .inr (Array.getElem?_eq_none (by rw [Nat.min_eq_right q] at hk hi; omega))
    refine wpAny_bind (st.last (s := { s with heap := h, toks := tk }) (A := A.in1) hh D en fun h' kp => ?_)
    refine wpAny_pure (hR h' tk acc c as (fun b o e1 e2 e3 e4 e5 e => kp b o e2 e3 e4 e5 (keep b o e1 e2 e3 e4 e5 e)) (kp S _ dS.1.symm dS.2.2.1.symm dS.2.2.2.1.symm dS.2.2.2.2.1.symm hS) (by omega) ⟨zm.up, zm.lo, fun j a hj => ?_⟩ hacc)
    obtain ⟨x, y, ex, ey, p⟩ := zm.at_ j a hj
    have fa := far (zm.lo a (List.mem_of_getElem? hj))
    exact ⟨x, y, ex, ey, kp a _ fa.2.1 fa.2.2.1 fa.2.2.2.1 fa.2.2.2.2 p⟩
  | succ k ih =>
    intro i h tk c acc as hk hi st nT keep hS hacc hal zm hlo
    have lx : i < xs.size := by have := Nat.min_le_left xs.size ys.size; omega
    have ly : i < ys.size := by have := Nat.min_le_right xs.size ys.size; omega
    have asz : acc.size = i := by rw [← Array.length_toList, hacc, List.length_map, hal]
    refine codeAny_builtin PySem.F.entry_extend_loop ?_
    rw [Around.under_plainId PySem.F.plain_extend_loop _]
    show wpAny _ A.in1 (pyNext (.ref z) >>= _) _ _ _
    refine wpAny_bind (st.next (s := { s with heap := h, toks := tk }) D (Array.getElem?_eq_getElem lx) (Array.getElem?_eq_getElem ly) fun h' st' pr sz nT' kp => ?_)
    dsimp only at pr sz nT' kp ⊢
    have hS' := kp S _ dS.1.symm dS.2.2.1.symm dS.2.2.2.1.symm dS.2.2.2.2.1.symm hS
    have Slt : S < h.objs.size := Heap.lt_size hS
    have up : ∀ b o, b ≠ S → h'.get? b = some o → (h'.update S (Obj.mapSeq (·.push (Value.ref h.objs.size)))).get? b = some o := fun b o hb e => (Heap.get?_update_other _ _ (Ne.symm hb)).trans e
    have nT2 : ∀ T f, IsZipHeld h' z TI TO T f → T ≠ S := fun T f e => by
      rcases nT' T f e with q | ⟨g, q⟩
      · rw [q]; exact Nat.ne_of_gt Slt
      · exact nT T g q
    show wpAny _ A.in1 (updateSeq S (·.push (Value.ref h.objs.size)) >>= _) _ _ _
    refine wpAny_bind ?_
    refine wpAny_updateSeq hS' rfl (wpAny_pure ⟨plainId_quiet PySem.F.plain_extend_loop _, ih (i + 1) _ tk _ (acc.push (Value.ref h.objs.size)) (as ++ [h.objs.size]) (by omega) (by omega) (st'.keep up dS nT2) (fun T f e => ?_)
      (fun b o e1 e2 e3 e4 e5 e => up b o e1 (kp b o e2 e3 e4 e5 (keep b o e1 e2 e3 e4 e5 e))) (Heap.get?_update_self _ hS' rfl) (by rw [Array.toList_push, hacc, List.map_append]; rfl) (by rw [List.length_append, hal]; rfl) ⟨?_, ?_, ?_⟩ ?_⟩) (by rw [asz]; omega) (by show (acc.push (Value.ref h.objs.size)).size ≤ sizeLine + 1; rw [Array.size_push, asz]; omega)
    · exact nT2 T f ((Heap.get?_update_other _ _ (Ne.symm dS.1)).symm.trans e)
    · refine List.pairwise_append.mpr ⟨zm.up, List.pairwise_singleton _ _, fun a ha b hb => ?_⟩
      rw [List.mem_singleton.mp hb]
      obtain ⟨j, hj⟩ := List.mem_iff_getElem?.mp ha
      obtain ⟨_, _, _, _, p⟩ := zm.at_ j a hj
      exact Heap.lt_size p
    · intro a ha
      rcases List.mem_append.mp ha with ha | ha
      · exact zm.lo a ha
      · rw [List.mem_singleton.mp ha]; exact hlo
    · intro j b hj
      rcases Nat.lt_trichotomy j as.length with q | q | q
      · rw [List.getElem?_append_left q] at hj
        obtain ⟨x, y, ex, ey, p⟩ := zm.at_ j b hj
        have fa := far (zm.lo b (List.mem_of_getElem? hj))
        exact ⟨x, y, ex, ey, up b _ fa.1 (kp b _ fa.2.1 fa.2.2.1 fa.2.2.2.1 fa.2.2.2.2 p)⟩
      · subst q
        have eb : h.objs.size = b := by simpa using hj
        subst eb
        exact ⟨xs[as.length]'(by rw [hal]; exact lx), ys[as.length]'(by rw [hal]; exact ly), Array.getElem?_eq_getElem _, Array.getElem?_eq_getElem _, up _ _ (Nat.ne_of_gt Slt) (by subst hal; exact pr)⟩
      · have no : (as ++ [h.objs.size])[j]? = none := List.getElem?_eq_none (by rw [List.length_append, List.length_singleton]; omega)
        rw [no] at hj; cases hj
    · have e : (h'.update S (Obj.mapSeq (·.push (Value.ref h.objs.size)))).get? h.objs.size = _ := up _ _ (Nat.ne_of_gt Slt) pr
      exact Nat.le_of_lt (Nat.lt_of_le_of_lt hlo (Heap.lt_size e))
theorem zip_hint {E : Value → Shared → Prop} {Q : Bool → Shared → Prop} (hT : s.TypeIs (.ref z) "zip") (h : Q true s) : wpAny (model prog w) A (Builtin.List.listLengthHint (.ref z)) Q E s := by
  unfold Builtin.List.listLengthHint
  refine wpAny_bind (wpAny_specialOf hT zip_len_no ?_)
  refine wpAny_ite_split (fun q => absurd q (by decide +kernel)) (fun _ => ?_)
  refine wpAny_ite_split (fun q => absurd q (by decide)) (fun _ => ?_)
  refine wpAny_bind (wpAny_specialOf hT zip_hint_no ?_)
  exact wpAny_pure h
theorem zip_extend {R : Result → Shared → Prop} (hh : A.handled = none) (D : ZipApart z TI TO i1 i2 l1 l2) (dS : z ≠ S ∧ TI ≠ S ∧ TO ≠ S ∧ i1 ≠ S ∧ i2 ≠ S ∧ l1 ≠ S ∧ l2 ≠ S) (few : min xs.size ys.size ≤ sizeLine) (res : Value) (c₀ : Nat)
    (low : z < s.heap.objs.size ∧ TO < s.heap.objs.size ∧ i1 < s.heap.objs.size ∧ i2 < s.heap.objs.size)
    (hz : IsZip s.heap z TI TO .none) (hTI : IsPair s.heap TI (.ref i1) (.ref i2)) (hTO : ∃ a b, IsPair s.heap TO a b) (h1 : s.heap.IsListIter i1 l1 0) (h2 : s.heap.IsListIter i2 l2 0) (hl1 : s.heap.IsList l1 xs) (hl2 : s.heap.IsList l2 ys)
    (hS : s.heap.get? S = some { cls := .type "list", data := .seq #[] c₀ })
    (hR : ∀ h' tk acc c as, (∀ b o, b ≠ S → b ≠ z → b ≠ TO → b ≠ i1 → b ≠ i2 → s.heap.get? b = some o → h'.get? b = some o) → h'.get? S = some { cls := .type "list", dict := none, data := .seq acc c, slots := #[] } →
      as.length = min xs.size ys.size → ZM xs ys s.heap.objs.size h' as → acc.toList = as.map Value.ref → R (.ok (.ret res)) { s with heap := h', toks := tk }) :
    wpAny (model prog w) A.in1 (Builtin.List.listExtendWith (.ref S) (.ref z) res)
      (fun fin s' => match fin with | .done f => R (.ok f) s' | .again c' => c'.quiet = true ∧ codeAny (model prog w) A c' R s') (fun e s' => R (.error e) s') s := by
  have hT : s.TypeIs (.ref z) "zip" := ⟨_, hz, rfl⟩
  have Slt : S < s.heap.objs.size := Heap.lt_size hS
  have noHeld : ∀ (h : Heap) (T : Addr) (f : Bool), IsZip h z TI TO .none → IsZipHeld h z TI TO T f → False := fun h T f e1 e2 => by
    have e3 := e1.symm.trans e2
    injection e3 with e3
    injection e3 with _ _ e4 _
    injection e4 with e4
    have := congrArg (fun q : Array Value => q[0]?) e4
    exact nomatch (show some Value.none = some (rawInt T) from this)
  unfold Builtin.List.listExtendWith
  refine wpAny_bind (wpAny_typeOf (T := "zip") hT ?_)
  have f1 : Builtin.List.listSameRef (.ref S) (.ref z) = false := by simp [Builtin.List.listSameRef, dS.1.symm]
  have f2 : (Value.type "zip" == Value.type "list") = false := by decide
  have f3 : (Value.type "zip" == Value.type "tuple") = false := by decide
  simp only [f1, f2, f3, Bool.or_false, Bool.false_eq_true, if_false]
  refine wpAny_bind (wpAny_pyIter_zip hz ?_)
  refine wpAny_bind (wpAny_holding (zip_hint hT ?_))
  refine wpAny_ite_split (fun _ => ?_) (fun q => absurd rfl q)
  refine wpAny_bind (wpAny_rule ?_)
  refine wpAny_bind ?_
  show wpAny _ _ (updateSeq S (·.push .none) >>= fun _ => updateSeq S (·.pop)) _ _ _
  refine wpAny_bind (wpAny_updateSeq hS rfl ?_)
  have hS2 := Heap.get?_update_self (Obj.mapSeq (·.push Value.none)) hS rfl
  refine wpAny_updateSeq (hz := by seq_fits) hS2 rfl ?_
  have hS3 := Heap.get?_update_self (Obj.mapSeq (·.pop)) hS2 rfl
  have up : ∀ b o, b ≠ S → s.heap.get? b = some o → ((s.heap.update S (Obj.mapSeq (·.push Value.none))).update S (Obj.mapSeq (·.pop))).get? b = some o := fun b o hb e => (Heap.get?_update_other _ _ (Ne.symm hb)).trans ((Heap.get?_update_other _ _ (Ne.symm hb)).trans e)
  have hz3 : IsZip ((s.heap.update S (Obj.mapSeq (·.push Value.none))).update S (Obj.mapSeq (·.pop))) z TI TO .none := up _ _ dS.1 hz
  have lsz : s.heap.objs.size ≤ ((s.heap.update S (Obj.mapSeq (·.push Value.none))).update S (Obj.mapSeq (·.pop))).objs.size := by
    rw [Heap.size_update, Heap.size_update]
    exact Nat.le_refl _
  refine wpAny_pure ⟨plainId_quiet PySem.F.plain_extend_loop _, zip_loop (s := s) (h0 := s.heap) (lo := s.heap.objs.size) hh D dS few res ⟨low.1, low.2.1, low.2.2.1, low.2.2.2, Slt⟩ hR (min xs.size ys.size) 0 _ _ _ #[] [] (Nat.sub_zero _) (Nat.zero_le _)
    ⟨up _ _ dS.2.1 hTI, h1.at fun o e => up _ o dS.2.2.2.1 e, h2.at fun o e => up _ o dS.2.2.2.2.1 e, hl1.at fun o e => up _ o dS.2.2.2.2.2.1 e, hl2.at fun o e => up _ o dS.2.2.2.2.2.2 e, .inl ⟨hz3, let ⟨a, b, e⟩ := hTO; ⟨a, b, up _ _ dS.2.2.1 e⟩⟩⟩
    (fun T f e => (noHeld _ _ _ hz3 e).elim) (fun b o e1 _ _ _ _ e => up b o e1 e) hS3 rfl rfl ⟨List.Pairwise.nil, (fun _ ha => nomatch ha), (fun j a hj => by simp at hj)⟩ lsz⟩
theorem zip_init {R : Result → Shared → Prop} (hh : A.handled = none) (D : ZipApart z TI TO i1 i2 l1 l2) (dS : z ≠ S ∧ TI ≠ S ∧ TO ≠ S ∧ i1 ≠ S ∧ i2 ≠ S ∧ l1 ≠ S ∧ l2 ≠ S) (few : min xs.size ys.size ≤ sizeLine)
    (low : z < s.heap.objs.size ∧ TO < s.heap.objs.size ∧ i1 < s.heap.objs.size ∧ i2 < s.heap.objs.size)
    (hz : IsZip s.heap z TI TO .none) (hTI : IsPair s.heap TI (.ref i1) (.ref i2)) (hTO : ∃ a b, IsPair s.heap TO a b) (h1 : s.heap.IsListIter i1 l1 0) (h2 : s.heap.IsListIter i2 l2 0) (hl1 : s.heap.IsList l1 xs) (hl2 : s.heap.IsList l2 ys)
    (hS : s.heap.get? S = some { cls := .type "list", data := .seq #[] })
    (hR : ∀ h' tk acc c as, (∀ b o, b ≠ S → b ≠ z → b ≠ TO → b ≠ i1 → b ≠ i2 → s.heap.get? b = some o → h'.get? b = some o) → h'.get? S = some { cls := .type "list", dict := none, data := .seq acc c, slots := #[] } →
      as.length = min xs.size ys.size → ZM xs ys s.heap.objs.size h' as → acc.toList = as.map Value.ref → R (.ok (.ret .none)) { s with heap := h', toks := tk }) :
    wpAny (model prog w) A.in1 (Builtin.«list.__init__» ⟨[.ref S, .ref z], []⟩)
      (fun fin s' => match fin with | .done f => R (.ok f) s' | .again c' => c'.quiet = true ∧ codeAny (model prog w) A c' R s') (fun e s' => R (.error e) s') s := by
  show wpAny _ _ (Builtin.List.listItems (.ref S) >>= fun was => Builtin.List.listUpdate (.ref S) (fun _ => #[]) >>= fun _ => letGo was.toList.reverse >>= fun _ => Builtin.List.listExtendWith (.ref S) (.ref z) .none) _ _ s
  refine wpAny_bind ?_
  unfold Builtin.List.listItems
  refine wpAny_bind (wpAny_seqItems hS rfl (wpAny_pure ?_))
  show wpAny _ _ (updateSeq S (fun _ => #[]) >>= fun _ => letGo (#[] : Array Value).toList.reverse >>= fun _ => Builtin.List.listExtendWith (.ref S) (.ref z) .none) _ _ s
  refine wpAny_bind (wpAny_updateSeq hS rfl ?_)
  have hS2 := Heap.get?_update_self (Obj.mapSeq (fun _ => (#[] : Array Value))) hS rfl
  have up : ∀ b o, b ≠ S → s.heap.get? b = some o → (s.heap.update S (Obj.mapSeq (fun _ => (#[] : Array Value)))).get? b = some o := fun b o hb e => (Heap.get?_update_other _ _ (Ne.symm hb)).trans e
  have lsz : (s.heap.update S (Obj.mapSeq (fun _ => (#[] : Array Value)))).objs.size = s.heap.objs.size := Heap.size_update _ _ _
  refine wpAny_bind (wpAny_letGo ?_)
  refine zip_extend hh D dS few .none _ (by rw [lsz]; exact low) (up _ _ dS.1 hz) (up _ _ dS.2.1 hTI) (let ⟨a, b, e⟩ := hTO; ⟨a, b, up _ _ dS.2.2.1 e⟩) (h1.at fun o e => up _ o dS.2.2.2.1 e) (h2.at fun o e => up _ o dS.2.2.2.2.1 e)
    (hl1.at fun o e => up _ o dS.2.2.2.2.2.1 e) (hl2.at fun o e => up _ o dS.2.2.2.2.2.2 e) hS2 fun h' tk acc c as hk hS' hal zm hacc => ?_
  exact hR h' tk acc c as (fun b o e1 e2 e3 e4 e5 e => hk b o e1 e2 e3 e4 e5 (up b o e1 e)) hS' hal ⟨zm.up, fun a ha => by rw [← lsz]; exact zm.lo a ha, zm.at_⟩ hacc
theorem zip_list {E : Value → Shared → Prop} {Q : Value → Shared → Prop} (hh : A.handled = none) (D : ZipApart z TI TO i1 i2 l1 l2) (few : min xs.size ys.size ≤ sizeLine)
    (hz : IsZip s.heap z TI TO .none) (hTI : IsPair s.heap TI (.ref i1) (.ref i2)) (hTO : ∃ a b, IsPair s.heap TO a b) (h1 : s.heap.IsListIter i1 l1 0) (h2 : s.heap.IsListIter i2 l2 0) (hl1 : s.heap.IsList l1 xs) (hl2 : s.heap.IsList l2 ys)
    (hQ : ∀ h' tk acc c as, (∀ b o, b ≠ z → b ≠ TO → b ≠ i1 → b ≠ i2 → s.heap.get? b = some o → h'.get? b = some o) → h'.get? s.heap.objs.size = some { cls := .type "list", dict := none, data := .seq acc c, slots := #[] } →
      as.length = min xs.size ys.size → ZM xs ys (s.heap.objs.size + 1) h' as → acc.toList = as.map Value.ref → Q (.ref s.heap.objs.size) { s with heap := h', toks := tk }) :
    wpAny (model prog w) A (call (.type "list") [.ref z]) Q E s := by
  refine callType_codes (Q₁ := fun ob s1 => ob = .ref s.heap.objs.size ∧ s1 = { s with heap := s.heap.push { cls := .type "list", data := .seq #[] } }) PySem.F.called_list (PySem.F.typeCall_list_1 _) PySem.F.entry_list_init
    (code_list_new _ ⟨rfl, rfl⟩) fun ob s1 hs1 => ?_
  obtain ⟨rfl, rfl⟩ := hs1
  have hS : (s.heap.push { cls := .type "list", data := .seq #[] }).get? s.heap.objs.size = some { cls := .type "list", data := .seq #[] } := Heap.get?_push_size _ rfl
  have psz : (s.heap.push { cls := .type "list", data := .seq #[] }).objs.size = s.heap.objs.size + 1 := Heap.size_push ..
  have lt : ∀ {c o}, s.heap.get? c = some o → c < s.heap.objs.size := fun e => Heap.lt_size e
  have z1 := lt hz
  have z2 := lt hTI
  have z3 : TO < s.heap.objs.size := let ⟨_, _, e⟩ := hTO; lt e
  have z4 : i1 < s.heap.objs.size := let ⟨_, e, _⟩ := h1; lt e
  have z5 : i2 < s.heap.objs.size := let ⟨_, e, _⟩ := h2; lt e
  have z6 : l1 < s.heap.objs.size := let ⟨_, e, _⟩ := hl1; lt e
  have z7 : l2 < s.heap.objs.size := let ⟨_, e, _⟩ := hl2; lt e
  have ps : ∀ {c o}, s.heap.get? c = some o → (s.heap.push { cls := .type "list", data := .seq #[] }).get? c = some o := fun e => Heap.get?_push_of_some _ e
  refine ⟨⟨_, hS, rfl⟩, PySem.F.args_list_init_2 _ _, zip_init (A := A.in1) hh D ⟨Nat.ne_of_lt z1, Nat.ne_of_lt z2, Nat.ne_of_lt z3, Nat.ne_of_lt z4, Nat.ne_of_lt z5, Nat.ne_of_lt z6, Nat.ne_of_lt z7⟩ few
    ⟨Nat.lt_of_lt_of_le z1 (by rw [psz]; exact Nat.le_succ _), Nat.lt_of_lt_of_le z3 (by rw [psz]; exact Nat.le_succ _), Nat.lt_of_lt_of_le z4 (by rw [psz]; exact Nat.le_succ _), Nat.lt_of_lt_of_le z5 (by rw [psz]; exact Nat.le_succ _)⟩
    (ps hz) (ps hTI) (let ⟨a, b, e⟩ := hTO; ⟨a, b, ps e⟩) (h1.at fun o e => ps e) (h2.at fun o e => ps e) (hl1.at fun o e => ps e) (hl2.at fun o e => ps e) hS fun h' tk acc c as hk hS' hal zm hacc => ?_⟩
  exact ⟨rfl, hQ h' tk acc c as (fun b o e2 e3 e4 e5 e => hk b o (Nat.ne_of_lt (lt e)) e2 e3 e4 e5 (ps e)) hS' hal ⟨zm.up, fun a ha => by rw [← psz]; exact zm.lo a ha, zm.at_⟩ hacc⟩
end
section
variable {X : Cx}
def tLzip (K : PySem.W.Frag) (ta : TA) : TE := fun σ H Q => ta σ H fun vs H1 => ∃ a b xs ys, vs = [V.ref a, V.ref b] ∧ SqL K H1 a xs ∧ SqL K H1 b ys ∧ ∀ (D : Addr) (as : List Addr) (H2 : Hp), H1 D = none → as.length = min xs.length ys.length → (∀ c ∈ as, H1 c = none ∧ c ≠ D) →
  (∀ c o, upd H1 D (.lst (as.map V.ref)) c = some o → H2 c = some o) → (∀ (j : Nat) c, as[j]? = some c → ∃ x y, xs[j]? = some x ∧ ys[j]? = some y ∧ H2 c = some (.tup [x, y])) → Q (.ref D) H2
theorem pe_listZip {e e2 : Expr} {ta : TA} {p p2 pos pos2 : Pos} (calm : X.calm = true) (hg : Gl X "list") (hm : X.mg "list" = none) (hg2 : Gl X "zip") (hm2 : X.mg "zip" = none) (ha : PA X [e, e2] ta)
    (na : starEach [Expr.Call (.Name "zip" p2) [e, e2] [] pos2] X.env = (false, eval (Expr.Call (.Name "zip" p2) [e, e2] [] pos2) X.env) :: starEach [] X.env := by rfl)
    (hs : starEach [e, e2] X.env = (false, eval e X.env) :: starEach [e2] X.env := by rfl) (hpl : (backTo pos2 (starEach [e2] X.env)).any (·.1) = false := by rfl) :
    PE X (.Call (.Name "list" p) [.Call (.Name "zip" p2) [e, e2] [] pos2] [] pos) (tLzip X.K ta) := by
  refine ⟨fun pn s0 τ F Q inv pr => ?_⟩
  refine Call_ (ld_blt inv hg hm boot_list (PyProof.Rows.callWith_type1 (args_cons ?_ na) na))
  refine Call_ (ld_blt inv hg2 hm2 PyProof.Rows.boot_zip (PyProof.Rows.callWith_type1 (thn (ha.run pos2 pn s0 τ F _ inv pr) fun us s1 ⟨vs, F1, inv1, r1, q1⟩ => ?_) hs hpl))
  obtain ⟨a, b, vx, vy, rfl, hqx, hqy, fin⟩ := q1
  cases r1 with
  | cons ra rr =>
    cases rr with
    | cons rb rr =>
      cases rr
      cases ra
      cases rb
      obtain ⟨its, rv, pl1, hn1⟩ := inv1.list hqx
      obtain ⟨its2, rv2, pl2, hn2⟩ := inv1.list hqy
      have la : a < s1.heap.objs.size := pl1.lt
      have lb : b < s1.heap.objs.size := pl2.lt
      refine call_zip_2 pl1.isList pl2.isList fun h1 hz hTI hTO hi1 hi2 hsz hk => args_nil ?_
      have few : min its.toArray.size its2.toArray.size ≤ sizeLine := Nat.le_trans (Nat.min_le_left ..) (by rw [List.size_toArray, ← rv.length]; exact hn1)
      refine zip_list (s := { s1 with heap := h1 }) (A := X.A) (inv1.ok.hd calm) (PySem.W.ktu_apart s1.heap.objs.size a b la lb) few hz hTI ⟨_, _, hTO⟩ hi1 hi2 (pl1.isList.at fun o e => hk _ o e) (pl2.isList.at fun o e => hk _ o e) fun h' tk acc c as kp hS hal zm hacc => ?_
      dsimp only at kp hS zm ⊢
      have big : s1.heap.objs.size ≤ h1.objs.size := by rw [hsz]; exact Nat.le_add_right _ _
      have kept : ∀ q o, s1.heap.get? q = some o → h'.get? q = some o := fun q o e => by
        have lt := Heap.lt_size e
        exact kp q o (Nat.ne_of_lt (Nat.lt_of_lt_of_le lt (Nat.le_add_right _ _))) (Nat.ne_of_lt (Nat.lt_of_lt_of_le lt (Nat.le_add_right _ _))) (Nat.ne_of_lt lt) (Nat.ne_of_lt (Nat.lt_of_lt_of_le lt (Nat.le_add_right _ _))) (hk q o e)
      have inv2 : Inv X pn τ F1 { s1 with heap := h', toks := tk } := inv1.kept kept
      have noD : F1 h1.objs.size = none := inv1.hok.fresh big
      have nAs : ∀ q ∈ as, s1.heap.objs.size ≤ q ∧ F1 q = none ∧ q ≠ h1.objs.size := fun q hq => by
        have l := zm.lo q hq
        have l2 : s1.heap.objs.size ≤ q := Nat.le_trans big (Nat.le_of_succ_le l)
        exact ⟨l2, inv1.hok.fresh l2, Nat.ne_of_gt l⟩
      have vl : as.length ≤ sizeLine := by rw [hal]; exact few
      have vr : Vals (as.map V.ref) (as.map Value.ref) := vals_refs as
      have ob : ObjOk X.prog X.w (upd F1 h1.objs.size (.lst (as.map V.ref))) h' h1.objs.size (.lst (as.map V.ref)) := by
        refine ⟨by rw [List.length_map]; exact vl, as.map Value.ref, c, vr, ?_⟩
        rw [← hacc, Array.toArray_toList]
        exact hS
      have inv3 : Inv X pn τ (upd F1 h1.objs.size (.lst (as.map V.ref))) { s1 with heap := h', toks := tk } := inv2.take (h' := h') (t' := tk) (fun _ _ _ e => e) (inv1.fpOk big noD) ob
      have nd : as.Nodup := List.Pairwise.imp (fun h => Nat.ne_of_lt h) zm.up
      obtain ⟨F2, inv4, ex4, tups⟩ := L2.DX.takeT (P := fun q vs => ∃ (j : Nat) (x y : V), as[j]? = some q ∧ vx[j]? = some x ∧ vy[j]? = some y ∧ vs = [x, y]) inv1 as _ inv3 nd fun q hq => by
        obtain ⟨l, no, ne⟩ := nAs q hq
        obtain ⟨j, hj⟩ := List.mem_iff_getElem?.mp hq
        obtain ⟨x, y, e1, e2, p⟩ := zm.at_ j q hj
        obtain ⟨x', ex', rx⟩ := vals_back rv (by simpa using e1)
        obtain ⟨y', ey', ry⟩ := vals_back rv2 (by simpa using e2)
        exact ⟨l, by rw [upd_ne ne]; exact no, [x', y'], ⟨j, x', y', hj, ex', ey', rfl⟩, fun F3 => ⟨by show 2 ≤ sizeLine; decide, [x, y], .cons rx (.cons ry .nil), ⟨_, p, rfl, _, rfl⟩⟩⟩
      refine ⟨.ref h1.objs.size, F2, inv4, rfl, fin _ as F2 noD (by rw [hal, List.size_toArray, List.size_toArray, rv.length, rv2.length]) (fun q hq => ⟨(nAs q hq).2.1, (nAs q hq).2.2⟩) ex4 fun j q hj => ?_⟩
      obtain ⟨vs, ⟨j', x, y, e1, e2, e3, rfl⟩, hv⟩ := tups q (List.mem_of_getElem? hj)
      have ej : j' = j := (List.getElem?_inj (List.getElem?_eq_some_iff.mp e1).1 nd).mp (e1.trans hj.symm)
      subst ej
      exact ⟨x, y, e2, e3, hv⟩
end
end DL
namespace DL
open PySem PySem.Spec PyProof.Rows L2
open Evl (Ex)
section
variable {K : PySem.W.Frag}
def eLzip (f : Env → Option (List D)) : EvF := fun ρ => match f ρ with
  | some [.lst xs, .lst ys] => some (.lst (zipD xs ys))
  | _ => none
/-- the new pairs are shared from now on -/
def gPlus (G H2 : Hp) (as : List Addr) : Hp := fun b => match G b with
  | some o => some o
  | none => if b ∈ as then H2 b else none
theorem SF.lzip {fs : Env → Option (List D)} {bs : List Bool} {tas : TA} (s : SA K bs fs tas) : SF K (eLzip fs) (tLzip K tas) := fun B ρ σ G H E d e Q q => by
  unfold eLzip at e
  split at e
  · rename_i xs ys p
    cases e
    refine s B ρ σ G H E _ p _ fun vs G1 H1 w1 r1 => ?_
    obtain ⟨v, u, rfl, ra, rb⟩ := r1.two
    obtain ⟨la, vx, rfl, ha, rx⟩ := ra.lst w1.gh
    obtain ⟨lb, vy, rfl, hb, ry⟩ := rb.lst w1.gh
    refine ⟨la, lb, vx, vy, rfl, SqL.of ha, SqL.of hb, fun Dl as H2 hD hal hn ex hp => ?_⟩
    have ex1 : Ex H1 H2 := fun c o hc => ex c o (by rw [upd_ne (ne_of_none hc hD)]; exact hc)
    have gA : ∀ c ∈ as, G1 c = none := fun c hc => Evl.fresh_back w1.gh (hn c hc).1
    have gD : gPlus G1 H2 as Dl = none := by
      unfold gPlus
      rw [Evl.fresh_back w1.gh hD]
      exact if_neg fun z => (hn Dl z).2 rfl
    have exG : Ex G1 (gPlus G1 H2 as) := fun c o hc => by
      unfold gPlus
      rw [hc]
    have gAt : ∀ c ∈ as, gPlus G1 H2 as c = H2 c := fun c hc => by
      unfold gPlus
      rw [gA c hc]
      exact if_pos hc
    have w2 : Wle G1 H1 (gPlus G1 H2 as) H2 := by
      refine ⟨exG, ex1, fun c o hc => ?_, fun c o hc => ?_⟩
      · unfold gPlus at hc
        cases z : G1 c with
        | some o' => rw [z] at hc; cases hc; exact ex1 _ _ (w1.gh _ _ z)
        | none =>
          rw [z] at hc
          by_cases m : c ∈ as
          · rw [if_pos m] at hc; exact hc
          · rw [if_neg m] at hc; cases hc
      · unfold gPlus at hc
        cases z : G1 c with
        | some o' => rw [z] at hc; cases hc; exact .inl rfl
        | none =>
          rw [z] at hc
          by_cases m : c ∈ as
          · exact .inr (.inl (hn c m).1)
          · rw [if_neg m] at hc; cases hc
    refine q Dl _ (gPlus G1 H2 as) H2 (w1.trans w2) (Evl.fresh_back w1.h hD) gD (ex _ _ upd_same) (.lst (Reps.of_get ?_ fun i v d e1 e2 => ?_))
    · rw [List.length_map, hal, rx.length, ry.length]
      unfold zipD
      rw [List.length_map, List.length_zip]
    · rw [List.getElem?_map] at e1
      cases ea : as[i]? with
      | none => rw [ea] at e1; cases e1
      | some c =>
        rw [ea] at e1
        cases e1
        obtain ⟨x, y, hx, hy, ht⟩ := hp i c ea
        obtain ⟨dx, f1, f2⟩ := rx.getV hx
        obtain ⟨dy, f3, f4⟩ := ry.getV hy
        have ez : d = .tup [dx, dy] := by
          have z : (xs.zip ys)[i]? = some (dx, dy) := List.getElem?_zip_eq_some.mpr ⟨f1, f3⟩
          unfold zipD at e2
          rw [List.getElem?_map, z] at e2
          exact (Option.some.inj e2).symm
        subst ez
        have mc := List.mem_of_getElem? ea
        exact .tup ((gAt c mc).trans ht) (.cons (f2.mono exG) (.cons (f4.mono exG) .nil))
  · cases e
end
end DL

/-! DLC: the law's def called by the caller itself (so that the guards are known), and repr of deep data. -/
namespace DL
open PySem PySem.Spec PyProof.Rows L2
open Evl (Ex)
/-- a def's promise where it is called by the caller -/
def AtCaller (P : Program) (w : World) (K : PySem.W.Frag) (mg : Str → Option Value) (base : Heap) (f : Addr) (fd : FuncData) (ps : List Str) (sp : Sp) : Prop :=
  ∀ (outer : List PySem.Env) (s : Shared) (H : Hp) (args : Args) (us : List Value) (vs : List V) (Q : VK) (E : XK), Env0 P w K mg base callerA outer s H → BindsTo s fd args (ps.zip us) → Vals vs us → sp vs H Q E →
    codeAny (model P w) callerA (.call (.ref f) args) (CR CX0 outer P w H s Q E) s
section
variable {P : Program} {w : World} {K : PySem.W.Frag} {mg : Str → Option Value} {base : Heap}
theorem atCaller {nm qn : Str} {pars : Arguments} {bd : List Stmt} {sc : Scope} {dv kv dc pm cv ct oc : Value} {an od : Option Addr} {osl : Array (Option Value)} {f : Addr} {N ps : List Str} {sp : Sp} {k : Nat} (room : Room (k + 1) callerA)
    (look : K.lookup f = some ⟨oc, od, .func (PySem.W.fnOf nm qn pars bd sc dv kv dc pm an cv ct), osl⟩) (code : PySem.W.codeIn K cv qn = true) (S : FnScope N ps sc) (len : ∀ vs H Q E, sp vs H Q E → vs.length = ps.length)
    (run : ∀ (outer : List PySem.Env) (s : Shared) (H : Hp) (vs : List V) (Q : VK) (E : XK), sp vs H Q E → ∃ t, PSs (cxOf CX0 P w K mg base N qn sc f cv callerA outer s H E) bd t ∧ t { nx := fun _ H' => Q .non H', rt := Q } (L2.start N vs) H) :
    AtCaller P w K mg base f (PySem.W.fnOf nm qn pars bd sc dv kv dc pm an cv ct) ps sp := by
  intro outer s H args us vs Q E e0 hb rv hsp
  have sameLen := len _ _ _ _ hsp
  have kin : K.In s.heap := e0.mod.kin.keeps fun b o e => (e0.bs b o e).1
  have noLim : s.heap.NoLimit := e0.mod.nolimit.keeps fun b o e => (e0.bs b o e).1
  have kinds : ∀ y ∈ ps.zip us, sc.names.lookup y.1 = some .local ∨ (sc.names.lookup y.1 = some .cell ∧ ((cellsFrom (s.heap.objs.size + 1) sc.names []).lookup y.1).isSome = true) := fun y hy => by
    obtain ⟨n, v⟩ := y
    rcases S.par n (List.of_mem_zip hy).1 with q | q
    · exact .inl q
    · exact .inr ⟨q, PySem.W.cellsFrom_some _ _ _ (.inl q)⟩
  refine codeAny_call_function room.depth (kin _ _ look) rfl S.co S.gen rfl (PySem.W.codeRec_of kin code) (hb _ _ _ _ ?_)
  refine wpAny_newFunctionEnv_cells S.kind kinds fun env he s1 x => ?_
  subst he
  refine ⟨noLim.keeps x.toInCall.keep, codeAny_func ?_⟩
  obtain ⟨t, ht, hq⟩ := run outer s H vs Q E hsp
  have inv : Inv (cxOf CX0 P w K mg base N qn sc f cv callerA outer s H E) [] (L2.start N vs) H s1 := inv_start S room.hd e0 sameLen rv x
  refine wpAny_mono (ht.run [] s1 (L2.start N vs) H _ inv hq) (fun fl s' post => ?_) fun e s' post => post
  have done : ∀ {τ : St} {H' : Hp} {v : V} {u : Value}, Inv (cxOf CX0 P w K mg base N qn sc f cv callerA outer s H E) [] τ H' s' → RelV v u → Q v H' → CE outer P w H s Q u s' :=
    fun {τ H' v u} J r q => ⟨v, H', J.os, J.bare, J.base, J.hok, r, q⟩
  cases fl with
  | ret u =>
    obtain ⟨v, τ, H', J, r, q⟩ := post
    exact done J r q
  | next =>
    obtain ⟨τ, H', J, q⟩ := post
    exact done (v := V.non) (u := Value.none) J rfl q
  | brk =>
    obtain ⟨_, _, _, q⟩ := post
    exact q.elim
  | cont =>
    obtain ⟨_, _, _, q⟩ := post
    exact q.elim
theorem callLaw {mb : Str → Option Value} {fa a : Addr} {fd : FuncData} {x : Str} {sp : Sp} {t₁ : Shared} {vs : List Value} {ns : List Int}
    (kin : K.In t₁.heap) (glob : t₁.heap.Ns mainGlobals mg) (blt : t₁.heap.Ns builtinsNs mb) (isBlt : ∀ x : Str, x ≠ "__name__" → mb x = bootBuiltins x) (noLim : t₁.heap.NoLimit) (noGen : t₁.gens = #[])
    (script : t₁.heap.get? a = some { cls := .type "list", data := .seq vs.toArray }) (numb : IntsAre vs ns) (few : ns.length ≤ sizeLine)
    (F : ∀ base : Heap, K.In base → base.Ns mainGlobals mg → AtCaller P w K mg base fa fd [x] sp) (binds : ∀ (s : Shared) (u : Value), BindsTo s fd ⟨[u], []⟩ [(x, u)])
    (hsp : ∀ H : Hp, SqL K H a (ns.map V.int) → sp [.ref a] H (fun v _ => v = .bl true) fun _ _ _ => False) :
    codeAny (model P w) callerA (.call (.ref fa) ⟨[.ref a], []⟩) (fun r s' => r = .ok (.ret (.bool true)) ∧ OldK t₁.heap s'.heap ∧ s'.os = t₁.os ∧ AllBare s'.gens) t₁ := by
  have rel := vals_ints numb
  have sameLen := numb.length
  -- whatever abstract heap: nothing but the script is tracked in it
  have any : ∀ H : Hp, Only H → SqL K H a (ns.map V.int) → HOk P w H t₁.heap → (∀ b, H b ≠ none → b = a) → (H a ≠ none → K.lookup a = none) →
      codeAny (model P w) callerA (.call (.ref fa) ⟨[.ref a], []⟩) (fun r s' => r = .ok (.ret (.bool true)) ∧ OldK t₁.heap s'.heap ∧ s'.os = t₁.os ∧ AllBare s'.gens) t₁ := by
    intro H only sq hok alone free
    have down : ∀ {b : Addr} {o : Obj}, t₁.heap.get? b = some o → H b = none → (hidT t₁.heap H).get? b = some o := fun e n => hidT_get e n
    have dictOut : ∀ {b : Addr} {o : Obj} {es : Array DictEntry} {ep : Nat}, t₁.heap.get? b = some o → o.data = .dict es ep → H b = none := fun {b o es ep} e d => by
      cases q : H b with
      | none => rfl
      | some u =>
        obtain rfl : b = a := alone b (by rw [q]; simp)
        rw [script] at e
        cases e
        exact nomatch (show Data.seq vs.toArray _ = Data.dict es ep from d)
    have nsDown : ∀ {b : Addr} {m : Str → Option Value}, t₁.heap.Ns b m → (hidT t₁.heap H).Ns b m := fun {b m} ⟨o, es, ep, e, d, r⟩ => ⟨o, es, ep, down e (dictOut e d), d, r⟩
    have kinB : K.In (hidT t₁.heap H) := fun b o e => down (kin b o e) (by
      cases q : H b with
      | none => rfl
      | some u =>
        obtain rfl : b = a := alone b (by rw [q]; simp)
        have := free (by rw [q]; simp)
        rw [this] at e
        cases e)
    have md : Mod K mg (hidT t₁.heap H) := ⟨kinB, nsDown glob, ⟨mb, nsDown blt, isBlt⟩, let ⟨mc, u1, u2⟩ := noLim; ⟨mc, nsDown u1, u2⟩⟩
    have env : Env0 P w K mg (hidT t₁.heap H) callerA [] t₁ H := ⟨rfl, md, fun b o e => of_hidT e, Nat.le_of_eq (hidT_size _ _), trivial, (fun b hb => nomatch (show b ∈ ([] : List Addr) from hb)), hok, .of_eq noGen⟩
    refine codeAny_mono (F _ kinB (nsDown glob) [] t₁ H ⟨[.ref a], []⟩ [.ref a] [.ref a] _ _ env (binds t₁ (.ref a)) (.cons rfl .nil) (hsp H sq)) fun r s' post => ?_
    cases r with
    | error e => exact (show False from post).elim
    | ok fl =>
      cases fl with
      | next => exact (show False from post).elim
      | brk => exact (show False from post).elim
      | cont => exact (show False from post).elim
      | ret u =>
        obtain ⟨v, H', os, bare, un, hok', r', q⟩ := post
        obtain rfl : v = .bl true := q
        obtain rfl : u = Value.bool true := r'
        refine ⟨rfl, OldK.of_keep fun b o e => ?_, os, bare⟩
        cases q : H b with
        | none => exact un.keep b o e q (fun z => nomatch (show b ∈ ([] : List Addr) from z)) (by simp)
        | some u =>
          rcases only b with z | ⟨ob, ys, z⟩
          · rw [q] at z
            cases z
          · obtain ⟨g1, _⟩ := hok b _ z
            obtain ⟨g2, _⟩ := hok' b _ (un.frzs b ob _ z)
            rw [e] at g1
            cases g1
            exact g2
  cases look : K.lookup a with
  | some o =>
    -- the script is an object of the module's own
    have e := kin a o look
    rw [script] at e
    cases e
    exact any (fun _ => none) (fun _ => .inl rfl) (.inr ⟨_, vs.toArray, _, look, rfl, rfl, rfl, by rw [List.size_toArray, sameLen]; exact few, by simpa using rel⟩) (fun b u q => nomatch (show (none : Option HO) = some u from q)) (fun b q => absurd rfl q) fun q => absurd rfl q
  | none =>
    have at_a : (fun b => if b = a then some (HO.frz { cls := .type "list", data := .seq vs.toArray } (.lst (ns.map V.int))) else none : Hp) a = some (.frz { cls := .type "list", data := .seq vs.toArray } (.lst (ns.map V.int))) := if_pos rfl
    have off_a : ∀ b, b ≠ a → (fun b => if b = a then some (HO.frz { cls := .type "list", data := .seq vs.toArray } (.lst (ns.map V.int))) else none : Hp) b = none := fun b hb => if_neg hb
    refine any (fun b => if b = a then some (.frz { cls := .type "list", data := .seq vs.toArray } (.lst (ns.map V.int))) else none) (fun b => ?_) (.inl (.inr ⟨{ cls := .type "list", data := .seq vs.toArray }, at_a⟩)) (fun b u q => ?_) (fun b q => ?_) fun _ => look
    · by_cases hb : b = a
      · subst hb
        exact .inr ⟨_, _, at_a⟩
      · exact .inl (off_a b hb)
    · by_cases hb : b = a
      · subst hb
        rw [at_a] at q
        cases q
        exact ⟨script, by rw [List.length_map]; exact few, vs, _, rel, script⟩
      · rw [off_a b hb] at q
        cases q
    · by_cases hb : b = a
      · exact hb
      · exact absurd (off_a b hb) q
end
theorem walkG {l : PySem.W.OpenLaw} {n : Nat} {q : Program} {loose : List Str} {XP : (Str → Option Value) → Heap → Prop} {YP : World → Heap → Prop} {d : DefRec} {K : Params → PySem.W.Frag} {sp : World → Sp} {x : Str}
    (hn : l.most = some n) (hn2 : n ≤ sizeLine) (hdf : d.params.defaults = []) (hY : ∀ (w : World) (h : Heap), YP w h → (K w.params).In h)
    (F : ∀ (w : World) (mg : Str → Option Value) (fa : Addr) (h : Heap), (K w.params).In h → h.Ns mainGlobals mg → mg d.name = some (.ref fa) →
      ∃ fd : FuncData, (∀ (s : Shared) (u : Value), BindsTo s fd ⟨[u], []⟩ [(x, u)]) ∧ ∀ base : Heap, (K w.params).In base → base.Ns mainGlobals mg → AtCaller l.prog w (K w.params) mg base fa fd [x] (sp w))
    (hsp : ∀ (w : World) (H : Hp) (a : Addr) (ns : List Int), ns.length ≤ n → SqL (K w.params) H a (ns.map V.int) → sp w [.ref a] H (fun v _ => v = .bl true) fun _ _ _ => False) :
    PySem.W.WalkO q loose XP YP l.row.toRowW d [] (fun f vs => PySem.call f vs) := by
  refine Att.attach_call hn hdf fun w s₀ s₁ mg mb fa o pm cd doc a vs ns G Y ho hd hcd hmg hobj hints hlen hg => ?_
  obtain ⟨fd, hb, hF⟩ := F w mg fa _ (hY w _ Y) G.T.g hmg
  exact callLaw (hY w _ Y) G.T.g G.T.b G.T.builtins G.T.nolimit hg hobj hints (Nat.le_trans hlen hn2) hF hb fun H hS => hsp w H a ns hlen hS
end DL
namespace DL
open PySem PySem.Spec PyProof.Rows L2
open Evl (Ex)
section
variable {prog : Program} {w : World} {A : Around} {E : Value → Shared → Prop} {s : Shared}
/-- repr of a list of plain data, no dict within -/
theorem repr_list {u : Value} {ds : List PyData} {as : List Addr} {Q : Value → Shared → Prop} (r : Reads s.heap u (.list ds) as) (sh : (PyData.list ds).showable = true) (nd : (PyData.list ds).hasDict = false) (gd : A.guards = some []) (room : A.units + 1 + (PyData.list ds).depth < cLine) (short : (PyData.list ds).shown.length ≤ sizeLine)
    (hQ : ∀ h' t tk, (∀ b o, s.heap.get? b = some o → h'.get? b = some o) → Q (.str (PyData.list ds).shown t) { s with heap := h', toks := tk }) : wpAny (model prog w) A (call (.builtin "repr") [u]) Q E s := by
  cases r with
  | @list a o vs n _ as' h1 h2 h3 h4 =>
    have short' : (listText (PyData.shownAll ds)).length ≤ sizeLine := by simpa only [PyData.shown] using short
    obtain ⟨bs, hb, hk⟩ := ReprAllK.of_readsAll (prog := prog) (w := w) h4 (by simpa [PyData.showable] using sh) (fun hx => by
      have : PyData.hasDictAll ds = false := by simpa [PyData.hasDict] using nd
      rw [this] at hx
      cases hx) (fun t ht => Nat.le_trans (listText_mem_le ht) short')
    have r : Reads s.heap (.ref a) (.list ds) _ := .list h1 h2 h3 h4
    have out : a ∉ bs := not_mem_of_deeper r (by simp only [PyData.depth]; omega) hb
    simp only [PyData.depth] at room
    simp only [PyData.shown] at hQ
    have ty : s.TypeIs (.ref a) "list" := ⟨o, h1, h2⟩
    refine call_repr_slot (idr := "list.__repr__") (by omega) ty PySem.F.slot_list_repr.toG ?_
    obtain ⟨l⟩ := vs
    cases l with
    | nil =>
      have h4' : ReadsAll s.heap [] ds _ := h4
      cases h4'
      simp only [PyData.shownAll, listText_nil] at hQ
      exact call_list_repr_empty ty h1 h3 ⟨_, _, rfl, hQ s.heap _ _ fun _ _ e => e⟩
    | cons x l =>
      exact call_list_reprK h1 h2 h3 out (by simpa using hk.length_eq) (fun i y e => hk.item i y (by simpa using e)) gd (fun b _ => Clear.nil b) (by show A.units + 1 + _ < _; omega) (fun _ _ e => e) (fun h' t tk keep => ⟨_, _, rfl, hQ h' t tk keep⟩) short'
end
def rReprA (K : PySem.W.Frag) : List V → Hp → VK → Prop := fun xs H Q => (∃ x ds, xs = [x] ∧ Dp K H x (.list ds) ∧ (PyData.list ds).showable = true ∧ (PyData.list ds).hasDict = false ∧ (PyData.list ds).depth ≤ 100 ∧ (PyData.list ds).shown.length ≤ sizeLine ∧ Q (.str (PyData.list ds).shown) H) ∨
  (∃ i, xs = [.int i] ∧ i.natAbs.log2 < 1920 ∧ Q (.str (toString i)) H)
theorem cr_repr {X : Cx} (gd : X.A.guards = some []) (room : X.A.units + 200 < cLine) : CallR X (.builtin "repr") (rReprA X.K) := by
  intro pn s τ H xs us Q inv r h
  rcases h with ⟨x, ds, rfl, hd, sh, nd, dp, short, q⟩ | h
  · obtain ⟨u, rfl, rx⟩ := vals1 r
    obtain ⟨as, rd⟩ := Dp.reads inv (.list ds) x u hd rx
    exact repr_list rd sh nd gd (by omega) short fun h' t tk keep => ⟨.str _, H, inv.kept (t' := tk) keep, ⟨t, rfl⟩, q⟩
  · exact SkE.call_repr_int pn s τ H xs us Q inv r h
/-- what repr is asked of: ints, lists of plain data, not too long -/
def cRep (d : PyData) : Bool := d.showable && !d.hasDict && d.leavesShort 20 && decide (d.weight ≤ 3000)
def dRepr : List D → Option D
  | [.int i] => if i.natAbs.log2 < 1920 then some (.str (toString i)) else none
  | [.lst xs] => if D.ok 60 (.lst xs) && cRep (D.toPy (.lst xs)) then some (.str (D.toPy (.lst xs)).shown) else none
  | _ => none
theorem cd_repr {K : PySem.W.Frag} : CallD K dRepr (rReprA K) := fun G H bs vs ds z gh a e Q q => by
  unfold dRepr at e
  split at e
  · rename_i i
    by_cases c : i.natAbs.log2 < 1920
    · rw [if_pos c] at e
      cases e
      obtain ⟨v, rfl, r⟩ := a.one
      exact .inr ⟨i, by rw [r.int], c, q _ G H (Wle.refl gh) (.str _)⟩
    · rw [if_neg c] at e; cases e
  · rename_i xs
    by_cases c : (D.ok 60 (.lst xs) && cRep (D.toPy (.lst xs))) = true
    · rw [if_pos c] at e
      cases e
      rw [Bool.and_eq_true] at c
      obtain ⟨c1, c2⟩ := c
      obtain ⟨v, rfl, r⟩ := a.one
      have dp := bdp_of 60 r gh c1
      obtain ⟨_, dep⟩ := lay_of 60 (.lst xs) c1
      unfold cRep at c2
      simp only [Bool.and_eq_true, decide_eq_true_eq, Bool.not_eq_true'] at c2
      obtain ⟨⟨⟨k1, k2⟩, k3⟩, k4⟩ := c2
      have sl := PyData.shown_le 20 (by omega) _ k3
      have el : (D.lst xs).toPy = .list (D.toPys xs) := by rw [D.toPy]
      rw [el] at dp dep k1 k2 k3 k4 sl q
      refine .inl ⟨v, D.toPys xs, rfl, dp, k1, k2, by omega, ?_, q _ G H (Wle.refl gh) (.str _)⟩
      exact Evl.sz_of (by omega)
    · rw [if_neg c] at e; cases e
  · cases e
end DL
namespace DL
open PySem PySem.Spec PyProof.Rows L2
theorem hu200 {A : Around} {k : Nat} (hr : Room k A) : A.units + 200 < cLine := by
  have := hr.un
  omega
theorem at_callerS {P : Program} {w : World} {K : PySem.W.Frag} {mg : Str → Option Value} {base : Heap} {x' qual : Str} {st : Stmt} {fa : Addr} {fd : FuncData} {N : List Str} {k : Nat} (room : Room (k + 1) callerA) (F : Fun K x' qual st fa fd) {y : Str} (S : FnScope N [y] (defScope st)) {Fm : List Int → Option D} {xb : XF}
    (hn : 1 ≤ N.length) (hx : ∀ ns r, Fm ns = some r → Ret (xb (envS ns N.length)) r)
    (body : ∀ (cdv : Value) (outer : List PySem.Env) (s : Shared) (H : Hp) (E : XK), Room k (callerA.deeper (envOfC qual (defScope st) s.heap.objs.size fa cdv)) →
      ∃ t, PSs (cxOf CX0 P w K mg base N qual (defScope st) fa cdv callerA outer s H E).nox (defBody st) t ∧ SS K xb t) : AtCaller P w K mg base fa fd [y] (spS K Fm) := by
  obtain ⟨oc, od, kV, doc, pm, an, cdv, ct, osl, rfl, lk, hcd⟩ := F.ex
  refine atCaller room lk hcd S (fun vs H Q E h => ?_) fun outer s H vs Q E h => ?_
  · obtain ⟨G, a, ns, r, _, rfl, _⟩ := h
    rfl
  · obtain ⟨G, a, ns, r, gh, rfl, hs, e, q⟩ := h
    obtain ⟨t, pt, ss⟩ := body cdv outer s H E (room.deeper _)
    refine ⟨t, pt.nox, ?_⟩
    have E0' := env_startS (N := N) gh hs hn
    have fin : ∀ v G' H', WOk ⟨G, H⟩ G' H' → Rep K G' v r → Q v H' := fun v G' H' w rr => q v G' H' ⟨w.g0, w.h0, w.gh, w.nw⟩ rr
    rcases hx ns r e with h1 | ⟨rfl, ρ, h1⟩
    · exact ss _ _ _ _ _ E0' _ h1 _ fin
    · exact ss _ _ _ _ _ E0' _ h1 _ fun σ' G' H' E' => fin .non G' H' E'.w .non
end DL
namespace DL
open PySem PySem.Spec PyProof.Rows L2
open Enc (enc)
/-! ### == of texts of any signs -/
def rEqX (K : PySem.W.Frag) : R2 := fun x y H Q => rEqD K x y H Q ∨ rEq x y H Q
def rNeX (K : PySem.W.Frag) : R2 := fun x y H Q => rNeD K x y H Q ∨ rNe x y H Q
theorem op_eqX {X : Cx} (hu : X.A.units + 64 < cLine) : OpR X (compareOp .Eq) (rEqX X.K) := OpR.or (op_eqD hu) op_eq
theorem op_neX {X : Cx} (hu : X.A.units + 64 < cLine) : OpR X (compareOp .NotEq) (rNeX X.K) := OpR.or (op_neD hu) op_ne
def dEqX (x y : D) : Option D := match x, y with
  | .str a, .str b => some (.bl (decide (a = b)))
  | x, y => dEq x y
def dNeX (x y : D) : Option D := match x, y with
  | .str a, .str b => some (.bl (!decide (a = b)))
  | x, y => dNe x y
section
variable {K : PySem.W.Frag}
theorem dec_strV (a b : Str) : decide (V.str a = V.str b) = decide (a = b) := by
  by_cases h : a = b
  · subst h; simp
  · rw [decide_eq_false h, decide_eq_false (fun z => h (by injection z))]
theorem od_eqX : OpD K dEqX (rEqX K) := fun G H v u x y z gh a b e Q q => by
  unfold dEqX at e
  split at e
  · rename_i s t
    cases e
    refine .inr ?_
    rw [a.str, b.str]
    refine ⟨rfl, ?_⟩
    rw [dec_strV]
    exact q _ G H (Wle.refl gh) (.bl _)
  · exact .inl (od_eq G H v u x y z gh a b e Q q)
theorem od_neX : OpD K dNeX (rNeX K) := fun G H v u x y z gh a b e Q q => by
  unfold dNeX at e
  split at e
  · rename_i s t
    cases e
    refine .inr ?_
    rw [a.str, b.str]
    refine ⟨rfl, ?_⟩
    rw [dec_strV]
    exact q _ G H (Wle.refl gh) (.bl _)
  · exact .inl (od_ne G H v u x y z gh a b e Q q)
end
theorem dEqX_int (a b : Int) : dEqX (.int a) (.int b) = some (.bl (decide (a = b))) := dEq_int a b
theorem dNeX_int (a b : Int) : dNeX (.int a) (.int b) = some (.bl (!decide (a = b))) := dNe_int a b
theorem dEqX_bl (a b : Bool) : dEqX (.bl a) (.bl b) = some (.bl (decide (a = b))) := dEq_bl a b
theorem dNeX_bl (a b : Bool) : dNeX (.bl a) (.bl b) = some (.bl (!decide (a = b))) := dNe_bl a b
theorem dEqX_str (a b : Str) : dEqX (.str a) (.str b) = some (.bl (decide (a = b))) := nr rfl
theorem dNeX_str (a b : Str) : dNeX (.str a) (.str b) = some (.bl (!decide (a = b))) := nr rfl
section
variable {α β : Type} [Enc α] [Enc β]
theorem dNeX_l [Nice α] [DecidableEq α] (h : Nice.dep α ≤ 50) (a b : List α) : dNeX (enc a) (enc b) = some (.bl (!decide (a = b))) := dNe_enc (show Nice.dep α + 1 ≤ 60 by omega) a b
theorem dEqX_l [Nice α] [DecidableEq α] (h : Nice.dep α ≤ 50) (a b : List α) : dEqX (enc a) (enc b) = some (.bl (decide (a = b))) := dEq_enc (show Nice.dep α + 1 ≤ 60 by omega) a b
theorem inEnc [Nice α] [DecidableEq α] (a : α) : ∀ xs : List α, (xs.map enc).any (fun z => D.eqv z (enc a)) = decide (a ∈ xs)
  | [] => by simp
  | x :: xs => by
    rw [List.map_cons, List.any_cons, inEnc a xs, eqv_dec x a]
    by_cases c : x = a
    · subst c; simp
    · have c' : ¬ a = x := fun z => c z.symm
      simp [c, c']
theorem dInX_p [Nice α] [Nice β] [DecidableEq α] [DecidableEq β] (h : Nice.dep α ≤ 50 ∧ Nice.dep β ≤ 50) (a : α × β) (xs : List (α × β)) : dInX (enc a) (enc xs) = some (.bl (decide (a ∈ xs))) := by
  show (if D.ok 60 (enc a) && D.ok 60 (enc xs) then some (D.bl ((xs.map enc).any fun z => D.eqv z (enc a))) else none) = _
  have d : Nice.dep (α × β) ≤ 51 := by
    show max (Nice.dep α) (Nice.dep β) + 1 ≤ 51
    omega
  have d2 : Nice.dep (List (α × β)) ≤ 60 := by
    show Nice.dep (α × β) + 1 ≤ 60
    omega
  rw [Nice.ok a 60 (by omega), Nice.ok xs 60 d2, inEnc, Bool.and_self, if_pos rfl]
  exact congrArg (fun b => some (D.bl b)) (decide_eq_decide.mpr Iff.rfl)
/-! ### zip, dicts -/
def lzQ : Option (List D) → Option D
  | some [.lst xs, .lst ys] => some (.lst (zipD xs ys))
  | _ => none
theorem eLzip_eq (f : Env → Option (List D)) (ρ : Env) : eLzip f ρ = lzQ (f ρ) := nr rfl
theorem lzQ_l (xs : List α) (ys : List β) : lzQ (some [enc xs, enc ys]) = some (enc (xs.zip ys)) := by
  show some (D.lst (zipD (xs.map enc) (ys.map enc))) = _
  have : zipD (xs.map enc) (ys.map enc) = (xs.zip ys).map enc := by
    unfold zipD
    rw [List.zip_map, List.map_map]
    rfl
  rw [this]
  rfl
def dcQ (st : D → Option (Option (List Key × D))) : Option (List D) → Option D
  | some ds => if ds.length ≤ 100000 then (match dcL st ds [] with | some kvs => some (.dT kvs) | none => none) else none
  | none => none
theorem eDcT_eq (src : IvF) (g : GvF) (c : Env → Option Bool) (fk fv : EvF) (vs : List Nat) (ρ : Env) : eDcT src g c fk fv vs ρ = dcQ (stepD g c fk fv (wipeE ρ vs)) (src ρ) := nr rfl
theorem dcL_map {kf : α → List Key} {vf : α → D} {st : D → Option (Option (List Key × D))} : ∀ {xs : List α} {acc : List (List Key × D)}, (∀ a ∈ xs, st (enc a) = some (some (kf a, vf a))) → (acc.map (·.1) ++ xs.map kf).Nodup →
    dcL st (xs.map enc) acc = some (acc ++ xs.map fun a => (kf a, vf a))
  | [], acc, _, _ => by simp [dcL]
  | x :: xs, acc, h, nd => by
    rw [List.map_cons, dcL, h x (List.mem_cons_self ..)]
    have new : putD acc (kf x) (vf x) = acc ++ [(kf x, vf x)] := by
      unfold putD
      rw [if_neg]
      intro z
      rw [List.any_eq_true] at z
      obtain ⟨kv, hm, hk⟩ := z
      have hk := of_decide_eq_true hk
      rw [List.map_cons, List.nodup_append] at nd
      exact nd.2.2 _ (List.mem_map_of_mem hm) _ (List.mem_cons_self ..) hk
    simp only
    rw [new, dcL_map (fun a ha => h a (List.mem_cons_of_mem _ ha)) (by
      rw [List.map_append, List.map_cons, List.map_nil, List.append_assoc]
      rw [List.map_cons] at nd
      exact nd)]
    rw [List.append_assoc]
    rfl
theorem dcQ_map {kf : α → List Key} {vf : α → D} {st : D → Option (Option (List Key × D))} {xs : List α} (hl : xs.length ≤ 100000) (nd : (xs.map kf).Nodup) (h : ∀ a ∈ xs, st (enc a) = some (some (kf a, vf a))) : dcQ st (some (xs.map enc)) = some (.dT (xs.map fun a => (kf a, vf a))) := by
  unfold dcQ
  simp only
  rw [List.length_map, if_pos hl, dcL_map h (by simpa using nd)]
  rfl
theorem valD_map [DecidableEq α] {kf : α → List Key} {vf : α → D} (inj : ∀ a b, kf a = kf b → a = b) : ∀ {xs : List α} {a : α}, a ∈ xs → valD (xs.map fun a => (kf a, vf a)) (kf a) = some (vf a)
  | x :: xs, a, h => by
    rw [List.map_cons]
    by_cases c : x = a
    · subst c; simp [valD]
    · have hk : ¬ kf x = kf a := fun z => c (inj _ _ z)
      have hm : a ∈ xs := by
        rcases List.mem_cons.mp h with e | e
        · exact absurd e.symm c
        · exact e
      have := valD_map (vf := vf) inj hm
      simpa [valD, hk] using this
def sdQ (c : Env → Option Bool) (fk fv : EvF) : Option Env → Option (Option (List Key × D))
  | some ρ2 => (match c ρ2 with
    | some true => (match fk ρ2, fv ρ2 with
      | some x, some y => (match tkOf x with | some k => some (some (k, y)) | none => none)
      | _, _ => none)
    | some false => some none
    | none => none)
  | none => none
theorem stepD_eq (g : GvF) (c : Env → Option Bool) (fk fv : EvF) (ρ : Env) (d : D) : stepD g c fk fv ρ d = sdQ c fk fv (g d ρ) := by
  unfold stepD sdQ
  cases g d ρ <;> rfl
theorem sdQ_s {c : Env → Option Bool} {fk fv : EvF} {ρ2 : Env} {x y : D} {k : List Key} (hc : c ρ2 = some true) (hk : fk ρ2 = some x) (hv : fv ρ2 = some y) (ht : tkOf x = some k) : sdQ c fk fv (some ρ2) = some (some (k, y)) := by
  unfold sdQ
  simp only
  rw [hc, hk, hv]
  simp only
  rw [ht]
end
/-! ### sorted pairs -/
theorem dSortP_l (xs : List (Int × Int)) : dSortP [enc xs] = some (enc (sortP xs)) := by
  show (match prOf (xs.map enc) with | some ns => some (D.lst ((sortP ns).map prD)) | none => none) = _
  have e : prOf (xs.map enc) = some xs := prOf_map xs
  rw [e]
  rfl
/-! ### repr of pairs -/
theorem short_int : ∀ n : Nat, n ≤ 100 → (PyData.shown (.int (n : Nat))).length ≤ 20 := by
  intro n hn
  have : ∀ m ∈ List.range 101, (PyData.shown (.int (m : Nat))).length ≤ 20 := by decide +kernel
  exact this n (List.mem_range.mpr (by omega))
end DL

/-! DLD: dicts with tuple keys that are written no more: ==, !=, len, their keys walked; tuples compared. -/
namespace DL
open PySem PySem.Calls PySem.Spec PyProof.Rows PyProof.V
section
variable {prog : Program} {w : World} {K : Type} [DecidableEq K] {knd : HeapKind prog w K} {A : Around} {E : Value → Shared → Prop} {s : Shared}
/-- the pairs of the one are looked up in the other: r the answer -/
inductive Found (prog : Program) (w : World) (A : Around) (s : Shared) (there : List (K × Addr × Value)) : List (K × Addr × Value) → Bool → Prop
  | done : Found prog w A s there [] true
  | lacks {k : K} {b : Addr} {v : Value} {more : List (K × Addr × Value)} : atKey there k = none → Found prog w A s there ((k, b, v) :: more) false
  | has {k : K} {b c : Addr} {v y : Value} {more : List (K × Addr × Value)} {same r : Bool} : atKey there k = some (c, y) → SeqAt.EqP prog w A s v y same → Found prog w A s there more r → Found prog w A s there ((k, b, v) :: more) (same && r)
theorem pairs_same {nm : String} {d1 d2 : Addr} {xs ys : List (K × Addr × Value)} {r : Bool} {P : Bool → Shared → Prop} (room : knd.room A) (n1 : (d1 == sysModules) = false) (n2 : (d2 == sysModules) = false)
    (h1 : s.heap.DictOfH knd d1 xs) (h2 : s.heap.DictOfH knd d2 ys) (look : xs.length = ys.length → Found prog w A s ys xs r) (go : P (xs.length == ys.length && r) s) :
    wpAny (model prog w) A (Builtin.Dict.samePairs nm d1 d2) P E s := by
  obtain ⟨o1, es, ep, g1, _, dat1, ent1, is1, nd1⟩ := h1
  obtain ⟨o2, fs, fp, g2, _, dat2, ent2, is2, nd2⟩ := h2
  have l1 : xs.length = es.size := (size_of_entries ent1).symm
  have l2 : ys.length = fs.size := (size_of_entries ent2).symm
  rw [l1, l2] at go
  unfold Builtin.Dict.samePairs Builtin.Dict.showsAll
  rw [if_neg (by rw [n1]; exact Bool.false_ne_true), if_neg (by rw [n2]; exact Bool.false_ne_true)]
  refine wpAny_bind (wpAny_pure (wpAny_bind (wpAny_pure ?_)))
  refine wpAny_bind (wpAny_dictEntries g1 dat1 ?_)
  dsimp only
  refine wpAny_bind (wpAny_dictEntries g2 dat2 ?_)
  by_cases sz : es.size = fs.size
  case neg =>
    rw [if_pos (by simpa using sz)]
    have off : (es.size == fs.size) = false := by simpa using sz
    rw [off, Bool.false_and] at go
    exact wpAny_bind (wpAny_rule (wpAny_pure go))
  case pos =>
    have fin : P r s := by simpa [sz] using go
    have all := look (by rw [l1, l2]; exact sz)
    rw [if_neg (by rw [sz]; simp)]
    refine wpAny_bind (wpAny_dictEpoch g1 dat1 ?_)
    refine wpAny_bind ?_
    rw [Std.Legacy.Range.forIn_eq_forIn_range']
    simp only [Std.Legacy.Range.size, Nat.sub_zero, Nat.add_sub_cancel, Nat.div_one]
    refine wpAny_forIn_list _
      (fun left q s2 => s2 = s ∧ q = (none, ()) ∧ ∃ n, left = List.range' n (es.size - n) ∧ n ≤ es.size ∧ Found prog w A s ys (xs.drop n) r)
      _ ?_ ?_ _ _ ⟨rfl, rfl, 0, by simp, Nat.zero_le _, all⟩
    · rintro j left q s2 ⟨rfl, rfl, n, el, hn, pre⟩
      have lt : n < es.size := by
        by_cases c : n < es.size
        · exact c
        · rw [Nat.sub_eq_zero_of_le (by omega)] at el; simp at el
      obtain ⟨rfl, el2⟩ : j = n ∧ left = List.range' (n + 1) (es.size - (n + 1)) := by
        rw [show es.size - n = (es.size - (n + 1)) + 1 by omega, List.range'_succ] at el
        injection el with a b
        exact ⟨a, b⟩
      refine wpAny_bind (wpAny_dictEntries g1 dat1 ?_)
      have ltx : j < xs.length := by rw [l1]; exact lt
      obtain ⟨k, b, v, ekv⟩ : ∃ k b v, xs[j] = (k, b, v) := ⟨_, _, _, rfl⟩
      have ee := entry_at ent1 j
      rw [List.getElem?_eq_getElem ltx, ekv] at ee
      rw [ee]
      rw [List.drop_eq_getElem_cons ltx, ekv] at pre
      have key : knd.is s2.heap k b := by
        have := is1 xs[j] (List.getElem_mem ltx)
        rw [ekv] at this
        exact this
      show wpAny _ _ (holding [Value.ref b, v] _ >>= _) _ _ _
      refine wpAny_bind (wpAny_holding (wpAny_bind (wpAny_dictFind_heap room key g2 dat2 ent2 is2 nd2 (fun no => ?_) fun i p hi => ?_)))
      · have hno : atKey ys k = none := atKey_none_of_get no
        have er : r = false := by
          cases pre with
          | lacks _ => rfl
          | has hy _ _ => rw [hno] at hy; exact nomatch hy
        rw [er] at fin
        refine wpAny_pure ?_
        show wpAny _ _ (if (!false) = true then _ else _) _ _ _
        rw [if_pos (by decide)]
        exact wpAny_pure (wpAny_pure fin)
      · have hat : atKey ys k = some p := atKey_of_get nd2 hi
        refine wpAny_bind (wpAny_dictEntries g2 dat2 ?_)
        rw [entry_at ent2 i, hi]
        have cont : ∃ same r2, SeqAt.EqP prog w A s2 v p.2 same ∧ Found prog w A s2 ys (xs.drop (j + 1)) r2 ∧ r = (same && r2) := by
          cases pre with
          | lacks hno => rw [hno] at hat; exact nomatch hat
          | has hy e f =>
            rw [hat] at hy
            cases hy
            exact ⟨_, _, e, f, rfl⟩
        obtain ⟨same, r2, e, f, er⟩ := cont
        refine wpAny_holding (e _ _ ?_)
        cases same with
        | false =>
          rw [er, Bool.false_and] at fin
          show wpAny _ _ (if (!false) = true then _ else _) _ _ _
          rw [if_pos (by decide)]
          exact wpAny_pure (wpAny_pure fin)
        | true =>
          rw [Bool.true_and] at er
          rw [← er] at f
          show wpAny _ _ (if (!true) = true then _ else _) _ _ _
          rw [if_neg (by decide)]
          refine wpAny_bind (wpAny_dictEpoch g1 dat1 ?_)
          rw [if_neg (by simp)]
          exact wpAny_pure ⟨rfl, rfl, j + 1, el2, lt, f⟩
    · rintro q s2 ⟨rfl, rfl, n, el, hn, pre⟩
      have e : n = es.size := by
        by_cases c : n < es.size
        · rw [show es.size - n = (es.size - (n + 1)) + 1 by omega, List.range'_succ] at el; exact nomatch el
        · omega
      refine wpAny_pure ?_
      rw [e, ← l1, List.drop_length] at pre
      cases pre
      exact fin
theorem dicts_eq {d1 d2 : Addr} {xs ys : List (K × Addr × Value)} {r : Bool} {P : Value → Shared → Prop} (room : knd.room A.in1) (hu : A.units < cLine) (n1 : (d1 == sysModules) = false) (n2 : (d2 == sysModules) = false)
    (h1 : s.heap.DictOfH knd d1 xs) (h2 : s.heap.DictOfH knd d2 ys) (look : xs.length = ys.length → Found prog w A.in1 s ys xs r) (go : P (.bool (xs.length == ys.length && r)) s) :
    wpAny (model prog w) A (compareOp .Eq (.ref d1) (.ref d2)) P E s := by
  refine wpAny_richCompare_same_room (op := .Eq) h1.typeIs h2.typeIs PySem.F.slot_dict_eq (wpAny_call_entry PySem.F.slot_dict_eq h1.typeIs PySem.F.entry_dict_eq ?_ (PySem.F.args_dict_eq_2 _ _)) hu
  show wpAny _ _ (Builtin.Dict.dictSlotArgs "__eq__" ⟨[.ref d1, .ref d2], []⟩ >>= _) _ _ s
  unfold Builtin.Dict.dictSlotArgs
  refine wpAny_bind (wpAny_bind (wpAny_notOrdered_dict h1.typeIs ?_))
  refine wpAny_pure (wpAny_bind (wpAny_isInstance (T := "dict") h2.typeIs PySem.F.sub_dict_dict ?_))
  simp only [Bool.not_true, Bool.false_eq_true, if_false]
  refine wpAny_bind (wpAny_pure (wpAny_bind (wpAny_pure ?_)))
  refine wpAny_bind (pairs_same room n1 n2 h1 h2 look (wpAny_pure ⟨_, rfl, (fun z => nomatch z), ?_⟩))
  simpa using go
theorem dicts_ne {d1 d2 : Addr} {xs ys : List (K × Addr × Value)} {r : Bool} {P : Value → Shared → Prop} (room : knd.room A.in1) (hu : A.units < cLine) (n1 : (d1 == sysModules) = false) (n2 : (d2 == sysModules) = false)
    (h1 : s.heap.DictOfH knd d1 xs) (h2 : s.heap.DictOfH knd d2 ys) (look : xs.length = ys.length → Found prog w A.in1 s ys xs r) (go : P (.bool (!(xs.length == ys.length && r))) s) :
    wpAny (model prog w) A (compareOp .NotEq (.ref d1) (.ref d2)) P E s := by
  refine wpAny_richCompare_same_room (op := .NotEq) h1.typeIs h2.typeIs PySem.F.slot_dict_ne (wpAny_call_entry PySem.F.slot_dict_ne h1.typeIs PySem.F.entry_dict_ne ?_ (PySem.F.args_dict_ne_2 _ _)) hu
  show wpAny _ _ (Builtin.Dict.dictSlotArgs "__ne__" ⟨[.ref d1, .ref d2], []⟩ >>= _) _ _ s
  unfold Builtin.Dict.dictSlotArgs
  refine wpAny_bind (wpAny_bind (wpAny_notOrdered_dict h1.typeIs ?_))
  refine wpAny_pure (wpAny_bind (wpAny_isInstance (T := "dict") h2.typeIs PySem.F.sub_dict_dict ?_))
  simp only [Bool.not_true, Bool.false_eq_true, if_false]
  refine wpAny_bind (wpAny_pure (wpAny_bind (wpAny_pure ?_)))
  refine wpAny_bind (pairs_same room n1 n2 h1 h2 look (wpAny_pure ⟨_, rfl, (fun z => nomatch z), ?_⟩))
  simpa using go
end
end DL

/-! DLE: rules and soundness for dicts that are written no more; >= of tuples. -/
namespace DL
open PySem PySem.Calls PySem.Spec PyProof.Rows L2
open Evl (Ex)
def lkI (b : List (List Key × Int)) (k : List Key) : Option Int := (b.find? fun z => decide (z.1 = k)).map (·.2)
def sameT (a b : List (List Key × Int)) : Bool := a.length == b.length && a.all fun p => match lkI b p.1 with
  | some m => p.2 == m
  | none => false
def iVs (a : List (List Key × Int)) : List (List Key × V) := a.map fun p => (p.1, V.int p.2)
def iDs (a : List (List Key × Int)) : List (List Key × D) := a.map fun p => (p.1, D.int p.2)
theorem valV_ints (k : List Key) : ∀ b : List (List Key × Int), valV (iVs b) k = (lkI b k).map V.int
  | [] => rfl
  | p :: b => by
    have ih := valV_ints k b
    unfold iVs lkI valV at ih ⊢
    rw [List.map_cons, List.find?_cons, List.find?_cons]
    by_cases c : p.1 = k
    · simp [c]
    · simp only [c, decide_false]
      exact ih
section
variable {X : Cx}
theorem found_ints {P : Program} {w : World} {A : Around} {s : Shared} {H : Hp} {b : List (List Key × Int)} {ys : List (List Key × Addr × Value)} (ry : KT H (iVs b) ys) : ∀ {a : List (List Key × Int)} {xs : List (List Key × Addr × Value)}, KT H (iVs a) xs →
    Found P w A s ys xs (a.all fun p => match lkI b p.1 with | some m => p.2 == m | none => false)
  | [], xs, r => by
    cases r
    exact .done
  | (k, n) :: a, xs, r => by
    cases r with
    | cons h t =>
      rename_i q qs
      obtain ⟨k', c, v⟩ := q
      obtain ⟨e1, _, e3⟩ := h
      have e1 : k = k' := e1
      subst e1
      obtain ⟨t1, rfl⟩ : ∃ t1, v = .int n t1 := e3
      have look := ry.val k
      rw [valV_ints] at look
      rw [List.all_cons]
      cases z : lkI b k with
      | none =>
        rw [z] at look
        simp only [Bool.false_and]
        refine .lacks ?_
        cases y : atKey ys k with
        | none => rfl
        | some u => rw [y] at look; exact look.elim
      | some m =>
        rw [z] at look
        simp only
        cases y : atKey ys k with
        | none => rw [y] at look; exact look.elim
        | some u =>
          rw [y] at look
          obtain ⟨c2, v2⟩ := u
          obtain ⟨t2, rfl⟩ : ∃ t2, v2 = .int m t2 := look
          exact .has y (fun E Q h => wpAny_eqBool_int h) (found_ints ry t)
def rEqT : R2 := fun x y H Q => ∃ a b ks ls, x = .ref a ∧ y = .ref b ∧ Rd H a (.dT (iVs ks)) ∧ Rd H b (.dT (iVs ls)) ∧ Q (.bl (sameT ks ls)) H
def rNeT : R2 := fun x y H Q => ∃ a b ks ls, x = .ref a ∧ y = .ref b ∧ Rd H a (.dT (iVs ks)) ∧ Rd H b (.dT (iVs ls)) ∧ Q (.bl (!sameT ks ls)) H
theorem len_iVs (a : List (List Key × Int)) : (iVs a).length = a.length := List.length_map _
theorem op_eqT (hu : X.A.units + 1 < cLine) : OpR X (compareOp .Eq) rEqT := by
  intro pins s σ H x y v u Q I rx ry h
  obtain ⟨a, b, ks, ls, rfl, rfl, ha, hb, q⟩ := h
  obtain rfl : v = Value.ref a := rx
  obtain rfl : u = Value.ref b := ry
  obtain ⟨_, n1, xs, r1, d1⟩ := dt_rd I.hok ha
  obtain ⟨_, n2, ys, r2, d2⟩ := dt_rd I.hok hb
  have l1 : ks.length = xs.length := by rw [← len_iVs]; exact Paired.length r1
  have l2 : ls.length = ys.length := by rw [← len_iVs]; exact Paired.length r2
  refine dicts_eq (knd := tupleKind (mixKind X.prog X.w)) (show X.A.in1.units < cLine from hu) (by omega) n1 n2 d1 d2 (fun _ => found_ints r2 r1) ?_
  rw [← l1, ← l2]
  exact ⟨.bl _, H, I, rfl, q⟩
theorem op_neT (hu : X.A.units + 1 < cLine) : OpR X (compareOp .NotEq) rNeT := by
  intro pins s σ H x y v u Q I rx ry h
  obtain ⟨a, b, ks, ls, rfl, rfl, ha, hb, q⟩ := h
  obtain rfl : v = Value.ref a := rx
  obtain rfl : u = Value.ref b := ry
  obtain ⟨_, n1, xs, r1, d1⟩ := dt_rd I.hok ha
  obtain ⟨_, n2, ys, r2, d2⟩ := dt_rd I.hok hb
  have l1 : ks.length = xs.length := by rw [← len_iVs]; exact Paired.length r1
  have l2 : ls.length = ys.length := by rw [← len_iVs]; exact Paired.length r2
  refine dicts_ne (knd := tupleKind (mixKind X.prog X.w)) (show X.A.in1.units < cLine from hu) (by omega) n1 n2 d1 d2 (fun _ => found_ints r2 r1) ?_
  rw [← l1, ← l2]
  exact ⟨.bl _, H, I, rfl, q⟩
/-! ### len -/
def rLenF : List V → Hp → VK → Prop := fun xs H Q => ∃ p kvs, xs = [V.ref p] ∧ Rd H p (.dT kvs) ∧ Q (.int ((kvs.length : Nat) : Int)) H
theorem call_lenF : CallR X (.builtin "len") rLenF := by
  intro pins s σ H xs us Q I r h
  obtain ⟨p, kvs, rfl, hp, q⟩ := h
  obtain ⟨u, rfl, rx⟩ := r.one
  obtain rfl : u = .ref p := rx
  obtain ⟨z, hd, ys, rel, dd⟩ := dt_rd I.hok hp
  have hl : kvs.length = ys.length := Paired.length rel
  refine call_len_dictH hd dd (by rw [← hl]; rw [sizeLine_eq] at z; omega) ?_
  rw [← hl]
  exact ⟨.int ((kvs.length : Nat) : Int), H, I.tok _, ⟨_, rfl⟩, q⟩
/-! ### >= of tuples of ints -/
theorem call_lenY : CallR X (.builtin "len") (fun xs H Q => (∃ x n, xs = [x] ∧ LenV X.K x H n ∧ Q (.int n) H) ∨ rLenF xs H Q) := CallR.or call_len call_lenF
def geL (ns ms : List Int) : Bool := Ob.lexAt (fun j => decide (ns.getD j 0 = ms.getD j 0)) (fun j => decide (ms.getD j 0 ≤ ns.getD j 0)) (decide (ns.length ≥ ms.length)) 0 (min ns.length ms.length)
def rGeT (K : PySem.W.Frag) : R2 := fun x y H Q => ∃ (a b : Addr) (ns ms : List Int), x = .ref a ∧ y = .ref b ∧ SqT K H a (ns.map V.int) ∧ SqT K H b (ms.map V.int) ∧ Q (.bl (geL ns ms)) H
theorem op_geT (hu : X.A.units < cLine) : OpR X (compareOp .GtE) (rGeT X.K) := by
  intro pins s σ H x y v u Q I rx ry h
  obtain ⟨a, b, ns, ms, rfl, rfl, ha, hb, q⟩ := h
  cases rx
  cases ry
  obtain ⟨vs, r1, t1, _⟩ := I.tuple ha
  obtain ⟨us, r2, t2, _⟩ := I.tuple hb
  have i1 : IntsAre vs ns := Vals.ints r1
  have i2 : IntsAre us ms := Vals.ints r2
  have s1 : vs.toArray.size = ns.length := by rw [List.size_toArray, i1.length]
  have s2 : us.toArray.size = ms.length := by rw [List.size_toArray, i2.length]
  have g1 : ∀ j (h : j < vs.toArray.size), ∃ t, vs.toArray[j] = .int (ns.getD j 0) t := fun j h => PyProof.Rows.IntsAre.int_at i1 _ _ (by simp at h; simp [h])
  have g2 : ∀ j (h : j < us.toArray.size), ∃ t, us.toArray[j] = .int (ms.getD j 0) t := fun j h => PyProof.Rows.IntsAre.int_at i2 _ _ (by simp at h; simp [h])
  have all := Ob.RcOp.tuples_ge (A := X.A) (s := s) (e := fun j => decide (ns.getD j 0 = ms.getD j 0)) (r := fun j => decide (ms.getD j 0 ≤ ns.getD j 0)) t1 t2 hu
    (fun j h1 h2 => by
      obtain ⟨c1, e1⟩ := g1 j h1
      obtain ⟨c2, e2⟩ := g2 j h2
      rw [e1, e2]
      have z : (ns.getD j 0 == ms.getD j 0) = decide (ns.getD j 0 = ms.getD j 0) := rfl
      simp only [← z]
      exact SeqAt.EqAt.int_int _ _ _ _)
    (fun j h1 h2 _ => by
      obtain ⟨c1, e1⟩ := g1 j h1
      obtain ⟨c2, e2⟩ := g2 j h2
      rw [e1, e2]
      exact Ob.RcOp.ge_int _ _ _ _)
  rw [s1, s2] at all
  exact all X.prog X.w X.xe (EP X pins σ Q) ⟨.bl _, H, I, rfl, q⟩
end
/-! ### over plain data -/
section
variable {K : PySem.W.Frag}
def ivals : List (List Key × D) → Option (List (List Key × Int))
  | [] => some []
  | (k, .int i) :: r => (match ivals r with | some s => some ((k, i) :: s) | none => none)
  | _ => none
theorem ivals_rep {G : Hp} : ∀ {vs : List (List Key × V)} {ds : List (List Key × D)} {a : List (List Key × Int)}, RepT K G vs ds → ivals ds = some a → vs = iVs a
  | _, _, _, .nil, e => by cases e; rfl
  | _, _, _, .cons (d := d) h r, e => by
    cases d <;> try (cases e; done)
    rename_i i
    unfold ivals at e
    cases p : ivals _ with
    | none => rw [p] at e; cases e
    | some s =>
      rw [p] at e
      cases e
      cases h
      rw [ivals_rep r p]
      rfl
theorem ivals_iDs : ∀ a : List (List Key × Int), ivals (iDs a) = some a
  | [] => rfl
  | (k, i) :: a => by
    have ih := ivals_iDs a
    unfold iDs at ih ⊢
    rw [List.map_cons]
    unfold ivals
    rw [ih]
def cmpT (op : Bool → Bool) (x y : D) : Option D := match x, y with
  | .fT a, .fT b => (match ivals a, ivals b with | some a, some b => some (.bl (op (sameT a b))) | _, _ => none)
  | _, _ => none
def dEqY (x y : D) : Option D := match x, y with
  | .fT a, .fT b => cmpT id (.fT a) (.fT b)
  | x, y => dEqX x y
def dNeY (x y : D) : Option D := match x, y with
  | .fT a, .fT b => cmpT not (.fT a) (.fT b)
  | x, y => dNeX x y
theorem cmpT_ok {op : Bool → Bool} {G H : Hp} {v u : V} {x y z : D} (gh : Ex G H) (a : BRep K G H v x) (b : BRep K G H u y) (e : cmpT op x y = some z) : ∃ p q ks ls, v = .ref p ∧ u = .ref q ∧ Rd H p (.dT (iVs ks)) ∧ Rd H q (.dT (iVs ls)) ∧ z = .bl (op (sameT ks ls)) := by
  unfold cmpT at e
  split at e
  · rename_i xs ys
    cases p1 : ivals xs with
    | none => rw [p1] at e; cases e
    | some ks =>
      cases p2 : ivals ys with
      | none => rw [p1, p2] at e; cases e
      | some ls =>
        rw [p1, p2] at e
        cases e
        obtain ⟨l, ob, vs, rfl, h, r⟩ := a.fT gh
        obtain ⟨l2, ob2, vs2, rfl, h2, r2⟩ := b.fT gh
        rw [ivals_rep r p1] at h
        rw [ivals_rep r2 p2] at h2
        exact ⟨l, l2, ks, ls, rfl, rfl, .inr ⟨_, h⟩, .inr ⟨_, h2⟩, rfl⟩
  · cases e
def rEqY (K : PySem.W.Frag) : R2 := fun x y H Q => rEqX K x y H Q ∨ rEqT x y H Q
def rNeY (K : PySem.W.Frag) : R2 := fun x y H Q => rNeX K x y H Q ∨ rNeT x y H Q
theorem op_eqY {X : Cx} (hu : X.A.units + 64 < cLine) : OpR X (compareOp .Eq) (rEqY X.K) := OpR.or (op_eqX hu) (op_eqT (by omega))
theorem op_neY {X : Cx} (hu : X.A.units + 64 < cLine) : OpR X (compareOp .NotEq) (rNeY X.K) := OpR.or (op_neX hu) (op_neT (by omega))
theorem od_eqY : OpD K dEqY (rEqY K) := fun G H v u x y z gh a b e Q q => by
  unfold dEqY at e
  split at e
  · obtain ⟨p, r, ks, ls, rfl, rfl, h1, h2, rfl⟩ := cmpT_ok gh a b e
    exact .inr ⟨p, r, ks, ls, rfl, rfl, h1, h2, q _ G H (Wle.refl gh) (.bl _)⟩
  · exact .inl (od_eqX G H v u _ _ z gh a b e Q q)
theorem od_neY : OpD K dNeY (rNeY K) := fun G H v u x y z gh a b e Q q => by
  unfold dNeY at e
  split at e
  · obtain ⟨p, r, ks, ls, rfl, rfl, h1, h2, rfl⟩ := cmpT_ok gh a b e
    exact .inr ⟨p, r, ks, ls, rfl, rfl, h1, h2, q _ G H (Wle.refl gh) (.bl _)⟩
  · exact .inl (od_neX G H v u _ _ z gh a b e Q q)
/-- len, of such dicts too -/
def dLenY : List D → Option D
  | [.fT kvs] => some (.int (kvs.length : Nat))
  | [.dT kvs] => some (.int (kvs.length : Nat))
  | ds => dLen ds
def rLenY (K : PySem.W.Frag) : List V → Hp → VK → Prop := fun xs H Q => (∃ x n, xs = [x] ∧ LenV K x H n ∧ Q (.int n) H) ∨ rLenF xs H Q
theorem cd_lenY : CallD K dLenY (rLenY K) := fun G H bs vs ds z gh a e Q q => by
  unfold dLenY at e
  split at e
  · cases e
    obtain ⟨v, rfl, r⟩ := a.one
    obtain ⟨l, ob, ws, rfl, h, rs⟩ := r.fT gh
    exact .inr ⟨l, ws, rfl, .inr ⟨_, h⟩, by rw [rs.length]; exact q _ G H (Wle.refl gh) (.int _)⟩
  · cases e
    obtain ⟨v, rfl, r⟩ := a.one
    obtain ⟨l, ws, rfl, h, rs⟩ := r.dT gh
    exact .inr ⟨l, ws, rfl, .inl h, by rw [rs.length]; exact q _ G H (Wle.refl gh) (.int _)⟩
  · exact .inl (cd_len G H bs vs _ z gh a e Q q)
/-- >= of ints and of tuples of ints -/
def dGeY (x y : D) : Option D := match x, y with
  | .tup xs, .tup ys => (match intsOf xs, intsOf ys with | some ns, some ms => some (.bl (geL ns ms)) | _, _ => none)
  | x, y => dGe x y
def rGeY (K : PySem.W.Frag) : R2 := fun x y H Q => (rI0 fun i j => .bl (decide (j ≤ i))) x y H Q ∨ rGeT K x y H Q
theorem op_geY {X : Cx} (hu : X.A.units < cLine) : OpR X (compareOp .GtE) (rGeY X.K) := OpR.or op_ge (op_geT hu)
theorem od_geY : OpD K dGeY (rGeY K) := fun G H v u x y z gh a b e Q q => by
  unfold dGeY at e
  split at e
  · rename_i xs ys
    cases p1 : intsOf xs with
    | none => rw [p1] at e; cases e
    | some ns =>
      cases p2 : intsOf ys with
      | none => rw [p1, p2] at e; cases e
      | some ms =>
        rw [p1, p2] at e
        cases e
        obtain ⟨l, ws, rfl, h, rs⟩ := a.tup
        obtain ⟨l2, ws2, rfl, h2, rs2⟩ := b.tup
        rw [intsOf_some p1] at rs
        rw [intsOf_some p2] at rs2
        rw [rs.ints_iff] at h
        rw [rs2.ints_iff] at h2
        exact .inr ⟨l, l2, ns, ms, rfl, rfl, SqT.of (gh _ _ h), SqT.of (gh _ _ h2), q _ G H (Wle.refl gh) (.bl _)⟩
  · exact .inl (od_ge G H v u _ _ z gh a b e Q q)
/-! ### the keys walked -/
def kD : Key → D
  | .inl i => .int i
  | .inr s => .str s
theorem rep_kD {G : Hp} (k : Key) : Rep K G (kV k) (kD k) := by
  cases k with
  | inl i => exact .int i
  | inr s => exact .str s
theorem reps_kD {G : Hp} : ∀ ks : List Key, Reps K G (ks.map kV) (ks.map kD)
  | [] => .nil
  | k :: ks => .cons (rep_kD k) (reps_kD ks)
def keysD (kvs : List (List Key × D)) : List D := kvs.map fun p => .tup (p.1.map kD)
theorem RepT.at {G : Hp} : ∀ {vs : List (List Key × V)} {ds : List (List Key × D)} {i : Nat} {k : List Key} {v : V}, RepT K G vs ds → vs[i]? = some (k, v) → ∃ d, ds[i]? = some (k, d)
  | _, _, i, _, _, .nil, e => by simp at e
  | _, _, 0, _, _, .cons h r, e => by simp at e; obtain ⟨rfl, rfl⟩ := e; exact ⟨_, rfl⟩
  | _, _, i + 1, _, _, .cons h r, e => by
    obtain ⟨d, h⟩ := RepT.at (i := i) r (by simpa using e)
    exact ⟨d, by simpa using h⟩
theorem jok_keysT {G1 F : Hp} {a : Addr} {ob : Obj} {vs : List (List Key × V)} {ds : List (List Key × D)} (h : F a = some (.frz ob (.dT vs))) (r : RepT K G1 vs ds) : JOk K (Itkt a ob vs) G1 F (keysD ds) := by
  have hl : (keysD ds).length = vs.length := by unfold keysD; rw [List.length_map, r.length]
  refine ⟨fun i G H g f gh hi => ⟨⟨f _ _ h, by omega⟩, fun x H' y => ?_⟩, fun G H g f gh => ⟨f _ _ h, by omega⟩⟩
  obtain ⟨rfl, k, v, q, e1, rfl, hq⟩ := y
  obtain ⟨d, e2⟩ := r.at e1
  have old : ∀ o, G q = some o → o = .tup (k.map kV) := fun o e => by
    have := gh _ _ e
    rw [hq] at this
    cases this
    rfl
  refine ⟨upd G q (.tup (k.map kV)), .tup (k.map kD), by unfold keysD; rw [List.getElem?_map, e2]; rfl, ⟨fun b o e => ?_, Ex.refl _, ex_share gh hq, fun b o e => ?_⟩, .tup upd_same (reps_kD k)⟩
  · by_cases z : b = q
    · subst z; rw [upd_same, old o e]
    · rw [upd_ne z]; exact e
  · by_cases z : b = q
    · subst z; rw [upd_same] at e; cases e; exact .inr (.inr ⟨_, rfl⟩)
    · rw [upd_ne z] at e; exact .inl e
def iSqY (f : EvF) : IvF := fun ρ => match f ρ with
  | some (.fT kvs) => some (keysD kvs)
  | some (.lst ds) => some ds
  | some (.tup ds) => some ds
  | some (.wt ds) => some ds
  | _ => none
def tISeqY (K : PySem.W.Frag) (tl : TE) : TI := fun σ H R => tISeq K tl σ H R ∨ iKeys tl σ H R
theorem pi_seqY {X : Cx} {tg e : Expr} {td : TE} (h : PE X e td) : PI X tg e (tISeqY X.K td) := pi_or (pi_seq h) (pi_keys h)
variable {f : EvF} {ta : TE}
theorem SI.seqY (s : SE K f ta) : SI K (iSqY f) (tISeqY K ta) := fun B ρ σ G H E ds e R q => by
  have old : iSq f ρ = some ds → tISeqY K ta σ H R := fun e => .inl (SI.seq s B ρ σ G H E ds e R q)
  unfold iSqY at e
  split at e
  · rename_i kvs p
    cases e
    refine .inr (s B ρ σ G H E _ p _ fun v G1 H1 w r => ?_)
    cases r with
    | fT h rs => exact ⟨_, _, rfl, .inr ⟨_, w.gh _ _ h, q _ G1 H1 w (jok_keysT h rs)⟩⟩
  · rename_i p; exact old (by unfold iSq; rw [p]; exact e)
  · rename_i p; exact old (by unfold iSq; rw [p]; exact e)
  · rename_i p; exact old (by unfold iSq; rw [p]; exact e)
  · cases e
theorem SIb.seqY (s : SB K f ta) : SIb K (iSqY f) (tISeqY K ta) := fun B ρ σ G H E ds e R q => by
  have old : iSq f ρ = some ds → tISeqY K ta σ H R := fun e => .inl (SIb.seq s B ρ σ G H E ds e R q)
  unfold iSqY at e
  split at e
  · rename_i kvs p
    cases e
    refine .inr (s B ρ σ G H E _ p _ fun v G1 H1 w r => ?_)
    obtain ⟨l, ob, ws, rfl, h, rs⟩ := r.fT w.gh
    exact ⟨_, _, rfl, .inr ⟨_, h, q _ G1 H1 w (jok_keysT h rs)⟩⟩
  · rename_i p; exact old (by unfold iSq; rw [p]; exact e)
  · rename_i p; exact old (by unfold iSq; rw [p]; exact e)
  · rename_i p; exact old (by unfold iSq; rw [p]; exact e)
  · cases e
end
end DL

/-! DLF: one's own dict is written no more from here on (xLk); [*xs, ..]; try that runs through. -/
namespace DL
open PySem PySem.Spec PyProof.Rows L2
open Evl (Ex)
section
variable {K : PySem.W.Frag} {x : XF} {t : TS}
/-- from here on the name's own dict is locked -/
def tLk (i : Nat) (t : TS) : TS := fun D σ H => ∃ d u, σ[i]? = some (some (V.ref d)) ∧ H d = some u ∧ Mut (some u) ∧ ∀ od, t D σ (upd H d (.frz od u))
theorem ps_lk {X : Cx} {st : Stmt} {i : Nat} (h : PS X st t) : PS X st (tLk i t) := by
  refine ⟨fun pins s σ H D I hw => ?_⟩
  obtain ⟨d, u, _, hd, mu, hw⟩ := hw
  obtain ⟨od, I1⟩ := I.lock hd mu
  exact h.run pins s σ _ D I1 (hw od)
def xLk (i : Nat) (x : XF) : XF := fun ρ => match ρ[i]? with
  | some (.own (.dT kvs)) => x (ρ.set i (.sh (.fT kvs)))
  | some (.own (.dK kvs)) => x (ρ.set i (.sh (.fK kvs)))
  | _ => none
theorem EnvOk.lock {B : Bs} {ρ : Env} {σ : St} {G H : Hp} (E : EnvOk K B ρ σ G H) {i : Nat} {d d' : D} (hi : ρ[i]? = some (.own d)) {l : Addr} {o ol : HO} (hl : σ[i]? = some (some (V.ref l))) (h : H l = some o) (gl : G l = none) (h0 : B.H0 l = none)
    (rep : Rep K (upd G l ol) (.ref l) d') : EnvOk K B (ρ.set i (.sh d')) σ (upd G l ol) (upd H l ol) := by
  have lt : i < ρ.length := (List.getElem?_eq_some_iff.mp hi).1
  have xg : Ex G (upd G l ol) := Ex.new gl
  refine ⟨by rw [List.length_set]; exact E.len, E.g0.trans xg, fun a u q => ?_, fun a u q => ?_, fun a u q => ?_, fun j y ej => ?_, fun j k y z m ey ez oy oz sy sz => ?_⟩
  · rw [upd_ne (fun z => by rw [z, h0] at q; cases q)]
    exact E.h0 _ _ q
  · by_cases z : a = l
    · subst z; rw [upd_same] at q ⊢; exact q
    · rw [upd_ne z] at q ⊢; exact E.gh _ _ q
  · by_cases z : a = l
    · subst z; exact .inr (.inl h0)
    · rw [upd_ne z] at q; exact E.nw _ _ q
  · by_cases z : i = j
    · subst z
      rw [List.getElem?_set_self lt] at ej
      cases ej
      rw [hl]
      exact ⟨.ref l, rfl, rep⟩
    · rw [get_set_ne z] at ej
      have s := E.sl j y ej
      cases y with
      | un => trivial
      | sh d => obtain ⟨v, e1, r⟩ := s; exact ⟨v, e1, r.mono xg⟩
      | own d2 =>
        obtain ⟨m, u, e1, e2, e3, e4, e5⟩ := s
        have e6 : σ[j]? = some (some (V.ref m)) := by
          cases q : σ[j]? with
          | none => rw [q] at e1; cases e1
          | some w => rw [q] at e1; rw [show w = some (V.ref m) from e1]
        have ne : m ≠ l := fun c => by
          subst c
          exact z (E.ds i j _ _ m hi ej rfl rfl hl e6)
        exact ⟨m, u, e1, by rw [upd_ne ne]; exact e2, e3, by rw [upd_ne ne]; exact e4, e5.mono xg⟩
      | bor d2 =>
        obtain ⟨v, e1, r⟩ := s
        rcases r with r | ⟨m, u, e2, e3, c2⟩
        · exact ⟨v, e1, .inl (r.mono xg)⟩
        · exact ⟨v, e1, .inr ⟨m, u, e2, e3, c2.mono xg⟩⟩
      | scr _ => exact s
  · have back : ∀ {n : Nat} {u : LV}, (ρ.set i (.sh d'))[n]? = some u → u.isOwn = true → ∃ u', ρ[n]? = some u' ∧ u'.isOwn = true := fun {n u} e o => by
      by_cases z : i = n
      · subst z; exact ⟨_, hi, rfl⟩
      · rw [get_set_ne z] at e; exact ⟨u, e, o⟩
    obtain ⟨y', a1, a2⟩ := back ey oy
    obtain ⟨z', b1, b2⟩ := back ez oz
    exact E.ds j k y' z' m a1 b1 a2 b2 sy sz
theorem SS.lk {i : Nat} (h : SS K x t) : SS K (xLk i x) (tLk i t) := fun B ρ σ G H E o e En q => by
  unfold xLk at e
  have slot : ∀ {d : D}, ρ[i]? = some (.own d) → ∃ l u, σ[i]? = some (some (V.ref l)) ∧ G l = none ∧ B.H0 l = none ∧ H l = some u ∧ Cont K G u d := fun {d} p => by
    obtain ⟨l, u, e1, e2, e3, e4, e5⟩ := E.sl i _ p
    refine ⟨l, u, ?_, e2, e3, e4, e5⟩
    cases z : σ[i]? with
    | none => rw [z] at e1; cases e1
    | some w => rw [z] at e1; rw [show w = some (V.ref l) from e1]
  split at e
  · rename_i kvs p
    obtain ⟨l, u, hl, gl, h0, hu, c⟩ := slot p
    cases c with
    | dT r => exact ⟨l, _, hl, hu, trivial, fun od => h B _ σ _ _ (E.lock p hl hu gl h0 (.fT (ob := od) upd_same (r.mono (Ex.new gl)))) o e En q⟩
  · rename_i kvs p
    obtain ⟨l, u, hl, gl, h0, hu, c⟩ := slot p
    cases c with
    | dK r => exact ⟨l, _, hl, hu, trivial, fun od => h B _ σ _ _ (E.lock p hl hu gl h0 (.fK (ob := od) upd_same (r.mono (Ex.new gl)))) o e En q⟩
  · cases e
/-! ### [*xs, ..] -/
/-- arguments that stand by themselves, as many as there are -/
def SR (K : PySem.W.Frag) (f : Env → Option (List D)) (t : TA) : Prop := ∀ (B : Bs) (ρ : Env) (σ : St) (G H : Hp), EnvOk K B ρ σ G H → ∀ ds, f ρ = some ds → ∀ Q : List V → Hp → Prop, (∀ vs G' H', Wle G H G' H' → Reps K G' vs ds → Q vs H') → t σ H Q
variable {f : EvF} {fs : Env → Option (List D)} {ta : TE} {tas : TA}
theorem SR.nil : SR K aNil tNil := fun B ρ σ G H E ds e Q q => by
  cases e
  exact q [] G H E.wle .nil
theorem SR.cons (ha : SE K f ta) (hr : SR K fs tas) : SR K (aCons f fs) (tCons ta tas) := fun B ρ σ G H E ds e Q q => by
  obtain ⟨y, z, e1, e2, rfl⟩ := aCons_some e
  exact ha B ρ σ G H E y e1 _ fun v G1 H1 w1 r1 => hr B ρ σ G1 H1 (E.mono w1) z e2 _ fun vs G2 H2 w2 r2 => q (v :: vs) G2 H2 (w1.trans w2) (.cons (r1.mono w2.g) r2)
def aStar (f : EvF) (fs : Env → Option (List D)) : Env → Option (List D) := fun ρ => match f ρ, fs ρ with
  | some (.lst ds), some es => some (ds ++ es)
  | _, _ => none
theorem SR.star (ha : SB K f ta) (hr : SR K fs tas) : SR K (aStar f fs) (StX.tStar K ta tas) := fun B ρ σ G H E ds e Q q => by
  unfold aStar at e
  split at e
  · rename_i xs ys e1 e2
    cases e
    refine ha B ρ σ G H E _ e1 _ fun v G1 H1 w1 r1 => ?_
    obtain ⟨l, vs, rfl, h, r⟩ := r1.lst w1.gh
    exact ⟨l, vs, rfl, .inr (SqL.of h), hr B ρ σ G1 H1 (E.mono w1) ys e2 _ fun us G2 H2 w2 r2 => q (vs ++ us) G2 H2 (w1.trans w2) ((r.mono w2.g).append r2)⟩
  · cases e
theorem SF.lstR (ha : SR K fs tas) : SF K (eLst fs) (tLst tas) := fun B ρ σ G H E d e Q q => by
  unfold eLst at e
  cases p : fs ρ with
  | none => rw [p] at e; cases e
  | some ds =>
    rw [p] at e
    by_cases hl : ds.length ≤ 100000
    · simp only [hl, if_true, Option.some.injEq] at e
      subst e
      refine ha B ρ σ G H E ds p _ fun vs G1 H1 w1 r => ?_
      refine ⟨by rw [r.length]; exact Evl.sz_of hl, fun b hb => ?_⟩
      have gb : G1 b = none := Evl.fresh_back w1.gh hb
      exact q b _ G1 _ (w1.trans (Wle.newO w1.gh hb)) (Evl.fresh_back w1.h hb) gb upd_same (.lst r)
    · simp [hl] at e
end
/-! ### five arguments -/
section
variable {α β γ δ ε : Type} [Enc α] [Enc β] [Enc γ] [Enc δ] [Enc ε]
open Enc (enc)
open Classical in
noncomputable def fn5 (pre : α → β → γ → δ → ε → Prop) (m : α → β → γ → δ → ε → D) : List D → Option D := fun ds => if h : ∃ p : α × β × γ × δ × ε, ds = [enc p.1, enc p.2.1, enc p.2.2.1, enc p.2.2.2.1, enc p.2.2.2.2] ∧ pre p.1 p.2.1 p.2.2.1 p.2.2.2.1 p.2.2.2.2 then some (m h.choose.1 h.choose.2.1 h.choose.2.2.1 h.choose.2.2.2.1 h.choose.2.2.2.2) else none
theorem fn5_ev {pre : α → β → γ → δ → ε → Prop} {m : α → β → γ → δ → ε → D} {a : α} {b : β} {c : γ} {d : δ} {x : ε} (h : pre a b c d x) : fn5 pre m [enc a, enc b, enc c, enc d, enc x] = some (m a b c d x) := by
  unfold fn5
  have e : ∃ p : α × β × γ × δ × ε, [enc a, enc b, enc c, enc d, enc x] = [enc p.1, enc p.2.1, enc p.2.2.1, enc p.2.2.2.1, enc p.2.2.2.2] ∧ pre p.1 p.2.1 p.2.2.1 p.2.2.2.1 p.2.2.2.2 := ⟨(a, b, c, d, x), rfl, h⟩
  rw [dif_pos e]
  have := e.choose_spec.1
  injection this with h1 h2
  injection h2 with h2 h3
  injection h3 with h3 h4
  injection h4 with h4 h5
  injection h5 with h5 _
  rw [← Enc.inj _ _ h1, ← Enc.inj _ _ h2, ← Enc.inj _ _ h3, ← Enc.inj _ _ h4, ← Enc.inj _ _ h5]
theorem fn5_el {pre : α → β → γ → δ → ε → Prop} {m : α → β → γ → δ → ε → D} {ds : List D} {r : D} (e : fn5 pre m ds = some r) : ∃ a b c d x, ds = [enc a, enc b, enc c, enc d, enc x] ∧ pre a b c d x ∧ r = m a b c d x := by
  unfold fn5 at e
  split at e
  · rename_i h
    cases e
    exact ⟨_, _, _, _, _, h.choose_spec.1, h.choose_spec.2, rfl⟩
  · cases e
end
end DL

/-! DLG: evaluation lemmas for DLE and DLF. -/
namespace DL
open PySem L2
open Enc (enc)
section
variable {α β : Type} [Enc α] [Enc β]
def seqOfY : Option D → Option (List D)
  | some (.fT kvs) => some (keysD kvs)
  | some (.lst ds) => some ds
  | some (.tup ds) => some ds
  | some (.wt ds) => some ds
  | _ => none
theorem iSqY_eq (f : EvF) (ρ : Env) : iSqY f ρ = seqOfY (f ρ) := nr rfl
theorem seqOfY_l (xs : List α) : seqOfY (some (enc xs)) = some (xs.map enc) := nr rfl
theorem seqOfY_p (p : α × α) : seqOfY (some (enc p)) = some ([p.1, p.2].map enc) := nr rfl
theorem seqOfY_f (kvs : List (List Key × D)) : seqOfY (some (.fT kvs)) = some (keysD kvs) := nr rfl
def kPr (c : Int × Int) : List Key := [.inl c.1, .inl c.2]
theorem keysD_map (f : Int × Int → Int) (xs : List (Int × Int)) : keysD (iDs (xs.map fun c => (kPr c, f c))) = xs.map enc := by
  unfold keysD iDs
  rw [List.map_map, List.map_map]
  rfl
theorem dLenY_l (xs : List α) : dLenY [enc xs] = some (.int (xs.length : Nat)) := dLen_l xs
theorem dLenY_f (kvs : List (List Key × D)) : dLenY [.fT kvs] = some (.int (kvs.length : Nat)) := nr rfl
theorem dEqY_int (a b : Int) : dEqY (.int a) (.int b) = some (.bl (decide (a = b))) := dEqX_int a b
theorem dNeY_int (a b : Int) : dNeY (.int a) (.int b) = some (.bl (!decide (a = b))) := dNeX_int a b
theorem dEqY_bl (a b : Bool) : dEqY (.bl a) (.bl b) = some (.bl (decide (a = b))) := dEqX_bl a b
theorem dNeY_bl (a b : Bool) : dNeY (.bl a) (.bl b) = some (.bl (!decide (a = b))) := dNeX_bl a b
theorem dEqY_str (a b : Str) : dEqY (.str a) (.str b) = some (.bl (decide (a = b))) := dEqX_str a b
theorem dNeY_str (a b : Str) : dNeY (.str a) (.str b) = some (.bl (!decide (a = b))) := dNeX_str a b
theorem dEqY_l [Nice α] [DecidableEq α] (h : Nice.dep α ≤ 50) (a b : List α) : dEqY (enc a) (enc b) = some (.bl (decide (a = b))) := dEqX_l h a b
theorem dNeY_l [Nice α] [DecidableEq α] (h : Nice.dep α ≤ 50) (a b : List α) : dNeY (enc a) (enc b) = some (.bl (!decide (a = b))) := dNeX_l h a b
theorem dEqY_f (a b : List (List Key × Int)) : dEqY (.fT (iDs a)) (.fT (iDs b)) = some (.bl (sameT a b)) := by
  show cmpT id (.fT (iDs a)) (.fT (iDs b)) = _
  unfold cmpT
  simp only [ivals_iDs]
  rfl
theorem dNeY_f (a b : List (List Key × Int)) : dNeY (.fT (iDs a)) (.fT (iDs b)) = some (.bl (!sameT a b)) := by
  show cmpT not (.fT (iDs a)) (.fT (iDs b)) = _
  unfold cmpT
  simp only [ivals_iDs]
theorem dGeY_i (i j : Int) : dGeY (.int i) (.int j) = some (.bl (decide (j ≤ i))) := nr rfl
theorem dGeY_p (p q : Int × Int) : dGeY (enc p) (enc q) = some (.bl (if p.1 = q.1 then (if p.2 = q.2 then true else decide (q.2 ≤ p.2)) else decide (q.1 ≤ p.1))) := by
  obtain ⟨a, b⟩ := p
  obtain ⟨c, d⟩ := q
  show some (D.bl (geL [a, b] [c, d])) = _
  unfold geL
  rw [show min [a, b].length [c, d].length = 1 + 1 from rfl, Ob.lexAt_succ, Ob.lexAt_succ, Ob.lexAt_zero]
  congr 2
  by_cases h : a = c
  · subst h
    by_cases h2 : b = d
    · subst h2; simp
    · simp [h2]
  · simp [h]
theorem dAt_f (kvs : List (List Key × D)) (c : Int × Int) : dAt (.fT kvs) (enc c) = valD kvs (kPr c) := by
  show ((tkOf (enc c)).map (valD kvs)).join = _
  rfl
/-! ### name[key] = value, locking, stars -/
def putO (i : Nat) (ρ : Env) : Option LV → Option D → Option D → Option Out
  | some (.own x), some y, some v => (match putX x y v with | some z => some (.nx (ρ.set i (.own z))) | none => none)
  | _, _, _ => none
theorem xPut_eq (i : Nat) (f g : EvF) (ρ : Env) : xPut i f g ρ = putO i ρ (ρ[i]?) (f ρ) (g ρ) := nr rfl
theorem putD_map {κ : Type} [DecidableEq κ] {xs : List α} {kf : α → κ} {f : α → D} {a : α} {v : D} [DecidableEq α] (inj : ∀ a b, kf a = kf b → a = b) (h : a ∈ xs) : putD (xs.map fun c => (kf c, f c)) (kf a) v = xs.map fun c => (kf c, if c = a then v else f c) := by
  unfold putD
  rw [if_pos (by rw [List.any_eq_true]; exact ⟨(kf a, f a), List.mem_map.mpr ⟨a, h, rfl⟩, by simp⟩), List.map_map]
  refine List.map_congr_left fun c _ => ?_
  show (if kf c = kf a then (kf c, v) else (kf c, f c)) = _
  by_cases e : c = a
  · subst e; simp
  · rw [if_neg e, if_neg fun z => e (inj _ _ z)]
theorem kPr_inj (a b : Int × Int) (h : kPr a = kPr b) : a = b := by
  obtain ⟨x, y⟩ := a
  obtain ⟨z, u⟩ := b
  unfold kPr at h
  injection h with h1 h2
  injection h2 with h2 _
  injection h1 with h1
  injection h2 with h2
  rw [show x = z from h1, show y = u from h2]
theorem putO_f (i : Nat) (ρ : Env) {xs : List (Int × Int)} {f : Int × Int → Int} {c : Int × Int} {v : Int} (hl : xs.length < 100000) (h : c ∈ xs) :
    putO i ρ (some (.own (.dT (iDs (xs.map fun c => (kPr c, f c)))))) (some (enc c)) (some (.int v)) = some (.nx (ρ.set i (.own (.dT (iDs (xs.map fun z => (kPr z, if z = c then v else f z))))))) := by
  have e : ∀ g : Int × Int → Int, iDs (xs.map fun c => (kPr c, g c)) = xs.map fun c => (kPr c, D.int (g c)) := fun g => by
    unfold iDs
    rw [List.map_map]
    rfl
  show (match (match tkOf (enc c) with | some k => if (iDs (xs.map fun c => (kPr c, f c))).length < 100000 then some (D.dT (putD (iDs (xs.map fun c => (kPr c, f c))) k (.int v))) else none | none => none) with | some z => some (Out.nx (ρ.set i (.own z))) | none => none) = _
  have t : tkOf (enc c) = some (kPr c) := rfl
  rw [t, e, e]
  simp only
  rw [List.length_map, if_pos hl, putD_map kPr_inj h]
  simp only
  congr 5
  refine List.map_congr_left fun z _ => ?_
  by_cases q : z = c
  · rw [if_pos q, if_pos q]
  · rw [if_neg q, if_neg q]
def lkO (i : Nat) (x : XF) (ρ : Env) : Option LV → Option Out
  | some (.own (.dT kvs)) => x (ρ.set i (.sh (.fT kvs)))
  | some (.own (.dK kvs)) => x (ρ.set i (.sh (.fK kvs)))
  | _ => none
theorem xLk_eq (i : Nat) (x : XF) (ρ : Env) : xLk i x ρ = lkO i x ρ (ρ[i]?) := nr rfl
theorem lkO_T (i : Nat) (x : XF) (ρ : Env) (kvs : List (List Key × D)) : lkO i x ρ (some (.own (.dT kvs))) = x (ρ.set i (.sh (.fT kvs))) := nr rfl
def starQ : Option D → Option (List D) → Option (List D)
  | some (.lst ds), some es => some (ds ++ es)
  | _, _ => none
theorem aStar_eq (f : EvF) (fs : Env → Option (List D)) (ρ : Env) : aStar f fs ρ = starQ (f ρ) (fs ρ) := nr rfl
end
/-- two dicts over the same pairs -/
theorem lkI_map {xs : List (Int × Int)} {g : Int × Int → Int} {c : Int × Int} : c ∈ xs → lkI (xs.map fun c => (kPr c, g c)) (kPr c) = some (g c) := by
  induction xs with
  | nil => intro h; cases h
  | cons x xs ih =>
    intro h
    unfold lkI at ih ⊢
    rw [List.map_cons, List.find?_cons]
    by_cases e : x = c
    · subst e; simp
    · have ne : ¬ kPr x = kPr c := fun z => e (kPr_inj _ _ z)
      simp only [ne, decide_false]
      exact ih ((List.mem_cons.mp h).resolve_left fun z => e z.symm)
theorem all_mem {α : Type} {p q : α → Bool} : ∀ {xs : List α}, (∀ x ∈ xs, p x = q x) → xs.all p = xs.all q
  | [], _ => rfl
  | x :: xs, h => by
    rw [List.all_cons, List.all_cons, h x (List.mem_cons_self ..), all_mem fun y hy => h y (List.mem_cons_of_mem _ hy)]
theorem sameT_map (xs : List (Int × Int)) (f g : Int × Int → Int) : sameT (xs.map fun c => (kPr c, f c)) (xs.map fun c => (kPr c, g c)) = xs.all fun c => decide (f c = g c) := by
  unfold sameT
  rw [List.length_map, List.length_map, beq_self_eq_true, Bool.true_and, List.all_map]
  refine all_mem fun c hc => ?_
  show (match lkI (xs.map fun c => (kPr c, g c)) (kPr c) with | some m => f c == m | none => false) = _
  rw [lkI_map hc]
  rfl
end DL

set_option maxHeartbeats 4000000
/-! DLH: min(xs, key=f), f a def of the text. -/
namespace DL
open PySem PySem.Spec PyProof.Rows L2
open Evl (Ex)
theorem minkey_args (a v : Value) : argsOk "min" ⟨[a], [(Str.ofString "key", v)]⟩ := kmk_min_key a v
section
variable {X : Cx} {pins : List (Addr × Obj)} {σ : L2.St} {H : Hp} {s : Shared}
/-- an untracked thing of ours has changed; pinned as it is now -/
theorem Inv.setPin {it : Addr} {h' : Heap} {t' : Nat} {o' : Obj} (I : Inv X pins σ H s) (f : it ≠ X.env.locals ∧ it ∉ X.fs ∧ (it ∈ X.ex ∨ X.s_0.heap.objs.size ≤ it) ∧ (∀ x c, X.env.cells.lookup x = some c → c ≠ it) ∧ ∀ p ∈ X.pn ++ pins, p.1 ≠ it) (hn : H it = none)
    (k : ∀ b o, b ≠ it → s.heap.get? b = some o → h'.get? b = some o) (e : h'.get? it = some o') (nc : ∀ v, o'.data ≠ .cell v) : Inv X (pins ++ [(it, o')]) σ H { s with heap := h', toks := t' } := by
  have I1 := I.turned (t' := t') (h' := h') k hn f.1 f.2.2.1 f.2.2.2.1 f.2.2.2.2
  refine I1.pins_of fun p hp => ?_
  rcases List.mem_append.mp hp with z | z
  · exact I1.pin p (List.mem_append_right _ z)
  · rw [List.mem_singleton.mp z]
    exact ⟨e, hn, f.1, f.2.1, nc⟩
end
section
variable {X : Cx} {pins : List (Addr × Obj)} {σ : L2.St} {q l S T : Addr} {xs : List V} {kf : Nat → Int} {W : Hp → Prop} {Q : VK}
abbrev accO (vb : Value) (n : Int) (tb : Tok) (c : Nat) : Obj := seqObj "list" #[vb, .int n tb] c
def FpR (X : Cx) (pins : List (Addr × Obj)) (it : Addr) : Prop := it ≠ X.env.locals ∧ it ∉ X.fs ∧ (it ∈ X.ex ∨ X.s_0.heap.objs.size ≤ it) ∧ (∀ x c, X.env.cells.lookup x = some c → c ≠ it) ∧ ∀ p ∈ X.pn ++ pins, p.1 ≠ it
theorem FpR.more {it b : Addr} {o : Obj} (f : FpR X pins it) (h : b ≠ it) : FpR X (pins ++ [(b, o)]) it := ⟨f.1, f.2.1, f.2.2.1, f.2.2.2.1, fun p hp => by
  rcases List.mem_append.mp hp with z | z
  · exact f.2.2.2.2 p (List.mem_append_left _ z)
  · rcases List.mem_append.mp z with z | z
    · exact f.2.2.2.2 p (List.mem_append_right _ z)
    · rw [List.mem_singleton.mp z]; exact h⟩
theorem nc_list {xs : Array Value} {c : Nat} : ∀ v, (seqObj "list" xs c).data ≠ .cell v := fun v e => by cases e
def RPk (X : Cx) (pins : List (Addr × Obj)) (σ : L2.St) (Q : VK) (r : Result) (s' : Shared) : Prop := match r with
  | .ok (.ret v) => EP X pins σ Q v s'
  | .ok _ => False
  | .error e => X.xe e s'
def Best (kf : Nat → Int) (n i : Nat) : Prop := ∀ j, j < n → kf i ≤ kf j ∧ (j < i → kf i < kf j)
def TurnK (X : Cx) (σ : L2.St) (q : Addr) (xs : List V) (kf : Nat → Int) (W : Hp → Prop) : Prop := ∀ (i : Nat) (x : V) (u : Value) (pl : List (Addr × Obj)) (s' : Shared) (H' : Hp), xs[i]? = some x → RelV x u → W H' → Inv X pl σ H' s' →
  wpAny (model X.prog X.w) X.A.in1 (call (.ref q) [u]) (EP X pl σ fun v H2 => v = .int (kf i) ∧ W H2) (fun _ _ => False) s'
theorem minkey_loop (hh : X.A.handled = none) (hlT : l ≠ T) (hST : S ≠ T) (fS : FpR X pins S) (fT : FpR X pins T) (hW : ∀ H', W H' → SqL X.K H' l xs) (turn : TurnK X σ q xs kf W)
    (hQ : ∀ i x H', xs[i]? = some x → W H' → Best kf xs.length i → Q x H') :
    ∀ (r j i : Nat) (s : Shared) (H : Hp) (xb : V) (vb : Value) (tb : Tok) (c : Nat) (oT : Obj), xs.length - (j + 1) = r → j + 1 ≤ xs.length → Inv X (pins ++ [(T, oT)] ++ [(S, accO vb (kf i) tb c)]) σ H s → W H → s.heap.IsListIter T l (j + 1) → (∀ v, oT.data ≠ .cell v) →
      xs[i]? = some xb → RelV xb vb → i ≤ j → Best kf (j + 1) i →
      codeAny (model X.prog X.w) X.A (.builtin "min.loop" ⟨[.ref T, .ref q, .ref S], []⟩) (RPk X pins σ Q) s := by
  have hname : (toString "min" ++ toString ".loop" : String) = "min.loop" := by decide
  intro r
  induction r with
  | zero =>
    intro j i s H xb vb tb c oT hr hj I hw hit ncT hxb rb hij hbest
    have hin : j + 1 = xs.length := by omega
    obtain ⟨its, rv, hl, hz⟩ := I.list (hW H hw)
    have W' := Walks.list (prog := X.prog) (w := X.w) (A := X.A.in1) hh T l hlT its.toArray
    have hsz : its.toArray.size = xs.length := by rw [List.size_toArray, rv.length]
    have pS := I.pin (S, accO vb (kf i) tb c) (List.mem_append_right _ (List.mem_append_right _ (.head _)))
    have pT := I.pin (T, oT) (List.mem_append_right _ (List.mem_append_left _ (List.mem_append_right _ (.head _))))
    refine codeAny_builtin PySem.F.entry_min_loop ?_
    rw [Around.under_plainId PySem.F.plain_min_loop _]
    show wpAny _ X.A.in1 (seqItems? (.ref S) >>= _) _ _ _
    refine wpAny_bind (wpAny_seqItems pS.1 rfl ?_)
    show wpAny _ X.A.in1 (tryCatch (pyNext (.ref T)) _ >>= _) _ _ _
    refine wpAny_bind (wpAny_tryCatch (W'.done _ _ _ ⟨by rw [hsz, ← hin]; exact hit, hl.isList⟩ fun h' tk' hk' => ?_))
    have hkT : ∀ b o, b ≠ T → s.heap.get? b = some o → h'.get? b = some o := fun b o hb => hk' b o (fun z => hb (List.mem_singleton.mp z))
    have I0 : Inv X pins σ H s := (I.unpinned).unpinned
    have I1 : Inv X pins σ H { s with heap := h', toks := tk' } := I0.turned hkT pT.2.1 fT.1 fT.2.2.1 fT.2.2.2.1 fT.2.2.2.2
    have hS' := hkT S _ hST pS.1
    have s1 := Heap.SameBut.update h' S (Obj.mapSeq fun _ => (#[] : Array Value))
    show wpAny _ X.A.in1 (updateSeq S (fun _ => #[]) >>= _) _ _ _
    refine wpAny_bind ?_
    refine wpAny_updateSeq hS' rfl (wpAny_bind (wpAny_letGo (wpAny_pure ?_)))
    have I2 := I1.turned (t' := tk') (h' := h'.update S (Obj.mapSeq fun _ => (#[] : Array Value))) (fun b o hb e => (s1.2 b hb).trans e) pS.2.1 fS.1 fS.2.2.1 fS.2.2.2.1 fS.2.2.2.2
    exact ⟨xb, H, I2, rb, hQ i xb H hxb hw (by rw [← hin]; exact hbest)⟩
  | succ r ih =>
    intro j i s H xb vb tb c oT hr hj I hw hit ncT hxb rb hij hbest
    have hlt : j + 1 < xs.length := by omega
    obtain ⟨its, rv, hl, hz⟩ := I.list (hW H hw)
    have W' := Walks.list (prog := X.prog) (w := X.w) (A := X.A.in1) hh T l hlT its.toArray
    have hsz : its.toArray.size = xs.length := by rw [List.size_toArray, rv.length]
    have pS := I.pin (S, accO vb (kf i) tb c) (List.mem_append_right _ (List.mem_append_right _ (.head _)))
    have pT := I.pin (T, oT) (List.mem_append_right _ (List.mem_append_left _ (List.mem_append_right _ (.head _))))
    refine codeAny_builtin PySem.F.entry_min_loop ?_
    rw [Around.under_plainId PySem.F.plain_min_loop _]
    show wpAny _ X.A.in1 (seqItems? (.ref S) >>= _) _ _ _
    refine wpAny_bind (wpAny_seqItems pS.1 rfl ?_)
    show wpAny _ X.A.in1 (tryCatch (pyNext (.ref T)) _ >>= _) _ _ _
    refine wpAny_bind (wpAny_tryCatch (W'.item (j + 1) _ _ _ (by rw [hsz]; exact hlt) ⟨hit, hl.isList⟩ fun v h' tk' hP hst' hk' => ?_))
    have hv : its[j + 1]? = some v := by simpa using hP
    obtain ⟨x, hx, rx⟩ : ∃ x, xs[j + 1]? = some x ∧ RelV x v := by
      obtain ⟨x, hx⟩ : ∃ x, xs[j + 1]? = some x := ⟨_, List.getElem?_eq_getElem hlt⟩
      obtain ⟨u, hu, ru⟩ := rv.get hx
      rw [hv] at hu
      cases hu
      exact ⟨x, hx, ru⟩
    obtain ⟨oT', hoT', hoc, hod⟩ := id hst'.1
    have ncT' : ∀ v, oT'.data ≠ .cell v := fun v e => by rw [hod] at e; cases e
    have hkT : ∀ b o, b ≠ T → s.heap.get? b = some o → h'.get? b = some o := fun b o hb => hk' b o (fun z => hb (List.mem_singleton.mp z))
    have I0 : Inv X pins σ H s := (I.unpinned).unpinned
    have I1 : Inv X (pins ++ [(T, oT')]) σ H { s with heap := h', toks := tk' } := Inv.setPin I0 fT pT.2.1 hkT hoT' ncT'
    have I2 : Inv X (pins ++ [(T, oT')] ++ [(S, accO vb (kf i) tb c)]) σ H { s with heap := h', toks := tk' } := I1.pins_of fun p hp => by
      rcases List.mem_append.mp hp with z | z
      · exact I1.pin p (List.mem_append_right _ z)
      · rw [List.mem_singleton.mp z]
        exact ⟨hkT S _ hST pS.1, pS.2.1, pS.2.2.1, pS.2.2.2.1, nc_list⟩
    show wpAny _ X.A.in1 (tryCatch (holding [v] (call (.ref q) [v])) _ >>= _) _ _ _
    refine wpAny_bind (wpAny_tryCatch (wpAny_holding (wpAny_mono (turn (j + 1) x v _ _ H hx rx hw I2) (fun y s'' he => ?_) fun _ _ hF => hF.elim)))
    obtain ⟨w2, H2, I3, r3, rfl, hw2⟩ := he
    obtain ⟨t2, rfl⟩ := r3
    have pS2 := I3.pin (S, accO vb (kf i) tb c) (List.mem_append_right _ (List.mem_append_right _ (.head _)))
    have pT2 := I3.pin (T, oT') (List.mem_append_right _ (List.mem_append_left _ (List.mem_append_right _ (.head _))))
    have hit2 : s''.heap.IsListIter T l (j + 1 + 1) := ⟨oT', pT2.1, hoc, hod⟩
    show wpAny _ X.A.in1 (tryCatch (holding [v, .int (kf (j + 1)) t2] (richCompare .Lt (.int (kf (j + 1)) t2) (.int (kf i) tb) >>= _)) _ >>= _) _ _ _
    refine wpAny_bind (wpAny_tryCatch (wpAny_holding (wpAny_bind (CmpOf.ints_lt (prog := X.prog) (w := X.w) (A := X.A.in1) (P := fun i v => ∃ t, v = .int (kf i) t) kf (fun i v h => h) (j + 1) i _ _ _ _ _ ⟨t2, rfl⟩ ⟨tb, rfl⟩ ?_))))
    refine wpAny_bind (wpAny_holding (wpAny_truthy_bool ?_))
    refine wpAny_bind (wpAny_letGo (wpAny_pure ?_))
    have IT : Inv X (pins ++ [(T, oT')]) σ H2 s'' := I3.unpinned
    by_cases hb' : kf (j + 1) < kf i
    · have s1 := Heap.SameBut.update s''.heap S (Obj.mapSeq fun _ => #[v, .int (kf (j + 1)) t2])
      obtain ⟨c2, hc2⟩ : ∃ c2, (s''.heap.update S (Obj.mapSeq fun _ => #[v, .int (kf (j + 1)) t2])).get? S = some (seqObj "list" #[v, .int (kf (j + 1)) t2] c2) := ⟨_, get?_update_seq pS2.1 fun _ => #[v, .int (kf (j + 1)) t2]⟩
      simp only [hb', decide_true, if_true]
      refine wpAny_bind ?_
      refine wpAny_updateSeq pS2.1 rfl (wpAny_bind (wpAny_letGo ?_))
      rw [hname]
      have I4 : Inv X (pins ++ [(T, oT')] ++ [(S, accO v (kf (j + 1)) t2 c2)]) σ H2 { s'' with heap := s''.heap.update S (Obj.mapSeq fun _ => #[v, .int (kf (j + 1)) t2]) } :=
        Inv.setPin (t' := s''.toks) IT (fS.more (Ne.symm hST)) pS2.2.1 (fun b o hb e => (s1.2 b hb).trans e) hc2 nc_list
      refine wpAny_pure ⟨plainId_quiet PySem.F.plain_min_loop _, ih (j + 1) (j + 1) _ H2 x v t2 c2 oT' (by omega) hlt I4 hw2 ⟨oT', (s1.2 T hST.symm).trans pT2.1, hoc, hod⟩ ncT' hx rx (Nat.le_refl _) fun j' hj' => ?_⟩
      by_cases e : j' = j + 1
      · subst e
        exact ⟨by omega, fun _ => by omega⟩
      · have hb1 := hbest j' (by omega)
        have hb2 := hb1.1
        exact ⟨by omega, fun _ => by omega⟩
    · simp only [hb', decide_false, Bool.false_eq_true, if_false]
      refine wpAny_bind (wpAny_letGo ?_)
      rw [hname]
      refine wpAny_pure ⟨plainId_quiet PySem.F.plain_min_loop _, ih (j + 1) i _ H2 xb vb tb c oT' (by omega) hlt I3 hw2 hit2 ncT' hxb rb (by omega) fun j' hj' => ?_⟩
      by_cases e : j' = j + 1
      · subst e
        exact ⟨by omega, fun _ => by omega⟩
      · exact hbest j' (by omega)
theorem minkey_run {H : Hp} {s : Shared} (hh : X.A.handled = none) (I : Inv X pins σ H s) (hw : W H) (hW : ∀ H', W H' → SqL X.K H' l xs) (hne : 0 < xs.length) (turn : TurnK X σ q xs kf W)
    (hQ : ∀ i x H', xs[i]? = some x → W H' → Best kf xs.length i → Q x H') :
    wpAny (model X.prog X.w) X.A (call (.builtin "min") [.ref l] [(Str.ofString "key", .ref q)]) (EP X pins σ Q) X.xe s := by
  have hname : (toString "min" ++ toString ".loop" : String) = "min.loop" := by decide
  obtain ⟨its, rv, hl, hz⟩ := I.list (hW H hw)
  obtain ⟨ol, hol, _⟩ := id hl.isList
  have hll : l < s.heap.objs.size := Heap.lt_size hol
  have lenI : xs.length = its.length := rv.length
  refine kmk_tree PySem.F.kind_min PySem.F.plain_min PySem.F.entry_min (kmk_min_key _ _) ?_
  show wpAny _ X.A.in1 (Builtin.Builtins.bindParams "min" ["key", "default"] 0 ⟨[], [(Str.ofString "key", .ref q)]⟩ >>= _) _ _ s
  refine wpAny_bind (wpAny_of_eq (show Builtin.Builtins.bindParams "min" ["key", "default"] 0 ⟨[], [(Str.ofString "key", .ref q)]⟩ = pure [some (.ref q), none] from rfl) ?_)
  refine wpAny_bind (wpAny_pure ?_)
  refine wpAny_bind (wpAny_pyIter_list hl.isList ?_)
  refine wpAny_bind (wpAny_newList ?_ (Nat.zero_le _))
  rw [hname]
  obtain ⟨h1, e1⟩ : ∃ h1 : Heap, s.heap.push { cls := .type "list_iterator", data := .fields #[.ref l, .int 0 0] } = h1 := ⟨_, rfl⟩
  have hS : h1.objs.size = s.heap.objs.size + 1 := by rw [← e1]; exact size_push' ..
  obtain ⟨T, eT⟩ : ∃ T, s.heap.objs.size = T := ⟨_, rfl⟩
  rw [e1]
  obtain ⟨S, eS⟩ : ∃ S, h1.objs.size = S := ⟨_, rfl⟩
  have hST : S ≠ T := by omega
  have hlT : l ≠ T := by rw [← eT]; exact Nat.ne_of_lt hll
  have k0 : ∀ b o, s.heap.get? b = some o → (h1.push (seqObj "list" #[] 0)).get? b = some o := fun b o e => Heap.get?_push_of_some _ (by rw [← e1]; exact Heap.get?_push_of_some _ e)
  have gT : (h1.push (seqObj "list" #[] 0)).get? T = some { cls := .type "list_iterator", data := .fields #[.ref l, .int 0 0] } := Heap.get?_push_of_some _ (by rw [← e1, ← eT]; exact Heap.get?_push_size _ rfl)
  have gS : (h1.push (seqObj "list" #[] 0)).get? S = some (seqObj "list" #[] 0) := by rw [← eS]; exact Heap.get?_push_size _ rfl
  have nT : H T = none := I.hok.fresh (by omega)
  have nS : H S = none := I.hok.fresh (by omega)
  have fT : FpR X pins T := (I.fpOk (H' := H) (b := T) (by omega) nT).2
  have fS : FpR X pins S := (I.fpOk (H' := H) (b := S) (by omega) nS).2
  rw [eT, eS]
  refine wpAny_pure ⟨plainId_quiet PySem.F.plain_min_loop _, ?_⟩
  have I1 : Inv X pins σ H { s with heap := h1.push (seqObj "list" #[] 0), toks := s.toks } := I.kept k0
  obtain ⟨its1, rv1, hl1, hz1⟩ := I1.list (hW H hw)
  have W' := Walks.list (prog := X.prog) (w := X.w) (A := X.A.in1) hh T l hlT its1.toArray
  have hsz : its1.toArray.size = xs.length := by rw [List.size_toArray, rv1.length]
  refine codeAny_builtin PySem.F.entry_min_loop ?_
  rw [Around.under_plainId PySem.F.plain_min_loop _]
  show wpAny _ X.A.in1 (seqItems? (.ref S) >>= _) _ _ _
  refine wpAny_bind (wpAny_seqItems gS rfl ?_)
  show wpAny _ X.A.in1 (tryCatch (pyNext (.ref T)) _ >>= _) _ _ _
  refine wpAny_bind (wpAny_tryCatch (W'.item 0 _ _ _ (by rw [hsz]; exact hne) ⟨⟨_, gT, rfl, rfl⟩, hl1.isList⟩ fun v h' tk' hP hst' hk' => ?_))
  have hv : its1[0]? = some v := by simpa using hP
  obtain ⟨x, hx, rx⟩ : ∃ x, xs[0]? = some x ∧ RelV x v := by
    obtain ⟨x, hx⟩ : ∃ x, xs[0]? = some x := ⟨_, List.getElem?_eq_getElem hne⟩
    obtain ⟨u, hu, ru⟩ := rv1.get hx
    rw [hv] at hu
    cases hu
    exact ⟨x, hx, ru⟩
  obtain ⟨oT', hoT', hoc, hod⟩ := id hst'.1
  have ncT' : ∀ v, oT'.data ≠ .cell v := fun v e => by rw [hod] at e; cases e
  have hkT : ∀ b o, b ≠ T → (h1.push (seqObj "list" #[] 0)).get? b = some o → h'.get? b = some o := fun b o hb => hk' b o (fun z => hb (List.mem_singleton.mp z))
  have I2 : Inv X (pins ++ [(T, oT')]) σ H { s with heap := h', toks := tk' } := by
    have := Inv.setPin (t' := tk') I1 fT nT hkT hoT' ncT'
    exact this
  have I3 : Inv X (pins ++ [(T, oT')] ++ [(S, seqObj "list" #[] 0)]) σ H { s with heap := h', toks := tk' } := I2.pins_of fun p hp => by
    rcases List.mem_append.mp hp with z | z
    · exact I2.pin p (List.mem_append_right _ z)
    · rw [List.mem_singleton.mp z]
      exact ⟨hkT S _ hST gS, nS, fS.1, fS.2.1, nc_list⟩
  show wpAny _ X.A.in1 (tryCatch (holding [v] (call (.ref q) [v])) _ >>= _) _ _ _
  refine wpAny_bind (wpAny_tryCatch (wpAny_holding (wpAny_mono (turn 0 x v _ _ H hx rx hw I3) (fun y s'' he => ?_) fun _ _ hF => hF.elim)))
  obtain ⟨w2, H2, I4, r3, rfl, hw2⟩ := he
  obtain ⟨t2, rfl⟩ := r3
  have pS2 := I4.pin (S, seqObj "list" #[] 0) (List.mem_append_right _ (List.mem_append_right _ (.head _)))
  have pT2 := I4.pin (T, oT') (List.mem_append_right _ (List.mem_append_left _ (List.mem_append_right _ (.head _))))
  have s1 := Heap.SameBut.update s''.heap S (Obj.mapSeq fun _ => #[v, .int (kf 0) t2])
  obtain ⟨c2, hc2⟩ : ∃ c2, (s''.heap.update S (Obj.mapSeq fun _ => #[v, .int (kf 0) t2])).get? S = some (seqObj "list" #[v, .int (kf 0) t2] c2) := ⟨_, get?_update_seq pS2.1 fun _ => #[v, .int (kf 0) t2]⟩
  show wpAny _ X.A.in1 (updateSeq S (fun _ => #[v, .int (kf 0) t2]) >>= _) _ _ _
  refine wpAny_bind ?_
  refine wpAny_updateSeq pS2.1 rfl ?_
  rw [hname]
  have IT : Inv X (pins ++ [(T, oT')]) σ H2 s'' := I4.unpinned
  have I5 : Inv X (pins ++ [(T, oT')] ++ [(S, accO v (kf 0) t2 c2)]) σ H2 { s'' with heap := s''.heap.update S (Obj.mapSeq fun _ => #[v, .int (kf 0) t2]) } :=
    Inv.setPin (t' := s''.toks) IT (fS.more (Ne.symm hST)) pS2.2.1 (fun b o hb e => (s1.2 b hb).trans e) hc2 nc_list
  refine wpAny_pure ⟨plainId_quiet PySem.F.plain_min_loop _, minkey_loop hh hlT hST fS fT hW turn hQ _ 0 0 _ H2 x v t2 c2 oT' rfl hne I5 hw2 ⟨oT', (s1.2 T hST.symm).trans pT2.1, hoc, hod⟩ ncT' hx rx (Nat.le_refl _) fun j' hj' => ?_⟩
  have e : j' = 0 := by omega
  subst e
  exact ⟨by omega, fun h => absurd h (Nat.lt_irrefl _)⟩
end
/-! ### as an expression -/
def tMinK (K : PySem.W.Frag) (sp : Sp) (t : TA) : TE := fun σ H Q => t σ H fun vs H1 => ∃ a xs kf, ∃ W : Hp → Prop, vs = [V.ref a] ∧ W H1 ∧ (∀ H', W H' → SqL K H' a xs) ∧ 0 < xs.length ∧
  (∀ i x H', xs[i]? = some x → W H' → sp [x] H' (fun v H2 => v = .int (kf i) ∧ W H2) E0) ∧ ∀ i x H', xs[i]? = some x → W H' → Best kf xs.length i → Q x H'
section
variable {X : Cx} {f : Str} {j k : Nat} {y : String} {sp : Sp} {e : Expr} {t : TA} {p p2 p3 pos : Pos}
theorem pe_minK (h : Cal X.prog X.w X.K X.mg X.base f j [y] sp) (hr : Room k X.A) (hj : j + 1 ≤ k) (calm : X.calm = true) (hg : Gl X "min") (hm : X.mg "min" = none) (hgf : Gl X f) (ha : PA X [e] t)
    (hdb : (f == ("__debug__" : Str)) = false := by decide)
    (he : backTo pos (starEach [e] X.env) = (false, eval e X.env) :: backTo pos (starEach [] X.env) := by rfl) (hpl : (backTo pos (starEach [e] X.env)).any (·.1) = false := by rfl)
    (hall : (backToKw pos (keywordEach [⟨some (Str.ofString "key"), .Name f p2, p3⟩] X.env)).all (·.1.isSome) = true := by rfl) (hnone : (backToKw pos (keywordEach [⟨some (Str.ofString "key"), .Name f p2, p3⟩] X.env)).any (·.1.isNone) = false := by rfl) (hks : (backToKw pos (keywordEach [⟨some (Str.ofString "key"), .Name f p2, p3⟩] X.env)).filterMap (·.1) = [Str.ofString "key"] := by rfl) :
    PE X (.Call (.Name "min" p) [e] [⟨some (Str.ofString "key"), .Name f p2, p3⟩] pos) (tMinK X.K sp t) := by
  obtain ⟨q, fd, F, m, kp, b⟩ := h.ex
  refine ⟨fun pins s σ H Q I h => ?_⟩
  refine wpAny_Call_Name_kw (ld_blt I hg hm (u := .builtin "min") (by decide +kernel) ?_ (by decide) (by decide))
  refine PyProof.Rows.callWith_kw (thn (ha.run pos pins s σ H _ I h) fun us s1 ⟨vs, H1, I1, r1, q1⟩ => thn ((pk_cons (pe_glob hgf m (show RelV (.ref q) (.ref q) from rfl) hdb) pk_nil).run pos pins s1 σ H1 (fun zs H2 => zs = [V.ref q] ∧ H2 = H1) I1 ⟨rfl, rfl⟩) fun ws s2 ⟨zs, H2, I2, r2, q2⟩ => ?_) he hpl hall hnone
  obtain ⟨rfl, rfl⟩ := q2
  obtain ⟨a, xs, kf, W, rfl, hw, hW, hne, hcall, hQ⟩ := q1
  obtain rfl := Vals.ref1 r1
  obtain ⟨w1, rfl, e1⟩ := vals1 r2
  obtain rfl : w1 = Value.ref q := e1
  rw [hks]
  show wpAny _ _ (call (.builtin "min") [.ref a] [(Str.ofString "key", .ref q)]) _ _ _
  refine minkey_run (I2.ok.hd calm) I2 hw hW hne (fun i x u pl s' H' hx rx hw' I' => ?_) hQ
  have r3 : Vals [x] [u] := .cons rx .nil
  have hb : BindsTo s' fd ⟨[u], []⟩ (([y] : List Str).zip [u]) := by
    have := b s' [u] I'.kIn rfl
    simpa using this
  refine wpAny_call (codeAny_mono (F.run X.A.in1 X.stack s' H' ⟨[u], []⟩ [u] [x] _ E0 ((hr.mono hj).in1) I'.env0.in1 hb r3 (hcall i x H' hx hw')) fun r s'' hq => ?_)
  cases r with
  | error e => exact False.elim hq
  | ok fl =>
    cases fl with
    | ret u => exact I'.after hq
    | next => exact False.elim hq
    | brk => exact False.elim hq
    | cont => exact False.elim hq
end
end DL

/-! DLI: set(list) of keys by its size; texts: join, index, in; dict of a list of pairs; defs that call themselves. -/
namespace DL
open PySem PySem.Spec PyProof.Rows L2
open Evl (Ex)
def memK (xs : List Key) (k : Key) : Bool := xs.any fun z => decide (z = k)
theorem memK_iff {xs : List Key} {k : Key} : memK xs k = true ↔ k ∈ xs := by
  unfold memK
  rw [List.any_eq_true]
  constructor
  · rintro ⟨z, hz, e⟩
    rw [← of_decide_eq_true e]; exact hz
  · exact fun h => ⟨k, h, decide_eq_true rfl⟩
def addK (acc : List Key) (k : Key) : List Key := if memK acc k = true then acc else acc ++ [k]
/-- the unlike ones, in their order -/
def uniqK (xs : List Key) : List Key := xs.foldl addK []
theorem uniqK_snoc (xs : List Key) (k : Key) : uniqK (xs ++ [k]) = addK (uniqK xs) k := by
  unfold uniqK
  rw [List.foldl_append]
  rfl
theorem mem_addK {acc : List Key} {x k : Key} : k ∈ addK acc x ↔ k ∈ acc ∨ k = x := by
  unfold addK
  by_cases h : memK acc x = true
  · rw [if_pos h]
    exact ⟨.inl, fun q => q.elim id fun e => by rw [e]; exact memK_iff.mp h⟩
  · rw [if_neg h, List.mem_append, List.mem_singleton]
theorem mem_uniqF (k : Key) : ∀ (xs acc : List Key), k ∈ xs.foldl addK acc ↔ k ∈ acc ∨ k ∈ xs
  | [], acc => by simp
  | x :: xs, acc => by
    rw [List.foldl_cons, mem_uniqF k xs, mem_addK, List.mem_cons, or_assoc]
theorem mem_uniqK (xs : List Key) (k : Key) : k ∈ uniqK xs ↔ k ∈ xs := by
  unfold uniqK
  rw [mem_uniqF]
  simp
theorem setOf_congr {prog : Program} {w : World} {h : Heap} {a : Addr} {S S' : Key → Bool} {n n' : Nat} (hS : h.SetOf (mixKind prog w) a S n) (e : ∀ k, S k = S' k) (en : n = n') : h.SetOf (mixKind prog w) a S' n' := by
  obtain rfl : S = S' := funext e
  subst en
  exact hS
section
variable {prog : Program} {w : World} {A : Around} {R : Result → Shared → Prop} {I : Addr} {fp wr : List Addr} {G : Array GenState → Array GenState → Prop} {n : Nat} {P : Nat → Value → Prop} {St : Nat → Shared → Prop}
abbrev kSetOf (prog : Program) (w : World) (h : Heap) (S : Addr) (xs : List Key) : Prop := h.SetOf (mixKind prog w) S (memK xs) (uniqK xs).length
theorem kset_loop (W : WalksS prog w A.in1 I fp wr G n P St) (S : Addr) (hSf : S ∉ fp) (xs : List Key) (hsz : xs.length = n) (room : n + 1 < scanBound)
    (hval : ∀ i v, P i v → ∃ k, xs[i]? = some k ∧ RelV (kV k) v) :
    ∀ (k i : Nat) (s : Shared), n - i = k → i ≤ n → St i s → kSetOf prog w s.heap S (xs.take i) → (uniqK (xs.take i)).length ≤ i →
      (∀ s', Moved (S :: wr) G s s' → kSetOf prog w s'.heap S xs → R (.ok (.ret .none)) s') →
      codeAny (model prog w) A (.builtin "set.update.loop" ⟨[.ref S, .ref I], []⟩) R s := by
  have hSw : S ∉ wr := fun h => hSf (W.sub _ h)
  have hsub : ∀ b ∈ wr, b ∈ S :: wr := fun b hb => List.mem_cons_of_mem _ hb
  intro k
  induction k with
  | zero =>
    intro i s hk hi hst hS _ hR
    have hin : i = n := by omega
    subst hin
    rw [← hsz, List.take_length] at hS
    refine codeAny_builtin PyProof.Rows.F.entry_set_update_loop ?_
    rw [Around.under_plainId PyProof.Rows.F.plain_set_update_loop _]
    refine wpAny_bind (m := pyNext (.ref I)) (W.done s _ _ hst fun s' hm => ?_)
    exact wpAny_pure (hR s' (hm.mono hsub) (setOf_at hS fun o e => hm.heap S o hSw e))
  | succ k ih =>
    intro i s hk hi hst hS hc hR
    have hlt : i < n := by omega
    refine codeAny_builtin PyProof.Rows.F.entry_set_update_loop ?_
    rw [Around.under_plainId PyProof.Rows.F.plain_set_update_loop _]
    refine wpAny_bind (m := pyNext (.ref I)) (W.item i s _ _ hlt hst fun v s' hP hst' hm => ?_)
    obtain ⟨key, hkey, rv⟩ := hval i v hP
    have hS' : kSetOf prog w s'.heap S (xs.take i) := setOf_at hS fun o e => hm.heap S o hSw e
    have hki : keyIs key v = true := kV_is (P := prog) (w := w) rv
    refine wpAny_bind (m := holding [v] (setAdd S v)) (wpAny_holding ?_)
    unfold setAdd
    refine wpAny_holding ?_
    refine wpAny_bind ((mixKind prog w).pyHash (k := key) hki ?_)
    refine wpAny_setAddHashed_of (knd := mixKind prog w) (s := { s' with toks := s'.toks + 1 }) hki (key_scan rv) hS' (by omega) fun h' hsb hS2 => ?_
    have tk : xs.take (i + 1) = xs.take i ++ [key] := by rw [List.take_add_one, hkey]; rfl
    have hSi : kSetOf prog w h' S (xs.take (i + 1)) := by
      refine setOf_congr hS2 (fun k' => ?_) ?_
      · rw [tk]
        unfold memK
        rw [List.any_append, List.any_cons, List.any_nil, Bool.or_false]
        congr 1
        by_cases e : k' = key
        · rw [decide_eq_true e, decide_eq_true e.symm]
        · rw [decide_eq_false e, decide_eq_false fun z => e z.symm]
      · rw [tk, uniqK_snoc]
        unfold addK
        by_cases q : key ∈ xs.take i
        · rw [if_pos (memK_iff.mpr q), if_pos (memK_iff.mpr ((mem_uniqK _ _).mpr q))]
        · rw [if_neg fun z => q (memK_iff.mp z), if_neg fun z => q ((mem_uniqK _ _).mp (memK_iff.mp z)), List.length_append]
          rfl
    have hci : (uniqK (xs.take (i + 1))).length ≤ i + 1 := by
      rw [tk, uniqK_snoc]
      unfold addK
      split
      · omega
      · rw [List.length_append]; simp; omega
    refine wpAny_pure ⟨plainId_quiet PyProof.Rows.F.plain_set_update_loop _, ih (i + 1) _ (by omega) hlt (W.frame _ s' _ _ hst' (Nat.le_succ _) fun b hb o e => ?_) hSi hci fun s'' hm'' hS'' => ?_⟩
    · exact (hsb.2 b fun h : b = S => hSf (h ▸ hb)).trans e
    · exact hR s'' (Moved.trans W.gtrans ((hm.mono hsub).then_heap (Nat.le_succ _) fun b o hb e => (hsb.2 b fun h : b = S => hb (h ▸ List.mem_cons_self)).trans e) hm'') hS''
end
section
variable {prog : Program} {w : World} {A : Around} {E : Value → Shared → Prop} {s : Shared}
set_option maxHeartbeats 3200000 in
theorem call_kset {l : Addr} {items : Array Value} {xs : List Key} {Q : Value → Shared → Prop} (hh : A.handled = none) (hl : s.heap.IsList l items) (hv : Vals (xs.map kV) items.toList) (room : xs.length + 1 < scanBound)
    (h : ∀ (h' : Heap) (tk : Nat), kSetOf prog w h' s.heap.objs.size xs → (∀ b o, b < s.heap.objs.size → s.heap.get? b = some o → h'.get? b = some o) → Q (.ref s.heap.objs.size) { s with heap := h', toks := tk }) :
    wpAny (model prog w) A (call (.type "set") [.ref l]) Q E s := by
  obtain ⟨c, tl, hmro⟩ := PySem.F.called_set.mro
  have hmade := PySem.F.called_set.made
  have hsub := PySem.F.called_set.sub
  refine wpAny_call (codeAny_of_tree (wpAny_pure (s := s) ⟨Code.quiet_builtin _ (by decide +kernel), codeAny_builtin PySem.F.entry_type_call ?_⟩))
  rw [Around.under_plain (weight_type_call_type "set" [.ref l] []) rfl]
  have h1 := PySem.F.called_set.notType
  have h2 := PySem.F.called_set.canCreate
  have hct := PySem.F.typeCall_set_1 (.ref l)
  repeat (any_goals (first | assumption | wp_step))
  refine codeAny_mono (code_set_new_1 (.ref l) (E := E) (Q₁ := fun obj s₁ => ∃ led : Bool, obj = .ref s.heap.objs.size ∧ s₁ = { s with heap := s.heap.push { cls := .type "set", dict := none, data := .set #[] 0 (.fresh 0 0 led) } }) fun led => ⟨led, rfl, rfl⟩) fun r s₁ hr => ?_
  cases r with
  | error e => exact hr
  | ok fl =>
    cases fl with
    | ret obj =>
      obtain ⟨led, rfl, rfl⟩ := hr
      have hS : (s.heap.push { cls := .type "set", dict := none, data := .set #[] 0 (.fresh 0 0 led) }).get? s.heap.objs.size = some { cls := .type "set", dict := none, data := .set #[] 0 (.fresh 0 0 led) } := Heap.get?_push_size _ rfl
      have hT : Shared.TypeIs { s with heap := s.heap.push { cls := .type "set", dict := none, data := .set #[] 0 (.fresh 0 0 led) } } (.ref s.heap.objs.size) "set" := ⟨_, hS, rfl⟩
      have hli := PySem.F.called_set.init.lookup
      have hbi := PySem.F.called_set.init.bind (.ref s.heap.objs.size)
      repeat (any_goals (first | assumption | wp_step))
      refine codeAny_mono (codeAny_call_builtin (R := wants (fun r s₂ => r = .none ∧ ∃ h' tk, s₂ = { s with heap := h', toks := tk } ∧ kSetOf prog w h' s.heap.objs.size xs ∧
          (∀ b o, b < s.heap.objs.size → s.heap.get? b = some o → h'.get? b = some o)) E) PySem.F.called_set.init.plain PySem.F.entry_set_init (check_set_init_1 hT ?_)) fun r₂ s₂ hr₂ => ?_
      · obtain ⟨ol, hol, hcl, nl, hdl⟩ := hl
        obtain ⟨ocls, odict, odata, oslots⟩ := ol
        simp only at hcl hdl
        subst hcl; subst hdl
        have hol' : (s.heap.push { cls := .type "set", dict := none, data := .set #[] 0 (.fresh 0 0 led) }).get? l = some { cls := .type "list", dict := odict, data := .seq items nl, slots := oslots } := Heap.get?_push_of_some _ hol
        have hsls := PySem.F.sub_list_set
        have hslf := PySem.F.sub_list_frozenset
        have hne : (Value.type "list" == Value.type "dict") = false := by decide
        have hl1 : (s.heap.push { cls := .type "set", dict := none, data := .set #[] 0 (.fresh 0 0 led) }).IsList l items := ⟨_, hol', rfl, nl, rfl⟩
        unfold Builtin.«set.__init__» noKeywords Builtin.Frozenset.updateFrom
        generalize hPI : pyIter = PI
        wp_walk
        subst hPI
        refine wpAny_pyIter_list hl1 (wpAny_bind (wpAny_runValue ?_))
        have hlS : l < s.heap.objs.size := Heap.lt_size hol
        have hh3 : A.in1.in1.in1.handled = none := by simp [hh]
        have hneI : l ≠ (s.heap.push { cls := .type "set", dict := none, data := .set #[] 0 (.fresh 0 0 led) }).objs.size := by
          rw [Heap.size_push]; exact Nat.ne_of_lt (Nat.lt_succ_of_lt hlS)
        have hSf : s.heap.objs.size ∉ [(s.heap.push { cls := .type "set", dict := none, data := .set #[] 0 (.fresh 0 0 led) }).objs.size, l] := by
          rw [Heap.size_push]; simp only [List.mem_cons, List.mem_singleton, List.not_mem_nil, or_false, not_or]
          exact ⟨Nat.ne_of_lt (Nat.lt_succ_self _), Nat.ne_of_gt hlS⟩
        have hsz : xs.length = items.size := by rw [← Array.length_toList, ← hv.length, List.length_map]
        have hval : ∀ (i : Nat) (v : Value), items[i]? = some v → ∃ k, xs[i]? = some k ∧ RelV (kV k) v := fun i v e => by
          have hi : i < xs.length := by rw [hsz]; exact (Array.getElem?_eq_some_iff.mp e).1
          have e1 : (xs.map kV)[i]? = some (kV xs[i]) := by rw [List.getElem?_map, List.getElem?_eq_getElem hi]; rfl
          obtain ⟨u, hu, ru⟩ := hv.get e1
          rw [Array.getElem?_toList, e] at hu
          cases hu
          exact ⟨_, List.getElem?_eq_getElem hi, ru⟩
        refine kset_loop ((Walks.list hh3 _ l hneI items).toS) s.heap.objs.size hSf xs hsz (by rw [← hsz]; exact room) hval (items.size - 0) 0 _ (by omega) (Nat.zero_le _)
          ⟨⟨_, Heap.get?_push_size _ rfl, rfl, rfl⟩, (hl1.push _)⟩ ?hS0 (Nat.zero_le _) ?hR
        case hS0 =>
          have hget : ((s.heap.push { cls := .type "set", dict := none, data := .set #[] 0 (.fresh 0 0 led) }).push { cls := .type "list_iterator", data := .fields #[.ref l, .int 0 0] }).get? s.heap.objs.size
              = some { cls := .type "set", dict := none, data := .set #[] 0 (.fresh 0 0 led) } := Heap.get?_push_of_some _ hS

          exact ⟨_, #[], 0, _, hget, ⟨rfl, rfl, rfl⟩, rfl, (fun e he => by simp at he), (fun k => by simp [memK]), (by decide), (by rfl), rfl⟩
        case hR =>
          intro s' hm hS'
          obtain ⟨h', g', d', tk', os'⟩ := s'
          have eg : g' = s.gens := hm.gens
          have ed : d' = s.drawn := hm.drawn
          have eo : os' = s.os := hm.os
          subst eg; subst ed; subst eo
          refine wpAny_pure (s := _) ?_
          refine wpAny_pure (s := _) ⟨rfl, h', tk', rfl, hS', fun b o hb e => ?_⟩
          refine hm.heap b o ?_ (Heap.get?_push_of_some _ (Heap.get?_push_of_some _ e))
          rw [List.mem_cons, List.mem_singleton, Heap.size_push]
          exact fun z => z.elim (Nat.ne_of_lt hb) (Nat.ne_of_lt (Nat.lt_succ_of_lt hb))
      · cases r₂ with
        | error e => exact hr₂
        | ok fl₂ =>
          cases fl₂ with
          | ret r =>
            obtain ⟨rfl, h', tk, rfl, hS', hk'⟩ := hr₂
            repeat (any_goals (first | assumption | wp_step))
            exact h _ _ hS' hk'
          | _ => exact hr₂.elim
    | _ => exact hr.elim
end
/-! ### len(set(xs)) of a list of ints and texts -/
def tLenSetK (K : PySem.W.Frag) (ta : TE) : TE := fun σ H Q => ta σ H fun x H1 => ∃ (l : Addr) (ks : List Key), x = .ref l ∧ SqL K H1 l (ks.map kV) ∧ ks.length ≤ 4000 ∧ Q (.int ((uniqK ks).length : Nat)) H1
theorem uniqK_le (xs : List Key) : (uniqK xs).length ≤ xs.length := by
  have : ∀ (xs acc : List Key), (xs.foldl addK acc).length ≤ acc.length + xs.length := fun xs => by
    induction xs with
    | nil => exact fun acc => Nat.le_refl _
    | cons x xs ih =>
      intro acc
      rw [List.foldl_cons]
      have := ih (addK acc x)
      have h2 : (addK acc x).length ≤ acc.length + 1 := by
        unfold addK
        split
        · omega
        · rw [List.length_append]; exact Nat.le_refl _
      rw [List.length_cons]
      omega
  have := this xs []
  simpa [uniqK] using this
theorem pe_lenSetK {X : Cx} {a : Expr} {ta : TE} {p p2 q pos : Pos} (hg : Gl X "len") (hm : X.mg "len" = none) (hg2 : Gl X "set") (hm2 : X.mg "set" = none) (ha : PE X a ta) (hc : X.calm = true := by rfl)
    (na : starEach [a] X.env = (false, eval a X.env) :: starEach [] X.env := by rfl) : PE X (.Call (.Name "len" p) [.Call (.Name "set" p2) [a] [] q] [] pos) (tLenSetK X.K ta) := by
  refine ⟨fun pins s σ H Q I h => ?_⟩
  refine Call_ (ld_blt I hg hm boot_len ?_)
  refine PyProof.Rows.callWith_builtin1 (PyProof.Rows.args_cons ?_ rfl) rfl rfl
  refine Call_ (ld_blt I hg2 hm2 boot_set ?_)
  refine PyProof.Rows.callWith_type1 (PyProof.Rows.args_cons (thn (ha.run pins s σ H _ I h) fun v s1 ⟨x, H1, I1, r1, q1⟩ => PyProof.Rows.args_nil ?_) na) na rfl
  obtain ⟨l, ks, rfl, hq, hl, q1⟩ := q1
  cases r1
  obtain ⟨its, r, pl, hz⟩ := I1.list hq
  have le := uniqK_le ks
  refine call_kset (I1.ok.hd hc) pl.isList (by simpa using r) (by unfold scanBound; omega) fun h' tk hS hk => PyProof.Rows.args_nil ?_
  obtain ⟨o, es, ep, t, ho, hex, hd, _, _, _, hf, hn⟩ := hS
  have I2 : Inv X pins σ H1 { s1 with heap := h', toks := tk } := I1.kept fun b o e => hk b o (Heap.lt_size e) e
  exact call_len_set ho hex hd hf (by rw [hn] <;> omega) ⟨.int ((uniqK ks).length : Nat), H1, I2.tok _, ⟨_, by rw [hn]⟩, q1⟩
/-- the keys that data stand for -/
def eLenSet (f : EvF) : EvF := fun ρ => match f ρ with
  | some (.lst ds) => match ksOf ds with
    | some ks => if ks.length ≤ 4000 then some (.int ((uniqK ks).length : Nat)) else none
    | none => none
  | _ => none
theorem SE.lenSet {K : PySem.W.Frag} {f : EvF} {ta : TE} (s : SB K f ta) : SE K (eLenSet f) (tLenSetK K ta) := fun B ρ σ G H E d e Q q => by
  unfold eLenSet at e
  split at e
  · rename_i ds hds
    split at e
    · rename_i ks hks
      split at e
      · rename_i hl
        cases e
        refine s B ρ σ G H E _ hds _ fun v G1 H1 w r => ?_
        obtain ⟨l, vs, rfl, h, rs⟩ := r.lst w.gh
        have ev := ksOf_rep rs hks
        exact ⟨l, ks, rfl, by rw [← ev]; exact SqL.of h, hl, q _ G1 H1 w (.int _)⟩
      · cases e
    · cases e
  · cases e
end DL

/-! DLJ: texts: join, index, in; dict of a list of pairs; the least by a key; defs that call themselves. -/
namespace DL
open PySem PySem.Spec PyProof.Rows L2
open Evl (Ex)
section
variable {K : PySem.W.Frag} {f g : EvF} {ta tb : TE}
/-! ### texts -/
def strsOf : List D → Option (List Str)
  | [] => some []
  | .str s :: r => (strsOf r).map (s :: ·)
  | _ => none
theorem strsOf_some : ∀ {ds : List D} {ns : List Str}, strsOf ds = some ns → ds = ns.map D.str
  | [], ns, e => by cases e; rfl
  | .str s :: r, ns, e => by
    rw [strsOf] at e
    cases q : strsOf r with
    | none => rw [q] at e; cases e
    | some ms =>
      rw [q] at e
      cases e
      rw [strsOf_some q]
      rfl
theorem strsOf_map : ∀ ns : List Str, strsOf (ns.map D.str) = some ns
  | [] => rfl
  | n :: ns => by rw [List.map_cons, strsOf, strsOf_map ns]; rfl
/-- sep.join(xs) -/
def dJoin (x y : D) : Option D := match x, y with
  | .str a, .lst ds => match strsOf ds with
    | some ys => if (ys.map (·.length)).sum + ys.length * a.length ≤ 16777216 then some (.str (Txt.join a ys)) else none
    | none => none
  | _, _ => none
theorem SE.join (s : SB K f ta) (s2 : SB K g tb) : SE K (e2 dJoin f g) (tM1 (fun x xs H Q => ∃ a p, ∃ ys : List Str, x = .str a ∧ xs = [.ref p] ∧ (SqL K H p (ys.map V.str) ∨ SqT K H p (ys.map V.str)) ∧
      (ys.map (·.length)).sum + ys.length * a.length ≤ 16777216 ∧ Q (.str (Txt.join a ys)) H) ta tb) := fun B ρ σ G H E d e Q q => by
  obtain ⟨x, y, e1, e2, e3⟩ := e2_some e
  unfold dJoin at e3
  split at e3
  · rename_i a ds
    split at e3
    · rename_i ys hy
      split at e3
      · rename_i hl
        cases e3
        refine s B ρ σ G H E _ e1 _ fun v G1 H1 w1 r1 => ⟨⟨a, r1.str⟩, s2 B ρ σ G1 H1 (E.mono w1) _ e2 _ fun u G2 H2 w2 r2 => ?_⟩
        obtain ⟨l, vs, rfl, h, rs⟩ := r2.lst w2.gh
        rw [strsOf_some hy] at rs
        refine ⟨a, l, ys, r1.str, rfl, .inl ?_, hl, q _ G2 H2 (w1.trans w2) (.str _)⟩
        rw [← Reps.strs_iff rs]
        exact SqL.of h
      · cases e3
    · cases e3
  · cases e3
/-- s.index(t), t one that stands there -/
def dSIx (x y : D) : Option D := match x, y with
  | .str a, .str b => match Builtin.Str.occurrences a b 0 a.length 1 with
    | i :: _ => some (.int (i : Nat))
    | [] => none
  | _, _ => none
theorem SE.sindex (s : SB K f ta) (s2 : SB K g tb) : SE K (e2 dSIx f g) (tM1 (fun x xs H Q => ∃ a b i rest, x = .str a ∧ xs = [.str b] ∧ Builtin.Str.occurrences a b 0 a.length 1 = i :: rest ∧ Q (.int (i : Nat)) H) ta tb) := fun B ρ σ G H E d e Q q => by
  obtain ⟨x, y, e1, e2, e3⟩ := e2_some e
  unfold dSIx at e3
  split at e3
  · rename_i a b
    split at e3
    · rename_i i rest hi
      cases e3
      exact s B ρ σ G H E _ e1 _ fun v G1 H1 w1 r1 => ⟨⟨a, r1.str⟩, s2 B ρ σ G1 H1 (E.mono w1) _ e2 _ fun u G2 H2 w2 r2 => ⟨a, b, i, rest, r1.str, by rw [r2.str], hi, q _ G2 H2 (w1.trans w2) (.int _)⟩⟩
    · cases e3
  · cases e3
/-- one sign in a text -/
def dInS (x y : D) : Option D := match x, y with
  | .str a, .str z => match a.cps.toList with
    | [c] => some (.bl (decide (c ∈ z.cps.toList)))
    | _ => none
  | _, _ => none
def dNotInS (x y : D) : Option D := match x, y with
  | .str a, .str z => match a.cps.toList with
    | [c] => some (.bl (!decide (c ∈ z.cps.toList)))
    | _ => none
  | _, _ => none
theorem one_cp {a : Str} {c : Nat} (h : a.cps.toList = [c]) : a = ⟨#[c]⟩ := by
  obtain ⟨cps⟩ := a
  have : cps = #[c] := by
    apply Array.ext'
    exact h
  rw [this]
theorem od_inS : OpD K dInS (fun x y H Q => ∃ (c : Nat) (z : Str), x = .str ⟨#[c]⟩ ∧ y = .str z ∧ Q (.bl (decide (c ∈ z.cps.toList))) H) := fun G H v u x y z gh a b e Q q => by
  unfold dInS at e
  split at e
  · split at e
    · rename_i c hc
      cases e
      exact ⟨c, _, by rw [a.str, one_cp hc], b.str, q _ G H (Wle.refl gh) (.bl _)⟩
    · cases e
  · cases e
theorem od_notInS : OpD K dNotInS (fun x y H Q => ∃ (c : Nat) (z : Str), x = .str ⟨#[c]⟩ ∧ y = .str z ∧ Q (.bl (!decide (c ∈ z.cps.toList))) H) := fun G H v u x y z gh a b e Q q => by
  unfold dNotInS at e
  split at e
  · split at e
    · rename_i c hc
      cases e
      exact ⟨c, _, by rw [a.str, one_cp hc], b.str, q _ G H (Wle.refl gh) (.bl _)⟩
    · cases e
  · cases e
/-! ### dict(pairs) -/
def pairsK : List D → Option (List (Key × D))
  | [] => some []
  | .tup [k, v] :: r => match kOf k, pairsK r with
    | some k', some kvs => some ((k', v) :: kvs)
    | _, _ => none
  | _ => none
def mergeD (kvs more : List (Key × D)) : List (Key × D) := more.foldl (fun acc kv => putD acc kv.1 kv.2) kvs
theorem RepK.merge {G : Hp} : ∀ {vs : List (Key × V)} {ds : List (Key × D)} {ws : List (Key × V)} {es : List (Key × D)}, RepK K G vs ds → RepK K G ws es → RepK K G (mergeK ws vs) (mergeD es ds)
  | _, _, _, _, .nil, s => s
  | _, _, ws, es, .cons (k := k) (v := v) (d := d) (vs := vs) (ds := ds) h r, s => by
    have := RepK.merge (vs := vs) (ds := ds) r (s.put (k := k) h)
    exact this
theorem pairs_rep {G H : Hp} (gh : Ex G H) : ∀ {ds : List D} {vs : List V} {kvs : List (Key × D)}, pairsK ds = some kvs → Reps K G vs ds → ∃ (ps : List Addr) (ws : List (Key × V)), vs = ps.map V.ref ∧ Paired (fun p kv => SqT K H p [kV kv.1, kv.2]) ps ws ∧ RepK K G ws kvs
  | [], _, _, e, .nil => by cases e; exact ⟨[], [], rfl, .nil, .nil⟩
  | .tup [k, v] :: r, _, kvs, e, .cons h rs => by
    rw [pairsK] at e
    split at e
    · rename_i k' kvs' hk hr
      cases e
      obtain ⟨ps, ws, rfl, hp, hw⟩ := pairs_rep gh hr rs
      cases h with
      | tup ha rr =>
        rename_i a us
        cases rr with
        | cons r1 rr =>
          cases rr with
          | cons r2 rr =>
            cases rr
            rename_i w1 w2
            have e1 := kOf_rep r1 hk
            subst e1
            exact ⟨a :: ps, (k', w2) :: ws, rfl, .cons (SqT.of (gh _ _ ha)) hp, .cons r2 hw⟩
    · cases e
def eDictP (f : EvF) : EvF := fun ρ => match f ρ with
  | some (.lst ds) => match pairsK ds with
    | some kvs => some (.dK (mergeD [] kvs))
    | none => none
  | _ => none
theorem SF.dictP (s : SB K f ta) : SF K (eDictP f) (tCB (fun xs H Q => ∃ (a : Addr) (ps : List Addr) (kvs : List (Key × V)), xs = [.ref a] ∧ SqL K H a (ps.map V.ref) ∧ Paired (fun p kv => SqT K H p [kV kv.1, kv.2]) ps kvs ∧
    ∀ p, H p = none → Q (.ref p) (upd H p (.dK (mergeK [] kvs)))) (tCons ta tNil)) := fun B ρ σ G H E d e Q q => by
  unfold eDictP at e
  split at e
  · rename_i ds hds
    split at e
    · rename_i kvs hk
      cases e
      refine s B ρ σ G H E _ hds _ fun v G1 H1 w r => ?_
      obtain ⟨l, vs, rfl, h, rs⟩ := r.lst w.gh
      obtain ⟨ps, ws, rfl, hp, hw⟩ := pairs_rep w.gh hk rs
      refine ⟨l, ps, ws, rfl, SqL.of h, hp, fun p np => ?_⟩
      have g : G1 p = none := Evl.fresh_back w.gh np
      exact q p _ G1 _ (w.trans (Wle.newO w.gh np)) (Evl.fresh_back w.h np) g upd_same (.dK (RepK.merge hw .nil))
    · cases e
  · cases e
end
/-! ### the least by a key -/
def minB (g : D → Option D) (b : D) (kb : Int) : List D → Option D
  | [] => some b
  | d :: r => match g d with
    | some (.int n) => if n < kb then minB g d n r else minB g b kb r
    | _ => none
def minKF (g : D → Option D) : List D → Option D
  | [] => none
  | d :: r => match g d with
    | some (.int n) => minB g d n r
    | _ => none
def eMinK (F : List D → Option D) (f : Env → Option (List D)) : EvF := fun ρ => match f ρ with
  | some [.lst ds] => minKF (fun d => F [d]) ds
  | _ => none
def keyAt (g : D → Option D) (ds : List D) (i : Nat) : Int := match ds[i]? with
  | some d => match g d with
    | some (.int n) => n
    | _ => 0
  | none => 0
theorem best_uniq {kf : Nat → Int} {n i j : Nat} (hi : Best kf n i) (hj : Best kf n j) (li : i < n) (lj : j < n) : i = j := by
  rcases Nat.lt_trichotomy i j with h | h | h
  · have := (hj i li).2 h
    have := (hi j lj).1
    omega
  · exact h
  · have := (hi j lj).2 h
    have := (hj i li).1
    omega
theorem minB_spec {g : D → Option D} {all : List D} : ∀ (r : List D) (j i : Nat) (b : D) (kb : Int) (z : D), all.drop j = r → all[i]? = some b → i < j → g b = some (.int kb) → Best (keyAt g all) j i → (∀ m, m < j → ∀ d, all[m]? = some d → g d = some (.int (keyAt g all m))) → j ≤ all.length → minB g b kb r = some z →
    (∀ m d, all[m]? = some d → g d = some (.int (keyAt g all m))) ∧ ∃ i, all[i]? = some z ∧ Best (keyAt g all) all.length i
  | [], j, i, b, kb, z, hd, hb, hij, gb, best, known, hj, e => by
    have hl : all.length ≤ j := List.drop_eq_nil_iff.mp hd
    have : j = all.length := by omega
    subst this
    rw [minB] at e
    cases e
    exact ⟨fun m d hm => known m (List.getElem?_eq_some_iff.mp hm).1 d hm, i, hb, best⟩
  | d :: r, j, i, b, kb, z, hd, hb, hij, gb, best, known, hj, e => by
    have hdj : all[j]? = some d := by
      have := congrArg List.head? hd
      rw [List.head?_drop] at this
      exact this
    have hdr : all.drop (j + 1) = r := by
      have := congrArg List.tail hd
      rw [List.tail_drop] at this
      exact this
    have lt : j < all.length := (List.getElem?_eq_some_iff.mp hdj).1
    have ki : keyAt g all i = kb := by unfold keyAt; rw [hb]; simp only [gb]
    rw [minB] at e
    split at e
    · rename_i n hn
      have kj : keyAt g all j = n := by unfold keyAt; rw [hdj]; simp only [hn]
      have known' : ∀ m, m < j + 1 → ∀ d, all[m]? = some d → g d = some (.int (keyAt g all m)) := fun m hm d' hd' => by
        by_cases q : m = j
        · subst q
          rw [hdj] at hd'
          cases hd'
          rw [kj]; exact hn
        · exact known m (by omega) d' hd'
      split at e
      · rename_i hlt
        refine minB_spec r (j + 1) j d n z hdr hdj (by omega) hn (fun m hm => ?_) known' lt e
        by_cases q : m = j
        · subst q; exact ⟨by omega, fun z => absurd z (by omega)⟩
        · have := (best m (by omega)).1
          exact ⟨by omega, fun _ => by omega⟩
      · rename_i hlt
        refine minB_spec r (j + 1) i b kb z hdr hb (by omega) gb (fun m hm => ?_) known' lt e
        by_cases q : m = j
        · subst q; exact ⟨by omega, fun z => absurd z (by omega)⟩
        · exact best m (by omega)
    · cases e
theorem minKF_spec {g : D → Option D} {all : List D} {z : D} (e : minKF g all = some z) : 0 < all.length ∧ (∀ m d, all[m]? = some d → g d = some (.int (keyAt g all m))) ∧ ∃ i, all[i]? = some z ∧ Best (keyAt g all) all.length i := by
  cases all with
  | nil => cases e
  | cons d r =>
    refine ⟨by simp, ?_⟩
    rw [minKF] at e
    split at e
    · rename_i n hn
      have k0 : keyAt g (d :: r) 0 = n := by unfold keyAt; simp only [List.getElem?_cons_zero, hn]
      refine minB_spec (all := d :: r) r 1 0 d n z rfl rfl (by omega) hn (fun m hm => ?_) (fun m hm d' hd' => ?_) (by simp) e
      · have : m = 0 := by omega
        subst this
        exact ⟨by omega, fun z => absurd z (by omega)⟩
      · have : m = 0 := by omega
        subst this
        cases hd'
        rw [k0]; exact hn
    · cases e
theorem SE.minK {K : PySem.W.Frag} {F : List D → Option D} {fs : Env → Option (List D)} {bs : List Bool} {tas : TA} (s : SA K bs fs tas) (hb : bs = [true] ∨ bs = [false]) : SE K (eMinK F fs) (tMinK K (spD K [false] F) tas) := fun B ρ σ G H E d e Q q => by
  unfold eMinK at e
  split at e
  · rename_i ds hds
    obtain ⟨pos, hk, i0, hi0, best0⟩ := minKF_spec e
    refine s B ρ σ G H E _ hds _ fun vs G1 H1 w r => ?_
    obtain ⟨v, rfl, rb⟩ : ∃ v, vs = [v] ∧ BRep K G1 H1 v (.lst ds) := by
      rcases hb with rfl | rfl
      · cases r with
        | cons a rr =>
          cases rr
          exact ⟨_, rfl, a⟩
      · cases r with
        | cons a rr =>
          cases rr
          exact ⟨_, rfl, .inl a⟩
    obtain ⟨l, us, rfl, h, rs⟩ := rb.lst w.gh
    refine ⟨l, us, keyAt (fun d => F [d]) ds, fun H' => ∃ G', Wle G1 H1 G' H', rfl, ⟨G1, Wle.refl w.gh⟩, fun H' ⟨G', w'⟩ => SqL.of (w'.h _ _ h), by rw [rs.length]; exact pos, fun i x H' hx ⟨G', w'⟩ => ?_, fun i x H' hx ⟨G', w'⟩ hbest => ?_⟩
    · obtain ⟨dx, hdx, rx⟩ := rs.getV hx
      exact ⟨G', [dx], _, w'.gh, .cons (rx.mono w'.g) .nil, hk i dx hdx, fun v' G2 H2 w2 r2 => ⟨r2.isInt, G2, w'.trans w2⟩⟩
    · obtain ⟨dx, hdx, rx⟩ := rs.getV hx
      have li : i < ds.length := (List.getElem?_eq_some_iff.mp hdx).1
      rw [rs.length] at hbest
      have : i = i0 := best_uniq hbest best0 li (List.getElem?_eq_some_iff.mp hi0).1
      subst this
      rw [hi0] at hdx
      cases hdx
      exact q x G' H' (w.trans w') (rx.mono w'.g)
  · cases e
/-! ### a def that calls itself -/
section
variable {P : Program} {w : World} {K : PySem.W.Frag} {mg : Str → Option Value} {base : Heap} {x : Str} {st : Stmt} {N ps : List Str} {k : Nat}
theorem Cal.none {bs : List Bool} {Fm : List D → Option D} (h : DefAt K mg x st)
    (hbind : ∀ (kV doc pm : Value) (an : Option Addr) (cdv ct : Value) (us : List Value), us.length = ps.length → bindArgs (PySem.W.fnOf x x (defArgs st) (defBody st) (defScope st) .none kV doc pm an cdv ct) ⟨us, []⟩ = pure (ps.zip us))
    (h0 : ∀ ds, Fm ds = Option.none) : Cal P w K mg base x k ps (spD K bs Fm) := by
  obtain ⟨f, fd, F, m⟩ := h
  have no : ∀ {vs H Q E}, ¬ spD K bs Fm vs H Q E := fun ⟨G, ds, r, _, _, e, _⟩ => by rw [h0] at e; cases e
  exact ⟨f, fd, ⟨fun vs H Q E q => (no q).elim, fun A outer s H args us vs Q E _ _ _ _ q => (no q).elim⟩, m, F.kp, F.binds hbind⟩
end
end DL

/-! L66: scripts of rows, the least of them (plain law of k66). -/
namespace P66
variable {α β : Type}
inductive Ln (α : Type) where
  | row (a : α)
  | rep (n : Nat) (ls : List (Ln α))
abbrev Sc (α : Type) := List (Ln α)
mutual
def lenL : Ln α → Nat
  | .row _ => 1
  | .rep _ ls => 1 + lenS ls
def lenS : Sc α → Nat
  | [] => 0
  | l :: r => lenL l + lenS r
end
mutual
def wrL : Ln α → List α
  | .row a => [a]
  | .rep n ls => (List.replicate n (wrS ls)).flatten
def wrS : Sc α → List α
  | [] => []
  | l :: r => wrL l ++ wrS r
end
mutual
def okL : Nat → Ln α → Prop
  | _, .row _ => True
  | 0, .rep _ _ => False
  | d + 1, .rep n ls => 2 ≤ n ∧ ls ≠ [] ∧ okS d ls
def okS : Nat → Sc α → Prop
  | _, [] => True
  | d, l :: r => okL d l ∧ okS d r
end
theorem lenS_app : ∀ (a b : Sc α), lenS (a ++ b) = lenS a + lenS b
  | [], b => by simp [lenS]
  | l :: r, b => by rw [List.cons_append, lenS, lenS, lenS_app r b, Nat.add_assoc]
theorem wrS_app : ∀ (a b : Sc α), wrS (a ++ b) = wrS a ++ wrS b
  | [], b => by simp [wrS]
  | l :: r, b => by rw [List.cons_append, wrS, wrS, wrS_app r b, List.append_assoc]
theorem okS_app {d : Nat} : ∀ {a b : Sc α}, okS d a → okS d b → okS d (a ++ b)
  | [], b, _, h => h
  | l :: r, b, h1, h2 => by
    rw [okS] at h1
    rw [List.cons_append, okS]
    exact ⟨h1.1, okS_app h1.2 h2⟩
theorem okS_mem {d : Nat} : ∀ {s : Sc α}, okS d s → ∀ l ∈ s, okL d l
  | l :: r, h, x, hx => by
    rw [okS] at h
    rcases List.mem_cons.mp hx with rfl | q
    · exact h.1
    · exact okS_mem h.2 x q
theorem okS_of {d : Nat} : ∀ {s : Sc α}, (∀ l ∈ s, okL d l) → okS d s
  | [], _ => by rw [okS]; trivial
  | l :: r, h => by
    rw [okS]
    exact ⟨h l (List.mem_cons_self ..), okS_of fun x hx => h x (List.mem_cons_of_mem _ hx)⟩
mutual
theorem okL_mono {d e : Nat} (h : d ≤ e) : ∀ {l : Ln α}, okL d l → okL e l
  | .row _, _ => by rw [okL]; trivial
  | .rep n ls, q => by
    cases d with
    | zero => rw [okL] at q; exact q.elim
    | succ d =>
      cases e with
      | zero => omega
      | succ e =>
        rw [okL] at q ⊢
        exact ⟨q.1, q.2.1, okS_mono (Nat.le_of_succ_le_succ h) q.2.2⟩
theorem okS_mono {d e : Nat} (h : d ≤ e) : ∀ {s : Sc α}, okS d s → okS e s
  | [], _ => by rw [okS]; trivial
  | l :: r, q => by
    rw [okS] at q ⊢
    exact ⟨okL_mono h q.1, okS_mono h q.2⟩
end
section
variable [DecidableEq α]
def isRep (rows : List α) (cut : Nat) : Bool := decide (rows.length % cut = 0) && decide (rows = (List.replicate (rows.length / cut) (rows.take cut)).flatten)
def candAt (f : List α → Sc α) (rows : List α) (cut : Nat) : List (Sc α) :=
  (f (rows.take cut) ++ f (rows.drop cut)) :: if isRep rows cut = true then [[.rep (rows.length / cut) (f (rows.take cut))]] else []
def cands (f : List α → Sc α) (rows : List α) : List (Sc α) := (List.range' 1 (rows.length - 1)).flatMap (candAt f rows)
def lesser (a b : Sc α) : Sc α := if lenS b < lenS a then b else a
def argmin : List (Sc α) → Sc α
  | [] => []
  | x :: r => r.foldl lesser x
def bestF (f : List α → Sc α) (rows : List α) : Sc α := match rows with
  | [] => []
  | [a] => [.row a]
  | a :: b :: r => argmin (cands f (a :: b :: r))
def leastF : Nat → List α → Sc α
  | 0, _ => []
  | n + 1, rows => bestF (leastF n) rows
def least (rows : List α) : Sc α := leastF rows.length rows
theorem foldl_spec : ∀ (r : List (Sc α)) (x : Sc α), r.foldl lesser x ∈ x :: r ∧ ∀ y ∈ x :: r, lenS (r.foldl lesser x) ≤ lenS y
  | [], x => ⟨List.mem_singleton.mpr rfl, fun y hy => by rw [List.mem_singleton] at hy; subst hy; exact Nat.le_refl _⟩
  | z :: r, x => by
    obtain ⟨h1, h2⟩ := foldl_spec r (lesser x z)
    rw [List.foldl_cons]
    have e : lesser x z = x ∨ lesser x z = z := by unfold lesser; split <;> simp
    have l1 : lenS (lesser x z) ≤ lenS x := by unfold lesser; split <;> omega
    have l2 : lenS (lesser x z) ≤ lenS z := by unfold lesser; split <;> omega
    refine ⟨?_, fun y hy => ?_⟩
    · rcases List.mem_cons.mp h1 with q | q
      · rw [q]
        rcases e with e | e <;> rw [e] <;> simp
      · exact List.mem_cons_of_mem _ (List.mem_cons_of_mem _ q)
    · have h0 := h2 (lesser x z) (List.mem_cons_self ..)
      rcases List.mem_cons.mp hy with rfl | q
      · exact Nat.le_trans h0 l1
      · rcases List.mem_cons.mp q with rfl | q
        · exact Nat.le_trans h0 l2
        · exact h2 y (List.mem_cons_of_mem _ q)
theorem argmin_mem {xs : List (Sc α)} (h : xs ≠ []) : argmin xs ∈ xs := by
  cases xs with
  | nil => exact absurd rfl h
  | cons x r => exact (foldl_spec r x).1
theorem argmin_le {xs : List (Sc α)} {y : Sc α} (h : y ∈ xs) : lenS (argmin xs) ≤ lenS y := by
  cases xs with
  | nil => cases h
  | cons x r => exact (foldl_spec r x).2 y h
theorem mem_cands {f : List α → Sc α} {rows : List α} {y : Sc α} : y ∈ cands f rows ↔ ∃ cut, 1 ≤ cut ∧ cut < rows.length ∧ y ∈ candAt f rows cut := by
  unfold cands
  rw [List.mem_flatMap]
  constructor
  · rintro ⟨c, hc, hy⟩
    rw [List.mem_range'_1] at hc
    exact ⟨c, by omega, by omega, hy⟩
  · rintro ⟨c, h1, h2, hy⟩
    exact ⟨c, by rw [List.mem_range'_1]; omega, hy⟩
theorem bestF_congr {f g : List α → Sc α} {rows : List α} (h : ∀ p : List α, p.length < rows.length → f p = g p) : bestF f rows = bestF g rows := by
  unfold bestF
  split
  · rfl
  · rfl
  · rename_i a b r
    congr 1
    unfold cands
    have : ∀ cut ∈ List.range' 1 ((a :: b :: r).length - 1), candAt f (a :: b :: r) cut = candAt g (a :: b :: r) cut := fun cut hc => by
      rw [List.mem_range'_1] at hc
      have e1 := h ((a :: b :: r).take cut) (by rw [List.length_take]; omega)
      have e2 := h ((a :: b :: r).drop cut) (by rw [List.length_drop]; omega)
      unfold candAt
      rw [e1, e2]
    rw [List.flatMap_def, List.flatMap_def, List.map_congr_left this]
theorem leastF_eq : ∀ (n m : Nat) (rows : List α), rows.length ≤ n → rows.length ≤ m → leastF n rows = leastF m rows
  | 0, m, rows, h1, h2 => by
    have : rows = [] := List.length_eq_zero_iff.mp (by omega)
    subst this
    cases m <;> rfl
  | n + 1, 0, rows, h1, h2 => by
    have : rows = [] := List.length_eq_zero_iff.mp (by omega)
    subst this
    rfl
  | n + 1, m + 1, rows, h1, h2 => by
    rw [leastF, leastF]
    exact bestF_congr fun p hp => leastF_eq n m p (by omega) (by omega)
/-- the recursion of the least script -/
theorem least_eq (rows : List α) : least rows = bestF least rows := by
  cases h : rows with
  | nil => rfl
  | cons a r =>
    rw [← h]
    unfold least
    rw [show rows.length = r.length + 1 by rw [h]; rfl, leastF]
    exact bestF_congr fun p hp => leastF_eq _ _ p (by rw [h] at hp; simp at hp; omega) (Nat.le_refl _)
theorem least_one (a : α) : least [a] = [.row a] := rfl
theorem least_two {rows : List α} (h : 2 ≤ rows.length) : least rows = argmin (cands least rows) := by
  rw [least_eq]
  match rows, h with
  | a :: b :: r, _ => rfl
theorem cands_ne {f : List α → Sc α} {rows : List α} (h : 2 ≤ rows.length) : cands f rows ≠ [] := fun e => by
  have : f (rows.take 1) ++ f (rows.drop 1) ∈ cands f rows := mem_cands.mpr ⟨1, Nat.le_refl _, by omega, List.mem_cons_self ..⟩
  rw [e] at this
  cases this
/-- induction along the least scripts -/
theorem least_ind {P : List α → Sc α → Prop} (one : ∀ a, P [a] [.row a]) (app : ∀ x y : List α, x ≠ [] → y ≠ [] → P x (least x) → P y (least y) → P (x ++ y) (least x ++ least y))
    (rep : ∀ (x : List α) (n : Nat), x ≠ [] → 2 ≤ n → P x (least x) → P (List.replicate n x).flatten [.rep n (least x)]) : ∀ (n : Nat) (rows : List α), rows.length ≤ n → rows ≠ [] → P rows (least rows)
  | 0, rows, h, ne => absurd (List.length_eq_zero_iff.mp (by omega)) ne
  | n + 1, rows, h, ne => by
    have pos : 0 < rows.length := List.length_pos_iff.mpr ne
    by_cases h1 : rows.length = 1
    · obtain ⟨a, rfl⟩ := List.length_eq_one_iff.mp h1
      exact one a
    · have h2 : 2 ≤ rows.length := by omega
      rw [least_two h2]
      obtain ⟨cut, c1, c2, hy⟩ := mem_cands.mp (argmin_mem (cands_ne (f := least) h2))
      have lt : (rows.take cut).length = cut := by rw [List.length_take]; omega
      have ld : (rows.drop cut).length = rows.length - cut := List.length_drop
      have n1 : rows.take cut ≠ [] := fun e => by rw [e] at lt; simp at lt; omega
      have n2 : rows.drop cut ≠ [] := fun e => by rw [e] at ld; simp at ld; omega
      have p1 := least_ind one app rep n (rows.take cut) (by omega) n1
      have p2 := least_ind one app rep n (rows.drop cut) (by omega) n2
      unfold candAt at hy
      rcases List.mem_cons.mp hy with q | q
      · rw [q]
        have := app _ _ n1 n2 p1 p2
        rwa [List.take_append_drop] at this
      · split at q
        · rename_i hr
          rw [List.mem_singleton] at q
          rw [q]
          unfold isRep at hr
          rw [Bool.and_eq_true, decide_eq_true_eq, decide_eq_true_eq] at hr
          have hd : rows.length / cut * cut = rows.length := Nat.div_mul_cancel (Nat.dvd_of_mod_eq_zero hr.1)
          have two : 2 ≤ rows.length / cut := by
            rcases Nat.lt_or_ge (rows.length / cut) 2 with z | z
            · rcases Nat.lt_or_ge (rows.length / cut) 1 with y | y
              · have : rows.length / cut = 0 := Nat.eq_zero_of_le_zero (Nat.le_of_lt_succ y)
                rw [this] at hd; omega
              · have : rows.length / cut = 1 := Nat.le_antisymm (Nat.le_of_lt_succ z) y
                rw [this] at hd; omega
            · exact z
          have := rep _ _ n1 two p1
          rwa [← hr.2] at this
        · cases q
theorem least_wr {rows : List α} (h : rows ≠ []) : wrS (least rows) = rows :=
  least_ind (P := fun rows s => wrS s = rows) (fun a => by simp [wrS, wrL]) (fun x y _ _ h1 h2 => by rw [wrS_app, h1, h2]) (fun x n _ _ h => by simp [wrS, wrL, h]) rows.length rows (Nat.le_refl _) h
theorem least_ne {rows : List α} (h : rows ≠ []) : least rows ≠ [] := fun e => by
  have := least_wr h
  rw [e] at this
  exact h (by rw [← this]; rfl)
theorem two_pow_mono {a b : Nat} (h : a ≤ b) : 2 ^ a ≤ 2 ^ b := Nat.pow_le_pow_right (by omega) h
theorem least_ok {rows : List α} (h : rows ≠ []) : ∃ d, 2 ^ d ≤ rows.length ∧ okS d (least rows) :=
  least_ind (P := fun rows s => ∃ d, 2 ^ d ≤ rows.length ∧ okS d s) (fun a => ⟨0, by simp, by simp [okS, okL]⟩) (fun x y _ _ ⟨d, h1, h2⟩ ⟨e, h3, h4⟩ => by
    refine ⟨max d e, ?_, okS_app (okS_mono (Nat.le_max_left ..) h2) (okS_mono (Nat.le_max_right ..) h4)⟩
    rw [List.length_append]
    rcases Nat.le_total d e with q | q
    · rw [Nat.max_eq_right q]; omega
    · rw [Nat.max_eq_left q]; omega) (fun x n ne hn ⟨d, h1, h2⟩ => by
    refine ⟨d + 1, ?_, ?_⟩
    · rw [List.length_flatten, List.map_replicate, List.sum_replicate_nat, Nat.pow_succ]
      have : x.length * 2 ≤ n * x.length := by rw [Nat.mul_comm]; exact Nat.mul_le_mul_right _ hn
      omega
    · simp only [okS, okL, and_true]
      exact ⟨hn, least_ne ne, h2⟩) rows.length rows (Nat.le_refl _) h
/-! ### none is shorter -/
def L (rows : List α) : Nat := lenS (least rows)
theorem L_one (a : α) : L [a] = 1 := rfl
theorem L_app {x y : List α} (hx : x ≠ []) (hy : y ≠ []) : L (x ++ y) ≤ L x + L y := by
  have px : 0 < x.length := List.length_pos_iff.mpr hx
  have py : 0 < y.length := List.length_pos_iff.mpr hy
  unfold L
  rw [least_two (rows := x ++ y) (by rw [List.length_append]; omega), ← lenS_app]
  refine argmin_le (mem_cands.mpr ⟨x.length, px, by rw [List.length_append]; omega, ?_⟩)
  unfold candAt
  rw [List.take_left' rfl, List.drop_left' rfl]
  exact List.mem_cons_self ..
theorem rep_len (n : Nat) (x : List α) : ((List.replicate n x).flatten).length = n * x.length := by
  rw [List.length_flatten, List.map_replicate, List.sum_replicate_nat]
theorem L_rep {x : List α} {n : Nat} (hx : x ≠ []) (hn : 2 ≤ n) : L (List.replicate n x).flatten ≤ 1 + L x := by
  have px : 0 < x.length := List.length_pos_iff.mpr hx
  have ll := rep_len n x
  have lt : x.length < n * x.length := by
    have : 2 * x.length ≤ n * x.length := Nat.mul_le_mul_right _ hn
    omega
  have tk : ((List.replicate n x).flatten).take x.length = x := by
    obtain ⟨m, rfl⟩ : ∃ m, n = m + 1 := ⟨n - 1, by omega⟩
    rw [List.replicate_succ, List.flatten_cons, List.take_left' rfl]
  unfold L
  rw [least_two (by omega)]
  refine Nat.le_trans (argmin_le (y := [.rep n (least x)]) (mem_cands.mpr ⟨x.length, px, by omega, ?_⟩)) (by simp [lenS, lenL])
  unfold candAt
  rw [tk, ll, Nat.mul_div_cancel _ px]
  refine List.mem_cons_of_mem _ ?_
  rw [if_pos]
  · exact List.mem_singleton.mpr rfl
  · unfold isRep
    rw [tk, ll, Nat.mul_div_cancel _ px, Nat.mul_mod_left]
    simp
mutual
theorem wrL_ne {d : Nat} : ∀ {l : Ln α}, okL d l → wrL l ≠ []
  | .row a, _ => by simp [wrL]
  | .rep n ls, h => by
    cases d with
    | zero => rw [okL] at h; exact h.elim
    | succ d =>
      rw [okL] at h
      have := wrS_ne h.2.2 h.2.1
      obtain ⟨m, rfl⟩ : ∃ m, n = m + 1 := ⟨n - 1, by omega⟩
      rw [wrL, List.replicate_succ, List.flatten_cons]
      exact fun e => this (List.append_eq_nil_iff.mp e).1
theorem wrS_ne {d : Nat} : ∀ {s : Sc α}, okS d s → s ≠ [] → wrS s ≠ []
  | [], _, h => absurd rfl h
  | l :: r, h, _ => by
    rw [okS] at h
    rw [wrS]
    exact fun e => wrL_ne h.1 (List.append_eq_nil_iff.mp e).1
end
mutual
theorem L_line {d : Nat} : ∀ {l : Ln α}, okL d l → L (wrL l) ≤ lenL l
  | .row a, _ => by rw [wrL, lenL]; exact Nat.le_refl _
  | .rep n ls, h => by
    cases d with
    | zero => rw [okL] at h; exact h.elim
    | succ d =>
      rw [okL] at h
      rw [wrL, lenL]
      exact Nat.le_trans (L_rep (wrS_ne h.2.2 h.2.1) h.1) (by have := L_script h.2.2 h.2.1; omega)
theorem L_script {d : Nat} : ∀ {s : Sc α}, okS d s → s ≠ [] → L (wrS s) ≤ lenS s
  | [], _, h => absurd rfl h
  | [l], h, _ => by
    rw [okS] at h
    rw [wrS, wrS, List.append_nil, lenS, lenS]
    exact L_line h.1
  | l :: m :: r, h, _ => by
    rw [okS] at h
    rw [wrS, lenS]
    refine Nat.le_trans (L_app (wrL_ne h.1) (wrS_ne h.2 (by simp))) ?_
    have a := L_line h.1
    have b := L_script h.2 (by simp)
    omega
end
/-! ### rows put to other rows -/
section
variable [DecidableEq β]
mutual
def mapL (g : α → β) : Ln α → Ln β
  | .row a => .row (g a)
  | .rep n ls => .rep n (mapS g ls)
def mapS (g : α → β) : Sc α → Sc β
  | [] => []
  | l :: r => mapL g l :: mapS g r
end
mutual
theorem mapL_facts (g : α → β) {d : Nat} : ∀ {l : Ln α}, okL d l → okL d (mapL g l) ∧ lenL (mapL g l) = lenL l ∧ wrL (mapL g l) = (wrL l).map g
  | .row a, _ => by simp [mapL, okL, lenL, wrL]
  | .rep n ls, h => by
    cases d with
    | zero => rw [okL] at h; exact h.elim
    | succ d =>
      rw [okL] at h
      obtain ⟨a, b, c, e⟩ := mapS_facts g h.2.2
      rw [mapL, okL, lenL, lenL, wrL, wrL, b, c, List.map_flatten, List.map_replicate]
      exact ⟨⟨h.1, fun z => h.2.1 (e z), a⟩, rfl, rfl⟩
theorem mapS_facts (g : α → β) {d : Nat} : ∀ {s : Sc α}, okS d s → okS d (mapS g s) ∧ lenS (mapS g s) = lenS s ∧ wrS (mapS g s) = (wrS s).map g ∧ (mapS g s = [] → s = [])
  | [], _ => by simp [mapS, okS, lenS, wrS]
  | l :: r, h => by
    rw [okS] at h
    obtain ⟨a, b, c⟩ := mapL_facts g h.1
    obtain ⟨a2, b2, c2, e⟩ := mapS_facts g h.2
    rw [mapS, okS, lenS, lenS, wrS, wrS, b, b2, c, c2, List.map_append]
    exact ⟨⟨a, a2⟩, rfl, rfl, fun z => by cases z⟩
end
theorem L_map_le (g : α → β) {rows : List α} (h : rows ≠ []) : L (rows.map g) ≤ L rows := by
  obtain ⟨d, _, ok⟩ := least_ok h
  obtain ⟨a, b, c, e⟩ := mapS_facts g ok
  rw [least_wr h] at c
  have := L_script a fun z => least_ne h (e z)
  rw [c, b] at this
  exact this
end
theorem L_map [DecidableEq β] (g : α → β) (k : β → α) {rows : List α} (h : rows ≠ []) (inv : ∀ a ∈ rows, k (g a) = a) : L (rows.map g) = L rows := by
  refine Nat.le_antisymm (L_map_le g h) ?_
  have := L_map_le k (rows := rows.map g) (by simpa using h)
  rw [List.map_map, show rows.map (k ∘ g) = rows from (List.map_congr_left inv).trans (List.map_id _)] at this
  exact this
/-! ### distinct rows -/
mutual
def rwL : Ln α → List α
  | .row a => [a]
  | .rep _ ls => rwS ls
def rwS : Sc α → List α
  | [] => []
  | l :: r => rwL l ++ rwS r
end
mutual
theorem rwL_facts : ∀ l : Ln α, (rwL l).length ≤ lenL l ∧ ∀ a ∈ wrL l, a ∈ rwL l
  | .row a => by simp [rwL, lenL, wrL]
  | .rep n ls => by
    obtain ⟨h1, h2⟩ := rwS_facts ls
    rw [rwL, lenL, wrL]
    refine ⟨by omega, fun a ha => ?_⟩
    obtain ⟨x, hx, hy⟩ := List.mem_flatten.mp ha
    rw [List.mem_replicate] at hx
    exact h2 a (hx.2 ▸ hy)
theorem rwS_facts : ∀ s : Sc α, (rwS s).length ≤ lenS s ∧ ∀ a ∈ wrS s, a ∈ rwS s
  | [] => by simp [rwS, lenS, wrS]
  | l :: r => by
    obtain ⟨h1, h2⟩ := rwL_facts l
    obtain ⟨h3, h4⟩ := rwS_facts r
    rw [rwS, lenS, wrS, List.length_append]
    refine ⟨by omega, fun a ha => ?_⟩
    rcases List.mem_append.mp ha with q | q
    · exact List.mem_append_left _ (h2 a q)
    · exact List.mem_append_right _ (h4 a q)
end
theorem nodup_sub : ∀ {a b : List α}, a.Nodup → (∀ x ∈ a, x ∈ b) → a.length ≤ b.length
  | [], b, _, _ => Nat.zero_le _
  | x :: r, b, nd, sub => by
    have hx := sub x (List.mem_cons_self ..)
    rw [List.nodup_cons] at nd
    have := nodup_sub (b := b.erase x) nd.2 fun y hy => (List.mem_erase_of_ne (fun e => nd.1 (by rw [← e]; exact hy))).mpr (sub y (List.mem_cons_of_mem _ hy))
    rw [List.length_erase_of_mem hx] at this
    have pos : 0 < b.length := List.length_pos_of_mem hx
    rw [List.length_cons]
    omega
theorem L_le : ∀ {rows : List α}, rows ≠ [] → L rows ≤ rows.length
  | [], h => absurd rfl h
  | [a], _ => Nat.le_refl _
  | a :: b :: r, _ => by
    have h := L_app (x := [a]) (y := b :: r) (by simp) (by simp)
    have h2 := L_le (rows := b :: r) (by simp)
    rw [L_one] at h
    simp only [List.singleton_append, List.length_cons] at h h2 ⊢
    omega
theorem L_nodup {rows : List α} (h : rows ≠ []) (nd : rows.Nodup) : L rows = rows.length := by
  refine Nat.le_antisymm (L_le h) ?_
  obtain ⟨h1, h2⟩ := rwS_facts (least rows)
  rw [least_wr h] at h2
  exact Nat.le_trans (nodup_sub nd h2) h1
theorem L_same {rows : List α} {a : α} (h : rows ≠ []) (all : ∀ x ∈ rows, x = a) : L rows ≤ 2 := by
  have e : rows = (List.replicate rows.length [a]).flatten := by
    rw [show (List.replicate rows.length [a]).flatten = List.replicate rows.length a by induction rows.length <;> simp_all [List.replicate_succ]]
    exact List.eq_replicate_iff.mpr ⟨rfl, all⟩
  have pos : 0 < rows.length := List.length_pos_iff.mpr h
  by_cases h1 : rows.length = 1
  · obtain ⟨b, rfl⟩ := List.length_eq_one_iff.mp h1
    rw [L_one]; omega
  · rw [e]
    refine Nat.le_trans (L_rep (by simp) (by omega)) ?_
    rw [L_one]
    omega
/-- one line struck -/
theorem L_strike {rows : List α} {k : Nat} (h : rows ≠ []) (hk : k < (least rows).length) (h2 : 1 < (least rows).length) :
    wrS ((least rows).eraseIdx k) ≠ [] ∧ L (wrS ((least rows).eraseIdx k)) + lenL ((least rows)[k]) ≤ L rows := by
  obtain ⟨d, _, ok⟩ := least_ok h
  have ok2 : okS d ((least rows).eraseIdx k) := okS_of fun l hl => okS_mem ok l (List.mem_of_mem_eraseIdx hl)
  have ne : (least rows).eraseIdx k ≠ [] := fun e => by
    have := congrArg List.length e
    rw [List.length_eraseIdx_of_lt hk, List.length_nil] at this
    omega
  refine ⟨wrS_ne ok2 ne, ?_⟩
  have a := L_script ok2 ne
  have b : lenS ((least rows).eraseIdx k) + lenL ((least rows)[k]) = lenS (least rows) := by
    rw [List.eraseIdx_eq_take_drop_succ, lenS_app]
    have := congrArg lenS (List.take_append_drop k (least rows))
    rw [lenS_app, List.drop_eq_getElem_cons hk, lenS] at this
    omega
  show _ ≤ lenS (least rows)
  omega
end
end P66

namespace P66
open PySem L2 DL
open DL.Enc (enc)
def absI (n : Int) : Int := if n < 0 then -n else n
/-- the rows that are met -/
inductive Rw | a | b | c | d | e | f | g | h
  deriving DecidableEq
instance : Inhabited Rw := ⟨.a⟩
def Rw.str : Rw → Str
  | .a => "0110" | .b => "1" | .c => "01" | .d => "0" | .e => "1001" | .f => "10" | .g => "00" | .h => "111"
instance : Enc Rw := ⟨fun r => .str r.str, fun x y h => by
  injection h with h
  cases x <;> cases y <;> first | rfl | exact absurd h (by decide +kernel)⟩
instance : Nice Rw := ⟨0, fun a m _ => by
  have e : D.ok m (enc a) = PyData.strOk a.str := by cases m <;> rfl
  rw [e]
  cases a <;> decide +kernel, fun x y => by
  constructor
  · intro h
    cases x <;> cases y <;> first | rfl | exact absurd h (by decide +kernel)
  · rintro rfl
    cases x <;> decide +kernel⟩
abbrev Rows := List Rw
abbrev S := Sc Rw
instance : Inhabited (Ln Rw) := ⟨.row .a⟩
mutual
def encL : Ln Rw → D
  | .row a => .tup [.str "row", enc a]
  | .rep n ls => .tup [.str "repeat", .int n, .lst (encS ls)]
def encS : S → List D
  | [] => []
  | l :: r => encL l :: encS r
end
mutual
theorem encL_inj : ∀ a b : Ln Rw, encL a = encL b → a = b
  | .row a, .row b, h => by
    rw [encL, encL] at h
    injection h with h
    injection h with _ h
    injection h with h _
    rw [Enc.inj a b h]
  | .row a, .rep n ls, h => by
    rw [encL, encL] at h
    injection h with h
    injection h with _ h
    injection h with _ h
    cases h
  | .rep n ls, .row a, h => by
    rw [encL, encL] at h
    injection h with h
    injection h with _ h
    injection h with _ h
    cases h
  | .rep n ls, .rep m ms, h => by
    rw [encL, encL] at h
    injection h with h
    injection h with _ h
    injection h with h1 h
    injection h with h2 _
    injection h1 with h1
    injection h2 with h2
    rw [encS_inj ls ms h2, Int.ofNat.inj h1]
theorem encS_inj : ∀ a b : S, encS a = encS b → a = b
  | [], [], _ => rfl
  | [], l :: r, h => by rw [encS, encS] at h; cases h
  | l :: r, [], h => by rw [encS, encS] at h; cases h
  | l :: r, m :: q, h => by
    rw [encS, encS] at h
    injection h with h1 h2
    rw [encL_inj l m h1, encS_inj r q h2]
end
instance : Enc (Ln Rw) := ⟨encL, encL_inj⟩
theorem encS_map : ∀ s : S, encS s = s.map enc
  | [] => rfl
  | l :: r => by rw [encS, encS_map r]; rfl
theorem enc_rep (n : Nat) (ls : S) : (enc (Ln.rep n ls) : D) = .tup [.str "repeat", .int n, enc ls] := by
  show encL _ = _
  rw [encL, encS_map]
  rfl
theorem enc_row (a : Rw) : (enc (Ln.row a) : D) = .tup [.str "row", enc a] := by
  show encL _ = _
  rw [encL]
/-- a dict of rows to scripts -/
structure Kn where
  kvs : List (List Key × D)
instance : Inhabited Kn := ⟨⟨[]⟩⟩
instance : Enc Kn := ⟨fun k => .dT k.kvs, fun a b h => by cases a; cases b; cases h; rfl⟩
def keyR (rows : Rows) : List Key := rows.map fun r => .inr r.str
def Knows (k : Kn) (p : Rows) : Prop := valD k.kvs (keyR p) = some (enc (least p))
def goodRows (rows : Rows) : Prop := 1 ≤ rows.length ∧ rows.length ≤ 16
def goodS (s : S) : Prop := okS 4 s ∧ (wrS s).length ≤ 300
noncomputable def F_is_row : List D → Option D := fn1 (fun _ : Rw => True) fun _ => .bl true
noncomputable def F_check_rows : List D → Option D := fn1 goodRows fun _ => .non
noncomputable def R_is_line : Nat → List D → Option D
  | 0 => fun _ => none
  | d + 1 => fn2 (fun (l : Ln Rw) (deep : Int) => (okL d l ∧ (wrL l).length ≤ 300) ∧ 0 ≤ deep ∧ deep + d ≤ 4) fun _ _ => .bl true
noncomputable def F_is_line : List D → Option D := R_is_line 5
noncomputable def R_rows_in : Nat → List D → Option D
  | 0 => fun _ => none
  | d + 1 => fn1 (fun s : S => okS d s ∧ (wrS s).length ≤ 300) fun s => .int ((wrS s).length : Nat)
noncomputable def F_rows_in : List D → Option D := R_rows_in 5
noncomputable def F_check_script : List D → Option D := fn1 goodS fun _ => .non
noncomputable def R_written_by : Nat → List D → Option D
  | 0 => fun _ => none
  | d + 1 => fn1 (fun s : S => okS d s ∧ (wrS s).length ≤ 300) fun s => enc (wrS s)
noncomputable def F_written_by : List D → Option D := R_written_by 5
noncomputable def F_written : List D → Option D := fn1 goodS fun s => enc (wrS s)
noncomputable def R_length_of : Nat → List D → Option D
  | 0 => fun _ => none
  | d + 1 => fn1 (fun s : S => okS d s ∧ (wrS s).length ≤ 300) fun s => .int (lenS s : Nat)
noncomputable def F_length_of : List D → Option D := R_length_of 5
noncomputable def F_length : List D → Option D := fn1 goodS fun s => .int (lenS s : Nat)
noncomputable def F_best_for : List D → Option D := fn2 (fun (rows : Rows) (k : Kn) => goodRows rows ∧ ∀ cut : Nat, 1 ≤ cut → cut < rows.length → Knows k (rows.take cut) ∧ Knows k (rows.drop cut)) fun rows _ => enc (least rows)
noncomputable def R_copied : Nat → List D → Option D
  | 0 => fun _ => none
  | d + 1 => fn1 (fun s : S => okS d s ∧ (wrS s).length ≤ 300) fun s => enc s
noncomputable def F_copied : List D → Option D := R_copied 5
noncomputable def F_least_script : List D → Option D := fn1 goodRows fun rows => enc (least rows)
/-! ### the law's own -/
def isDraws (ds : List Int) : Prop := ds.length ≤ 5000 ∧ ∀ d ∈ ds, 0 ≤ d ∧ d < 65536
def drawSt (s : List Int × Int) (_ : Int) : List Int × Int := if 0 < s.2 then (s.1 ++ [s.2 % 65536], s.2 / 65536) else s
def drawK (ns : List Int) (ds : List Int) (k : Int) : List Int :=
  if 1000000000000000000 ≤ absI (ns.getD k.toNat default) then ((rngI 0 60).foldl drawSt (ds, absI (ns.getD k.toNat default))).1
  else ds ++ [((absI (ns.getD k.toNat default) * 48271 + (k + 1) * 69621) % 2147483647 * 16807 + 11 * k + 5) % 2147483629 % 65536] ++ [((absI (ns.getD k.toNat default) * 48271 + (k + 1) * 69621) % 2147483647 * 16807 + 11 * k + 5) % 2147483629 / 65536 % 32768]
def drawsM (ns : List Int) : List Int := (rngI 0 (min 63 ns.length)).foldl (drawK ns) []
noncomputable def F__law_draws (ns : List Int) : Option D := some (enc (drawsM ns))
def mixM (ds : List Int) (k m : Int) : Int :=
  let cell := if 0 < ds.length then ds.getD (k % ds.length).toNat default else 0
  if k < ds.length then cell % m else (cell * 7919 + k * 104729) / 3 % m
noncomputable def F__law_mix : List D → Option D := fn3 (fun ds k m => isDraws ds ∧ 0 ≤ k ∧ k ≤ 100000 ∧ 0 < m ∧ m ≤ 100000) fun ds k m => enc (mixM ds k m)
def base : List Rw := [.a, .b, .c, .d]
def lrowSt (ds : List Int) (k : Int) (found : Rows) (turn : Int) : Rows :=
  [found ++ found, found ++ found.take 1, found ++ [base.getD (mixM ds (k + 9 + turn) 4).toNat default]].getD (mixM ds (k + 6 + turn) 3).toNat default
def lrowsM (ds : List Int) (k : Int) : Rows :=
  ((rngI 0 (mixM ds (k + 1) 3).toNat).foldl (lrowSt ds k) ((rngI 0 (1 + mixM ds k 3).toNat).map fun t => base.getD (mixM ds (k + 2 + t) 3).toNat default)).take 8
noncomputable def F__law_rows : List D → Option D := fn2 (fun ds (k : Int) => isDraws ds ∧ 0 ≤ k ∧ k ≤ 1000) fun ds k => enc (lrowsM ds k)
def exch : Rw → Rw
  | .a => .e | .b => .d | .c => .f | .d => .b | r => r
noncomputable def F__law_exchanged : List D → Option D := fn1 (fun r => r ∈ base) fun r => enc (exch r)
noncomputable def F__law_sum : List D → Option D := fn1 goodS fun s => enc (s.map wrL)
def F_law (_ : List Int) : Option D := some (.bl true)
end P66

namespace P66
open PySem PySem.Spec PyProof.Rows L2 DL
abbrev tS (i : Nat) : Stmt := PySem.Challenge.pw_printstack_k66_whole_scripts_put_togethe.main.body.getD i (.Pass ⟨0, 0, 0, 0⟩)
/-- what the top has written -/
structure Mg (mg : Str → Option Value) : Prop where
  abs : mg "abs" = none
  all : mg "all" = none
  dict : mg "dict" = none
  enumerate : mg "enumerate" = none
  int : mg "int" = none
  len : mg "len" = none
  min : mg "min" = none
  range : mg "range" = none
  set : mg "set" = none
  sum : mg "sum" = none
  tuple : mg "tuple" = none
  c_MOST_DEEP : ∃ t, mg "MOST_DEEP" = some (.int (4) t)
  c_MOST_ROWS : ∃ t, mg "MOST_ROWS" = some (.int (16) t)
  c_MOST_WRITTEN : ∃ t, mg "MOST_WRITTEN" = some (.int (300) t)
section
variable {P : Program} {w : World} {K : PySem.W.Frag} {mg : Str → Option Value} {base : Heap}
abbrev s_is_row : Stmt := tS 10
abbrev n_is_row : List Str := [Str.ofString "row", Str.ofString "sign"]
theorem sc_is_row : FnScope n_is_row ["row"] (defScope s_is_row) := ⟨rfl, rfl, rfl, by decide +kernel, rfl, by decide +kernel, by decide +kernel⟩
noncomputable def x_is_row : XF := (xSeq (xRet (eAnd (eChain dLe dLe (eC (.int 1)) (eCall dLen (aCons (bVar 0) aNil)) (eC (.int 16))) (eCall dAll (aCons (eComp (iSt (bVar 0)) (gN 1) (fun _ => some true) (e2 dInS (bVar 1) (eC (.str "01"))) [1]) aNil))))
  xNext)
theorem b_is_row (M : Mg mg) (fa : Addr) (cdv : Value) (A : Around) (outer : List PySem.Env) (s : Shared) (H : Hp) (E : XK) (hr : Room 1 (A.deeper (envOfC "is_row" (defScope s_is_row) s.heap.objs.size fa cdv))) :
    ∃ t, PSs (cxOf CX0 P w K mg base n_is_row "is_row" (defScope s_is_row) fa cdv A outer s H E).nox (defBody s_is_row) t ∧ SS K x_is_row t := ⟨_,
  (pss_cons (ps_ret (pe_and (pe_chain op_le op_le pe_int (pe_callB call_len (by rfl) M.len PySem.boot_len (pa_cons (pv 0) pa_nil)) (pe_glob (v := .int 16) (by rfl) M.c_MOST_ROWS.choose_spec ⟨_, rfl⟩)) (pe_one (pe_callB (cr_all rfl) (by rfl) M.all (by decide +kernel) (pa_cons (pe_lc rfl sc_is_row.nd (pi_str (pv 0)) (blkOk_by (N := n_is_row) (sc := defScope s_is_row) (own := [("sign", 1)]) (by decide +kernel)) (fun _ _ _ _ _ => (pg_name (i := 1) sc_is_row.nd rfl (by first | exact Or.inl rfl | exact Or.inr rfl))) (fun _ _ _ _ _ => pts_nil) (fun _ _ _ _ _ => (pe_cmpR op_in_sign (pv 1) pe_str (by rfl)))) pa_nil)))))
  pss_nil),
  (SS.seq (SS.ret (SE.and (SE.b (SE.chain od_le od_le (SE.b SE.int) (SE.b (SE.cb cd_len (SA.consB SB.var SA.nil))) (SE.b SE.int))) (SE.cb cd_all (SA.consB (SE.b (SF.e (SF.comp (SI.b (SI.str SB.var)) SG.name ST.yes (SE.op od_inS SB.var (SE.b SE.str)) (by decide)))) SA.nil))))
  SS.next)⟩
theorem c_is_row (M : Mg mg) (h : DefAt K mg "is_row" s_is_row) {Fm : List D → Option D} (hx : ∀ ds r, Fm ds = some r → Ret (x_is_row (env0 [false] ds 2)) r) : Cal P w K mg base "is_row" 2 ["row"] (spD K [false] Fm) :=
  Cal.mk' h sc_is_row (fun _ _ _ _ _ _ us hl => match us, hl with | [_], _ => rfl) (by decide) (by decide) hx (b_is_row M )
abbrev s_check_rows : Stmt := tS 11
abbrev n_check_rows : List Str := [Str.ofString "rows", Str.ofString "k", Str.ofString "row"]
theorem sc_check_rows : FnScope n_check_rows ["rows"] (defScope s_check_rows) := ⟨rfl, rfl, rfl, by decide +kernel, rfl, by decide +kernel, by decide +kernel⟩
noncomputable def x_check_rows : XF := (xSeq (xIf (qNot (qB (eChain dLe dLe (eC (.int 1)) (eCall dLen (aCons (bVar 0) aNil)) (eC (.int 16)))))
  (xSeq xNever
  xNext)
  xNext)
  (xSeq (xFor [1, 2] (iEn (aCons (eVar 0) aNil)) (gT (gsCons (gN 1) (gsCons (gN 2) gsNil)))
  (xSeq (xIf (qNot (qB (eCall F_is_row (aCons (eVar 2) aNil))))
  (xSeq xNever
  xNext)
  xNext)
  xNext))
  xNext))
theorem b_check_rows (M : Mg mg) (H_is_row : Cal P w K mg base "is_row" 2 ["row"] (spD K [false] F_is_row)) (fa : Addr) (cdv : Value) (A : Around) (outer : List PySem.Env) (s : Shared) (H : Hp) (E : XK) (hr : Room 2 (A.deeper (envOfC "check_rows" (defScope s_check_rows) s.heap.objs.size fa cdv))) :
    ∃ t, PSs (cxOf CX0 P w K mg base n_check_rows "check_rows" (defScope s_check_rows) fa cdv A outer s H E).nox (defBody s_check_rows) t ∧ SS K x_check_rows t := ⟨_,
  (pss_cons (ps_if (pt_not (pt_chain op_le op_le pe_int (pe_callB call_len (by rfl) M.len PySem.boot_len (pa_cons (pv 0) pa_nil)) (pe_glob (v := .int 16) (by rfl) M.c_MOST_ROWS.choose_spec ⟨_, rfl⟩)))
  (pss_cons ps_never
  pss_nil)
  pss_nil)
  (pss_cons (ps_for PassesOwn.never rfl (pi_enum (by rfl) M.enumerate (pa_cons (pv 0) pa_nil)) (pg_tup rfl (pgs_cons (pg_name (i := 1) sc_check_rows.nd rfl (by first | exact Or.inl rfl | exact Or.inr rfl)) (pgs_cons (pg_name (i := 2) sc_check_rows.nd rfl (by first | exact Or.inl rfl | exact Or.inr rfl)) pgs_nil)))
  (pss_cons (ps_if (pt_not (pt_val (pe_callC H_is_row hr (by decide) (by rfl) (pa_cons (pv 2) pa_nil))))
  (pss_cons ps_never
  pss_nil)
  pss_nil)
  pss_nil))
  pss_nil)),
  (SS.seq (SS.ifs (ST.not (ST.test (SE.b (SE.chain od_le od_le (SE.b SE.int) (SE.b (SE.cb cd_len (SA.consB SB.var SA.nil))) (SE.b SE.int)))))
  (SS.seq SS.never
  SS.next)
  SS.next)
  (SS.seq (SS.for_ (SI.enum (SA.cons SE.var SA.nil)) (SG.tup (SGs.cons SG.name (SGs.cons SG.name SGs.nil)))
  (SS.seq (SS.ifs (ST.not (ST.b (SE.b (SE.call (SA.cons SE.var SA.nil)))))
  (SS.seq SS.never
  SS.next)
  SS.next)
  SS.next))
  SS.next))⟩
theorem c_check_rows (M : Mg mg) (H_is_row : Cal P w K mg base "is_row" 2 ["row"] (spD K [false] F_is_row)) (h : DefAt K mg "check_rows" s_check_rows) {Fm : List D → Option D} (hx : ∀ ds r, Fm ds = some r → Ret (x_check_rows (env0 [false] ds 3)) r) : Cal P w K mg base "check_rows" 3 ["rows"] (spD K [false] Fm) :=
  Cal.mk' h sc_check_rows (fun _ _ _ _ _ _ us hl => match us, hl with | [_], _ => rfl) (by decide) (by decide) hx (b_check_rows M H_is_row)
abbrev s_is_line : Stmt := tS 12
abbrev n_is_line : List Str := [Str.ofString "line", Str.ofString "deep", Str.ofString "one"]
theorem sc_is_line : FnScope n_is_line ["line", "deep"] (defScope s_is_line) := ⟨rfl, rfl, rfl, by decide +kernel, rfl, by decide +kernel, by decide +kernel⟩
noncomputable def x_is_line (Fp : List D → Option D) : XF := (xSeq (xIf (qB (e2 dEqY (eCall dLen (aCons (bVar 0) aNil)) (eC (.int 2))))
  (xSeq (xRet (eAnd (e2 dEqY (e2 dAt (bVar 0) (eC (.int 0))) (eC (.str "row"))) (eCall F_is_row (aCons (e2 dAt (bVar 0) (eC (.int 1))) aNil))))
  xNext)
  xNext)
  (xSeq (xIf (qOr (qB (e2 dNeY (eCall dLen (aCons (bVar 0) aNil)) (eC (.int 3)))) (qOr (qB (e2 dNeY (e2 dAt (bVar 0) (eC (.int 0))) (eC (.str "repeat")))) (qOr (qB (e2 dEqY (bVar 1) (eC (.int 4)))) (qOr (qB (e2 dLt (e2 dAt (bVar 0) (eC (.int 1))) (eC (.int 2)))) (qB (e2 dEqY (eCall dLen (aCons (e2 dAt (bVar 0) (eC (.int 2))) aNil)) (eC (.int 0))))))))
  (xSeq (xRet (eC (.bl false)))
  xNext)
  xNext)
  (xSeq (xRet (eCall dAll (aCons (eComp (iSq (e2 dAt (bVar 0) (eC (.int 2)))) (gN 2) (fun _ => some true) (eCall Fp (aCons (eVar 2) (aCons (e2 dAdd (bVar 1) (eC (.int 1))) aNil))) [2]) aNil)))
  xNext)))
theorem b_is_line (M : Mg mg) (H_is_row : Cal P w K mg base "is_row" 2 ["row"] (spD K [false] F_is_row)) (n : Nat) (hn : 2 ≤ n) {Fp : List D → Option D} (H_is_line : Cal P w K mg base "is_line" n ["line", "deep"] (spD K [false, false] Fp)) (fa : Addr) (cdv : Value) (A : Around) (outer : List PySem.Env) (s : Shared) (H : Hp) (E : XK) (hr : Room n (A.deeper (envOfC "is_line" (defScope s_is_line) s.heap.objs.size fa cdv))) :
    ∃ t, PSs (cxOf CX0 P w K mg base n_is_line "is_line" (defScope s_is_line) fa cdv A outer s H E).nox (defBody s_is_line) t ∧ SS K (x_is_line Fp) t := ⟨_,
  (pss_cons (ps_if (pt_cmpR (op_eqY hr.units) (pe_callB call_len (by rfl) M.len PySem.boot_len (pa_cons (pv 0) pa_nil)) pe_int (nomark _))
  (pss_cons (ps_ret (pe_and (pe_cmpR (op_eqY hr.units) (pe_ix (ix_any (hu_of hr)) (pv 0) pe_int (fun _ _ => rfl)) pe_str (nomark _)) (pe_one (pe_callC H_is_row hr (by omega) (by rfl) (pa_cons (pe_ix (ix_any (hu_of hr)) (pv 0) pe_int (fun _ _ => rfl)) pa_nil)))))
  pss_nil)
  pss_nil)
  (pss_cons (ps_if (PW.pt (pw_or (pt_cmpR (op_neY hr.units) (pe_callB call_len (by rfl) M.len PySem.boot_len (pa_cons (pv 0) pa_nil)) pe_int (nomark _)) (pw_or (pt_cmpR (op_neY hr.units) (pe_ix (ix_any (hu_of hr)) (pv 0) pe_int (fun _ _ => rfl)) pe_str (nomark _)) (pw_or (pt_cmpR (op_eqY hr.units) (pv 1) (pe_glob (v := .int 4) (by rfl) M.c_MOST_DEEP.choose_spec ⟨_, rfl⟩) (nomark _)) (pw_or (pt_cmpR op_lt (pe_ix (ix_any (hu_of hr)) (pv 0) pe_int (fun _ _ => rfl)) pe_int (nomark _)) (pw_or1 (pt_cmpR (op_eqY hr.units) (pe_callB call_len (by rfl) M.len PySem.boot_len (pa_cons (pe_ix (ix_any (hu_of hr)) (pv 0) pe_int (fun _ _ => rfl)) pa_nil)) pe_int (nomark _))))))))
  (pss_cons (ps_ret pe_bl)
  pss_nil)
  pss_nil)
  (pss_cons (ps_ret (pe_callB (cr_all rfl) (by rfl) M.all (by decide +kernel) (pa_cons (pe_lc rfl sc_is_line.nd (pi_seq (pe_ix (ix_any (hu_of hr)) (pv 0) pe_int (fun _ _ => rfl))) (blkOk_by (N := n_is_line) (sc := defScope s_is_line) (own := [("one", 2)]) (by decide +kernel)) (fun _ _ _ _ _ => (pg_name (i := 2) sc_is_line.nd rfl (by first | exact Or.inl rfl | exact Or.inr rfl))) (fun _ _ _ _ _ => pts_nil) (fun _ _ _ _ _ => (pe_callC H_is_line hr (by omega) (by rfl) (pa_cons (pv 2) (pa_cons (pe_op op_addA (pv 1) pe_int) pa_nil))))) pa_nil)))
  pss_nil))),
  (SS.seq (SS.ifs (ST.test (SE.b (SE.op od_eqY (SE.b (SE.cb cd_len (SA.consB SB.var SA.nil))) (SE.b SE.int))))
  (SS.seq (SS.ret (SE.and (SE.b (SE.op od_eqY (SE.b (SE.op od_at SB.var (SE.b SE.int))) (SE.b SE.str))) (SE.call (SA.cons (SE.op od_at SB.var (SE.b SE.int)) SA.nil))))
  SS.next)
  SS.next)
  (SS.seq (SS.ifs (ST.or (ST.test (SE.b (SE.op od_neY (SE.b (SE.cb cd_len (SA.consB SB.var SA.nil))) (SE.b SE.int)))) (ST.or (ST.test (SE.b (SE.op od_neY (SE.b (SE.op od_at SB.var (SE.b SE.int))) (SE.b SE.str)))) (ST.or (ST.test (SE.b (SE.op od_eqY SB.var (SE.b SE.int)))) (ST.or (ST.test (SE.b (SE.op od_lt (SE.b (SE.op od_at SB.var (SE.b SE.int))) (SE.b SE.int)))) (ST.test (SE.b (SE.op od_eqY (SE.b (SE.cb cd_len (SA.consB (SE.b (SE.op od_at SB.var (SE.b SE.int))) SA.nil))) (SE.b SE.int))))))))
  (SS.seq (SS.ret SE.bl)
  SS.next)
  SS.next)
  (SS.seq (SS.ret (SE.cb cd_all (SA.consB (SE.b (SF.e (SF.comp (SI.b (SI.seq (SE.op od_at SB.var (SE.b SE.int)))) SG.name ST.yes (SE.call (SA.cons SE.var (SA.cons (SE.op od_add SB.var (SE.b SE.int)) SA.nil))) (by decide)))) SA.nil)))
  SS.next)))⟩
theorem c_is_line (M : Mg mg) (H_is_row : Cal P w K mg base "is_row" 2 ["row"] (spD K [false] F_is_row)) (h : DefAt K mg "is_line" s_is_line) {Fr : Nat → List D → Option D} (h0 : ∀ ds, Fr 0 ds = none) (hx : ∀ d ds r, Fr (d + 1) ds = some r → Ret (x_is_line (Fr d) (env0 [false, false] ds 3)) r) : ∀ d, Cal P w K mg base "is_line" (2 + d) ["line", "deep"] (spD K [false, false] (Fr d))
  | 0 => Cal.none h (fun _ _ _ _ _ _ us hl => match us, hl with | [_, _], _ => rfl) h0
  | d + 1 => Cal.mk' h sc_is_line (fun _ _ _ _ _ _ us hl => match us, hl with | [_, _], _ => rfl) (by decide) (by decide) (hx d) (b_is_line M H_is_row (2 + d) (by omega) (c_is_line M H_is_row h h0 hx d))
abbrev s_rows_in : Stmt := tS 13
abbrev n_rows_in : List Str := [Str.ofString "script", Str.ofString "line"]
theorem sc_rows_in : FnScope n_rows_in ["script"] (defScope s_rows_in) := ⟨rfl, rfl, rfl, by decide +kernel, rfl, by decide +kernel, by decide +kernel⟩
noncomputable def x_rows_in (Fp : List D → Option D) : XF := (xSeq (xRet (eCall dSum (aCons (eComp (iSq (eVar 0)) (gN 1) (fun _ => some true) (eIf (qB (e2 dEqY (e2 dAt (bVar 1) (eC (.int 0))) (eC (.str "row")))) (eC (.int 1)) (e2 dMul (e2 dAt (bVar 1) (eC (.int 1))) (eCall Fp (aCons (e2 dAt (bVar 1) (eC (.int 2))) aNil)))) [1]) aNil)))
  xNext)
theorem b_rows_in (M : Mg mg) (n : Nat) (hn : 1 ≤ n) {Fp : List D → Option D} (H_rows_in : Cal P w K mg base "rows_in" n ["script"] (spD K [false] Fp)) (fa : Addr) (cdv : Value) (A : Around) (outer : List PySem.Env) (s : Shared) (H : Hp) (E : XK) (hr : Room n (A.deeper (envOfC "rows_in" (defScope s_rows_in) s.heap.objs.size fa cdv))) :
    ∃ t, PSs (cxOf CX0 P w K mg base n_rows_in "rows_in" (defScope s_rows_in) fa cdv A outer s H E).nox (defBody s_rows_in) t ∧ SS K (x_rows_in Fp) t := ⟨_,
  (pss_cons (ps_ret (pe_callB (cr_sum rfl) (by rfl) M.sum (by decide +kernel) (pa_cons (pe_lc rfl sc_rows_in.nd (pi_seq (pv 0)) (blkOk_by (N := n_rows_in) (sc := defScope s_rows_in) (own := [("line", 1)]) (by decide +kernel)) (fun _ _ _ _ _ => (pg_name (i := 1) sc_rows_in.nd rfl (by first | exact Or.inl rfl | exact Or.inr rfl))) (fun _ _ _ _ _ => pts_nil) (fun _ _ _ _ _ => (pe_ifExp (pt_cmpR (op_eqY hr.units) (pe_ix (ix_any (hu_of hr)) (pv 1) pe_int (fun _ _ => rfl)) pe_str (nomark _)) pe_int (pe_op op_mulA (pe_ix (ix_any (hu_of hr)) (pv 1) pe_int (fun _ _ => rfl)) (pe_callC H_rows_in hr (by omega) (by rfl) (pa_cons (pe_ix (ix_any (hu_of hr)) (pv 1) pe_int (fun _ _ => rfl)) pa_nil)))))) pa_nil)))
  pss_nil),
  (SS.seq (SS.ret (SE.cb cd_sum (SA.consB (SE.b (SF.e (SF.comp (SI.b (SI.seq SE.var)) SG.name ST.yes (SE.ife (ST.test (SE.b (SE.op od_eqY (SE.b (SE.op od_at SB.var (SE.b SE.int))) (SE.b SE.str)))) SE.int (SE.op od_mul (SE.b (SE.op od_at SB.var (SE.b SE.int))) (SE.b (SE.call (SA.cons (SE.op od_at SB.var (SE.b SE.int)) SA.nil))))) (by decide)))) SA.nil)))
  SS.next)⟩
theorem c_rows_in (M : Mg mg) (h : DefAt K mg "rows_in" s_rows_in) {Fr : Nat → List D → Option D} (h0 : ∀ ds, Fr 0 ds = none) (hx : ∀ d ds r, Fr (d + 1) ds = some r → Ret (x_rows_in (Fr d) (env0 [false] ds 2)) r) : ∀ d, Cal P w K mg base "rows_in" (1 + d) ["script"] (spD K [false] (Fr d))
  | 0 => Cal.none h (fun _ _ _ _ _ _ us hl => match us, hl with | [_], _ => rfl) h0
  | d + 1 => Cal.mk' h sc_rows_in (fun _ _ _ _ _ _ us hl => match us, hl with | [_], _ => rfl) (by decide) (by decide) (hx d) (b_rows_in M  (1 + d) (by omega) (c_rows_in M  h h0 hx d))
abbrev s_check_script : Stmt := tS 14
abbrev n_check_script : List Str := [Str.ofString "script", Str.ofString "k", Str.ofString "line"]
theorem sc_check_script : FnScope n_check_script ["script"] (defScope s_check_script) := ⟨rfl, rfl, rfl, by decide +kernel, rfl, by decide +kernel, by decide +kernel⟩
noncomputable def x_check_script : XF := (xSeq (xFor [1, 2] (iEn (aCons (eVar 0) aNil)) (gT (gsCons (gN 1) (gsCons (gN 2) gsNil)))
  (xSeq (xIf (qNot (qB (eCall F_is_line (aCons (eVar 2) (aCons (eC (.int 0)) aNil)))))
  (xSeq xNever
  xNext)
  xNext)
  xNext))
  (xSeq (xIf (qB (e2 dGt (eCall F_rows_in (aCons (eVar 0) aNil)) (eC (.int 300))))
  (xSeq xNever
  xNext)
  xNext)
  xNext))
theorem b_check_script (M : Mg mg) (H_is_line : Cal P w K mg base "is_line" 7 ["line", "deep"] (spD K [false, false] F_is_line)) (H_rows_in : Cal P w K mg base "rows_in" 6 ["script"] (spD K [false] F_rows_in)) (fa : Addr) (cdv : Value) (A : Around) (outer : List PySem.Env) (s : Shared) (H : Hp) (E : XK) (hr : Room 7 (A.deeper (envOfC "check_script" (defScope s_check_script) s.heap.objs.size fa cdv))) :
    ∃ t, PSs (cxOf CX0 P w K mg base n_check_script "check_script" (defScope s_check_script) fa cdv A outer s H E).nox (defBody s_check_script) t ∧ SS K x_check_script t := ⟨_,
  (pss_cons (ps_for PassesOwn.never rfl (pi_enum (by rfl) M.enumerate (pa_cons (pv 0) pa_nil)) (pg_tup rfl (pgs_cons (pg_name (i := 1) sc_check_script.nd rfl (by first | exact Or.inl rfl | exact Or.inr rfl)) (pgs_cons (pg_name (i := 2) sc_check_script.nd rfl (by first | exact Or.inl rfl | exact Or.inr rfl)) pgs_nil)))
  (pss_cons (ps_if (pt_not (pt_val (pe_callC H_is_line hr (by decide) (by rfl) (pa_cons (pv 2) (pa_cons pe_int pa_nil)))))
  (pss_cons ps_never
  pss_nil)
  pss_nil)
  pss_nil))
  (pss_cons (ps_if (pt_cmpR op_gt (pe_callC H_rows_in hr (by decide) (by rfl) (pa_cons (pv 0) pa_nil)) (pe_glob (v := .int 300) (by rfl) M.c_MOST_WRITTEN.choose_spec ⟨_, rfl⟩) (nomark _))
  (pss_cons ps_never
  pss_nil)
  pss_nil)
  pss_nil)),
  (SS.seq (SS.for_ (SI.enum (SA.cons SE.var SA.nil)) (SG.tup (SGs.cons SG.name (SGs.cons SG.name SGs.nil)))
  (SS.seq (SS.ifs (ST.not (ST.b (SE.b (SE.call (SA.cons SE.var (SA.cons SE.int SA.nil))))))
  (SS.seq SS.never
  SS.next)
  SS.next)
  SS.next))
  (SS.seq (SS.ifs (ST.test (SE.b (SE.op od_gt (SE.b (SE.call (SA.cons SE.var SA.nil))) (SE.b SE.int))))
  (SS.seq SS.never
  SS.next)
  SS.next)
  SS.next))⟩
theorem c_check_script (M : Mg mg) (H_is_line : Cal P w K mg base "is_line" 7 ["line", "deep"] (spD K [false, false] F_is_line)) (H_rows_in : Cal P w K mg base "rows_in" 6 ["script"] (spD K [false] F_rows_in)) (h : DefAt K mg "check_script" s_check_script) {Fm : List D → Option D} (hx : ∀ ds r, Fm ds = some r → Ret (x_check_script (env0 [false] ds 3)) r) : Cal P w K mg base "check_script" 8 ["script"] (spD K [false] Fm) :=
  Cal.mk' h sc_check_script (fun _ _ _ _ _ _ us hl => match us, hl with | [_], _ => rfl) (by decide) (by decide) hx (b_check_script M H_is_line H_rows_in)
abbrev s_written_by : Stmt := tS 15
abbrev n_written_by : List Str := [Str.ofString "script", Str.ofString "found", Str.ofString "line"]
theorem sc_written_by : FnScope n_written_by ["script"] (defScope s_written_by) := ⟨rfl, rfl, rfl, by decide +kernel, rfl, by decide +kernel, by decide +kernel⟩
noncomputable def x_written_by (Fp : List D → Option D) : XF := (xSeq (xAsgO 1 (eLst aNil))
  (xSeq (xFor [2] (iSq (eVar 0)) (gN 2)
  (xSeq (xExt 1 (eIf (qB (e2 dEqY (e2 dAt (bVar 2) (eC (.int 0))) (eC (.str "row")))) (eLst (aCons (e2 dAt (bVar 2) (eC (.int 1))) aNil)) (e2 dMul (eCall Fp (aCons (e2 dAt (bVar 2) (eC (.int 2))) aNil)) (e2 dAt (bVar 2) (eC (.int 1))))))
  xNext))
  (xFrz 1 (xSeq (xRet (eVar 1))
  xNext))))
theorem b_written_by (M : Mg mg) (n : Nat) (hn : 1 ≤ n) {Fp : List D → Option D} (H_written_by : Cal P w K mg base "written_by" n ["script"] (spD K [false] Fp)) (fa : Addr) (cdv : Value) (A : Around) (outer : List PySem.Env) (s : Shared) (H : Hp) (E : XK) (hr : Room n (A.deeper (envOfC "written_by" (defScope s_written_by) s.heap.objs.size fa cdv))) :
    ∃ t, PSs (cxOf CX0 P w K mg base n_written_by "written_by" (defScope s_written_by) fa cdv A outer s H E).nox (defBody s_written_by) t ∧ SS K (x_written_by Fp) t := ⟨_,
  (pss_cons (ps_set (i := 1) sc_written_by.nd rfl (by first | exact Or.inl rfl | exact Or.inr rfl) (pe_lst pa_nil))
  (pss_cons (ps_for PassesOwn.never rfl (pi_seq (pv 0)) (pg_name (i := 2) sc_written_by.nd rfl (by first | exact Or.inl rfl | exact Or.inr rfl))
  (pss_cons (ps_expr (pe_bm PySem.F.plainAttrs_list PySem.F.slot_list_extend PySem.F.type_list_extend mt_extend (pv 1) (pa_cons (pe_ifExp (pt_cmpR (op_eqY hr.units) (pe_ix (ix_any (hu_of hr)) (pv 2) pe_int (fun _ _ => rfl)) pe_str (nomark _)) (pe_lst (pa_cons (pe_ix (ix_any (hu_of hr)) (pv 2) pe_int (fun _ _ => rfl)) pa_nil)) (pe_op op_mulA (pe_callC H_written_by hr (by omega) (by rfl) (pa_cons (pe_ix (ix_any (hu_of hr)) (pv 2) pe_int (fun _ _ => rfl)) pa_nil)) (pe_ix (ix_any (hu_of hr)) (pv 2) pe_int (fun _ _ => rfl)))) pa_nil)))
  pss_nil))
  (pss_cons (ps_ret (pv 1))
  pss_nil))),
  (SS.seq (SS.asgO (SF.lst SA.nil (by decide)))
  (SS.seq (SS.for_ (SI.seq SE.var) SG.name
  (SS.seq (SS.ext (SE.b (SE.ife (ST.test (SE.b (SE.op od_eqY (SE.b (SE.op od_at SB.var (SE.b SE.int))) (SE.b SE.str)))) (SF.e (SF.lst (SA.cons (SE.op od_at SB.var (SE.b SE.int)) SA.nil) (by decide))) (SE.op od_mul (SE.b (SE.call (SA.cons (SE.op od_at SB.var (SE.b SE.int)) SA.nil))) (SE.b (SE.op od_at SB.var (SE.b SE.int)))))))
  SS.next))
  (SS.frz (i := 1) (SS.seq (SS.ret SE.var)
  SS.next))))⟩
theorem c_written_by (M : Mg mg) (h : DefAt K mg "written_by" s_written_by) {Fr : Nat → List D → Option D} (h0 : ∀ ds, Fr 0 ds = none) (hx : ∀ d ds r, Fr (d + 1) ds = some r → Ret (x_written_by (Fr d) (env0 [false] ds 3)) r) : ∀ d, Cal P w K mg base "written_by" (1 + d) ["script"] (spD K [false] (Fr d))
  | 0 => Cal.none h (fun _ _ _ _ _ _ us hl => match us, hl with | [_], _ => rfl) h0
  | d + 1 => Cal.mk' h sc_written_by (fun _ _ _ _ _ _ us hl => match us, hl with | [_], _ => rfl) (by decide) (by decide) (hx d) (b_written_by M  (1 + d) (by omega) (c_written_by M  h h0 hx d))
abbrev s_written : Stmt := tS 16
abbrev n_written : List Str := [Str.ofString "script"]
theorem sc_written : FnScope n_written ["script"] (defScope s_written) := ⟨rfl, rfl, rfl, by decide +kernel, rfl, by decide +kernel, by decide +kernel⟩
noncomputable def x_written : XF := (xSeq (xDrop (eCall F_check_script (aCons (eVar 0) aNil)))
  (xSeq (xRet (eCall F_written_by (aCons (eVar 0) aNil)))
  xNext))
theorem b_written (M : Mg mg) (H_check_script : Cal P w K mg base "check_script" 8 ["script"] (spD K [false] F_check_script)) (H_written_by : Cal P w K mg base "written_by" 6 ["script"] (spD K [false] F_written_by)) (fa : Addr) (cdv : Value) (A : Around) (outer : List PySem.Env) (s : Shared) (H : Hp) (E : XK) (hr : Room 8 (A.deeper (envOfC "written" (defScope s_written) s.heap.objs.size fa cdv))) :
    ∃ t, PSs (cxOf CX0 P w K mg base n_written "written" (defScope s_written) fa cdv A outer s H E).nox (defBody s_written) t ∧ SS K x_written t := ⟨_,
  (pss_cons (ps_expr (pe_callC H_check_script hr (by decide) (by rfl) (pa_cons (pv 0) pa_nil)))
  (pss_cons (ps_ret (pe_callC H_written_by hr (by decide) (by rfl) (pa_cons (pv 0) pa_nil)))
  pss_nil)),
  (SS.seq (SS.drop (SE.call (SA.cons SE.var SA.nil)))
  (SS.seq (SS.ret (SE.call (SA.cons SE.var SA.nil)))
  SS.next))⟩
theorem c_written (M : Mg mg) (H_check_script : Cal P w K mg base "check_script" 8 ["script"] (spD K [false] F_check_script)) (H_written_by : Cal P w K mg base "written_by" 6 ["script"] (spD K [false] F_written_by)) (h : DefAt K mg "written" s_written) {Fm : List D → Option D} (hx : ∀ ds r, Fm ds = some r → Ret (x_written (env0 [false] ds 1)) r) : Cal P w K mg base "written" 9 ["script"] (spD K [false] Fm) :=
  Cal.mk' h sc_written (fun _ _ _ _ _ _ us hl => match us, hl with | [_], _ => rfl) (by decide) (by decide) hx (b_written M H_check_script H_written_by)
abbrev s_length_of : Stmt := tS 17
abbrev n_length_of : List Str := [Str.ofString "script", Str.ofString "line"]
theorem sc_length_of : FnScope n_length_of ["script"] (defScope s_length_of) := ⟨rfl, rfl, rfl, by decide +kernel, rfl, by decide +kernel, by decide +kernel⟩
noncomputable def x_length_of (Fp : List D → Option D) : XF := (xSeq (xRet (eCall dSum (aCons (eComp (iSq (eVar 0)) (gN 1) (fun _ => some true) (eIf (qB (e2 dEqY (e2 dAt (bVar 1) (eC (.int 0))) (eC (.str "row")))) (eC (.int 1)) (e2 dAdd (eC (.int 1)) (eCall Fp (aCons (e2 dAt (bVar 1) (eC (.int 2))) aNil)))) [1]) aNil)))
  xNext)
theorem b_length_of (M : Mg mg) (n : Nat) (hn : 1 ≤ n) {Fp : List D → Option D} (H_length_of : Cal P w K mg base "length_of" n ["script"] (spD K [false] Fp)) (fa : Addr) (cdv : Value) (A : Around) (outer : List PySem.Env) (s : Shared) (H : Hp) (E : XK) (hr : Room n (A.deeper (envOfC "length_of" (defScope s_length_of) s.heap.objs.size fa cdv))) :
    ∃ t, PSs (cxOf CX0 P w K mg base n_length_of "length_of" (defScope s_length_of) fa cdv A outer s H E).nox (defBody s_length_of) t ∧ SS K (x_length_of Fp) t := ⟨_,
  (pss_cons (ps_ret (pe_callB (cr_sum rfl) (by rfl) M.sum (by decide +kernel) (pa_cons (pe_lc rfl sc_length_of.nd (pi_seq (pv 0)) (blkOk_by (N := n_length_of) (sc := defScope s_length_of) (own := [("line", 1)]) (by decide +kernel)) (fun _ _ _ _ _ => (pg_name (i := 1) sc_length_of.nd rfl (by first | exact Or.inl rfl | exact Or.inr rfl))) (fun _ _ _ _ _ => pts_nil) (fun _ _ _ _ _ => (pe_ifExp (pt_cmpR (op_eqY hr.units) (pe_ix (ix_any (hu_of hr)) (pv 1) pe_int (fun _ _ => rfl)) pe_str (nomark _)) pe_int (pe_op op_addA pe_int (pe_callC H_length_of hr (by omega) (by rfl) (pa_cons (pe_ix (ix_any (hu_of hr)) (pv 1) pe_int (fun _ _ => rfl)) pa_nil)))))) pa_nil)))
  pss_nil),
  (SS.seq (SS.ret (SE.cb cd_sum (SA.consB (SE.b (SF.e (SF.comp (SI.b (SI.seq SE.var)) SG.name ST.yes (SE.ife (ST.test (SE.b (SE.op od_eqY (SE.b (SE.op od_at SB.var (SE.b SE.int))) (SE.b SE.str)))) SE.int (SE.op od_add (SE.b SE.int) (SE.b (SE.call (SA.cons (SE.op od_at SB.var (SE.b SE.int)) SA.nil))))) (by decide)))) SA.nil)))
  SS.next)⟩
theorem c_length_of (M : Mg mg) (h : DefAt K mg "length_of" s_length_of) {Fr : Nat → List D → Option D} (h0 : ∀ ds, Fr 0 ds = none) (hx : ∀ d ds r, Fr (d + 1) ds = some r → Ret (x_length_of (Fr d) (env0 [false] ds 2)) r) : ∀ d, Cal P w K mg base "length_of" (1 + d) ["script"] (spD K [false] (Fr d))
  | 0 => Cal.none h (fun _ _ _ _ _ _ us hl => match us, hl with | [_], _ => rfl) h0
  | d + 1 => Cal.mk' h sc_length_of (fun _ _ _ _ _ _ us hl => match us, hl with | [_], _ => rfl) (by decide) (by decide) (hx d) (b_length_of M  (1 + d) (by omega) (c_length_of M  h h0 hx d))
abbrev s_length : Stmt := tS 18
abbrev n_length : List Str := [Str.ofString "script"]
theorem sc_length : FnScope n_length ["script"] (defScope s_length) := ⟨rfl, rfl, rfl, by decide +kernel, rfl, by decide +kernel, by decide +kernel⟩
noncomputable def x_length : XF := (xSeq (xDrop (eCall F_check_script (aCons (eVar 0) aNil)))
  (xSeq (xRet (eCall F_length_of (aCons (eVar 0) aNil)))
  xNext))
theorem b_length (M : Mg mg) (H_check_script : Cal P w K mg base "check_script" 8 ["script"] (spD K [false] F_check_script)) (H_length_of : Cal P w K mg base "length_of" 6 ["script"] (spD K [false] F_length_of)) (fa : Addr) (cdv : Value) (A : Around) (outer : List PySem.Env) (s : Shared) (H : Hp) (E : XK) (hr : Room 8 (A.deeper (envOfC "length" (defScope s_length) s.heap.objs.size fa cdv))) :
    ∃ t, PSs (cxOf CX0 P w K mg base n_length "length" (defScope s_length) fa cdv A outer s H E).nox (defBody s_length) t ∧ SS K x_length t := ⟨_,
  (pss_cons (ps_expr (pe_callC H_check_script hr (by decide) (by rfl) (pa_cons (pv 0) pa_nil)))
  (pss_cons (ps_ret (pe_callC H_length_of hr (by decide) (by rfl) (pa_cons (pv 0) pa_nil)))
  pss_nil)),
  (SS.seq (SS.drop (SE.call (SA.cons SE.var SA.nil)))
  (SS.seq (SS.ret (SE.call (SA.cons SE.var SA.nil)))
  SS.next))⟩
theorem c_length (M : Mg mg) (H_check_script : Cal P w K mg base "check_script" 8 ["script"] (spD K [false] F_check_script)) (H_length_of : Cal P w K mg base "length_of" 6 ["script"] (spD K [false] F_length_of)) (h : DefAt K mg "length" s_length) {Fm : List D → Option D} (hx : ∀ ds r, Fm ds = some r → Ret (x_length (env0 [false] ds 1)) r) : Cal P w K mg base "length" 9 ["script"] (spD K [false] Fm) :=
  Cal.mk' h sc_length (fun _ _ _ _ _ _ us hl => match us, hl with | [_], _ => rfl) (by decide) (by decide) hx (b_length M H_check_script H_length_of)
abbrev s_best_for : Stmt := tS 19
abbrev n_best_for : List Str := [Str.ofString "rows", Str.ofString "known", Str.ofString "able", Str.ofString "cut"]
theorem sc_best_for : FnScope n_best_for ["rows", "known"] (defScope s_best_for) := ⟨rfl, rfl, rfl, by decide +kernel, rfl, by decide +kernel, by decide +kernel⟩
noncomputable def x_best_for : XF := (xSeq (xIf (qB (e2 dEqY (eCall dLen (aCons (bVar 0) aNil)) (eC (.int 1))))
  (xSeq (xRet (eLst (aCons (eTup (aCons (eC (.str "row")) (aCons (e2 dAt (bVar 0) (eC (.int 0))) aNil))) aNil)))
  xNext)
  xNext)
  (xSeq (xAsgO 2 (eLst aNil))
  (xSeq (xFor [3] (iR2 (aCons (eC (.int 1)) (aCons (eCall dLen (aCons (bVar 0) aNil)) aNil))) (gN 3)
  (xSeq (xApp 2 (e2 dAdd (e2 dAt (bVar 1) (eCall dTuple (aCons (eSl (bVar 0) oNo (oSo (bVar 3))) aNil))) (e2 dAt (bVar 1) (eCall dTuple (aCons (eSl (bVar 0) (oSo (bVar 3)) oNo) aNil)))))
  (xSeq (xIf (qAnd (qB (e2 dEqY (e2 dMod (eCall dLen (aCons (bVar 0) aNil)) (bVar 3)) (eC (.int 0)))) (qB (e2 dEqY (bVar 0) (e2 dMul (eSl (bVar 0) oNo (oSo (bVar 3))) (e2 dDiv (eCall dLen (aCons (bVar 0) aNil)) (bVar 3))))))
  (xSeq (xApp 2 (eLst (aCons (eTup (aCons (eC (.str "repeat")) (aCons (e2 dDiv (eCall dLen (aCons (bVar 0) aNil)) (bVar 3)) (aCons (e2 dAt (bVar 1) (eCall dTuple (aCons (eSl (bVar 0) oNo (oSo (bVar 3))) aNil))) aNil)))) aNil)))
  xNext)
  xNext)
  xNext)))
  (xSeq (xRet (eMinK F_length_of (aCons (bVar 2) aNil)))
  xNext))))
theorem b_best_for (M : Mg mg) (H_length_of : Cal P w K mg base "length_of" 6 ["script"] (spD K [false] F_length_of)) (fa : Addr) (cdv : Value) (A : Around) (outer : List PySem.Env) (s : Shared) (H : Hp) (E : XK) (hr : Room 7 (A.deeper (envOfC "best_for" (defScope s_best_for) s.heap.objs.size fa cdv))) :
    ∃ t, PSs (cxOf CX0 P w K mg base n_best_for "best_for" (defScope s_best_for) fa cdv A outer s H E).nox (defBody s_best_for) t ∧ SS K x_best_for t := ⟨_,
  (pss_cons (ps_if (pt_cmpR (op_eqY hr.units) (pe_callB call_len (by rfl) M.len PySem.boot_len (pa_cons (pv 0) pa_nil)) pe_int (nomark _))
  (pss_cons (ps_ret (pe_lst (pa_cons (pe_tup (pa_cons pe_str (pa_cons (pe_ix (ix_any (hu_of hr)) (pv 0) pe_int (fun _ _ => rfl)) pa_nil))) pa_nil)))
  pss_nil)
  pss_nil)
  (pss_cons (ps_set (i := 2) sc_best_for.nd rfl (by first | exact Or.inl rfl | exact Or.inr rfl) (pe_lst pa_nil))
  (pss_cons (ps_for PassesOwn.never rfl (pi_range2 (by rfl) M.range (pa_cons pe_int (pa_cons (pe_callB call_len (by rfl) M.len PySem.boot_len (pa_cons (pv 0) pa_nil)) pa_nil))) (pg_name (i := 3) sc_best_for.nd rfl (by first | exact Or.inl rfl | exact Or.inr rfl))
  (pss_cons (ps_expr (pe_bm PySem.F.plainAttrs_list PySem.F.slot_list_append PySem.F.type_list_append mt_append (pv 2) (pa_cons (pe_op op_addA (pe_ix (ix_any (hu_of hr)) (pv 1) (pe_callTy call_tuple_of (by rfl) M.tuple (by decide +kernel) (pa_cons (pe_slice sl_any (pv 0) po_none (po_some (pv 3))) pa_nil)) (fun _ _ => rfl)) (pe_ix (ix_any (hu_of hr)) (pv 1) (pe_callTy call_tuple_of (by rfl) M.tuple (by decide +kernel) (pa_cons (pe_slice sl_any (pv 0) (po_some (pv 3)) po_none) pa_nil)) (fun _ _ => rfl))) pa_nil)))
  (pss_cons (ps_if (PW.pt (pw_and (pt_cmpR (op_eqY hr.units) (pe_op op_mod (pe_callB call_len (by rfl) M.len PySem.boot_len (pa_cons (pv 0) pa_nil)) (pv 3)) pe_int (nomark _)) (pw_and1 (pt_cmpR (op_eqY hr.units) (pv 0) (pe_op op_mulA (pe_slice sl_any (pv 0) po_none (po_some (pv 3))) (pe_op op_fdiv (pe_callB call_len (by rfl) M.len PySem.boot_len (pa_cons (pv 0) pa_nil)) (pv 3))) (nomark _)))))
  (pss_cons (ps_expr (pe_bm PySem.F.plainAttrs_list PySem.F.slot_list_append PySem.F.type_list_append mt_append (pv 2) (pa_cons (pe_lst (pa_cons (pe_tup (pa_cons pe_str (pa_cons (pe_op op_fdiv (pe_callB call_len (by rfl) M.len PySem.boot_len (pa_cons (pv 0) pa_nil)) (pv 3)) (pa_cons (pe_ix (ix_any (hu_of hr)) (pv 1) (pe_callTy call_tuple_of (by rfl) M.tuple (by decide +kernel) (pa_cons (pe_slice sl_any (pv 0) po_none (po_some (pv 3))) pa_nil)) (fun _ _ => rfl)) pa_nil)))) pa_nil)) pa_nil)))
  pss_nil)
  pss_nil)
  pss_nil)))
  (pss_cons (ps_ret (pe_minK H_length_of hr (by decide) rfl (by rfl) M.min (by rfl) (pa_cons (pv 2) pa_nil)))
  pss_nil)))),
  (SS.seq (SS.ifs (ST.test (SE.b (SE.op od_eqY (SE.b (SE.cb cd_len (SA.consB SB.var SA.nil))) (SE.b SE.int))))
  (SS.seq (SS.ret (SF.e (SF.lst (SA.cons (SE.tup (SA.cons SE.str (SA.cons (SE.op od_at SB.var (SE.b SE.int)) SA.nil)) (by decide)) SA.nil) (by decide))))
  SS.next)
  SS.next)
  (SS.seq (SS.asgO (SF.lst SA.nil (by decide)))
  (SS.seq (SS.for_ (SI.r2 (SA.consB (SE.b SE.int) (SA.consB (SE.b (SE.cb cd_len (SA.consB SB.var SA.nil))) SA.nil))) SG.name
  (SS.seq (SS.app (SE.op od_add (SE.b (SE.op od_at SB.var (SE.b (SE.cb cd_tuple (SA.consB (SE.b (SE.sl SB.var SO.no (SO.so SB.var))) SA.nil))))) (SE.b (SE.op od_at SB.var (SE.b (SE.cb cd_tuple (SA.consB (SE.b (SE.sl SB.var (SO.so SB.var) SO.no)) SA.nil)))))))
  (SS.seq (SS.ifs (ST.and (ST.test (SE.b (SE.op od_eqY (SE.b (SE.op od_mod (SE.b (SE.cb cd_len (SA.consB SB.var SA.nil))) SB.var)) (SE.b SE.int)))) (ST.test (SE.b (SE.op od_eqY SB.var (SE.b (SE.op od_mul (SE.b (SE.sl SB.var SO.no (SO.so SB.var))) (SE.b (SE.op od_div (SE.b (SE.cb cd_len (SA.consB SB.var SA.nil))) SB.var))))))))
  (SS.seq (SS.app (SF.e (SF.lst (SA.cons (SE.tup (SA.cons SE.str (SA.cons (SE.op od_div (SE.b (SE.cb cd_len (SA.consB SB.var SA.nil))) SB.var) (SA.cons (SE.op od_at SB.var (SE.b (SE.cb cd_tuple (SA.consB (SE.b (SE.sl SB.var SO.no (SO.so SB.var))) SA.nil)))) SA.nil))) (by decide)) SA.nil) (by decide))))
  SS.next)
  SS.next)
  SS.next)))
  (SS.seq (SS.ret (SE.minK (SA.consB SB.var SA.nil) (.inl rfl)))
  SS.next))))⟩
theorem c_best_for (M : Mg mg) (H_length_of : Cal P w K mg base "length_of" 6 ["script"] (spD K [false] F_length_of)) (h : DefAt K mg "best_for" s_best_for) {Fm : List D → Option D} (hx : ∀ ds r, Fm ds = some r → Ret (x_best_for (env0 [false, true] ds 4)) r) : Cal P w K mg base "best_for" 8 ["rows", "known"] (spD K [false, true] Fm) :=
  Cal.mk' h sc_best_for (fun _ _ _ _ _ _ us hl => match us, hl with | [_, _], _ => rfl) (by decide) (by decide) hx (b_best_for M H_length_of)
abbrev s_copied : Stmt := tS 20
abbrev n_copied : List Str := [Str.ofString "script", Str.ofString "line"]
theorem sc_copied : FnScope n_copied ["script"] (defScope s_copied) := ⟨rfl, rfl, rfl, by decide +kernel, rfl, by decide +kernel, by decide +kernel⟩
noncomputable def x_copied (Fp : List D → Option D) : XF := (xSeq (xRet (eComp (iSq (eVar 0)) (gN 1) (fun _ => some true) (eIf (qB (e2 dEqY (e2 dAt (bVar 1) (eC (.int 0))) (eC (.str "row")))) (eVar 1) (eTup (aCons (eC (.str "repeat")) (aCons (e2 dAt (bVar 1) (eC (.int 1))) (aCons (eCall Fp (aCons (e2 dAt (bVar 1) (eC (.int 2))) aNil)) aNil))))) [1]))
  xNext)
theorem b_copied (M : Mg mg) (n : Nat) (hn : 1 ≤ n) {Fp : List D → Option D} (H_copied : Cal P w K mg base "copied" n ["script"] (spD K [false] Fp)) (fa : Addr) (cdv : Value) (A : Around) (outer : List PySem.Env) (s : Shared) (H : Hp) (E : XK) (hr : Room n (A.deeper (envOfC "copied" (defScope s_copied) s.heap.objs.size fa cdv))) :
    ∃ t, PSs (cxOf CX0 P w K mg base n_copied "copied" (defScope s_copied) fa cdv A outer s H E).nox (defBody s_copied) t ∧ SS K (x_copied Fp) t := ⟨_,
  (pss_cons (ps_ret (pe_lc rfl sc_copied.nd (pi_seq (pv 0)) (blkOk_by (N := n_copied) (sc := defScope s_copied) (own := [("line", 1)]) (by decide +kernel)) (fun _ _ _ _ _ => (pg_name (i := 1) sc_copied.nd rfl (by first | exact Or.inl rfl | exact Or.inr rfl))) (fun _ _ _ _ _ => pts_nil) (fun _ _ _ _ _ => (pe_ifExp (pt_cmpR (op_eqY hr.units) (pe_ix (ix_any (hu_of hr)) (pv 1) pe_int (fun _ _ => rfl)) pe_str (nomark _)) (pv 1) (pe_tup (pa_cons pe_str (pa_cons (pe_ix (ix_any (hu_of hr)) (pv 1) pe_int (fun _ _ => rfl)) (pa_cons (pe_callC H_copied hr (by omega) (by rfl) (pa_cons (pe_ix (ix_any (hu_of hr)) (pv 1) pe_int (fun _ _ => rfl)) pa_nil)) pa_nil))))))))
  pss_nil),
  (SS.seq (SS.ret (SF.e (SF.comp (SI.b (SI.seq SE.var)) SG.name ST.yes (SE.ife (ST.test (SE.b (SE.op od_eqY (SE.b (SE.op od_at SB.var (SE.b SE.int))) (SE.b SE.str)))) SE.var (SE.tup (SA.cons SE.str (SA.cons (SE.op od_at SB.var (SE.b SE.int)) (SA.cons (SE.call (SA.cons (SE.op od_at SB.var (SE.b SE.int)) SA.nil)) SA.nil))) (by decide))) (by decide))))
  SS.next)⟩
theorem c_copied (M : Mg mg) (h : DefAt K mg "copied" s_copied) {Fr : Nat → List D → Option D} (h0 : ∀ ds, Fr 0 ds = none) (hx : ∀ d ds r, Fr (d + 1) ds = some r → Ret (x_copied (Fr d) (env0 [false] ds 2)) r) : ∀ d, Cal P w K mg base "copied" (1 + d) ["script"] (spD K [false] (Fr d))
  | 0 => Cal.none h (fun _ _ _ _ _ _ us hl => match us, hl with | [_], _ => rfl) h0
  | d + 1 => Cal.mk' h sc_copied (fun _ _ _ _ _ _ us hl => match us, hl with | [_], _ => rfl) (by decide) (by decide) (hx d) (b_copied M  (1 + d) (by omega) (c_copied M  h h0 hx d))
abbrev s_least_script : Stmt := tS 21
abbrev n_least_script : List Str := [Str.ofString "rows", Str.ofString "known", Str.ofString "size", Str.ofString "first", Str.ofString "part"]
theorem sc_least_script : FnScope n_least_script ["rows"] (defScope s_least_script) := ⟨rfl, rfl, rfl, by decide +kernel, rfl, by decide +kernel, by decide +kernel⟩
noncomputable def x_least_script : XF := (xSeq (xDrop (eCall F_check_rows (aCons (eVar 0) aNil)))
  (xSeq (xAsgO 1 (eC (.dT [])))
  (xSeq (xFor [2, 3, 4] (iR2 (aCons (eC (.int 1)) (aCons (e2 dAdd (eCall dLen (aCons (bVar 0) aNil)) (eC (.int 1))) aNil))) (gN 2)
  (xSeq (xFor [3, 4] (iR1 (aCons (e2 dAdd (e2 dSub (eCall dLen (aCons (bVar 0) aNil)) (bVar 2)) (eC (.int 1))) aNil)) (gN 3)
  (xSeq (xAsg (eSl (bVar 0) (oSo (bVar 3)) (oSo (e2 dAdd (bVar 3) (bVar 2)))) (gN 4))
  (xSeq (xIf (qB (e2 dNotInX (eCall dTuple (aCons (bVar 4) aNil)) (bVar 1)))
  (xSeq (xPut 1 (eCall dTuple (aCons (bVar 4) aNil)) (eCall F_best_for (aCons (eVar 4) (aCons (bVar 1) aNil))))
  xNext)
  xNext)
  xNext)))
  xNext))
  (xSeq (xRet (eCall F_copied (aCons (e2 dAt (bVar 1) (eCall dTuple (aCons (bVar 0) aNil))) aNil)))
  xNext))))
theorem b_least_script (M : Mg mg) (H_check_rows : Cal P w K mg base "check_rows" 3 ["rows"] (spD K [false] F_check_rows)) (H_best_for : Cal P w K mg base "best_for" 8 ["rows", "known"] (spD K [false, true] F_best_for)) (H_copied : Cal P w K mg base "copied" 6 ["script"] (spD K [false] F_copied)) (fa : Addr) (cdv : Value) (A : Around) (outer : List PySem.Env) (s : Shared) (H : Hp) (E : XK) (hr : Room 8 (A.deeper (envOfC "least_script" (defScope s_least_script) s.heap.objs.size fa cdv))) :
    ∃ t, PSs (cxOf CX0 P w K mg base n_least_script "least_script" (defScope s_least_script) fa cdv A outer s H E).nox (defBody s_least_script) t ∧ SS K x_least_script t := ⟨_,
  (pss_cons (ps_expr (pe_callC H_check_rows hr (by decide) (by rfl) (pa_cons (pv 0) pa_nil)))
  (pss_cons (ps_set (i := 1) sc_least_script.nd rfl (by first | exact Or.inl rfl | exact Or.inr rfl) pe_dnewT)
  (pss_cons (ps_for PassesOwn.never rfl (pi_range2 (by rfl) M.range (pa_cons pe_int (pa_cons (pe_op op_addA (pe_callB call_len (by rfl) M.len PySem.boot_len (pa_cons (pv 0) pa_nil)) pe_int) pa_nil))) (pg_name (i := 2) sc_least_script.nd rfl (by first | exact Or.inl rfl | exact Or.inr rfl))
  (pss_cons (ps_for PassesOwn.never rfl (pi_range1 (by rfl) M.range (pa_cons (pe_op op_addA (pe_op op_sub (pe_callB call_len (by rfl) M.len PySem.boot_len (pa_cons (pv 0) pa_nil)) (pv 2)) pe_int) pa_nil)) (pg_name (i := 3) sc_least_script.nd rfl (by first | exact Or.inl rfl | exact Or.inr rfl))
  (pss_cons (ps_set (i := 4) sc_least_script.nd rfl (by first | exact Or.inl rfl | exact Or.inr rfl) (pe_slice sl_any (pv 0) (po_some (pv 3)) (po_some (pe_op op_addA (pv 3) (pv 2)))))
  (pss_cons (ps_if (pt_cmpR (op_notInX (hu65 hr)) (pe_callTy call_tuple_of (by rfl) M.tuple (by decide +kernel) (pa_cons (pv 4) pa_nil)) (pv 1) (by rfl))
  (pss_cons (ps_dput (hu_of hr) (pv 1) (pe_callTy call_tuple_of (by rfl) M.tuple (by decide +kernel) (pa_cons (pv 4) pa_nil)) (pe_callC H_best_for hr (by decide) (by rfl) (pa_cons (pv 4) (pa_cons (pv 1) pa_nil))) rfl)
  pss_nil)
  pss_nil)
  pss_nil)))
  pss_nil))
  (pss_cons (ps_ret (pe_callC H_copied hr (by decide) (by rfl) (pa_cons (pe_ix (ix_any (hu_of hr)) (pv 1) (pe_callTy call_tuple_of (by rfl) M.tuple (by decide +kernel) (pa_cons (pv 0) pa_nil)) (fun _ _ => rfl)) pa_nil)))
  pss_nil)))),
  (SS.seq (SS.drop (SE.call (SA.cons SE.var SA.nil)))
  (SS.seq (SS.asgO SF.newT)
  (SS.seq (SS.for_ (SI.r2 (SA.consB (SE.b SE.int) (SA.consB (SE.b (SE.op od_add (SE.b (SE.cb cd_len (SA.consB SB.var SA.nil))) (SE.b SE.int))) SA.nil))) SG.name
  (SS.seq (SS.for_ (SI.r1 (SA.consB (SE.b (SE.op od_add (SE.b (SE.op od_sub (SE.b (SE.cb cd_len (SA.consB SB.var SA.nil))) SB.var)) (SE.b SE.int))) SA.nil)) SG.name
  (SS.seq (SS.asg (SE.sl SB.var (SO.so SB.var) (SO.so (SE.b (SE.op od_add SB.var SB.var)))) SG.name)
  (SS.seq (SS.ifs (ST.test (SE.b (SE.op od_notInX (SE.b (SE.cb cd_tuple (SA.consB SB.var SA.nil))) SB.var)))
  (SS.seq (SS.put (SE.cb cd_tuple (SA.consB SB.var SA.nil)) (SE.call (SA.cons SE.var (SA.consB SB.var SA.nil))))
  SS.next)
  SS.next)
  SS.next)))
  SS.next))
  (SS.seq (SS.ret (SE.call (SA.cons (SE.op od_at SB.var (SE.b (SE.cb cd_tuple (SA.consB SB.var SA.nil)))) SA.nil)))
  SS.next))))⟩
theorem c_least_script (M : Mg mg) (H_check_rows : Cal P w K mg base "check_rows" 3 ["rows"] (spD K [false] F_check_rows)) (H_best_for : Cal P w K mg base "best_for" 8 ["rows", "known"] (spD K [false, true] F_best_for)) (H_copied : Cal P w K mg base "copied" 6 ["script"] (spD K [false] F_copied)) (h : DefAt K mg "least_script" s_least_script) {Fm : List D → Option D} (hx : ∀ ds r, Fm ds = some r → Ret (x_least_script (env0 [false] ds 5)) r) : Cal P w K mg base "least_script" 9 ["rows"] (spD K [false] Fm) :=
  Cal.mk' h sc_least_script (fun _ _ _ _ _ _ us hl => match us, hl with | [_], _ => rfl) (by decide) (by decide) hx (b_least_script M H_check_rows H_best_for H_copied)
abbrev s__law_draws : Stmt := tS 23
abbrev n__law_draws : List Str := [Str.ofString "script", Str.ofString "draws", Str.ofString "k", Str.ofString "rest", Str.ofString "turn", Str.ofString "mixed"]
theorem sc__law_draws : FnScope n__law_draws ["script"] (defScope s__law_draws) := ⟨rfl, rfl, rfl, by decide +kernel, rfl, by decide +kernel, by decide +kernel⟩
noncomputable def x__law_draws : XF := (xSeq (xAsgO 1 (eLst aNil))
  (xSeq (xFor [2, 3, 4, 5] (iR1 (aCons (eCall dMin (aCons (eC (.int 63)) (aCons (eLenScr 0) aNil))) aNil)) (gN 2)
  (xSeq (xAsg (eCall dAbs (aCons (eIxScr 0 (eVar 2)) aNil)) (gN 3))
  (xSeq (xIf (qB (e2 dGe (bVar 3) (e2 dPow (eC (.int 10)) (eC (.int 18)))))
  (xSeq (xFor [4] (iR1 (aCons (eC (.int 60)) aNil)) (gN 4)
  (xSeq (xIf (qB (e2 dGt (bVar 3) (eC (.int 0))))
  (xSeq (xApp 1 (e2 dMod (eCall dInt (aCons (bVar 3) aNil)) (eC (.int 65536))))
  (xSeq (xAsg (e2 dDiv (bVar 3) (eC (.int 65536))) (gN 3))
  xNext))
  xNext)
  xNext))
  xNext)
  (xSeq (xAsg (e2 dMod (eCall dInt (aCons (e2 dAdd (e2 dMul (bVar 3) (eC (.int 48271))) (e2 dMul (e2 dAdd (bVar 2) (eC (.int 1))) (eC (.int 69621)))) aNil)) (eC (.int 2147483647))) (gN 5))
  (xSeq (xAsg (e2 dMod (eCall dInt (aCons (e2 dAdd (e2 dAdd (e2 dMul (bVar 5) (eC (.int 16807))) (e2 dMul (eC (.int 11)) (bVar 2))) (eC (.int 5))) aNil)) (eC (.int 2147483629))) (gN 5))
  (xSeq (xApp 1 (e2 dMod (eCall dInt (aCons (bVar 5) aNil)) (eC (.int 65536))))
  (xSeq (xApp 1 (e2 dMod (eCall dInt (aCons (e2 dDiv (bVar 5) (eC (.int 65536))) aNil)) (eC (.int 32768))))
  xNext)))))
  xNext)))
  (xFrz 1 (xSeq (xRet (eVar 1))
  xNext))))
theorem b__law_draws (M : Mg mg) (fa : Addr) (cdv : Value) (A : Around) (outer : List PySem.Env) (s : Shared) (H : Hp) (E : XK) (hr : Room 1 (A.deeper (envOfC "_law_draws" (defScope s__law_draws) s.heap.objs.size fa cdv))) :
    ∃ t, PSs (cxOf CX0 P w K mg base n__law_draws "_law_draws" (defScope s__law_draws) fa cdv A outer s H E).nox (defBody s__law_draws) t ∧ SS K x__law_draws t := ⟨_,
  (pss_cons (ps_set (i := 1) sc__law_draws.nd rfl (by first | exact Or.inl rfl | exact Or.inr rfl) (pe_lst pa_nil))
  (pss_cons (ps_for PassesOwn.never rfl (pi_range1 (by rfl) M.range (pa_cons (pe_callB (cr_minA rfl) (by rfl) M.min (by decide +kernel) (pa_cons pe_int (pa_cons (pe_callB call_len (by rfl) M.len PySem.boot_len (pa_cons (pv 0) pa_nil)) pa_nil))) pa_nil)) (pg_name (i := 2) sc__law_draws.nd rfl (by first | exact Or.inl rfl | exact Or.inr rfl))
  (pss_cons (ps_set (i := 3) sc__law_draws.nd rfl (by first | exact Or.inl rfl | exact Or.inr rfl) (pe_callB call_abs (by rfl) M.abs (by decide +kernel) (pa_cons (pe_ix (ix_any (hu_of hr)) (pv 0) (pv 2) (fun _ _ => rfl)) pa_nil)))
  (pss_cons (ps_if (pt_cmpR op_ge (pv 3) (pe_op op_pow pe_int pe_int) (nomark _))
  (pss_cons (ps_for PassesOwn.never rfl (pi_range1 (by rfl) M.range (pa_cons pe_int pa_nil)) (pg_name (i := 4) sc__law_draws.nd rfl (by first | exact Or.inl rfl | exact Or.inr rfl))
  (pss_cons (ps_if (pt_cmpR op_gt (pv 3) pe_int (nomark _))
  (pss_cons (ps_expr (pe_bm PySem.F.plainAttrs_list PySem.F.slot_list_append PySem.F.type_list_append mt_append (pv 1) (pa_cons (pe_op op_mod (pe_callTy call_int1 (by rfl) M.int (by decide +kernel) (pa_cons (pv 3) pa_nil)) pe_int) pa_nil)))
  (pss_cons (ps_set (i := 3) sc__law_draws.nd rfl (by first | exact Or.inl rfl | exact Or.inr rfl) (pe_op op_fdiv (pv 3) pe_int))
  pss_nil))
  pss_nil)
  pss_nil))
  pss_nil)
  (pss_cons (ps_set (i := 5) sc__law_draws.nd rfl (by first | exact Or.inl rfl | exact Or.inr rfl) (pe_op op_mod (pe_callTy call_int1 (by rfl) M.int (by decide +kernel) (pa_cons (pe_op op_addA (pe_op op_mulA (pv 3) pe_int) (pe_op op_mulA (pe_op op_addA (pv 2) pe_int) pe_int)) pa_nil)) pe_int))
  (pss_cons (ps_set (i := 5) sc__law_draws.nd rfl (by first | exact Or.inl rfl | exact Or.inr rfl) (pe_op op_mod (pe_callTy call_int1 (by rfl) M.int (by decide +kernel) (pa_cons (pe_op op_addA (pe_op op_addA (pe_op op_mulA (pv 5) pe_int) (pe_op op_mulA pe_int (pv 2))) pe_int) pa_nil)) pe_int))
  (pss_cons (ps_expr (pe_bm PySem.F.plainAttrs_list PySem.F.slot_list_append PySem.F.type_list_append mt_append (pv 1) (pa_cons (pe_op op_mod (pe_callTy call_int1 (by rfl) M.int (by decide +kernel) (pa_cons (pv 5) pa_nil)) pe_int) pa_nil)))
  (pss_cons (ps_expr (pe_bm PySem.F.plainAttrs_list PySem.F.slot_list_append PySem.F.type_list_append mt_append (pv 1) (pa_cons (pe_op op_mod (pe_callTy call_int1 (by rfl) M.int (by decide +kernel) (pa_cons (pe_op op_fdiv (pv 5) pe_int) pa_nil)) pe_int) pa_nil)))
  pss_nil)))))
  pss_nil)))
  (pss_cons (ps_ret (pv 1))
  pss_nil))),
  (SS.seq (SS.asgO (SF.lst SA.nil (by decide)))
  (SS.seq (SS.for_ (SI.r1 (SA.consB (SE.b (SE.cb cd_min (SA.consB (SE.b SE.int) (SA.consB (SE.b SE.lenScr) SA.nil)))) SA.nil)) SG.name
  (SS.seq (SS.asg (SE.cb cd_abs (SA.consB (SE.b (SE.ixScr SE.var)) SA.nil)) SG.name)
  (SS.seq (SS.ifs (ST.test (SE.b (SE.op od_ge SB.var (SE.b (SE.op od_pow (SE.b SE.int) (SE.b SE.int))))))
  (SS.seq (SS.for_ (SI.r1 (SA.consB (SE.b SE.int) SA.nil)) SG.name
  (SS.seq (SS.ifs (ST.test (SE.b (SE.op od_gt SB.var (SE.b SE.int))))
  (SS.seq (SS.app (SE.op od_mod (SE.b (SE.cb cd_int (SA.consB SB.var SA.nil))) (SE.b SE.int)))
  (SS.seq (SS.asg (SE.op od_div SB.var (SE.b SE.int)) SG.name)
  SS.next))
  SS.next)
  SS.next))
  SS.next)
  (SS.seq (SS.asg (SE.op od_mod (SE.b (SE.cb cd_int (SA.consB (SE.b (SE.op od_add (SE.b (SE.op od_mul SB.var (SE.b SE.int))) (SE.b (SE.op od_mul (SE.b (SE.op od_add SB.var (SE.b SE.int))) (SE.b SE.int))))) SA.nil))) (SE.b SE.int)) SG.name)
  (SS.seq (SS.asg (SE.op od_mod (SE.b (SE.cb cd_int (SA.consB (SE.b (SE.op od_add (SE.b (SE.op od_add (SE.b (SE.op od_mul SB.var (SE.b SE.int))) (SE.b (SE.op od_mul (SE.b SE.int) SB.var)))) (SE.b SE.int))) SA.nil))) (SE.b SE.int)) SG.name)
  (SS.seq (SS.app (SE.op od_mod (SE.b (SE.cb cd_int (SA.consB SB.var SA.nil))) (SE.b SE.int)))
  (SS.seq (SS.app (SE.op od_mod (SE.b (SE.cb cd_int (SA.consB (SE.b (SE.op od_div SB.var (SE.b SE.int))) SA.nil))) (SE.b SE.int)))
  SS.next)))))
  SS.next)))
  (SS.frz (i := 1) (SS.seq (SS.ret SE.var)
  SS.next))))⟩
theorem c__law_draws (M : Mg mg) (h : DefAt K mg "_law_draws" s__law_draws) {Fm : List Int → Option D} (hx : ∀ ns r, Fm ns = some r → Ret (x__law_draws (envS ns 6)) r) : Cal P w K mg base "_law_draws" 2 ["script"] (spS K Fm) :=
  Cal.mkS h sc__law_draws (fun _ _ _ _ _ _ us hl => match us, hl with | [_], _ => rfl) (by decide) hx (b__law_draws M )
abbrev s__law_mix : Stmt := tS 24
abbrev n__law_mix : List Str := [Str.ofString "draws", Str.ofString "k", Str.ofString "many", Str.ofString "cell"]
theorem sc__law_mix : FnScope n__law_mix ["draws", "k", "many"] (defScope s__law_mix) := ⟨rfl, rfl, rfl, by decide +kernel, rfl, by decide +kernel, by decide +kernel⟩
noncomputable def x__law_mix : XF := (xSeq (xAsg (eC (.int 0)) (gN 3))
  (xSeq (xIf (qB (e2 dGt (eCall dLen (aCons (bVar 0) aNil)) (eC (.int 0))))
  (xSeq (xAsg (e2 dAt (bVar 0) (e2 dMod (eCall dInt (aCons (bVar 1) aNil)) (eCall dLen (aCons (bVar 0) aNil)))) (gN 3))
  xNext)
  xNext)
  (xSeq (xIf (qB (e2 dLt (bVar 1) (eCall dLen (aCons (bVar 0) aNil))))
  (xSeq (xRet (e2 dMod (eCall dInt (aCons (bVar 3) aNil)) (bVar 2)))
  xNext)
  xNext)
  (xSeq (xRet (e2 dMod (eCall dInt (aCons (e2 dDiv (eCall dInt (aCons (e2 dAdd (e2 dMul (bVar 3) (eC (.int 7919))) (e2 dMul (bVar 1) (eC (.int 104729)))) aNil)) (eC (.int 3))) aNil)) (bVar 2)))
  xNext))))
theorem b__law_mix (M : Mg mg) (fa : Addr) (cdv : Value) (A : Around) (outer : List PySem.Env) (s : Shared) (H : Hp) (E : XK) (hr : Room 1 (A.deeper (envOfC "_law_mix" (defScope s__law_mix) s.heap.objs.size fa cdv))) :
    ∃ t, PSs (cxOf CX0 P w K mg base n__law_mix "_law_mix" (defScope s__law_mix) fa cdv A outer s H E).nox (defBody s__law_mix) t ∧ SS K x__law_mix t := ⟨_,
  (pss_cons (ps_set (i := 3) sc__law_mix.nd rfl (by first | exact Or.inl rfl | exact Or.inr rfl) pe_int)
  (pss_cons (ps_if (pt_cmpR op_gt (pe_callB call_len (by rfl) M.len PySem.boot_len (pa_cons (pv 0) pa_nil)) pe_int (nomark _))
  (pss_cons (ps_set (i := 3) sc__law_mix.nd rfl (by first | exact Or.inl rfl | exact Or.inr rfl) (pe_ix (ix_any (hu_of hr)) (pv 0) (pe_op op_mod (pe_callTy call_int1 (by rfl) M.int (by decide +kernel) (pa_cons (pv 1) pa_nil)) (pe_callB call_len (by rfl) M.len PySem.boot_len (pa_cons (pv 0) pa_nil))) (fun _ _ => rfl)))
  pss_nil)
  pss_nil)
  (pss_cons (ps_if (pt_cmpR op_lt (pv 1) (pe_callB call_len (by rfl) M.len PySem.boot_len (pa_cons (pv 0) pa_nil)) (nomark _))
  (pss_cons (ps_ret (pe_op op_mod (pe_callTy call_int1 (by rfl) M.int (by decide +kernel) (pa_cons (pv 3) pa_nil)) (pv 2)))
  pss_nil)
  pss_nil)
  (pss_cons (ps_ret (pe_op op_mod (pe_callTy call_int1 (by rfl) M.int (by decide +kernel) (pa_cons (pe_op op_fdiv (pe_callTy call_int1 (by rfl) M.int (by decide +kernel) (pa_cons (pe_op op_addA (pe_op op_mulA (pv 3) pe_int) (pe_op op_mulA (pv 1) pe_int)) pa_nil)) pe_int) pa_nil)) (pv 2)))
  pss_nil)))),
  (SS.seq (SS.asg SE.int SG.name)
  (SS.seq (SS.ifs (ST.test (SE.b (SE.op od_gt (SE.b (SE.cb cd_len (SA.consB SB.var SA.nil))) (SE.b SE.int))))
  (SS.seq (SS.asg (SE.op od_at SB.var (SE.b (SE.op od_mod (SE.b (SE.cb cd_int (SA.consB SB.var SA.nil))) (SE.b (SE.cb cd_len (SA.consB SB.var SA.nil)))))) SG.name)
  SS.next)
  SS.next)
  (SS.seq (SS.ifs (ST.test (SE.b (SE.op od_lt SB.var (SE.b (SE.cb cd_len (SA.consB SB.var SA.nil))))))
  (SS.seq (SS.ret (SE.op od_mod (SE.b (SE.cb cd_int (SA.consB SB.var SA.nil))) SB.var))
  SS.next)
  SS.next)
  (SS.seq (SS.ret (SE.op od_mod (SE.b (SE.cb cd_int (SA.consB (SE.b (SE.op od_div (SE.b (SE.cb cd_int (SA.consB (SE.b (SE.op od_add (SE.b (SE.op od_mul SB.var (SE.b SE.int))) (SE.b (SE.op od_mul SB.var (SE.b SE.int))))) SA.nil))) (SE.b SE.int))) SA.nil))) SB.var))
  SS.next))))⟩
theorem c__law_mix (M : Mg mg) (h : DefAt K mg "_law_mix" s__law_mix) {Fm : List D → Option D} (hx : ∀ ds r, Fm ds = some r → Ret (x__law_mix (env0 [false, false, false] ds 4)) r) : Cal P w K mg base "_law_mix" 2 ["draws", "k", "many"] (spD K [false, false, false] Fm) :=
  Cal.mk' h sc__law_mix (fun _ _ _ _ _ _ us hl => match us, hl with | [_, _, _], _ => rfl) (by decide) (by decide) hx (b__law_mix M )
abbrev s__law_rows : Stmt := tS 25
abbrev n__law_rows : List Str := [Str.ofString "draws", Str.ofString "k", Str.ofString "base", Str.ofString "found", Str.ofString "turn", Str.ofString "t"]
theorem sc__law_rows : FnScope n__law_rows ["draws", "k"] (defScope s__law_rows) := ⟨rfl, rfl, rfl, by decide +kernel, rfl, by decide +kernel, by decide +kernel⟩
noncomputable def x__law_rows : XF := (xSeq (xAsg (eLst (aCons (eC (.str "0110")) (aCons (eC (.str "1")) (aCons (eC (.str "01")) (aCons (eC (.str "0")) aNil))))) (gN 2))
  (xSeq (xAsg (eComp (iR1 (aCons (e2 dAdd (eC (.int 1)) (eCall F__law_mix (aCons (eVar 0) (aCons (eVar 1) (aCons (eC (.int 3)) aNil))))) aNil)) (gN 5) (fun _ => some true) (e2 dAt (bVar 2) (eCall F__law_mix (aCons (eVar 0) (aCons (e2 dAdd (e2 dAdd (bVar 1) (eC (.int 2))) (bVar 5)) (aCons (eC (.int 3)) aNil))))) [5]) (gN 3))
  (xSeq (xFor [4] (iR1 (aCons (eCall F__law_mix (aCons (eVar 0) (aCons (e2 dAdd (bVar 1) (eC (.int 1))) (aCons (eC (.int 3)) aNil)))) aNil)) (gN 4)
  (xSeq (xAsg (e2 dAt (eLst (aCons (e2 dMul (bVar 3) (eC (.int 2))) (aCons (e2 dAdd (bVar 3) (eSl (bVar 3) oNo (oSo (eC (.int 1))))) (aCons (e2 dAdd (bVar 3) (eLst (aCons (e2 dAt (bVar 2) (eCall F__law_mix (aCons (eVar 0) (aCons (e2 dAdd (e2 dAdd (bVar 1) (eC (.int 9))) (bVar 4)) (aCons (eC (.int 4)) aNil))))) aNil))) aNil)))) (eCall F__law_mix (aCons (eVar 0) (aCons (e2 dAdd (e2 dAdd (bVar 1) (eC (.int 6))) (bVar 4)) (aCons (eC (.int 3)) aNil))))) (gN 3))
  xNext))
  (xSeq (xRet (eSl (bVar 3) oNo (oSo (eC (.int 8)))))
  xNext))))
theorem b__law_rows (M : Mg mg) (H__law_mix : Cal P w K mg base "_law_mix" 2 ["draws", "k", "many"] (spD K [false, false, false] F__law_mix)) (fa : Addr) (cdv : Value) (A : Around) (outer : List PySem.Env) (s : Shared) (H : Hp) (E : XK) (hr : Room 2 (A.deeper (envOfC "_law_rows" (defScope s__law_rows) s.heap.objs.size fa cdv))) :
    ∃ t, PSs (cxOf CX0 P w K mg base n__law_rows "_law_rows" (defScope s__law_rows) fa cdv A outer s H E).nox (defBody s__law_rows) t ∧ SS K x__law_rows t := ⟨_,
  (pss_cons (ps_set (i := 2) sc__law_rows.nd rfl (by first | exact Or.inl rfl | exact Or.inr rfl) (pe_lst (pa_cons pe_str (pa_cons pe_str (pa_cons pe_str (pa_cons pe_str pa_nil))))))
  (pss_cons (ps_setLc (i := 3) rfl sc__law_rows.nd rfl rfl (sw_true rfl rfl rfl (by decide +kernel)) (pi_range1 (by rfl) M.range (pa_cons (pe_op op_addA pe_int (pe_callC H__law_mix hr (by decide) (by rfl) (pa_cons (pv 0) (pa_cons (pv 1) (pa_cons pe_int pa_nil))))) pa_nil)) (blkOk_by (N := n__law_rows) (sc := defScope s__law_rows) (own := [("t", 5)]) (by decide +kernel)) (fun _ _ _ _ _ => (pg_name (i := 5) sc__law_rows.nd rfl (by first | exact Or.inl rfl | exact Or.inr rfl))) (fun _ _ _ _ _ => pts_nil) (fun _ _ _ _ _ => (pe_ix (ix_any (hu_of hr)) (pv 2) (pe_callC H__law_mix hr (by decide) (by rfl) (pa_cons (pv 0) (pa_cons (pe_op op_addA (pe_op op_addA (pv 1) pe_int) (pv 5)) (pa_cons pe_int pa_nil)))) (fun _ _ => rfl))))
  (pss_cons (ps_for PassesOwn.never rfl (pi_range1 (by rfl) M.range (pa_cons (pe_callC H__law_mix hr (by decide) (by rfl) (pa_cons (pv 0) (pa_cons (pe_op op_addA (pv 1) pe_int) (pa_cons pe_int pa_nil)))) pa_nil)) (pg_name (i := 4) sc__law_rows.nd rfl (by first | exact Or.inl rfl | exact Or.inr rfl))
  (pss_cons (ps_set (i := 3) sc__law_rows.nd rfl (by first | exact Or.inl rfl | exact Or.inr rfl) (pe_ix (ix_any (hu_of hr)) (pe_lst (pa_cons (pe_op op_mulA (pv 3) pe_int) (pa_cons (pe_op op_addA (pv 3) (pe_slice sl_any (pv 3) po_none (po_some pe_int))) (pa_cons (pe_op op_addA (pv 3) (pe_lst (pa_cons (pe_ix (ix_any (hu_of hr)) (pv 2) (pe_callC H__law_mix hr (by decide) (by rfl) (pa_cons (pv 0) (pa_cons (pe_op op_addA (pe_op op_addA (pv 1) pe_int) (pv 4)) (pa_cons pe_int pa_nil)))) (fun _ _ => rfl)) pa_nil))) pa_nil)))) (pe_callC H__law_mix hr (by decide) (by rfl) (pa_cons (pv 0) (pa_cons (pe_op op_addA (pe_op op_addA (pv 1) pe_int) (pv 4)) (pa_cons pe_int pa_nil)))) (fun _ _ => rfl)))
  pss_nil))
  (pss_cons (ps_ret (pe_slice sl_any (pv 3) po_none (po_some pe_int)))
  pss_nil)))),
  (SS.seq (SS.asg (SF.e (SF.lst (SA.cons SE.str (SA.cons SE.str (SA.cons SE.str (SA.cons SE.str SA.nil)))) (by decide))) SG.name)
  (SS.seq (SS.asg (SF.e (SF.comp (SI.b (SI.r1 (SA.consB (SE.b (SE.op od_add (SE.b SE.int) (SE.b (SE.call (SA.cons SE.var (SA.cons SE.var (SA.cons SE.int SA.nil))))))) SA.nil))) SG.name ST.yes (SE.op od_at SB.var (SE.b (SE.call (SA.cons SE.var (SA.cons (SE.op od_add (SE.b (SE.op od_add SB.var (SE.b SE.int))) SB.var) (SA.cons SE.int SA.nil)))))) (by decide))) SG.name)
  (SS.seq (SS.for_ (SI.r1 (SA.consB (SE.b (SE.call (SA.cons SE.var (SA.cons (SE.op od_add SB.var (SE.b SE.int)) (SA.cons SE.int SA.nil))))) SA.nil)) SG.name
  (SS.seq (SS.asg (SE.op od_at (SE.b (SF.e (SF.lst (SA.cons (SE.op od_mul SB.var (SE.b SE.int)) (SA.cons (SE.op od_add SB.var (SE.b (SE.sl SB.var SO.no (SO.so (SE.b SE.int))))) (SA.cons (SE.op od_add SB.var (SE.b (SF.e (SF.lst (SA.cons (SE.op od_at SB.var (SE.b (SE.call (SA.cons SE.var (SA.cons (SE.op od_add (SE.b (SE.op od_add SB.var (SE.b SE.int))) SB.var) (SA.cons SE.int SA.nil)))))) SA.nil) (by decide))))) SA.nil))) (by decide)))) (SE.b (SE.call (SA.cons SE.var (SA.cons (SE.op od_add (SE.b (SE.op od_add SB.var (SE.b SE.int))) SB.var) (SA.cons SE.int SA.nil)))))) SG.name)
  SS.next))
  (SS.seq (SS.ret (SE.sl SB.var SO.no (SO.so (SE.b SE.int))))
  SS.next))))⟩
theorem c__law_rows (M : Mg mg) (H__law_mix : Cal P w K mg base "_law_mix" 2 ["draws", "k", "many"] (spD K [false, false, false] F__law_mix)) (h : DefAt K mg "_law_rows" s__law_rows) {Fm : List D → Option D} (hx : ∀ ds r, Fm ds = some r → Ret (x__law_rows (env0 [false, false] ds 6)) r) : Cal P w K mg base "_law_rows" 3 ["draws", "k"] (spD K [false, false] Fm) :=
  Cal.mk' h sc__law_rows (fun _ _ _ _ _ _ us hl => match us, hl with | [_, _], _ => rfl) (by decide) (by decide) hx (b__law_rows M H__law_mix)
abbrev s__law_exchanged : Stmt := tS 26
abbrev n__law_exchanged : List Str := [Str.ofString "row", Str.ofString "sign"]
theorem sc__law_exchanged : FnScope n__law_exchanged ["row"] (defScope s__law_exchanged) := ⟨rfl, rfl, rfl, by decide +kernel, rfl, by decide +kernel, by decide +kernel⟩
noncomputable def x__law_exchanged : XF := (xSeq (xRet (e2 dJoin (eC (.str "")) (eComp (iSt (bVar 0)) (gN 1) (fun _ => some true) (e2 dAt (eC (.str "10")) (e2 dSIx (eC (.str "01")) (bVar 1))) [1])))
  xNext)
theorem b__law_exchanged (M : Mg mg) (fa : Addr) (cdv : Value) (A : Around) (outer : List PySem.Env) (s : Shared) (H : Hp) (E : XK) (hr : Room 1 (A.deeper (envOfC "_law_exchanged" (defScope s__law_exchanged) s.heap.objs.size fa cdv))) :
    ∃ t, PSs (cxOf CX0 P w K mg base n__law_exchanged "_law_exchanged" (defScope s__law_exchanged) fa cdv A outer s H E).nox (defBody s__law_exchanged) t ∧ SS K x__law_exchanged t := ⟨_,
  (pss_cons (ps_ret (pe_join pe_str (pe_lc rfl sc__law_exchanged.nd (pi_str (pv 0)) (blkOk_by (N := n__law_exchanged) (sc := defScope s__law_exchanged) (own := [("sign", 1)]) (by decide +kernel)) (fun _ _ _ _ _ => (pg_name (i := 1) sc__law_exchanged.nd rfl (by first | exact Or.inl rfl | exact Or.inr rfl))) (fun _ _ _ _ _ => pts_nil) (fun _ _ _ _ _ => (pe_ix (ix_any (hu_of hr)) pe_str (pe_m1 PySem.F.slot_str_index PySem.F.type_str_index mt_sindex pe_str (pv 1)) (fun _ _ => rfl))))))
  pss_nil),
  (SS.seq (SS.ret (SE.join (SE.b SE.str) (SE.b (SF.e (SF.comp (SI.b (SI.str SB.var)) SG.name ST.yes (SE.op od_at (SE.b SE.str) (SE.b (SE.sindex (SE.b SE.str) SB.var))) (by decide))))))
  SS.next)⟩
theorem c__law_exchanged (M : Mg mg) (h : DefAt K mg "_law_exchanged" s__law_exchanged) {Fm : List D → Option D} (hx : ∀ ds r, Fm ds = some r → Ret (x__law_exchanged (env0 [false] ds 2)) r) : Cal P w K mg base "_law_exchanged" 2 ["row"] (spD K [false] Fm) :=
  Cal.mk' h sc__law_exchanged (fun _ _ _ _ _ _ us hl => match us, hl with | [_], _ => rfl) (by decide) (by decide) hx (b__law_exchanged M )
abbrev s__law_sum : Stmt := tS 27
abbrev n__law_sum : List Str := [Str.ofString "script", Str.ofString "found", Str.ofString "line"]
theorem sc__law_sum : FnScope n__law_sum ["script"] (defScope s__law_sum) := ⟨rfl, rfl, rfl, by decide +kernel, rfl, by decide +kernel, by decide +kernel⟩
noncomputable def x__law_sum : XF := (xSeq (xAsgO 1 (eLst aNil))
  (xSeq (xFor [2] (iSq (eVar 0)) (gN 2)
  (xSeq (xApp 1 (eCall F_written (aCons (eLst (aCons (eVar 2) aNil)) aNil)))
  xNext))
  (xFrz 1 (xSeq (xRet (eVar 1))
  xNext))))
theorem b__law_sum (M : Mg mg) (H_written : Cal P w K mg base "written" 9 ["script"] (spD K [false] F_written)) (fa : Addr) (cdv : Value) (A : Around) (outer : List PySem.Env) (s : Shared) (H : Hp) (E : XK) (hr : Room 9 (A.deeper (envOfC "_law_sum" (defScope s__law_sum) s.heap.objs.size fa cdv))) :
    ∃ t, PSs (cxOf CX0 P w K mg base n__law_sum "_law_sum" (defScope s__law_sum) fa cdv A outer s H E).nox (defBody s__law_sum) t ∧ SS K x__law_sum t := ⟨_,
  (pss_cons (ps_set (i := 1) sc__law_sum.nd rfl (by first | exact Or.inl rfl | exact Or.inr rfl) (pe_lst pa_nil))
  (pss_cons (ps_for PassesOwn.never rfl (pi_seq (pv 0)) (pg_name (i := 2) sc__law_sum.nd rfl (by first | exact Or.inl rfl | exact Or.inr rfl))
  (pss_cons (ps_expr (pe_bm PySem.F.plainAttrs_list PySem.F.slot_list_append PySem.F.type_list_append mt_append (pv 1) (pa_cons (pe_callC H_written hr (by decide) (by rfl) (pa_cons (pe_lst (pa_cons (pv 2) pa_nil)) pa_nil)) pa_nil)))
  pss_nil))
  (pss_cons (ps_ret (pv 1))
  pss_nil))),
  (SS.seq (SS.asgO (SF.lst SA.nil (by decide)))
  (SS.seq (SS.for_ (SI.seq SE.var) SG.name
  (SS.seq (SS.app (SE.call (SA.cons (SF.e (SF.lst (SA.cons SE.var SA.nil) (by decide))) SA.nil)))
  SS.next))
  (SS.frz (i := 1) (SS.seq (SS.ret SE.var)
  SS.next))))⟩
theorem c__law_sum (M : Mg mg) (H_written : Cal P w K mg base "written" 9 ["script"] (spD K [false] F_written)) (h : DefAt K mg "_law_sum" s__law_sum) {Fm : List D → Option D} (hx : ∀ ds r, Fm ds = some r → Ret (x__law_sum (env0 [false] ds 3)) r) : Cal P w K mg base "_law_sum" 10 ["script"] (spD K [false] Fm) :=
  Cal.mk' h sc__law_sum (fun _ _ _ _ _ _ us hl => match us, hl with | [_], _ => rfl) (by decide) (by decide) hx (b__law_sum M H_written)
abbrev s_law : Stmt := tS 28
abbrev n_law : List Str := [Str.ofString "script", Str.ofString "draws", Str.ofString "turn", Str.ofString "both", Str.ofString "names", Str.ofString "told", Str.ofString "many", Str.ofString "rows", Str.ofString "whole", Str.ofString "part", Str.ofString "spot", Str.ofString "single", Str.ofString "one", Str.ofString "two", Str.ofString "first", Str.ofString "second", Str.ofString "left", Str.ofString "k", Str.ofString "row", Str.ofString "line"]
theorem sc_law : FnScope n_law ["script"] (defScope s_law) := ⟨rfl, rfl, rfl, by decide +kernel, rfl, by decide +kernel, by decide +kernel⟩
noncomputable def x_law : XF := (xSeq (xAsg (eScr 0 F__law_draws) (gN 1))
  (xSeq (xFor [2, 3, 4, 5, 6, 7, 8, 9, 10, 11, 12, 13, 14, 15, 16, 17, 18, 19] (iR1 (aCons (eC (.int 3)) aNil)) (gN 2)
  (xSeq (xAsg (eTup (aCons (eCall F__law_rows (aCons (eVar 1) (aCons (e2 dAdd (eC (.int 10)) (e2 dMul (eC (.int 40)) (bVar 2))) aNil))) (aCons (eCall F__law_rows (aCons (eVar 1) (aCons (e2 dAdd (eC (.int 30)) (e2 dMul (eC (.int 40)) (bVar 2))) aNil))) aNil))) (gT (gsCons (gN 12) (gsCons (gN 13) gsNil))))
  (xSeq (xPar 14 15 (aCons (eCall F_length (aCons (eCall F_least_script (aCons (eVar 12) aNil)) aNil)) (aCons (eCall F_length (aCons (eCall F_least_script (aCons (eVar 13) aNil)) aNil)) aNil)))
  (xSeq (xAsg (eCall F_length (aCons (eCall F_least_script (aCons (e2 dAdd (bVar 12) (bVar 13)) aNil)) aNil)) (gN 3))
  (xSeq (xIf (qB (e2 dGt (bVar 3) (e2 dAdd (bVar 14) (bVar 15))))
  (xSeq (xRet (eC (.bl false)))
  xNext)
  xNext)
  (xSeq (xIf (qB (e2 dNeY (eCall F_length (aCons (eCall F_least_script (aCons (eComp (iSq (eVar 12)) (gN 18) (fun _ => some true) (eCall F__law_exchanged (aCons (eVar 18) aNil)) [18]) aNil)) aNil)) (bVar 14)))
  (xSeq (xRet (eC (.bl false)))
  xNext)
  xNext)
  (xSeq (xAsg (eDictP (eLst (aCons (eTup (aCons (eC (.str "0110")) (aCons (eC (.str "00")) aNil))) (aCons (eTup (aCons (eC (.str "1")) (aCons (eC (.str "111")) aNil))) (aCons (eTup (aCons (eC (.str "01")) (aCons (eC (.str "10")) aNil))) (aCons (eTup (aCons (eC (.str "0")) (aCons (eC (.str "1")) aNil))) aNil)))))) (gN 4))
  (xSeq (xIf (qB (e2 dNeY (eCall F_length (aCons (eCall F_least_script (aCons (eComp (iSq (eVar 12)) (gN 18) (fun _ => some true) (e2 dAt (bVar 4) (bVar 18)) [18]) aNil)) aNil)) (bVar 14)))
  (xSeq (xRet (eC (.bl false)))
  xNext)
  xNext)
  (xSeq (xIf (qOr (qB (e2 dGt (eCall F_length (aCons (eCall F_least_script (aCons (e2 dMul (bVar 12) (eC (.int 2))) aNil)) aNil)) (e2 dAdd (bVar 14) (eC (.int 1))))) (qAnd (qB (e2 dLe (eCall dLen (aCons (e2 dAdd (bVar 12) (bVar 13)) aNil)) (eC (.int 8)))) (qB (e2 dGt (eCall F_length (aCons (eCall F_least_script (aCons (e2 dMul (e2 dAdd (bVar 12) (bVar 13)) (eC (.int 2))) aNil)) aNil)) (e2 dAdd (bVar 3) (eC (.int 1)))))))
  (xSeq (xRet (eC (.bl false)))
  xNext)
  xNext)
  (xSeq (xAsg (eCall F_least_script (aCons (eVar 12) aNil)) (gN 5))
  (xSeq (xAsg (e2 dAdd (eC (.int 2)) (eCall F__law_mix (aCons (eVar 1) (aCons (e2 dAdd (eC (.int 140)) (bVar 2)) (aCons (eC (.int 3)) aNil))))) (gN 6))
  (xSeq (xIf (qOr (qB (e2 dNeY (eCall F_written (aCons (eLst (aCons (eTup (aCons (eC (.str "repeat")) (aCons (eVar 6) (aCons (eVar 5) aNil)))) aNil)) aNil)) (e2 dMul (bVar 12) (bVar 6)))) (qB (e2 dNeY (eCall F_length (aCons (eLst (aCons (eTup (aCons (eC (.str "repeat")) (aCons (eVar 6) (aCons (eVar 5) aNil)))) aNil)) aNil)) (e2 dAdd (eC (.int 1)) (bVar 14)))))
  (xSeq (xRet (eC (.bl false)))
  xNext)
  xNext)
  (xSeq (xAsg (eCall F__law_sum (aCons (eVar 5) aNil)) (gN 7))
  (xSeq (xAsg (eLst aNil) (gN 8))
  (xSeq (xFor [9] (iSq (eVar 7)) (gN 9)
  (xSeq (xAsg (e2 dAdd (bVar 8) (bVar 9)) (gN 8))
  xNext))
  (xSeq (xIf (qOr (qB (e2 dNeY (bVar 8) (bVar 12))) (qB (e2 dNeY (eCall dSum (aCons (eComp (iSq (eVar 5)) (gN 19) (fun _ => some true) (eCall F_length (aCons (eLst (aCons (eVar 19) aNil)) aNil)) [19]) aNil)) (bVar 14))))
  (xSeq (xRet (eC (.bl false)))
  xNext)
  xNext)
  (xSeq (xAsg (eCall F__law_mix (aCons (eVar 1) (aCons (e2 dAdd (eC (.int 150)) (bVar 2)) (aCons (eCall dLen (aCons (bVar 5) aNil)) aNil)))) (gN 10))
  (xSeq (xIf (qB (e2 dGt (eCall dLen (aCons (bVar 5) aNil)) (eC (.int 1))))
  (xSeq (xAsg (eLst aNil) (gN 16))
  (xSeq (xFor [17] (iR1 (aCons (eCall dLen (aCons (bVar 5) aNil)) aNil)) (gN 17)
  (xSeq (xIf (qB (e2 dNeY (bVar 17) (bVar 10)))
  (xSeq (xAsg (e2 dAdd (bVar 16) (e2 dAt (bVar 7) (bVar 17))) (gN 16))
  xNext)
  xNext)
  xNext))
  (xSeq (xIf (qOr (qB (e2 dNeY (eCall F_written (aCons (e2 dAdd (eSl (bVar 5) oNo (oSo (bVar 10))) (eSl (bVar 5) (oSo (e2 dAdd (bVar 10) (eC (.int 1)))) oNo)) aNil)) (bVar 16))) (qB (e2 dGt (eCall F_length (aCons (eCall F_least_script (aCons (eVar 16) aNil)) aNil)) (e2 dSub (bVar 14) (eCall F_length (aCons (eLst (aCons (e2 dAt (bVar 5) (bVar 10)) aNil)) aNil))))))
  (xSeq (xRet (eC (.bl false)))
  xNext)
  xNext)
  xNext)))
  xNext)
  (xSeq (xAsg (eComp (iEn (aCons (eVar 12) aNil)) (gT (gsCons (gN 17) (gsCons (gN 18) gsNil))) (qOr (qB (e2 dEqY (bVar 17) (eC (.int 0)))) (qB (e2 dNeY (bVar 18) (e2 dAt (bVar 12) (e2 dSub (bVar 17) (eC (.int 1))))))) (eVar 18) [17, 18]) (gN 11))
  (xSeq (xIf (qOr (qAnd (qB (e2 dEqY (eLenSet (bVar 12)) (eCall dLen (aCons (bVar 12) aNil)))) (qB (e2 dNeY (bVar 14) (eCall dLen (aCons (bVar 12) aNil))))) (qAnd (qB (e2 dEqY (eCall dLen (aCons (bVar 11) aNil)) (eC (.int 1)))) (qB (e2 dGt (bVar 14) (eC (.int 2))))))
  (xSeq (xRet (eC (.bl false)))
  xNext)
  xNext)
  xNext))))))))))))))))))))
  (xSeq (xRet (eC (.bl true)))
  xNext)))
theorem b_law (M : Mg mg) (H__law_draws : Cal P w K mg base "_law_draws" 2 ["script"] (spS K F__law_draws)) (H__law_rows : Cal P w K mg base "_law_rows" 3 ["draws", "k"] (spD K [false, false] F__law_rows)) (H_least_script : Cal P w K mg base "least_script" 9 ["rows"] (spD K [false] F_least_script)) (H_length : Cal P w K mg base "length" 9 ["script"] (spD K [false] F_length)) (H__law_exchanged : Cal P w K mg base "_law_exchanged" 2 ["row"] (spD K [false] F__law_exchanged)) (H__law_mix : Cal P w K mg base "_law_mix" 2 ["draws", "k", "many"] (spD K [false, false, false] F__law_mix)) (H_written : Cal P w K mg base "written" 9 ["script"] (spD K [false] F_written)) (H__law_sum : Cal P w K mg base "_law_sum" 10 ["script"] (spD K [false] F__law_sum)) (fa : Addr) (cdv : Value) (A : Around) (outer : List PySem.Env) (s : Shared) (H : Hp) (E : XK) (hr : Room 10 (A.deeper (envOfC "law" (defScope s_law) s.heap.objs.size fa cdv))) :
    ∃ t, PSs (cxOf CX0 P w K mg base n_law "law" (defScope s_law) fa cdv A outer s H E).nox (defBody s_law) t ∧ SS K x_law t := ⟨_,
  (pss_cons (ps_set (i := 1) sc_law.nd rfl (by first | exact Or.inl rfl | exact Or.inr rfl) (pe_callC H__law_draws hr (by decide) (by rfl) (pa_cons (pv 0) pa_nil)))
  (pss_cons (ps_for PassesOwn.never rfl (pi_range1 (by rfl) M.range (pa_cons pe_int pa_nil)) (pg_name (i := 2) sc_law.nd rfl (by first | exact Or.inl rfl | exact Or.inr rfl))
  (pss_cons (ps_asg (pe_tup (pa_cons (pe_callC H__law_rows hr (by decide) (by rfl) (pa_cons (pv 1) (pa_cons (pe_op op_addA pe_int (pe_op op_mulA pe_int (pv 2))) pa_nil))) (pa_cons (pe_callC H__law_rows hr (by decide) (by rfl) (pa_cons (pv 1) (pa_cons (pe_op op_addA pe_int (pe_op op_mulA pe_int (pv 2))) pa_nil))) pa_nil))) (pg_tup rfl (pgs_cons (pg_name (i := 12) sc_law.nd rfl (by first | exact Or.inl rfl | exact Or.inr rfl)) (pgs_cons (pg_name (i := 13) sc_law.nd rfl (by first | exact Or.inl rfl | exact Or.inr rfl)) pgs_nil))))
  (pss_cons (ps_par (i := 14) (j := 15) (by rfl) sc_law.nd rfl rfl (by decide) rfl rfl (pa_cons (pe_callC H_length hr (by decide) (by rfl) (pa_cons (pe_callC H_least_script hr (by decide) (by rfl) (pa_cons (pv 12) pa_nil)) pa_nil)) (pa_cons (pe_callC H_length hr (by decide) (by rfl) (pa_cons (pe_callC H_least_script hr (by decide) (by rfl) (pa_cons (pv 13) pa_nil)) pa_nil)) pa_nil)) (by rfl))
  (pss_cons (ps_set (i := 3) sc_law.nd rfl (by first | exact Or.inl rfl | exact Or.inr rfl) (pe_callC H_length hr (by decide) (by rfl) (pa_cons (pe_callC H_least_script hr (by decide) (by rfl) (pa_cons (pe_op op_addA (pv 12) (pv 13)) pa_nil)) pa_nil)))
  (pss_cons (ps_if (pt_cmpR op_gt (pv 3) (pe_op op_addA (pv 14) (pv 15)) (nomark _))
  (pss_cons (ps_ret pe_bl)
  pss_nil)
  pss_nil)
  (pss_cons (ps_if (pt_cmpR (op_neY hr.units) (pe_callC H_length hr (by decide) (by rfl) (pa_cons (pe_callC H_least_script hr (by decide) (by rfl) (pa_cons (pe_lc rfl sc_law.nd (pi_seq (pv 12)) (blkOk_by (N := n_law) (sc := defScope s_law) (own := [("row", 18)]) (by decide +kernel)) (fun _ _ _ _ _ => (pg_name (i := 18) sc_law.nd rfl (by first | exact Or.inl rfl | exact Or.inr rfl))) (fun _ _ _ _ _ => pts_nil) (fun _ _ _ _ _ => (pe_callC H__law_exchanged hr (by decide) (by rfl) (pa_cons (pv 18) pa_nil)))) pa_nil)) pa_nil)) (pv 14) (nomark _))
  (pss_cons (ps_ret pe_bl)
  pss_nil)
  pss_nil)
  (pss_cons (ps_set (i := 4) sc_law.nd rfl (by first | exact Or.inl rfl | exact Or.inr rfl) (pe_callTy (call_dictP rfl) (by rfl) M.dict (by decide +kernel) (pa_cons (pe_lst (pa_cons (pe_tup (pa_cons pe_str (pa_cons pe_str pa_nil))) (pa_cons (pe_tup (pa_cons pe_str (pa_cons pe_str pa_nil))) (pa_cons (pe_tup (pa_cons pe_str (pa_cons pe_str pa_nil))) (pa_cons (pe_tup (pa_cons pe_str (pa_cons pe_str pa_nil))) pa_nil))))) pa_nil)))
  (pss_cons (ps_if (pt_cmpR (op_neY hr.units) (pe_callC H_length hr (by decide) (by rfl) (pa_cons (pe_callC H_least_script hr (by decide) (by rfl) (pa_cons (pe_lc rfl sc_law.nd (pi_seq (pv 12)) (blkOk_by (N := n_law) (sc := defScope s_law) (own := [("row", 18)]) (by decide +kernel)) (fun _ _ _ _ _ => (pg_name (i := 18) sc_law.nd rfl (by first | exact Or.inl rfl | exact Or.inr rfl))) (fun _ _ _ _ _ => pts_nil) (fun _ _ _ _ _ => (pe_ix (ix_any (hu_of hr)) (pv 4) (pv 18) (fun _ _ => rfl)))) pa_nil)) pa_nil)) (pv 14) (nomark _))
  (pss_cons (ps_ret pe_bl)
  pss_nil)
  pss_nil)
  (pss_cons (ps_if (PW.pt (pw_or (pt_cmpR op_gt (pe_callC H_length hr (by decide) (by rfl) (pa_cons (pe_callC H_least_script hr (by decide) (by rfl) (pa_cons (pe_op op_mulA (pv 12) pe_int) pa_nil)) pa_nil)) (pe_op op_addA (pv 14) pe_int) (nomark _)) (pw_or1 (PW.pt (pw_and (pt_cmpR op_le (pe_callB call_len (by rfl) M.len PySem.boot_len (pa_cons (pe_op op_addA (pv 12) (pv 13)) pa_nil)) pe_int (nomark _)) (pw_and1 (pt_cmpR op_gt (pe_callC H_length hr (by decide) (by rfl) (pa_cons (pe_callC H_least_script hr (by decide) (by rfl) (pa_cons (pe_op op_mulA (pe_op op_addA (pv 12) (pv 13)) pe_int) pa_nil)) pa_nil)) (pe_op op_addA (pv 3) pe_int) (nomark _))))))))
  (pss_cons (ps_ret pe_bl)
  pss_nil)
  pss_nil)
  (pss_cons (ps_set (i := 5) sc_law.nd rfl (by first | exact Or.inl rfl | exact Or.inr rfl) (pe_callC H_least_script hr (by decide) (by rfl) (pa_cons (pv 12) pa_nil)))
  (pss_cons (ps_set (i := 6) sc_law.nd rfl (by first | exact Or.inl rfl | exact Or.inr rfl) (pe_op op_addA pe_int (pe_callC H__law_mix hr (by decide) (by rfl) (pa_cons (pv 1) (pa_cons (pe_op op_addA pe_int (pv 2)) (pa_cons pe_int pa_nil))))))
  (pss_cons (ps_if (PW.pt (pw_or (pt_cmpR (op_neY hr.units) (pe_callC H_written hr (by decide) (by rfl) (pa_cons (pe_lst (pa_cons (pe_tup (pa_cons pe_str (pa_cons (pv 6) (pa_cons (pv 5) pa_nil)))) pa_nil)) pa_nil)) (pe_op op_mulA (pv 12) (pv 6)) (nomark _)) (pw_or1 (pt_cmpR (op_neY hr.units) (pe_callC H_length hr (by decide) (by rfl) (pa_cons (pe_lst (pa_cons (pe_tup (pa_cons pe_str (pa_cons (pv 6) (pa_cons (pv 5) pa_nil)))) pa_nil)) pa_nil)) (pe_op op_addA pe_int (pv 14)) (nomark _)))))
  (pss_cons (ps_ret pe_bl)
  pss_nil)
  pss_nil)
  (pss_cons (ps_set (i := 7) sc_law.nd rfl (by first | exact Or.inl rfl | exact Or.inr rfl) (pe_callC H__law_sum hr (by decide) (by rfl) (pa_cons (pv 5) pa_nil)))
  (pss_cons (ps_set (i := 8) sc_law.nd rfl (by first | exact Or.inl rfl | exact Or.inr rfl) (pe_lst pa_nil))
  (pss_cons (ps_for PassesOwn.never rfl (pi_seq (pv 7)) (pg_name (i := 9) sc_law.nd rfl (by first | exact Or.inl rfl | exact Or.inr rfl))
  (pss_cons (ps_set (i := 8) sc_law.nd rfl (by first | exact Or.inl rfl | exact Or.inr rfl) (pe_op op_addA (pv 8) (pv 9)))
  pss_nil))
  (pss_cons (ps_if (PW.pt (pw_or (pt_cmpR (op_neY hr.units) (pv 8) (pv 12) (nomark _)) (pw_or1 (pt_cmpR (op_neY hr.units) (pe_callB (cr_sum rfl) (by rfl) M.sum (by decide +kernel) (pa_cons (pe_lc rfl sc_law.nd (pi_seq (pv 5)) (blkOk_by (N := n_law) (sc := defScope s_law) (own := [("line", 19)]) (by decide +kernel)) (fun _ _ _ _ _ => (pg_name (i := 19) sc_law.nd rfl (by first | exact Or.inl rfl | exact Or.inr rfl))) (fun _ _ _ _ _ => pts_nil) (fun _ _ _ _ _ => (pe_callC H_length hr (by decide) (by rfl) (pa_cons (pe_lst (pa_cons (pv 19) pa_nil)) pa_nil)))) pa_nil)) (pv 14) (nomark _)))))
  (pss_cons (ps_ret pe_bl)
  pss_nil)
  pss_nil)
  (pss_cons (ps_set (i := 10) sc_law.nd rfl (by first | exact Or.inl rfl | exact Or.inr rfl) (pe_callC H__law_mix hr (by decide) (by rfl) (pa_cons (pv 1) (pa_cons (pe_op op_addA pe_int (pv 2)) (pa_cons (pe_callB call_len (by rfl) M.len PySem.boot_len (pa_cons (pv 5) pa_nil)) pa_nil)))))
  (pss_cons (ps_if (pt_cmpR op_gt (pe_callB call_len (by rfl) M.len PySem.boot_len (pa_cons (pv 5) pa_nil)) pe_int (nomark _))
  (pss_cons (ps_set (i := 16) sc_law.nd rfl (by first | exact Or.inl rfl | exact Or.inr rfl) (pe_lst pa_nil))
  (pss_cons (ps_for PassesOwn.never rfl (pi_range1 (by rfl) M.range (pa_cons (pe_callB call_len (by rfl) M.len PySem.boot_len (pa_cons (pv 5) pa_nil)) pa_nil)) (pg_name (i := 17) sc_law.nd rfl (by first | exact Or.inl rfl | exact Or.inr rfl))
  (pss_cons (ps_if (pt_cmpR (op_neY hr.units) (pv 17) (pv 10) (nomark _))
  (pss_cons (ps_set (i := 16) sc_law.nd rfl (by first | exact Or.inl rfl | exact Or.inr rfl) (pe_op op_addA (pv 16) (pe_ix (ix_any (hu_of hr)) (pv 7) (pv 17) (fun _ _ => rfl))))
  pss_nil)
  pss_nil)
  pss_nil))
  (pss_cons (ps_if (PW.pt (pw_or (pt_cmpR (op_neY hr.units) (pe_callC H_written hr (by decide) (by rfl) (pa_cons (pe_op op_addA (pe_slice sl_any (pv 5) po_none (po_some (pv 10))) (pe_slice sl_any (pv 5) (po_some (pe_op op_addA (pv 10) pe_int)) po_none)) pa_nil)) (pv 16) (nomark _)) (pw_or1 (pt_cmpR op_gt (pe_callC H_length hr (by decide) (by rfl) (pa_cons (pe_callC H_least_script hr (by decide) (by rfl) (pa_cons (pv 16) pa_nil)) pa_nil)) (pe_op op_sub (pv 14) (pe_callC H_length hr (by decide) (by rfl) (pa_cons (pe_lst (pa_cons (pe_ix (ix_any (hu_of hr)) (pv 5) (pv 10) (fun _ _ => rfl)) pa_nil)) pa_nil))) (nomark _)))))
  (pss_cons (ps_ret pe_bl)
  pss_nil)
  pss_nil)
  pss_nil)))
  pss_nil)
  (pss_cons (ps_setLc (i := 11) rfl sc_law.nd rfl rfl (sw_true rfl rfl rfl (by decide +kernel)) (pi_enum (by rfl) M.enumerate (pa_cons (pv 12) pa_nil)) (blkOk_by (N := n_law) (sc := defScope s_law) (own := [("k", 17), ("row", 18)]) (by decide +kernel)) (fun _ _ _ _ _ => (pg_tup rfl (pgs_cons (pg_name (i := 17) sc_law.nd rfl (by first | exact Or.inl rfl | exact Or.inr rfl)) (pgs_cons (pg_name (i := 18) sc_law.nd rfl (by first | exact Or.inl rfl | exact Or.inr rfl)) pgs_nil)))) (fun _ _ _ _ _ => (pts_one (PW.pt (pw_or (pt_cmpR (op_eqY hr.units) (pv 17) pe_int (nomark _)) (pw_or1 (pt_cmpR (op_neY hr.units) (pv 18) (pe_ix (ix_any (hu_of hr)) (pv 12) (pe_op op_sub (pv 17) pe_int) (fun _ _ => rfl)) (nomark _))))))) (fun _ _ _ _ _ => (pv 18)))
  (pss_cons (ps_if (PW.pt (pw_or (PW.pt (pw_and (pt_cmpR (op_eqY hr.units) (pe_lenSetK (by rfl) M.len (by rfl) M.set (pv 12)) (pe_callB call_len (by rfl) M.len PySem.boot_len (pa_cons (pv 12) pa_nil)) (nomark _)) (pw_and1 (pt_cmpR (op_neY hr.units) (pv 14) (pe_callB call_len (by rfl) M.len PySem.boot_len (pa_cons (pv 12) pa_nil)) (nomark _))))) (pw_or1 (PW.pt (pw_and (pt_cmpR (op_eqY hr.units) (pe_callB call_len (by rfl) M.len PySem.boot_len (pa_cons (pv 11) pa_nil)) pe_int (nomark _)) (pw_and1 (pt_cmpR op_gt (pv 14) pe_int (nomark _))))))))
  (pss_cons (ps_ret pe_bl)
  pss_nil)
  pss_nil)
  pss_nil))))))))))))))))))))
  (pss_cons (ps_ret pe_bl)
  pss_nil))),
  (SS.seq (SS.asg SE.callS SG.name)
  (SS.seq (SS.for_ (SI.r1 (SA.consB (SE.b SE.int) SA.nil)) SG.name
  (SS.seq (SS.asg (SE.tup (SA.cons (SE.call (SA.cons SE.var (SA.cons (SE.op od_add (SE.b SE.int) (SE.b (SE.op od_mul (SE.b SE.int) SB.var))) SA.nil))) (SA.cons (SE.call (SA.cons SE.var (SA.cons (SE.op od_add (SE.b SE.int) (SE.b (SE.op od_mul (SE.b SE.int) SB.var))) SA.nil))) SA.nil)) (by decide)) (SG.tup (SGs.cons SG.name (SGs.cons SG.name SGs.nil))))
  (SS.seq (SS.par (SA.cons (SE.call (SA.cons (SE.call (SA.cons SE.var SA.nil)) SA.nil)) (SA.cons (SE.call (SA.cons (SE.call (SA.cons SE.var SA.nil)) SA.nil)) SA.nil)))
  (SS.seq (SS.asg (SE.call (SA.cons (SE.call (SA.cons (SE.op od_add SB.var SB.var) SA.nil)) SA.nil)) SG.name)
  (SS.seq (SS.ifs (ST.test (SE.b (SE.op od_gt SB.var (SE.b (SE.op od_add SB.var SB.var)))))
  (SS.seq (SS.ret SE.bl)
  SS.next)
  SS.next)
  (SS.seq (SS.ifs (ST.test (SE.b (SE.op od_neY (SE.b (SE.call (SA.cons (SE.call (SA.cons (SF.e (SF.comp (SI.b (SI.seq SE.var)) SG.name ST.yes (SE.call (SA.cons SE.var SA.nil)) (by decide))) SA.nil)) SA.nil))) SB.var)))
  (SS.seq (SS.ret SE.bl)
  SS.next)
  SS.next)
  (SS.seq (SS.asg (SF.e (SF.dictP (SE.b (SF.e (SF.lst (SA.cons (SE.tup (SA.cons SE.str (SA.cons SE.str SA.nil)) (by decide)) (SA.cons (SE.tup (SA.cons SE.str (SA.cons SE.str SA.nil)) (by decide)) (SA.cons (SE.tup (SA.cons SE.str (SA.cons SE.str SA.nil)) (by decide)) (SA.cons (SE.tup (SA.cons SE.str (SA.cons SE.str SA.nil)) (by decide)) SA.nil)))) (by decide)))))) SG.name)
  (SS.seq (SS.ifs (ST.test (SE.b (SE.op od_neY (SE.b (SE.call (SA.cons (SE.call (SA.cons (SF.e (SF.comp (SI.b (SI.seq SE.var)) SG.name ST.yes (SE.op od_at SB.var SB.var) (by decide))) SA.nil)) SA.nil))) SB.var)))
  (SS.seq (SS.ret SE.bl)
  SS.next)
  SS.next)
  (SS.seq (SS.ifs (ST.or (ST.test (SE.b (SE.op od_gt (SE.b (SE.call (SA.cons (SE.call (SA.cons (SE.op od_mul SB.var (SE.b SE.int)) SA.nil)) SA.nil))) (SE.b (SE.op od_add SB.var (SE.b SE.int)))))) (ST.and (ST.test (SE.b (SE.op od_le (SE.b (SE.cb cd_len (SA.consB (SE.b (SE.op od_add SB.var SB.var)) SA.nil))) (SE.b SE.int)))) (ST.test (SE.b (SE.op od_gt (SE.b (SE.call (SA.cons (SE.call (SA.cons (SE.op od_mul (SE.b (SE.op od_add SB.var SB.var)) (SE.b SE.int)) SA.nil)) SA.nil))) (SE.b (SE.op od_add SB.var (SE.b SE.int))))))))
  (SS.seq (SS.ret SE.bl)
  SS.next)
  SS.next)
  (SS.seq (SS.asg (SE.call (SA.cons SE.var SA.nil)) SG.name)
  (SS.seq (SS.asg (SE.op od_add (SE.b SE.int) (SE.b (SE.call (SA.cons SE.var (SA.cons (SE.op od_add (SE.b SE.int) SB.var) (SA.cons SE.int SA.nil)))))) SG.name)
  (SS.seq (SS.ifs (ST.or (ST.test (SE.b (SE.op od_neY (SE.b (SE.call (SA.cons (SF.e (SF.lst (SA.cons (SE.tup (SA.cons SE.str (SA.cons SE.var (SA.cons SE.var SA.nil))) (by decide)) SA.nil) (by decide))) SA.nil))) (SE.b (SE.op od_mul SB.var SB.var))))) (ST.test (SE.b (SE.op od_neY (SE.b (SE.call (SA.cons (SF.e (SF.lst (SA.cons (SE.tup (SA.cons SE.str (SA.cons SE.var (SA.cons SE.var SA.nil))) (by decide)) SA.nil) (by decide))) SA.nil))) (SE.b (SE.op od_add (SE.b SE.int) SB.var))))))
  (SS.seq (SS.ret SE.bl)
  SS.next)
  SS.next)
  (SS.seq (SS.asg (SE.call (SA.cons SE.var SA.nil)) SG.name)
  (SS.seq (SS.asg (SF.e (SF.lst SA.nil (by decide))) SG.name)
  (SS.seq (SS.for_ (SI.seq SE.var) SG.name
  (SS.seq (SS.asg (SE.op od_add SB.var SB.var) SG.name)
  SS.next))
  (SS.seq (SS.ifs (ST.or (ST.test (SE.b (SE.op od_neY SB.var SB.var))) (ST.test (SE.b (SE.op od_neY (SE.b (SE.cb cd_sum (SA.consB (SE.b (SF.e (SF.comp (SI.b (SI.seq SE.var)) SG.name ST.yes (SE.call (SA.cons (SF.e (SF.lst (SA.cons SE.var SA.nil) (by decide))) SA.nil)) (by decide)))) SA.nil))) SB.var))))
  (SS.seq (SS.ret SE.bl)
  SS.next)
  SS.next)
  (SS.seq (SS.asg (SE.call (SA.cons SE.var (SA.cons (SE.op od_add (SE.b SE.int) SB.var) (SA.cons (SE.cb cd_len (SA.consB SB.var SA.nil)) SA.nil)))) SG.name)
  (SS.seq (SS.ifs (ST.test (SE.b (SE.op od_gt (SE.b (SE.cb cd_len (SA.consB SB.var SA.nil))) (SE.b SE.int))))
  (SS.seq (SS.asg (SF.e (SF.lst SA.nil (by decide))) SG.name)
  (SS.seq (SS.for_ (SI.r1 (SA.consB (SE.b (SE.cb cd_len (SA.consB SB.var SA.nil))) SA.nil)) SG.name
  (SS.seq (SS.ifs (ST.test (SE.b (SE.op od_neY SB.var SB.var)))
  (SS.seq (SS.asg (SE.op od_add SB.var (SE.b (SE.op od_at SB.var SB.var))) SG.name)
  SS.next)
  SS.next)
  SS.next))
  (SS.seq (SS.ifs (ST.or (ST.test (SE.b (SE.op od_neY (SE.b (SE.call (SA.cons (SE.op od_add (SE.b (SE.sl SB.var SO.no (SO.so SB.var))) (SE.b (SE.sl SB.var (SO.so (SE.b (SE.op od_add SB.var (SE.b SE.int)))) SO.no))) SA.nil))) SB.var))) (ST.test (SE.b (SE.op od_gt (SE.b (SE.call (SA.cons (SE.call (SA.cons SE.var SA.nil)) SA.nil))) (SE.b (SE.op od_sub SB.var (SE.b (SE.call (SA.cons (SF.e (SF.lst (SA.cons (SE.op od_at SB.var SB.var) SA.nil) (by decide))) SA.nil)))))))))
  (SS.seq (SS.ret SE.bl)
  SS.next)
  SS.next)
  SS.next)))
  SS.next)
  (SS.seq (SS.asg (SF.e (SF.comp (SI.b (SI.enum (SA.cons SE.var SA.nil))) (SG.tup (SGs.cons SG.name (SGs.cons SG.name SGs.nil))) (ST.or (ST.test (SE.b (SE.op od_eqY SB.var (SE.b SE.int)))) (ST.test (SE.b (SE.op od_neY SB.var (SE.b (SE.op od_at SB.var (SE.b (SE.op od_sub SB.var (SE.b SE.int))))))))) SE.var (by decide))) SG.name)
  (SS.seq (SS.ifs (ST.or (ST.and (ST.test (SE.b (SE.op od_eqY (SE.b (SE.lenSet SB.var)) (SE.b (SE.cb cd_len (SA.consB SB.var SA.nil)))))) (ST.test (SE.b (SE.op od_neY SB.var (SE.b (SE.cb cd_len (SA.consB SB.var SA.nil))))))) (ST.and (ST.test (SE.b (SE.op od_eqY (SE.b (SE.cb cd_len (SA.consB SB.var SA.nil))) (SE.b SE.int)))) (ST.test (SE.b (SE.op od_gt SB.var (SE.b SE.int))))))
  (SS.seq (SS.ret SE.bl)
  SS.next)
  SS.next)
  SS.next))))))))))))))))))))
  (SS.seq (SS.ret SE.bl)
  SS.next)))⟩
theorem c_law (M : Mg mg) (H__law_draws : Cal P w K mg base "_law_draws" 2 ["script"] (spS K F__law_draws)) (H__law_rows : Cal P w K mg base "_law_rows" 3 ["draws", "k"] (spD K [false, false] F__law_rows)) (H_least_script : Cal P w K mg base "least_script" 9 ["rows"] (spD K [false] F_least_script)) (H_length : Cal P w K mg base "length" 9 ["script"] (spD K [false] F_length)) (H__law_exchanged : Cal P w K mg base "_law_exchanged" 2 ["row"] (spD K [false] F__law_exchanged)) (H__law_mix : Cal P w K mg base "_law_mix" 2 ["draws", "k", "many"] (spD K [false, false, false] F__law_mix)) (H_written : Cal P w K mg base "written" 9 ["script"] (spD K [false] F_written)) (H__law_sum : Cal P w K mg base "_law_sum" 10 ["script"] (spD K [false] F__law_sum)) (h : DefAt K mg "law" s_law) {Fm : List Int → Option D} (hx : ∀ ns r, Fm ns = some r → Ret (x_law (envS ns 20)) r) : Cal P w K mg base "law" 11 ["script"] (spS K Fm) :=
  Cal.mkS h sc_law (fun _ _ _ _ _ _ us hl => match us, hl with | [_], _ => rfl) (by decide) hx (b_law M H__law_draws H__law_rows H_least_script H_length H__law_exchanged H__law_mix H_written H__law_sum)
end
end P66

namespace P66
open PySem L2 DL
open DL.Enc (enc)
theorem env0_b2 (d d2 : D) (n : Nat) : env0 [false, true] [d, d2] n = .sh d :: .bor d2 :: List.replicate (n - 2) .un := nr rfl
theorem t_len2 (a b : D) : dLen [.tup [a, b]] = some (.int 2) := nr rfl
theorem t_len3 (a b c : D) : dLen [.tup [a, b, c]] = some (.int 3) := nr rfl
theorem t_at0 (x : D) (r : List D) : dAt (.tup (x :: r)) (.int 0) = some x := by
  show L2.atI (x :: r) 0 = _
  rw [atI_of _ 0 ⟨by omega, by simp⟩]
  rfl
theorem t_at1 (x y : D) (r : List D) : dAt (.tup (x :: y :: r)) (.int 1) = some y := by
  show L2.atI (x :: y :: r) 1 = _
  rw [atI_of _ 1 ⟨by omega, by simp; omega⟩]
  rfl
theorem t_at2 (x y z : D) (r : List D) : dAt (.tup (x :: y :: z :: r)) (.int 2) = some z := by
  show L2.atI (x :: y :: z :: r) 2 = _
  rw [atI_of _ 2 ⟨by omega, by simp; omega⟩]
  rfl
theorem s_len {s : Str} (h : s.length ≤ 100000) : dLen [.str s] = some (.int (s.length : Nat)) := if_pos h
theorem rr_ne : ((Str.ofString "repeat") = Str.ofString "row") = False := eq_false (by decide +kernel)
theorem r_eq : ((Str.ofString "row") = Str.ofString "row") = True := eq_self _
theorem ev_is_row (a : Rw) : F_is_row [enc a] = some (.bl true) := fn1_ev (a := a) trivial
theorem h_is_row : ∀ ds r, F_is_row ds = some r → Ret (x_is_row (env0 [false] ds 2)) r := fun ds r e => by
  obtain ⟨a, rfl, _, rfl⟩ := fn1_el e
  left
  cases a <;> rfl
theorem ev_check_rows {rows : Rows} (g : goodRows rows) : F_check_rows [enc rows] = some .non := fn1_ev (a := rows) g
theorem h_check_rows : ∀ ds r, F_check_rows ds = some r → Ret (x_check_rows (env0 [false] ds 3)) r := fun ds r e => by
  obtain ⟨rows, rfl, ⟨g1, g2⟩, rfl⟩ := fn1_el e
  right
  refine ⟨rfl, [.sh (enc rows), .un, .un], ?_⟩
  have c1 : (1 ≤ (rows.length : Int)) = True := eq_true (by omega)
  have c2 : ((rows.length : Int) ≤ 16) = True := eq_true (by omega)
  have e1 : env0 [false] [enc rows] 3 = [.sh (enc rows), .un, .un] := rfl
  rw [e1]
  simp (disch := omega) only [List.getElem?_cons_zero, List.getElem?_cons_succ, List.set_cons_zero, List.set_cons_succ, env0_0, env0_1, env0_2, env0_3, env0_4, List.replicate_succ, List.replicate_zero, Nat.reduceSub, wipeE, xSeq_eq, seqO_nx, seqO_rt, seqO_bk, seqO_ct, rngI_length, xNext_eq, xAsg_eq, asgQ_s, nxO_s, xAsgO_eq, asgOQ_s, xPar_eq, parQ_s, setQ_s, xAug_eq, xDrop_eq, dropQ_s, xRet_eq, retO_s, xRetN_eq, xBrk_eq, xCt_eq, xIf_eq, ifX_t, ifX_f, ifX_s, Bool.false_eq_true, if_false, if_true, eq_self, Bool.false_or, Bool.or_false, Bool.true_or, Bool.or_true, Bool.true_and, Bool.and_true, Bool.false_and, Bool.and_false, Bool.not_true, Bool.not_false, decide_true, decide_false, xFrz_own, frzE_eq, frzQ_own, frzQ_sh, xFor_eq, forQ_s, xWhile_eq, eVar_eq, varQ_s, bVar_eq, lookQ_s, lookQ_o, lookQ_b, eC_eq, e1_eq, e1Q_s, e2_eq, e2Q_s, eCall_eq, callQ_s, aNil_eq, aCons_eq, consQ_s, eLst_eq, eTup_eq, lstQ0, lstQ1, lstQ2, lstQ3, lstQ4, lstQ8, tupQ2, tupQ3, qB_eq, boolQ_s, qAnd_eq, qOr_eq, qNot_eq, qnotQ_s, eAnd_eq, eOr_eq, eNot_eq, notQ_s, eIf_eq, eChain_eq, andO_bb, andO_t, andO_f, orO_bb, orO_t, orO_f, qandO_bb, qandO_t, qandO_f, qorO_bb, qorO_t, qorO_f, ifO_s, ifO_t, ifO_f, chO_s, ite_int, ite_bl, ite_enc, dIsN_non, dNotN_non, isNon_non, isNon_int, isNon_l, isNon_p, gN_eq, gT_p, eComp_eq, eComp2_eq, stepC_eq, stQ_s, stR_t, stR_f, stR_b, stepM_eq', stMQ_s, stM_t, stM_f, turnF_eq, tnB_s, turnW_eq, tnQ_nx, tnQ_ct, tnQ_bk, tnQ_rt, xApp_eq, xExt_eq, appO_i, extO_l, eScr_eq, scrF_s, eLenScr_eq, scrLen_s, eIxScr_eq, iSq_eq, seqOf_l, seqOf_p, iR1_eq, iR2_eq, r1Of_i, r2Of_i, iEn_eq, enOf_l, eSl_eq, slOf_l, oNo_eq, oSo_eq, soQ_s, tup_ii, tup_ee, tup_ei, tup_ie, enc_int, enc_bool, dAt_p0, dAt_p1, dLen_l, dEq_int, dNe_int, dEq_bl, dNe_bl, dMul_l, dMul_r, dDiv_i, dMod_i, dSub_i, dAdd_i, dAddI_i, dNeg_i, dLt_i, dLe_i, dGt_i, dGe_i, dInt_i, dInt_b, dAbs_i, dMin_i, dMax_i, dGcd_i, fold_list, fold_listF, lst1, lst2, lst1i, lst2i, dSum_l, dAll_l, dAny_l, eLzip_eq, lzQ_l, eDcT_eq, stepD_eq, dEqX_int, dNeX_int, dEqX_bl, dNeX_bl, dEqX_str, dNeX_str, dSortP_l, dEqY_int, dNeY_int, dEqY_bl, dNeY_bl, dEqY_str, dNeY_str, env0_b2, t_len2, t_len3, Int.reduceEq, Int.reduceLT, Int.reduceLE, t_at0, t_at1, t_at2, s_len, x_check_rows, c1, c2]
  rw [iterF_same fun a ha => by
    obtain ⟨k, c⟩ := a
    simp (disch := omega) only [List.getElem?_cons_zero, List.getElem?_cons_succ, List.set_cons_zero, List.set_cons_succ, env0_0, env0_1, env0_2, env0_3, env0_4, List.replicate_succ, List.replicate_zero, Nat.reduceSub, wipeE, xSeq_eq, seqO_nx, seqO_rt, seqO_bk, seqO_ct, rngI_length, xNext_eq, xAsg_eq, asgQ_s, nxO_s, xAsgO_eq, asgOQ_s, xPar_eq, parQ_s, setQ_s, xAug_eq, xDrop_eq, dropQ_s, xRet_eq, retO_s, xRetN_eq, xBrk_eq, xCt_eq, xIf_eq, ifX_t, ifX_f, ifX_s, Bool.false_eq_true, if_false, if_true, eq_self, Bool.false_or, Bool.or_false, Bool.true_or, Bool.or_true, Bool.true_and, Bool.and_true, Bool.false_and, Bool.and_false, Bool.not_true, Bool.not_false, decide_true, decide_false, xFrz_own, frzE_eq, frzQ_own, frzQ_sh, xFor_eq, forQ_s, xWhile_eq, eVar_eq, varQ_s, bVar_eq, lookQ_s, lookQ_o, lookQ_b, eC_eq, e1_eq, e1Q_s, e2_eq, e2Q_s, eCall_eq, callQ_s, aNil_eq, aCons_eq, consQ_s, eLst_eq, eTup_eq, lstQ0, lstQ1, lstQ2, lstQ3, lstQ4, lstQ8, tupQ2, tupQ3, qB_eq, boolQ_s, qAnd_eq, qOr_eq, qNot_eq, qnotQ_s, eAnd_eq, eOr_eq, eNot_eq, notQ_s, eIf_eq, eChain_eq, andO_bb, andO_t, andO_f, orO_bb, orO_t, orO_f, qandO_bb, qandO_t, qandO_f, qorO_bb, qorO_t, qorO_f, ifO_s, ifO_t, ifO_f, chO_s, ite_int, ite_bl, ite_enc, dIsN_non, dNotN_non, isNon_non, isNon_int, isNon_l, isNon_p, gN_eq, gT_p, eComp_eq, eComp2_eq, stepC_eq, stQ_s, stR_t, stR_f, stR_b, stepM_eq', stMQ_s, stM_t, stM_f, turnF_eq, tnB_s, turnW_eq, tnQ_nx, tnQ_ct, tnQ_bk, tnQ_rt, xApp_eq, xExt_eq, appO_i, extO_l, eScr_eq, scrF_s, eLenScr_eq, scrLen_s, eIxScr_eq, iSq_eq, seqOf_l, seqOf_p, iR1_eq, iR2_eq, r1Of_i, r2Of_i, iEn_eq, enOf_l, eSl_eq, slOf_l, oNo_eq, oSo_eq, soQ_s, tup_ii, tup_ee, tup_ei, tup_ie, enc_int, enc_bool, dAt_p0, dAt_p1, dLen_l, dEq_int, dNe_int, dEq_bl, dNe_bl, dMul_l, dMul_r, dDiv_i, dMod_i, dSub_i, dAdd_i, dAddI_i, dNeg_i, dLt_i, dLe_i, dGt_i, dGe_i, dInt_i, dInt_b, dAbs_i, dMin_i, dMax_i, dGcd_i, fold_list, fold_listF, lst1, lst2, lst1i, lst2i, dSum_l, dAll_l, dAny_l, eLzip_eq, lzQ_l, eDcT_eq, stepD_eq, dEqX_int, dNeX_int, dEqX_bl, dNeX_bl, dEqX_str, dNeX_str, dSortP_l, dEqY_int, dNeY_int, dEqY_bl, dNeY_bl, dEqY_str, dNeY_str, env0_b2, t_len2, t_len3, Int.reduceEq, Int.reduceLT, Int.reduceLE, t_at0, t_at1, t_at2, s_len, ev_is_row]]
  simp only [List.getElem?_cons_zero, List.getElem?_cons_succ, List.set_cons_zero, List.set_cons_succ, env0_0, env0_1, env0_2, env0_3, env0_4, List.replicate_succ, List.replicate_zero, Nat.reduceSub, wipeE, xSeq_eq, seqO_nx, seqO_rt, seqO_bk, seqO_ct, rngI_length, xNext_eq, xAsg_eq, asgQ_s, nxO_s, xAsgO_eq, asgOQ_s, xPar_eq, parQ_s, setQ_s, xAug_eq, xDrop_eq, dropQ_s, xRet_eq, retO_s, xRetN_eq, xBrk_eq, xCt_eq, xIf_eq, ifX_t, ifX_f, ifX_s, Bool.false_eq_true, if_false, if_true, eq_self, Bool.false_or, Bool.or_false, Bool.true_or, Bool.or_true, Bool.true_and, Bool.and_true, Bool.false_and, Bool.and_false, Bool.not_true, Bool.not_false, decide_true, decide_false, xFrz_own, frzE_eq, frzQ_own, frzQ_sh, xFor_eq, forQ_s, xWhile_eq, eVar_eq, varQ_s, bVar_eq, lookQ_s, lookQ_o, lookQ_b, eC_eq, e1_eq, e1Q_s, e2_eq, e2Q_s, eCall_eq, callQ_s, aNil_eq, aCons_eq, consQ_s, eLst_eq, eTup_eq, lstQ0, lstQ1, lstQ2, lstQ3, lstQ4, lstQ8, tupQ2, tupQ3, qB_eq, boolQ_s, qAnd_eq, qOr_eq, qNot_eq, qnotQ_s, eAnd_eq, eOr_eq, eNot_eq, notQ_s, eIf_eq, eChain_eq, andO_bb, andO_t, andO_f, orO_bb, orO_t, orO_f, qandO_bb, qandO_t, qandO_f, qorO_bb, qorO_t, qorO_f, ifO_s, ifO_t, ifO_f, chO_s, ite_int, ite_bl, ite_enc, dIsN_non, dNotN_non, isNon_non, isNon_int, isNon_l, isNon_p, gN_eq, gT_p, eComp_eq, eComp2_eq, stepC_eq, stQ_s, stR_t, stR_f, stR_b, stepM_eq', stMQ_s, stM_t, stM_f, turnF_eq, tnB_s, turnW_eq, tnQ_nx, tnQ_ct, tnQ_bk, tnQ_rt, xApp_eq, xExt_eq, appO_i, extO_l, eScr_eq, scrF_s, eLenScr_eq, scrLen_s, eIxScr_eq, iSq_eq, seqOf_l, seqOf_p, iR1_eq, iR2_eq, r1Of_i, r2Of_i, iEn_eq, enOf_l, eSl_eq, slOf_l, oNo_eq, oSo_eq, soQ_s, tup_ii, tup_ee, tup_ei, tup_ie, enc_int, enc_bool, dAt_p0, dAt_p1, dLen_l, dEq_int, dNe_int, dEq_bl, dNe_bl, dMul_l, dMul_r, dDiv_i, dMod_i, dSub_i, dAdd_i, dAddI_i, dNeg_i, dLt_i, dLe_i, dGt_i, dGe_i, dInt_i, dInt_b, dAbs_i, dMin_i, dMax_i, dGcd_i, fold_list, fold_listF, lst1, lst2, lst1i, lst2i, dSum_l, dAll_l, dAny_l, eLzip_eq, lzQ_l, eDcT_eq, stepD_eq, dEqX_int, dNeX_int, dEqX_bl, dNeX_bl, dEqX_str, dNeX_str, dSortP_l, dEqY_int, dNeY_int, dEqY_bl, dNeY_bl, dEqY_str, dNeY_str, env0_b2, t_len2, t_len3, Int.reduceEq, Int.reduceLT, Int.reduceLE, t_at0, t_at1, t_at2, s_len]
theorem ev__law_exchanged {a : Rw} (g : a ∈ base) : F__law_exchanged [enc a] = some (enc (exch a)) := fn1_ev (a := a) g
theorem h__law_exchanged : ∀ ds r, F__law_exchanged ds = some r → Ret (x__law_exchanged (env0 [false] ds 2)) r := fun ds r e => by
  obtain ⟨a, rfl, g, rfl⟩ := fn1_el e
  left
  cases a
  case a => kernel_rfl
  case b => kernel_rfl
  case c => kernel_rfl
  case d => kernel_rfl
  all_goals exact absurd g (by decide +kernel)
/-! ### defs that call themselves -/
theorem okS_line {d : Nat} {s : S} (ok : okS d s) {l : Ln Rw} (h : l ∈ s) : okL d l := okS_mem ok l h
theorem wr_line : ∀ {s : S} {l : Ln Rw}, l ∈ s → (wrL l).length ≤ (wrS s).length
  | x :: r, l, h => by
    rw [wrS, List.length_append]
    rcases List.mem_cons.mp h with rfl | q
    · omega
    · have := wr_line q
      omega
theorem wr_len {d : Nat} : ∀ {s : S}, okS d s → s.length ≤ (wrS s).length
  | [], _ => Nat.zero_le _
  | x :: r, h => by
    rw [okS] at h
    have h1 := wr_len h.2
    have h2 := List.length_pos_iff.mpr (wrL_ne h.1)
    rw [wrS, List.length_append, List.length_cons]
    omega
theorem wr_rep {n : Nat} {ls : S} (h : 2 ≤ n) : (wrL (.rep n ls)).length = n * (wrS ls).length ∧ (wrS ls).length ≤ (wrL (.rep n ls)).length := by
  rw [wrL, rep_len]
  refine ⟨rfl, ?_⟩
  have : 1 * (wrS ls).length ≤ n * (wrS ls).length := Nat.mul_le_mul_right _ (by omega)
  omega
theorem ev_is_lineR {d : Nat} {l : Ln Rw} {deep : Int} (h : (okL d l ∧ (wrL l).length ≤ 300) ∧ 0 ≤ deep ∧ deep + d ≤ 4) : R_is_line (d + 1) [enc l, .int deep] = some (.bl true) := by
  rw [R_is_line]
  exact fn2_ev (a := l) (b := deep) h
theorem hx_is_line : ∀ d ds r, R_is_line (d + 1) ds = some r → Ret (x_is_line (R_is_line d) (env0 [false, false] ds 3)) r := fun d ds r e => by
  rw [R_is_line] at e
  obtain ⟨l, deep, rfl, ⟨⟨ok, few⟩, h0, h1⟩, rfl⟩ := fn2_el e
  left
  cases l with
  | row a =>
    rw [enc_row]
    simp (disch := omega) only [List.getElem?_cons_zero, List.getElem?_cons_succ, List.set_cons_zero, List.set_cons_succ, env0_0, env0_1, env0_2, env0_3, env0_4, List.replicate_succ, List.replicate_zero, Nat.reduceSub, wipeE, xSeq_eq, seqO_nx, seqO_rt, seqO_bk, seqO_ct, rngI_length, xNext_eq, xAsg_eq, asgQ_s, nxO_s, xAsgO_eq, asgOQ_s, xPar_eq, parQ_s, setQ_s, xAug_eq, xDrop_eq, dropQ_s, xRet_eq, retO_s, xRetN_eq, xBrk_eq, xCt_eq, xIf_eq, ifX_t, ifX_f, ifX_s, Bool.false_eq_true, if_false, if_true, eq_self, Bool.false_or, Bool.or_false, Bool.true_or, Bool.or_true, Bool.true_and, Bool.and_true, Bool.false_and, Bool.and_false, Bool.not_true, Bool.not_false, decide_true, decide_false, xFrz_own, frzE_eq, frzQ_own, frzQ_sh, xFor_eq, forQ_s, xWhile_eq, eVar_eq, varQ_s, bVar_eq, lookQ_s, lookQ_o, lookQ_b, eC_eq, e1_eq, e1Q_s, e2_eq, e2Q_s, eCall_eq, callQ_s, aNil_eq, aCons_eq, consQ_s, eLst_eq, eTup_eq, lstQ0, lstQ1, lstQ2, lstQ3, lstQ4, lstQ8, tupQ2, tupQ3, qB_eq, boolQ_s, qAnd_eq, qOr_eq, qNot_eq, qnotQ_s, eAnd_eq, eOr_eq, eNot_eq, notQ_s, eIf_eq, eChain_eq, andO_bb, andO_t, andO_f, orO_bb, orO_t, orO_f, qandO_bb, qandO_t, qandO_f, qorO_bb, qorO_t, qorO_f, ifO_s, ifO_t, ifO_f, chO_s, ite_int, ite_bl, ite_enc, dIsN_non, dNotN_non, isNon_non, isNon_int, isNon_l, isNon_p, gN_eq, gT_p, eComp_eq, eComp2_eq, stepC_eq, stQ_s, stR_t, stR_f, stR_b, stepM_eq', stMQ_s, stM_t, stM_f, turnF_eq, tnB_s, turnW_eq, tnQ_nx, tnQ_ct, tnQ_bk, tnQ_rt, xApp_eq, xExt_eq, appO_i, extO_l, eScr_eq, scrF_s, eLenScr_eq, scrLen_s, eIxScr_eq, iSq_eq, seqOf_l, seqOf_p, iR1_eq, iR2_eq, r1Of_i, r2Of_i, iEn_eq, enOf_l, eSl_eq, slOf_l, oNo_eq, oSo_eq, soQ_s, tup_ii, tup_ee, tup_ei, tup_ie, enc_int, enc_bool, dAt_p0, dAt_p1, dLen_l, dEq_int, dNe_int, dEq_bl, dNe_bl, dMul_l, dMul_r, dDiv_i, dMod_i, dSub_i, dAdd_i, dAddI_i, dNeg_i, dLt_i, dLe_i, dGt_i, dGe_i, dInt_i, dInt_b, dAbs_i, dMin_i, dMax_i, dGcd_i, fold_list, fold_listF, lst1, lst2, lst1i, lst2i, dSum_l, dAll_l, dAny_l, eLzip_eq, lzQ_l, eDcT_eq, stepD_eq, dEqX_int, dNeX_int, dEqX_bl, dNeX_bl, dEqX_str, dNeX_str, dSortP_l, dEqY_int, dNeY_int, dEqY_bl, dNeY_bl, dEqY_str, dNeY_str, env0_b2, t_len2, t_len3, Int.reduceEq, Int.reduceLT, Int.reduceLE, t_at0, t_at1, t_at2, s_len, x_is_line, ev_is_row, r_eq]
  | rep n ls =>
    cases d with
    | zero => rw [okL] at ok; exact ok.elim
    | succ d =>
      rw [okL] at ok
      rw [enc_rep]
      have c1 : ((n : Int) < 2) = False := eq_false (by omega)
      have c2 : (deep = 4) = False := eq_false (by omega)
      have c3 : 0 < ls.length := List.length_pos_iff.mpr ok.2.1
      have c4 : ((ls.length : Int) = 0) = False := eq_false (by omega)
      have w1 := (wr_rep (ls := ls) ok.1).2
      have w2 := wr_len ok.2.2
      simp (disch := omega) only [List.getElem?_cons_zero, List.getElem?_cons_succ, List.set_cons_zero, List.set_cons_succ, env0_0, env0_1, env0_2, env0_3, env0_4, List.replicate_succ, List.replicate_zero, Nat.reduceSub, wipeE, xSeq_eq, seqO_nx, seqO_rt, seqO_bk, seqO_ct, rngI_length, xNext_eq, xAsg_eq, asgQ_s, nxO_s, xAsgO_eq, asgOQ_s, xPar_eq, parQ_s, setQ_s, xAug_eq, xDrop_eq, dropQ_s, xRet_eq, retO_s, xRetN_eq, xBrk_eq, xCt_eq, xIf_eq, ifX_t, ifX_f, ifX_s, Bool.false_eq_true, if_false, if_true, eq_self, Bool.false_or, Bool.or_false, Bool.true_or, Bool.or_true, Bool.true_and, Bool.and_true, Bool.false_and, Bool.and_false, Bool.not_true, Bool.not_false, decide_true, decide_false, xFrz_own, frzE_eq, frzQ_own, frzQ_sh, xFor_eq, forQ_s, xWhile_eq, eVar_eq, varQ_s, bVar_eq, lookQ_s, lookQ_o, lookQ_b, eC_eq, e1_eq, e1Q_s, e2_eq, e2Q_s, eCall_eq, callQ_s, aNil_eq, aCons_eq, consQ_s, eLst_eq, eTup_eq, lstQ0, lstQ1, lstQ2, lstQ3, lstQ4, lstQ8, tupQ2, tupQ3, qB_eq, boolQ_s, qAnd_eq, qOr_eq, qNot_eq, qnotQ_s, eAnd_eq, eOr_eq, eNot_eq, notQ_s, eIf_eq, eChain_eq, andO_bb, andO_t, andO_f, orO_bb, orO_t, orO_f, qandO_bb, qandO_t, qandO_f, qorO_bb, qorO_t, qorO_f, ifO_s, ifO_t, ifO_f, chO_s, ite_int, ite_bl, ite_enc, dIsN_non, dNotN_non, isNon_non, isNon_int, isNon_l, isNon_p, gN_eq, gT_p, eComp_eq, eComp2_eq, stepC_eq, stQ_s, stR_t, stR_f, stR_b, stepM_eq', stMQ_s, stM_t, stM_f, turnF_eq, tnB_s, turnW_eq, tnQ_nx, tnQ_ct, tnQ_bk, tnQ_rt, xApp_eq, xExt_eq, appO_i, extO_l, eScr_eq, scrF_s, eLenScr_eq, scrLen_s, eIxScr_eq, iSq_eq, seqOf_l, seqOf_p, iR1_eq, iR2_eq, r1Of_i, r2Of_i, iEn_eq, enOf_l, eSl_eq, slOf_l, oNo_eq, oSo_eq, soQ_s, tup_ii, tup_ee, tup_ei, tup_ie, enc_int, enc_bool, dAt_p0, dAt_p1, dLen_l, dEq_int, dNe_int, dEq_bl, dNe_bl, dMul_l, dMul_r, dDiv_i, dMod_i, dSub_i, dAdd_i, dAddI_i, dNeg_i, dLt_i, dLe_i, dGt_i, dGe_i, dInt_i, dInt_b, dAbs_i, dMin_i, dMax_i, dGcd_i, fold_list, fold_listF, lst1, lst2, lst1i, lst2i, dSum_l, dAll_l, dAny_l, eLzip_eq, lzQ_l, eDcT_eq, stepD_eq, dEqX_int, dNeX_int, dEqX_bl, dNeX_bl, dEqX_str, dNeX_str, dSortP_l, dEqY_int, dNeY_int, dEqY_bl, dNeY_bl, dEqY_str, dNeY_str, env0_b2, t_len2, t_len3, Int.reduceEq, Int.reduceLT, Int.reduceLE, t_at0, t_at1, t_at2, s_len, x_is_line, c1, c2, c4]
      rw [compO_map (f := fun _ : Ln Rw => true) (by omega) fun l hl => by
        have w3 := wr_line hl
        simp (disch := omega) only [List.getElem?_cons_zero, List.getElem?_cons_succ, List.set_cons_zero, List.set_cons_succ, env0_0, env0_1, env0_2, env0_3, env0_4, List.replicate_succ, List.replicate_zero, Nat.reduceSub, wipeE, xSeq_eq, seqO_nx, seqO_rt, seqO_bk, seqO_ct, rngI_length, xNext_eq, xAsg_eq, asgQ_s, nxO_s, xAsgO_eq, asgOQ_s, xPar_eq, parQ_s, setQ_s, xAug_eq, xDrop_eq, dropQ_s, xRet_eq, retO_s, xRetN_eq, xBrk_eq, xCt_eq, xIf_eq, ifX_t, ifX_f, ifX_s, Bool.false_eq_true, if_false, if_true, eq_self, Bool.false_or, Bool.or_false, Bool.true_or, Bool.or_true, Bool.true_and, Bool.and_true, Bool.false_and, Bool.and_false, Bool.not_true, Bool.not_false, decide_true, decide_false, xFrz_own, frzE_eq, frzQ_own, frzQ_sh, xFor_eq, forQ_s, xWhile_eq, eVar_eq, varQ_s, bVar_eq, lookQ_s, lookQ_o, lookQ_b, eC_eq, e1_eq, e1Q_s, e2_eq, e2Q_s, eCall_eq, callQ_s, aNil_eq, aCons_eq, consQ_s, eLst_eq, eTup_eq, lstQ0, lstQ1, lstQ2, lstQ3, lstQ4, lstQ8, tupQ2, tupQ3, qB_eq, boolQ_s, qAnd_eq, qOr_eq, qNot_eq, qnotQ_s, eAnd_eq, eOr_eq, eNot_eq, notQ_s, eIf_eq, eChain_eq, andO_bb, andO_t, andO_f, orO_bb, orO_t, orO_f, qandO_bb, qandO_t, qandO_f, qorO_bb, qorO_t, qorO_f, ifO_s, ifO_t, ifO_f, chO_s, ite_int, ite_bl, ite_enc, dIsN_non, dNotN_non, isNon_non, isNon_int, isNon_l, isNon_p, gN_eq, gT_p, eComp_eq, eComp2_eq, stepC_eq, stQ_s, stR_t, stR_f, stR_b, stepM_eq', stMQ_s, stM_t, stM_f, turnF_eq, tnB_s, turnW_eq, tnQ_nx, tnQ_ct, tnQ_bk, tnQ_rt, xApp_eq, xExt_eq, appO_i, extO_l, eScr_eq, scrF_s, eLenScr_eq, scrLen_s, eIxScr_eq, iSq_eq, seqOf_l, seqOf_p, iR1_eq, iR2_eq, r1Of_i, r2Of_i, iEn_eq, enOf_l, eSl_eq, slOf_l, oNo_eq, oSo_eq, soQ_s, tup_ii, tup_ee, tup_ei, tup_ie, enc_int, enc_bool, dAt_p0, dAt_p1, dLen_l, dEq_int, dNe_int, dEq_bl, dNe_bl, dMul_l, dMul_r, dDiv_i, dMod_i, dSub_i, dAdd_i, dAddI_i, dNeg_i, dLt_i, dLe_i, dGt_i, dGe_i, dInt_i, dInt_b, dAbs_i, dMin_i, dMax_i, dGcd_i, fold_list, fold_listF, lst1, lst2, lst1i, lst2i, dSum_l, dAll_l, dAny_l, eLzip_eq, lzQ_l, eDcT_eq, stepD_eq, dEqX_int, dNeX_int, dEqX_bl, dNeX_bl, dEqX_str, dNeX_str, dSortP_l, dEqY_int, dNeY_int, dEqY_bl, dNeY_bl, dEqY_str, dNeY_str, env0_b2, t_len2, t_len3, Int.reduceEq, Int.reduceLT, Int.reduceLE, t_at0, t_at1, t_at2, s_len, ev_is_lineR (deep := deep + 1) ⟨⟨okS_line ok.2.2 hl, by omega⟩, by omega, by omega⟩]]
      have al : ((ls.map fun _ : Ln Rw => true).all id) = true := by simp
      simp (disch := omega) only [List.getElem?_cons_zero, List.getElem?_cons_succ, List.set_cons_zero, List.set_cons_succ, env0_0, env0_1, env0_2, env0_3, env0_4, List.replicate_succ, List.replicate_zero, Nat.reduceSub, wipeE, xSeq_eq, seqO_nx, seqO_rt, seqO_bk, seqO_ct, rngI_length, xNext_eq, xAsg_eq, asgQ_s, nxO_s, xAsgO_eq, asgOQ_s, xPar_eq, parQ_s, setQ_s, xAug_eq, xDrop_eq, dropQ_s, xRet_eq, retO_s, xRetN_eq, xBrk_eq, xCt_eq, xIf_eq, ifX_t, ifX_f, ifX_s, Bool.false_eq_true, if_false, if_true, eq_self, Bool.false_or, Bool.or_false, Bool.true_or, Bool.or_true, Bool.true_and, Bool.and_true, Bool.false_and, Bool.and_false, Bool.not_true, Bool.not_false, decide_true, decide_false, xFrz_own, frzE_eq, frzQ_own, frzQ_sh, xFor_eq, forQ_s, xWhile_eq, eVar_eq, varQ_s, bVar_eq, lookQ_s, lookQ_o, lookQ_b, eC_eq, e1_eq, e1Q_s, e2_eq, e2Q_s, eCall_eq, callQ_s, aNil_eq, aCons_eq, consQ_s, eLst_eq, eTup_eq, lstQ0, lstQ1, lstQ2, lstQ3, lstQ4, lstQ8, tupQ2, tupQ3, qB_eq, boolQ_s, qAnd_eq, qOr_eq, qNot_eq, qnotQ_s, eAnd_eq, eOr_eq, eNot_eq, notQ_s, eIf_eq, eChain_eq, andO_bb, andO_t, andO_f, orO_bb, orO_t, orO_f, qandO_bb, qandO_t, qandO_f, qorO_bb, qorO_t, qorO_f, ifO_s, ifO_t, ifO_f, chO_s, ite_int, ite_bl, ite_enc, dIsN_non, dNotN_non, isNon_non, isNon_int, isNon_l, isNon_p, gN_eq, gT_p, eComp_eq, eComp2_eq, stepC_eq, stQ_s, stR_t, stR_f, stR_b, stepM_eq', stMQ_s, stM_t, stM_f, turnF_eq, tnB_s, turnW_eq, tnQ_nx, tnQ_ct, tnQ_bk, tnQ_rt, xApp_eq, xExt_eq, appO_i, extO_l, eScr_eq, scrF_s, eLenScr_eq, scrLen_s, eIxScr_eq, iSq_eq, seqOf_l, seqOf_p, iR1_eq, iR2_eq, r1Of_i, r2Of_i, iEn_eq, enOf_l, eSl_eq, slOf_l, oNo_eq, oSo_eq, soQ_s, tup_ii, tup_ee, tup_ei, tup_ie, enc_int, enc_bool, dAt_p0, dAt_p1, dLen_l, dEq_int, dNe_int, dEq_bl, dNe_bl, dMul_l, dMul_r, dDiv_i, dMod_i, dSub_i, dAdd_i, dAddI_i, dNeg_i, dLt_i, dLe_i, dGt_i, dGe_i, dInt_i, dInt_b, dAbs_i, dMin_i, dMax_i, dGcd_i, fold_list, fold_listF, lst1, lst2, lst1i, lst2i, dSum_l, dAll_l, dAny_l, eLzip_eq, lzQ_l, eDcT_eq, stepD_eq, dEqX_int, dNeX_int, dEqX_bl, dNeX_bl, dEqX_str, dNeX_str, dSortP_l, dEqY_int, dNeY_int, dEqY_bl, dNeY_bl, dEqY_str, dNeY_str, env0_b2, t_len2, t_len3, Int.reduceEq, Int.reduceLT, Int.reduceLE, t_at0, t_at1, t_at2, s_len, al]
theorem ev_rows_inR {d : Nat} {s : S} (h : okS d s ∧ (wrS s).length ≤ 300) : R_rows_in (d + 1) [enc s] = some (.int ((wrS s).length : Nat)) := by
  rw [R_rows_in]
  exact fn1_ev (a := s) h
theorem sum_wr : ∀ s : S, (s.map fun l => ((wrL l).length : Int)).sum = ((wrS s).length : Int)
  | [] => rfl
  | l :: r => by rw [List.map_cons, List.sum_cons, sum_wr r, wrS, List.length_append]; omega
theorem hx_rows_in : ∀ d ds r, R_rows_in (d + 1) ds = some r → Ret (x_rows_in (R_rows_in d) (env0 [false] ds 2)) r := fun d ds r e => by
  rw [R_rows_in] at e
  obtain ⟨s, rfl, ⟨ok, few⟩, rfl⟩ := fn1_el e
  left
  have w2 := wr_len ok
  simp (disch := omega) only [List.getElem?_cons_zero, List.getElem?_cons_succ, List.set_cons_zero, List.set_cons_succ, env0_0, env0_1, env0_2, env0_3, env0_4, List.replicate_succ, List.replicate_zero, Nat.reduceSub, wipeE, xSeq_eq, seqO_nx, seqO_rt, seqO_bk, seqO_ct, rngI_length, xNext_eq, xAsg_eq, asgQ_s, nxO_s, xAsgO_eq, asgOQ_s, xPar_eq, parQ_s, setQ_s, xAug_eq, xDrop_eq, dropQ_s, xRet_eq, retO_s, xRetN_eq, xBrk_eq, xCt_eq, xIf_eq, ifX_t, ifX_f, ifX_s, Bool.false_eq_true, if_false, if_true, eq_self, Bool.false_or, Bool.or_false, Bool.true_or, Bool.or_true, Bool.true_and, Bool.and_true, Bool.false_and, Bool.and_false, Bool.not_true, Bool.not_false, decide_true, decide_false, xFrz_own, frzE_eq, frzQ_own, frzQ_sh, xFor_eq, forQ_s, xWhile_eq, eVar_eq, varQ_s, bVar_eq, lookQ_s, lookQ_o, lookQ_b, eC_eq, e1_eq, e1Q_s, e2_eq, e2Q_s, eCall_eq, callQ_s, aNil_eq, aCons_eq, consQ_s, eLst_eq, eTup_eq, lstQ0, lstQ1, lstQ2, lstQ3, lstQ4, lstQ8, tupQ2, tupQ3, qB_eq, boolQ_s, qAnd_eq, qOr_eq, qNot_eq, qnotQ_s, eAnd_eq, eOr_eq, eNot_eq, notQ_s, eIf_eq, eChain_eq, andO_bb, andO_t, andO_f, orO_bb, orO_t, orO_f, qandO_bb, qandO_t, qandO_f, qorO_bb, qorO_t, qorO_f, ifO_s, ifO_t, ifO_f, chO_s, ite_int, ite_bl, ite_enc, dIsN_non, dNotN_non, isNon_non, isNon_int, isNon_l, isNon_p, gN_eq, gT_p, eComp_eq, eComp2_eq, stepC_eq, stQ_s, stR_t, stR_f, stR_b, stepM_eq', stMQ_s, stM_t, stM_f, turnF_eq, tnB_s, turnW_eq, tnQ_nx, tnQ_ct, tnQ_bk, tnQ_rt, xApp_eq, xExt_eq, appO_i, extO_l, eScr_eq, scrF_s, eLenScr_eq, scrLen_s, eIxScr_eq, iSq_eq, seqOf_l, seqOf_p, iR1_eq, iR2_eq, r1Of_i, r2Of_i, iEn_eq, enOf_l, eSl_eq, slOf_l, oNo_eq, oSo_eq, soQ_s, tup_ii, tup_ee, tup_ei, tup_ie, enc_int, enc_bool, dAt_p0, dAt_p1, dLen_l, dEq_int, dNe_int, dEq_bl, dNe_bl, dMul_l, dMul_r, dDiv_i, dMod_i, dSub_i, dAdd_i, dAddI_i, dNeg_i, dLt_i, dLe_i, dGt_i, dGe_i, dInt_i, dInt_b, dAbs_i, dMin_i, dMax_i, dGcd_i, fold_list, fold_listF, lst1, lst2, lst1i, lst2i, dSum_l, dAll_l, dAny_l, eLzip_eq, lzQ_l, eDcT_eq, stepD_eq, dEqX_int, dNeX_int, dEqX_bl, dNeX_bl, dEqX_str, dNeX_str, dSortP_l, dEqY_int, dNeY_int, dEqY_bl, dNeY_bl, dEqY_str, dNeY_str, env0_b2, t_len2, t_len3, Int.reduceEq, Int.reduceLT, Int.reduceLE, t_at0, t_at1, t_at2, s_len, x_rows_in]
  rw [compO_map (f := fun l : Ln Rw => ((wrL l).length : Int)) (by omega) fun l hl => by
    have w3 := wr_line hl
    have okl := okS_line ok hl
    cases l with
    | row a =>
      rw [enc_row]
      simp (disch := omega) only [List.getElem?_cons_zero, List.getElem?_cons_succ, List.set_cons_zero, List.set_cons_succ, env0_0, env0_1, env0_2, env0_3, env0_4, List.replicate_succ, List.replicate_zero, Nat.reduceSub, wipeE, xSeq_eq, seqO_nx, seqO_rt, seqO_bk, seqO_ct, rngI_length, xNext_eq, xAsg_eq, asgQ_s, nxO_s, xAsgO_eq, asgOQ_s, xPar_eq, parQ_s, setQ_s, xAug_eq, xDrop_eq, dropQ_s, xRet_eq, retO_s, xRetN_eq, xBrk_eq, xCt_eq, xIf_eq, ifX_t, ifX_f, ifX_s, Bool.false_eq_true, if_false, if_true, eq_self, Bool.false_or, Bool.or_false, Bool.true_or, Bool.or_true, Bool.true_and, Bool.and_true, Bool.false_and, Bool.and_false, Bool.not_true, Bool.not_false, decide_true, decide_false, xFrz_own, frzE_eq, frzQ_own, frzQ_sh, xFor_eq, forQ_s, xWhile_eq, eVar_eq, varQ_s, bVar_eq, lookQ_s, lookQ_o, lookQ_b, eC_eq, e1_eq, e1Q_s, e2_eq, e2Q_s, eCall_eq, callQ_s, aNil_eq, aCons_eq, consQ_s, eLst_eq, eTup_eq, lstQ0, lstQ1, lstQ2, lstQ3, lstQ4, lstQ8, tupQ2, tupQ3, qB_eq, boolQ_s, qAnd_eq, qOr_eq, qNot_eq, qnotQ_s, eAnd_eq, eOr_eq, eNot_eq, notQ_s, eIf_eq, eChain_eq, andO_bb, andO_t, andO_f, orO_bb, orO_t, orO_f, qandO_bb, qandO_t, qandO_f, qorO_bb, qorO_t, qorO_f, ifO_s, ifO_t, ifO_f, chO_s, ite_int, ite_bl, ite_enc, dIsN_non, dNotN_non, isNon_non, isNon_int, isNon_l, isNon_p, gN_eq, gT_p, eComp_eq, eComp2_eq, stepC_eq, stQ_s, stR_t, stR_f, stR_b, stepM_eq', stMQ_s, stM_t, stM_f, turnF_eq, tnB_s, turnW_eq, tnQ_nx, tnQ_ct, tnQ_bk, tnQ_rt, xApp_eq, xExt_eq, appO_i, extO_l, eScr_eq, scrF_s, eLenScr_eq, scrLen_s, eIxScr_eq, iSq_eq, seqOf_l, seqOf_p, iR1_eq, iR2_eq, r1Of_i, r2Of_i, iEn_eq, enOf_l, eSl_eq, slOf_l, oNo_eq, oSo_eq, soQ_s, tup_ii, tup_ee, tup_ei, tup_ie, enc_int, enc_bool, dAt_p0, dAt_p1, dLen_l, dEq_int, dNe_int, dEq_bl, dNe_bl, dMul_l, dMul_r, dDiv_i, dMod_i, dSub_i, dAdd_i, dAddI_i, dNeg_i, dLt_i, dLe_i, dGt_i, dGe_i, dInt_i, dInt_b, dAbs_i, dMin_i, dMax_i, dGcd_i, fold_list, fold_listF, lst1, lst2, lst1i, lst2i, dSum_l, dAll_l, dAny_l, eLzip_eq, lzQ_l, eDcT_eq, stepD_eq, dEqX_int, dNeX_int, dEqX_bl, dNeX_bl, dEqX_str, dNeX_str, dSortP_l, dEqY_int, dNeY_int, dEqY_bl, dNeY_bl, dEqY_str, dNeY_str, env0_b2, t_len2, t_len3, Int.reduceEq, Int.reduceLT, Int.reduceLE, t_at0, t_at1, t_at2, s_len, r_eq, wrL, List.length_singleton]
      rfl
    | rep n ls =>
      cases d with
      | zero => rw [okL] at okl; exact okl.elim
      | succ d =>
        rw [okL] at okl
        obtain ⟨w4, w5⟩ := wr_rep (ls := ls) okl.1
        have en : (((n * (wrS ls).length : Nat) : Int)) = (n : Int) * ((wrS ls).length : Int) := Int.natCast_mul _ _
        rw [enc_rep]
        simp (disch := omega) only [List.getElem?_cons_zero, List.getElem?_cons_succ, List.set_cons_zero, List.set_cons_succ, env0_0, env0_1, env0_2, env0_3, env0_4, List.replicate_succ, List.replicate_zero, Nat.reduceSub, wipeE, xSeq_eq, seqO_nx, seqO_rt, seqO_bk, seqO_ct, rngI_length, xNext_eq, xAsg_eq, asgQ_s, nxO_s, xAsgO_eq, asgOQ_s, xPar_eq, parQ_s, setQ_s, xAug_eq, xDrop_eq, dropQ_s, xRet_eq, retO_s, xRetN_eq, xBrk_eq, xCt_eq, xIf_eq, ifX_t, ifX_f, ifX_s, Bool.false_eq_true, if_false, if_true, eq_self, Bool.false_or, Bool.or_false, Bool.true_or, Bool.or_true, Bool.true_and, Bool.and_true, Bool.false_and, Bool.and_false, Bool.not_true, Bool.not_false, decide_true, decide_false, xFrz_own, frzE_eq, frzQ_own, frzQ_sh, xFor_eq, forQ_s, xWhile_eq, eVar_eq, varQ_s, bVar_eq, lookQ_s, lookQ_o, lookQ_b, eC_eq, e1_eq, e1Q_s, e2_eq, e2Q_s, eCall_eq, callQ_s, aNil_eq, aCons_eq, consQ_s, eLst_eq, eTup_eq, lstQ0, lstQ1, lstQ2, lstQ3, lstQ4, lstQ8, tupQ2, tupQ3, qB_eq, boolQ_s, qAnd_eq, qOr_eq, qNot_eq, qnotQ_s, eAnd_eq, eOr_eq, eNot_eq, notQ_s, eIf_eq, eChain_eq, andO_bb, andO_t, andO_f, orO_bb, orO_t, orO_f, qandO_bb, qandO_t, qandO_f, qorO_bb, qorO_t, qorO_f, ifO_s, ifO_t, ifO_f, chO_s, ite_int, ite_bl, ite_enc, dIsN_non, dNotN_non, isNon_non, isNon_int, isNon_l, isNon_p, gN_eq, gT_p, eComp_eq, eComp2_eq, stepC_eq, stQ_s, stR_t, stR_f, stR_b, stepM_eq', stMQ_s, stM_t, stM_f, turnF_eq, tnB_s, turnW_eq, tnQ_nx, tnQ_ct, tnQ_bk, tnQ_rt, xApp_eq, xExt_eq, appO_i, extO_l, eScr_eq, scrF_s, eLenScr_eq, scrLen_s, eIxScr_eq, iSq_eq, seqOf_l, seqOf_p, iR1_eq, iR2_eq, r1Of_i, r2Of_i, iEn_eq, enOf_l, eSl_eq, slOf_l, oNo_eq, oSo_eq, soQ_s, tup_ii, tup_ee, tup_ei, tup_ie, enc_int, enc_bool, dAt_p0, dAt_p1, dLen_l, dEq_int, dNe_int, dEq_bl, dNe_bl, dMul_l, dMul_r, dDiv_i, dMod_i, dSub_i, dAdd_i, dAddI_i, dNeg_i, dLt_i, dLe_i, dGt_i, dGe_i, dInt_i, dInt_b, dAbs_i, dMin_i, dMax_i, dGcd_i, fold_list, fold_listF, lst1, lst2, lst1i, lst2i, dSum_l, dAll_l, dAny_l, eLzip_eq, lzQ_l, eDcT_eq, stepD_eq, dEqX_int, dNeX_int, dEqX_bl, dNeX_bl, dEqX_str, dNeX_str, dSortP_l, dEqY_int, dNeY_int, dEqY_bl, dNeY_bl, dEqY_str, dNeY_str, env0_b2, t_len2, t_len3, Int.reduceEq, Int.reduceLT, Int.reduceLE, t_at0, t_at1, t_at2, s_len, rr_ne, ev_rows_inR ⟨okl.2.2, by omega⟩, w4, en]]
  simp (disch := omega) only [List.getElem?_cons_zero, List.getElem?_cons_succ, List.set_cons_zero, List.set_cons_succ, env0_0, env0_1, env0_2, env0_3, env0_4, List.replicate_succ, List.replicate_zero, Nat.reduceSub, wipeE, xSeq_eq, seqO_nx, seqO_rt, seqO_bk, seqO_ct, rngI_length, xNext_eq, xAsg_eq, asgQ_s, nxO_s, xAsgO_eq, asgOQ_s, xPar_eq, parQ_s, setQ_s, xAug_eq, xDrop_eq, dropQ_s, xRet_eq, retO_s, xRetN_eq, xBrk_eq, xCt_eq, xIf_eq, ifX_t, ifX_f, ifX_s, Bool.false_eq_true, if_false, if_true, eq_self, Bool.false_or, Bool.or_false, Bool.true_or, Bool.or_true, Bool.true_and, Bool.and_true, Bool.false_and, Bool.and_false, Bool.not_true, Bool.not_false, decide_true, decide_false, xFrz_own, frzE_eq, frzQ_own, frzQ_sh, xFor_eq, forQ_s, xWhile_eq, eVar_eq, varQ_s, bVar_eq, lookQ_s, lookQ_o, lookQ_b, eC_eq, e1_eq, e1Q_s, e2_eq, e2Q_s, eCall_eq, callQ_s, aNil_eq, aCons_eq, consQ_s, eLst_eq, eTup_eq, lstQ0, lstQ1, lstQ2, lstQ3, lstQ4, lstQ8, tupQ2, tupQ3, qB_eq, boolQ_s, qAnd_eq, qOr_eq, qNot_eq, qnotQ_s, eAnd_eq, eOr_eq, eNot_eq, notQ_s, eIf_eq, eChain_eq, andO_bb, andO_t, andO_f, orO_bb, orO_t, orO_f, qandO_bb, qandO_t, qandO_f, qorO_bb, qorO_t, qorO_f, ifO_s, ifO_t, ifO_f, chO_s, ite_int, ite_bl, ite_enc, dIsN_non, dNotN_non, isNon_non, isNon_int, isNon_l, isNon_p, gN_eq, gT_p, eComp_eq, eComp2_eq, stepC_eq, stQ_s, stR_t, stR_f, stR_b, stepM_eq', stMQ_s, stM_t, stM_f, turnF_eq, tnB_s, turnW_eq, tnQ_nx, tnQ_ct, tnQ_bk, tnQ_rt, xApp_eq, xExt_eq, appO_i, extO_l, eScr_eq, scrF_s, eLenScr_eq, scrLen_s, eIxScr_eq, iSq_eq, seqOf_l, seqOf_p, iR1_eq, iR2_eq, r1Of_i, r2Of_i, iEn_eq, enOf_l, eSl_eq, slOf_l, oNo_eq, oSo_eq, soQ_s, tup_ii, tup_ee, tup_ei, tup_ie, enc_int, enc_bool, dAt_p0, dAt_p1, dLen_l, dEq_int, dNe_int, dEq_bl, dNe_bl, dMul_l, dMul_r, dDiv_i, dMod_i, dSub_i, dAdd_i, dAddI_i, dNeg_i, dLt_i, dLe_i, dGt_i, dGe_i, dInt_i, dInt_b, dAbs_i, dMin_i, dMax_i, dGcd_i, fold_list, fold_listF, lst1, lst2, lst1i, lst2i, dSum_l, dAll_l, dAny_l, eLzip_eq, lzQ_l, eDcT_eq, stepD_eq, dEqX_int, dNeX_int, dEqX_bl, dNeX_bl, dEqX_str, dNeX_str, dSortP_l, dEqY_int, dNeY_int, dEqY_bl, dNeY_bl, dEqY_str, dNeY_str, env0_b2, t_len2, t_len3, Int.reduceEq, Int.reduceLT, Int.reduceLE, t_at0, t_at1, t_at2, s_len, sum_wr]
theorem ev_is_line {l : Ln Rw} (h : okL 4 l ∧ (wrL l).length ≤ 300) : F_is_line [enc l, .int 0] = some (.bl true) := ev_is_lineR (d := 4) ⟨h, by omega, by omega⟩
theorem ev_rows_in {s : S} (h : goodS s) : F_rows_in [enc s] = some (.int ((wrS s).length : Nat)) := ev_rows_inR (d := 4) h
theorem ev_check_script {s : S} (h : goodS s) : F_check_script [enc s] = some .non := fn1_ev (a := s) h
theorem h_check_script : ∀ ds r, F_check_script ds = some r → Ret (x_check_script (env0 [false] ds 3)) r := fun ds r e => by
  obtain ⟨s, rfl, g, rfl⟩ := fn1_el e
  right
  have few := g.2
  refine ⟨rfl, [.sh (enc s), .un, .un], ?_⟩
  have c1 : (300 < ((wrS s).length : Int)) = False := eq_false (by omega)
  simp (disch := omega) only [List.getElem?_cons_zero, List.getElem?_cons_succ, List.set_cons_zero, List.set_cons_succ, env0_0, env0_1, env0_2, env0_3, env0_4, List.replicate_succ, List.replicate_zero, Nat.reduceSub, wipeE, xSeq_eq, seqO_nx, seqO_rt, seqO_bk, seqO_ct, rngI_length, xNext_eq, xAsg_eq, asgQ_s, nxO_s, xAsgO_eq, asgOQ_s, xPar_eq, parQ_s, setQ_s, xAug_eq, xDrop_eq, dropQ_s, xRet_eq, retO_s, xRetN_eq, xBrk_eq, xCt_eq, xIf_eq, ifX_t, ifX_f, ifX_s, Bool.false_eq_true, if_false, if_true, eq_self, Bool.false_or, Bool.or_false, Bool.true_or, Bool.or_true, Bool.true_and, Bool.and_true, Bool.false_and, Bool.and_false, Bool.not_true, Bool.not_false, decide_true, decide_false, xFrz_own, frzE_eq, frzQ_own, frzQ_sh, xFor_eq, forQ_s, xWhile_eq, eVar_eq, varQ_s, bVar_eq, lookQ_s, lookQ_o, lookQ_b, eC_eq, e1_eq, e1Q_s, e2_eq, e2Q_s, eCall_eq, callQ_s, aNil_eq, aCons_eq, consQ_s, eLst_eq, eTup_eq, lstQ0, lstQ1, lstQ2, lstQ3, lstQ4, lstQ8, tupQ2, tupQ3, qB_eq, boolQ_s, qAnd_eq, qOr_eq, qNot_eq, qnotQ_s, eAnd_eq, eOr_eq, eNot_eq, notQ_s, eIf_eq, eChain_eq, andO_bb, andO_t, andO_f, orO_bb, orO_t, orO_f, qandO_bb, qandO_t, qandO_f, qorO_bb, qorO_t, qorO_f, ifO_s, ifO_t, ifO_f, chO_s, ite_int, ite_bl, ite_enc, dIsN_non, dNotN_non, isNon_non, isNon_int, isNon_l, isNon_p, gN_eq, gT_p, eComp_eq, eComp2_eq, stepC_eq, stQ_s, stR_t, stR_f, stR_b, stepM_eq', stMQ_s, stM_t, stM_f, turnF_eq, tnB_s, turnW_eq, tnQ_nx, tnQ_ct, tnQ_bk, tnQ_rt, xApp_eq, xExt_eq, appO_i, extO_l, eScr_eq, scrF_s, eLenScr_eq, scrLen_s, eIxScr_eq, iSq_eq, seqOf_l, seqOf_p, iR1_eq, iR2_eq, r1Of_i, r2Of_i, iEn_eq, enOf_l, eSl_eq, slOf_l, oNo_eq, oSo_eq, soQ_s, tup_ii, tup_ee, tup_ei, tup_ie, enc_int, enc_bool, dAt_p0, dAt_p1, dLen_l, dEq_int, dNe_int, dEq_bl, dNe_bl, dMul_l, dMul_r, dDiv_i, dMod_i, dSub_i, dAdd_i, dAddI_i, dNeg_i, dLt_i, dLe_i, dGt_i, dGe_i, dInt_i, dInt_b, dAbs_i, dMin_i, dMax_i, dGcd_i, fold_list, fold_listF, lst1, lst2, lst1i, lst2i, dSum_l, dAll_l, dAny_l, eLzip_eq, lzQ_l, eDcT_eq, stepD_eq, dEqX_int, dNeX_int, dEqX_bl, dNeX_bl, dEqX_str, dNeX_str, dSortP_l, dEqY_int, dNeY_int, dEqY_bl, dNeY_bl, dEqY_str, dNeY_str, env0_b2, t_len2, t_len3, Int.reduceEq, Int.reduceLT, Int.reduceLE, t_at0, t_at1, t_at2, s_len, x_check_script, ev_rows_in g]
  rw [iterF_same fun a ha => by
    obtain ⟨m1, m2, m3, m4⟩ := mem_enI ha
    obtain ⟨k, l⟩ := a
    simp only at m1
    have w3 := wr_line m1
    simp (disch := omega) only [List.getElem?_cons_zero, List.getElem?_cons_succ, List.set_cons_zero, List.set_cons_succ, env0_0, env0_1, env0_2, env0_3, env0_4, List.replicate_succ, List.replicate_zero, Nat.reduceSub, wipeE, xSeq_eq, seqO_nx, seqO_rt, seqO_bk, seqO_ct, rngI_length, xNext_eq, xAsg_eq, asgQ_s, nxO_s, xAsgO_eq, asgOQ_s, xPar_eq, parQ_s, setQ_s, xAug_eq, xDrop_eq, dropQ_s, xRet_eq, retO_s, xRetN_eq, xBrk_eq, xCt_eq, xIf_eq, ifX_t, ifX_f, ifX_s, Bool.false_eq_true, if_false, if_true, eq_self, Bool.false_or, Bool.or_false, Bool.true_or, Bool.or_true, Bool.true_and, Bool.and_true, Bool.false_and, Bool.and_false, Bool.not_true, Bool.not_false, decide_true, decide_false, xFrz_own, frzE_eq, frzQ_own, frzQ_sh, xFor_eq, forQ_s, xWhile_eq, eVar_eq, varQ_s, bVar_eq, lookQ_s, lookQ_o, lookQ_b, eC_eq, e1_eq, e1Q_s, e2_eq, e2Q_s, eCall_eq, callQ_s, aNil_eq, aCons_eq, consQ_s, eLst_eq, eTup_eq, lstQ0, lstQ1, lstQ2, lstQ3, lstQ4, lstQ8, tupQ2, tupQ3, qB_eq, boolQ_s, qAnd_eq, qOr_eq, qNot_eq, qnotQ_s, eAnd_eq, eOr_eq, eNot_eq, notQ_s, eIf_eq, eChain_eq, andO_bb, andO_t, andO_f, orO_bb, orO_t, orO_f, qandO_bb, qandO_t, qandO_f, qorO_bb, qorO_t, qorO_f, ifO_s, ifO_t, ifO_f, chO_s, ite_int, ite_bl, ite_enc, dIsN_non, dNotN_non, isNon_non, isNon_int, isNon_l, isNon_p, gN_eq, gT_p, eComp_eq, eComp2_eq, stepC_eq, stQ_s, stR_t, stR_f, stR_b, stepM_eq', stMQ_s, stM_t, stM_f, turnF_eq, tnB_s, turnW_eq, tnQ_nx, tnQ_ct, tnQ_bk, tnQ_rt, xApp_eq, xExt_eq, appO_i, extO_l, eScr_eq, scrF_s, eLenScr_eq, scrLen_s, eIxScr_eq, iSq_eq, seqOf_l, seqOf_p, iR1_eq, iR2_eq, r1Of_i, r2Of_i, iEn_eq, enOf_l, eSl_eq, slOf_l, oNo_eq, oSo_eq, soQ_s, tup_ii, tup_ee, tup_ei, tup_ie, enc_int, enc_bool, dAt_p0, dAt_p1, dLen_l, dEq_int, dNe_int, dEq_bl, dNe_bl, dMul_l, dMul_r, dDiv_i, dMod_i, dSub_i, dAdd_i, dAddI_i, dNeg_i, dLt_i, dLe_i, dGt_i, dGe_i, dInt_i, dInt_b, dAbs_i, dMin_i, dMax_i, dGcd_i, fold_list, fold_listF, lst1, lst2, lst1i, lst2i, dSum_l, dAll_l, dAny_l, eLzip_eq, lzQ_l, eDcT_eq, stepD_eq, dEqX_int, dNeX_int, dEqX_bl, dNeX_bl, dEqX_str, dNeX_str, dSortP_l, dEqY_int, dNeY_int, dEqY_bl, dNeY_bl, dEqY_str, dNeY_str, env0_b2, t_len2, t_len3, Int.reduceEq, Int.reduceLT, Int.reduceLE, t_at0, t_at1, t_at2, s_len, ev_is_line ⟨okS_line g.1 m1, by omega⟩]]
  simp (disch := omega) only [List.getElem?_cons_zero, List.getElem?_cons_succ, List.set_cons_zero, List.set_cons_succ, env0_0, env0_1, env0_2, env0_3, env0_4, List.replicate_succ, List.replicate_zero, Nat.reduceSub, wipeE, xSeq_eq, seqO_nx, seqO_rt, seqO_bk, seqO_ct, rngI_length, xNext_eq, xAsg_eq, asgQ_s, nxO_s, xAsgO_eq, asgOQ_s, xPar_eq, parQ_s, setQ_s, xAug_eq, xDrop_eq, dropQ_s, xRet_eq, retO_s, xRetN_eq, xBrk_eq, xCt_eq, xIf_eq, ifX_t, ifX_f, ifX_s, Bool.false_eq_true, if_false, if_true, eq_self, Bool.false_or, Bool.or_false, Bool.true_or, Bool.or_true, Bool.true_and, Bool.and_true, Bool.false_and, Bool.and_false, Bool.not_true, Bool.not_false, decide_true, decide_false, xFrz_own, frzE_eq, frzQ_own, frzQ_sh, xFor_eq, forQ_s, xWhile_eq, eVar_eq, varQ_s, bVar_eq, lookQ_s, lookQ_o, lookQ_b, eC_eq, e1_eq, e1Q_s, e2_eq, e2Q_s, eCall_eq, callQ_s, aNil_eq, aCons_eq, consQ_s, eLst_eq, eTup_eq, lstQ0, lstQ1, lstQ2, lstQ3, lstQ4, lstQ8, tupQ2, tupQ3, qB_eq, boolQ_s, qAnd_eq, qOr_eq, qNot_eq, qnotQ_s, eAnd_eq, eOr_eq, eNot_eq, notQ_s, eIf_eq, eChain_eq, andO_bb, andO_t, andO_f, orO_bb, orO_t, orO_f, qandO_bb, qandO_t, qandO_f, qorO_bb, qorO_t, qorO_f, ifO_s, ifO_t, ifO_f, chO_s, ite_int, ite_bl, ite_enc, dIsN_non, dNotN_non, isNon_non, isNon_int, isNon_l, isNon_p, gN_eq, gT_p, eComp_eq, eComp2_eq, stepC_eq, stQ_s, stR_t, stR_f, stR_b, stepM_eq', stMQ_s, stM_t, stM_f, turnF_eq, tnB_s, turnW_eq, tnQ_nx, tnQ_ct, tnQ_bk, tnQ_rt, xApp_eq, xExt_eq, appO_i, extO_l, eScr_eq, scrF_s, eLenScr_eq, scrLen_s, eIxScr_eq, iSq_eq, seqOf_l, seqOf_p, iR1_eq, iR2_eq, r1Of_i, r2Of_i, iEn_eq, enOf_l, eSl_eq, slOf_l, oNo_eq, oSo_eq, soQ_s, tup_ii, tup_ee, tup_ei, tup_ie, enc_int, enc_bool, dAt_p0, dAt_p1, dLen_l, dEq_int, dNe_int, dEq_bl, dNe_bl, dMul_l, dMul_r, dDiv_i, dMod_i, dSub_i, dAdd_i, dAddI_i, dNeg_i, dLt_i, dLe_i, dGt_i, dGe_i, dInt_i, dInt_b, dAbs_i, dMin_i, dMax_i, dGcd_i, fold_list, fold_listF, lst1, lst2, lst1i, lst2i, dSum_l, dAll_l, dAny_l, eLzip_eq, lzQ_l, eDcT_eq, stepD_eq, dEqX_int, dNeX_int, dEqX_bl, dNeX_bl, dEqX_str, dNeX_str, dSortP_l, dEqY_int, dNeY_int, dEqY_bl, dNeY_bl, dEqY_str, dNeY_str, env0_b2, t_len2, t_len3, Int.reduceEq, Int.reduceLT, Int.reduceLE, t_at0, t_at1, t_at2, s_len, ev_rows_in g, c1]
theorem ev_written_byR {d : Nat} {s : S} (h : okS d s ∧ (wrS s).length ≤ 300) : R_written_by (d + 1) [enc s] = some (enc (wrS s)) := by
  rw [R_written_by]
  exact fn1_ev (a := s) h
theorem fold_wr : ∀ (s : S) (acc : Rows), s.foldl (fun acc l => acc ++ wrL l) acc = acc ++ wrS s
  | [], acc => by rw [List.foldl_nil, wrS, List.append_nil]
  | l :: r, acc => by rw [List.foldl_cons, fold_wr r, wrS, List.append_assoc]
theorem lst1r (a : Rw) : D.lst [enc a] = enc [a] := nr rfl
theorem hx_written_by : ∀ d ds r, R_written_by (d + 1) ds = some r → Ret (x_written_by (R_written_by d) (env0 [false] ds 3)) r := fun d ds r e => by
  rw [R_written_by] at e
  obtain ⟨s, rfl, ⟨ok, few⟩, rfl⟩ := fn1_el e
  left
  simp (disch := omega) only [List.getElem?_cons_zero, List.getElem?_cons_succ, List.set_cons_zero, List.set_cons_succ, env0_0, env0_1, env0_2, env0_3, env0_4, List.replicate_succ, List.replicate_zero, Nat.reduceSub, wipeE, xSeq_eq, seqO_nx, seqO_rt, seqO_bk, seqO_ct, rngI_length, xNext_eq, xAsg_eq, asgQ_s, nxO_s, xAsgO_eq, asgOQ_s, xPar_eq, parQ_s, setQ_s, xAug_eq, xDrop_eq, dropQ_s, xRet_eq, retO_s, xRetN_eq, xBrk_eq, xCt_eq, xIf_eq, ifX_t, ifX_f, ifX_s, Bool.false_eq_true, if_false, if_true, eq_self, Bool.false_or, Bool.or_false, Bool.true_or, Bool.or_true, Bool.true_and, Bool.and_true, Bool.false_and, Bool.and_false, Bool.not_true, Bool.not_false, decide_true, decide_false, xFrz_own, frzE_eq, frzQ_own, frzQ_sh, xFor_eq, forQ_s, xWhile_eq, eVar_eq, varQ_s, bVar_eq, lookQ_s, lookQ_o, lookQ_b, eC_eq, e1_eq, e1Q_s, e2_eq, e2Q_s, eCall_eq, callQ_s, aNil_eq, aCons_eq, consQ_s, eLst_eq, eTup_eq, lstQ0, lstQ1, lstQ2, lstQ3, lstQ4, lstQ8, tupQ2, tupQ3, qB_eq, boolQ_s, qAnd_eq, qOr_eq, qNot_eq, qnotQ_s, eAnd_eq, eOr_eq, eNot_eq, notQ_s, eIf_eq, eChain_eq, andO_bb, andO_t, andO_f, orO_bb, orO_t, orO_f, qandO_bb, qandO_t, qandO_f, qorO_bb, qorO_t, qorO_f, ifO_s, ifO_t, ifO_f, chO_s, ite_int, ite_bl, ite_enc, dIsN_non, dNotN_non, isNon_non, isNon_int, isNon_l, isNon_p, gN_eq, gT_p, eComp_eq, eComp2_eq, stepC_eq, stQ_s, stR_t, stR_f, stR_b, stepM_eq', stMQ_s, stM_t, stM_f, turnF_eq, tnB_s, turnW_eq, tnQ_nx, tnQ_ct, tnQ_bk, tnQ_rt, xApp_eq, xExt_eq, appO_i, extO_l, eScr_eq, scrF_s, eLenScr_eq, scrLen_s, eIxScr_eq, iSq_eq, seqOf_l, seqOf_p, iR1_eq, iR2_eq, r1Of_i, r2Of_i, iEn_eq, enOf_l, eSl_eq, slOf_l, oNo_eq, oSo_eq, soQ_s, tup_ii, tup_ee, tup_ei, tup_ie, enc_int, enc_bool, dAt_p0, dAt_p1, dLen_l, dEq_int, dNe_int, dEq_bl, dNe_bl, dMul_l, dMul_r, dDiv_i, dMod_i, dSub_i, dAdd_i, dAddI_i, dNeg_i, dLt_i, dLe_i, dGt_i, dGe_i, dInt_i, dInt_b, dAbs_i, dMin_i, dMax_i, dGcd_i, fold_list, fold_listF, lst1, lst2, lst1i, lst2i, dSum_l, dAll_l, dAny_l, eLzip_eq, lzQ_l, eDcT_eq, stepD_eq, dEqX_int, dNeX_int, dEqX_bl, dNeX_bl, dEqX_str, dNeX_str, dSortP_l, dEqY_int, dNeY_int, dEqY_bl, dNeY_bl, dEqY_str, dNeY_str, env0_b2, t_len2, t_len3, Int.reduceEq, Int.reduceLT, Int.reduceLE, t_at0, t_at1, t_at2, s_len, x_written_by]
  have e0 : D.lst [] = enc ([] : Rows) := rfl
  rw [e0]
  rw [(iterF_steps (α := Ln Rw) (S := Rows) (R := fun acc => [.sh (enc s), .own (enc acc), .un]) (st := fun acc l => acc ++ wrL l) (P := fun n acc => acc.length ≤ 300 * n) (xs := s) (n := 0) (s := []) (by simp) fun i l hl acc hP => by
    have m := List.mem_of_getElem? hl
    have hi : i < s.length := (List.getElem?_eq_some_iff.mp hl).1
    have w2 := wr_len ok
    have w3 := wr_line m
    have okl := okS_line ok m
    rw [Nat.zero_add] at hP
    refine ⟨?_, by rw [List.length_append]; omega⟩
    cases l with
    | row a =>
      rw [enc_row]
      simp (disch := omega) only [List.getElem?_cons_zero, List.getElem?_cons_succ, List.set_cons_zero, List.set_cons_succ, env0_0, env0_1, env0_2, env0_3, env0_4, List.replicate_succ, List.replicate_zero, Nat.reduceSub, wipeE, xSeq_eq, seqO_nx, seqO_rt, seqO_bk, seqO_ct, rngI_length, xNext_eq, xAsg_eq, asgQ_s, nxO_s, xAsgO_eq, asgOQ_s, xPar_eq, parQ_s, setQ_s, xAug_eq, xDrop_eq, dropQ_s, xRet_eq, retO_s, xRetN_eq, xBrk_eq, xCt_eq, xIf_eq, ifX_t, ifX_f, ifX_s, Bool.false_eq_true, if_false, if_true, eq_self, Bool.false_or, Bool.or_false, Bool.true_or, Bool.or_true, Bool.true_and, Bool.and_true, Bool.false_and, Bool.and_false, Bool.not_true, Bool.not_false, decide_true, decide_false, xFrz_own, frzE_eq, frzQ_own, frzQ_sh, xFor_eq, forQ_s, xWhile_eq, eVar_eq, varQ_s, bVar_eq, lookQ_s, lookQ_o, lookQ_b, eC_eq, e1_eq, e1Q_s, e2_eq, e2Q_s, eCall_eq, callQ_s, aNil_eq, aCons_eq, consQ_s, eLst_eq, eTup_eq, lstQ0, lstQ1, lstQ2, lstQ3, lstQ4, lstQ8, tupQ2, tupQ3, qB_eq, boolQ_s, qAnd_eq, qOr_eq, qNot_eq, qnotQ_s, eAnd_eq, eOr_eq, eNot_eq, notQ_s, eIf_eq, eChain_eq, andO_bb, andO_t, andO_f, orO_bb, orO_t, orO_f, qandO_bb, qandO_t, qandO_f, qorO_bb, qorO_t, qorO_f, ifO_s, ifO_t, ifO_f, chO_s, ite_int, ite_bl, ite_enc, dIsN_non, dNotN_non, isNon_non, isNon_int, isNon_l, isNon_p, gN_eq, gT_p, eComp_eq, eComp2_eq, stepC_eq, stQ_s, stR_t, stR_f, stR_b, stepM_eq', stMQ_s, stM_t, stM_f, turnF_eq, tnB_s, turnW_eq, tnQ_nx, tnQ_ct, tnQ_bk, tnQ_rt, xApp_eq, xExt_eq, appO_i, extO_l, eScr_eq, scrF_s, eLenScr_eq, scrLen_s, eIxScr_eq, iSq_eq, seqOf_l, seqOf_p, iR1_eq, iR2_eq, r1Of_i, r2Of_i, iEn_eq, enOf_l, eSl_eq, slOf_l, oNo_eq, oSo_eq, soQ_s, tup_ii, tup_ee, tup_ei, tup_ie, enc_int, enc_bool, dAt_p0, dAt_p1, dLen_l, dEq_int, dNe_int, dEq_bl, dNe_bl, dMul_l, dMul_r, dDiv_i, dMod_i, dSub_i, dAdd_i, dAddI_i, dNeg_i, dLt_i, dLe_i, dGt_i, dGe_i, dInt_i, dInt_b, dAbs_i, dMin_i, dMax_i, dGcd_i, fold_list, fold_listF, lst1, lst2, lst1i, lst2i, dSum_l, dAll_l, dAny_l, eLzip_eq, lzQ_l, eDcT_eq, stepD_eq, dEqX_int, dNeX_int, dEqX_bl, dNeX_bl, dEqX_str, dNeX_str, dSortP_l, dEqY_int, dNeY_int, dEqY_bl, dNeY_bl, dEqY_str, dNeY_str, env0_b2, t_len2, t_len3, Int.reduceEq, Int.reduceLT, Int.reduceLE, t_at0, t_at1, t_at2, s_len, r_eq, wrL, lst1r]
      rw [extO_l _ _ _ _ (by rw [List.length_singleton]; omega)]
      simp only [List.getElem?_cons_zero, List.getElem?_cons_succ, List.set_cons_zero, List.set_cons_succ, env0_0, env0_1, env0_2, env0_3, env0_4, List.replicate_succ, List.replicate_zero, Nat.reduceSub, wipeE, xSeq_eq, seqO_nx, seqO_rt, seqO_bk, seqO_ct, rngI_length, xNext_eq, xAsg_eq, asgQ_s, nxO_s, xAsgO_eq, asgOQ_s, xPar_eq, parQ_s, setQ_s, xAug_eq, xDrop_eq, dropQ_s, xRet_eq, retO_s, xRetN_eq, xBrk_eq, xCt_eq, xIf_eq, ifX_t, ifX_f, ifX_s, Bool.false_eq_true, if_false, if_true, eq_self, Bool.false_or, Bool.or_false, Bool.true_or, Bool.or_true, Bool.true_and, Bool.and_true, Bool.false_and, Bool.and_false, Bool.not_true, Bool.not_false, decide_true, decide_false, xFrz_own, frzE_eq, frzQ_own, frzQ_sh, xFor_eq, forQ_s, xWhile_eq, eVar_eq, varQ_s, bVar_eq, lookQ_s, lookQ_o, lookQ_b, eC_eq, e1_eq, e1Q_s, e2_eq, e2Q_s, eCall_eq, callQ_s, aNil_eq, aCons_eq, consQ_s, eLst_eq, eTup_eq, lstQ0, lstQ1, lstQ2, lstQ3, lstQ4, lstQ8, tupQ2, tupQ3, qB_eq, boolQ_s, qAnd_eq, qOr_eq, qNot_eq, qnotQ_s, eAnd_eq, eOr_eq, eNot_eq, notQ_s, eIf_eq, eChain_eq, andO_bb, andO_t, andO_f, orO_bb, orO_t, orO_f, qandO_bb, qandO_t, qandO_f, qorO_bb, qorO_t, qorO_f, ifO_s, ifO_t, ifO_f, chO_s, ite_int, ite_bl, ite_enc, dIsN_non, dNotN_non, isNon_non, isNon_int, isNon_l, isNon_p, gN_eq, gT_p, eComp_eq, eComp2_eq, stepC_eq, stQ_s, stR_t, stR_f, stR_b, stepM_eq', stMQ_s, stM_t, stM_f, turnF_eq, tnB_s, turnW_eq, tnQ_nx, tnQ_ct, tnQ_bk, tnQ_rt, xApp_eq, xExt_eq, appO_i, extO_l, eScr_eq, scrF_s, eLenScr_eq, scrLen_s, eIxScr_eq, iSq_eq, seqOf_l, seqOf_p, iR1_eq, iR2_eq, r1Of_i, r2Of_i, iEn_eq, enOf_l, eSl_eq, slOf_l, oNo_eq, oSo_eq, soQ_s, tup_ii, tup_ee, tup_ei, tup_ie, enc_int, enc_bool, dAt_p0, dAt_p1, dLen_l, dEq_int, dNe_int, dEq_bl, dNe_bl, dMul_l, dMul_r, dDiv_i, dMod_i, dSub_i, dAdd_i, dAddI_i, dNeg_i, dLt_i, dLe_i, dGt_i, dGe_i, dInt_i, dInt_b, dAbs_i, dMin_i, dMax_i, dGcd_i, fold_list, fold_listF, lst1, lst2, lst1i, lst2i, dSum_l, dAll_l, dAny_l, eLzip_eq, lzQ_l, eDcT_eq, stepD_eq, dEqX_int, dNeX_int, dEqX_bl, dNeX_bl, dEqX_str, dNeX_str, dSortP_l, dEqY_int, dNeY_int, dEqY_bl, dNeY_bl, dEqY_str, dNeY_str, env0_b2, t_len2, t_len3, Int.reduceEq, Int.reduceLT, Int.reduceLE, t_at0, t_at1, t_at2, s_len]
    | rep n ls =>
      cases d with
      | zero => rw [okL] at okl; exact okl.elim
      | succ d =>
        rw [okL] at okl
        obtain ⟨w4, w5⟩ := wr_rep (ls := ls) okl.1
        have pos := List.length_pos_iff.mpr (wrS_ne okl.2.2 okl.2.1)
        have n1 : n * 1 ≤ n * (wrS ls).length := Nat.mul_le_mul_left _ pos
        have mul := dMulL (wrS ls) (n : Int) (by rw [Int.toNat_natCast, Nat.mul_comm]; omega)
        rw [Int.toNat_natCast] at mul
        rw [enc_rep]
        have ext := extO_l 1 [LV.sh (enc s), .own (enc acc), .sh (.tup [.str "repeat", .int n, enc ls])] acc (List.replicate n (wrS ls)).flatten (by rw [rep_len]; omega)
        simp (disch := omega) only [List.getElem?_cons_zero, List.getElem?_cons_succ, List.set_cons_zero, List.set_cons_succ, env0_0, env0_1, env0_2, env0_3, env0_4, List.replicate_succ, List.replicate_zero, Nat.reduceSub, wipeE, xSeq_eq, seqO_nx, seqO_rt, seqO_bk, seqO_ct, rngI_length, xNext_eq, xAsg_eq, asgQ_s, nxO_s, xAsgO_eq, asgOQ_s, xPar_eq, parQ_s, setQ_s, xAug_eq, xDrop_eq, dropQ_s, xRet_eq, retO_s, xRetN_eq, xBrk_eq, xCt_eq, xIf_eq, ifX_t, ifX_f, ifX_s, Bool.false_eq_true, if_false, if_true, eq_self, Bool.false_or, Bool.or_false, Bool.true_or, Bool.or_true, Bool.true_and, Bool.and_true, Bool.false_and, Bool.and_false, Bool.not_true, Bool.not_false, decide_true, decide_false, xFrz_own, frzE_eq, frzQ_own, frzQ_sh, xFor_eq, forQ_s, xWhile_eq, eVar_eq, varQ_s, bVar_eq, lookQ_s, lookQ_o, lookQ_b, eC_eq, e1_eq, e1Q_s, e2_eq, e2Q_s, eCall_eq, callQ_s, aNil_eq, aCons_eq, consQ_s, eLst_eq, eTup_eq, lstQ0, lstQ1, lstQ2, lstQ3, lstQ4, lstQ8, tupQ2, tupQ3, qB_eq, boolQ_s, qAnd_eq, qOr_eq, qNot_eq, qnotQ_s, eAnd_eq, eOr_eq, eNot_eq, notQ_s, eIf_eq, eChain_eq, andO_bb, andO_t, andO_f, orO_bb, orO_t, orO_f, qandO_bb, qandO_t, qandO_f, qorO_bb, qorO_t, qorO_f, ifO_s, ifO_t, ifO_f, chO_s, ite_int, ite_bl, ite_enc, dIsN_non, dNotN_non, isNon_non, isNon_int, isNon_l, isNon_p, gN_eq, gT_p, eComp_eq, eComp2_eq, stepC_eq, stQ_s, stR_t, stR_f, stR_b, stepM_eq', stMQ_s, stM_t, stM_f, turnF_eq, tnB_s, turnW_eq, tnQ_nx, tnQ_ct, tnQ_bk, tnQ_rt, xApp_eq, xExt_eq, appO_i, extO_l, eScr_eq, scrF_s, eLenScr_eq, scrLen_s, eIxScr_eq, iSq_eq, seqOf_l, seqOf_p, iR1_eq, iR2_eq, r1Of_i, r2Of_i, iEn_eq, enOf_l, eSl_eq, slOf_l, oNo_eq, oSo_eq, soQ_s, tup_ii, tup_ee, tup_ei, tup_ie, enc_int, enc_bool, dAt_p0, dAt_p1, dLen_l, dEq_int, dNe_int, dEq_bl, dNe_bl, dMul_l, dMul_r, dDiv_i, dMod_i, dSub_i, dAdd_i, dAddI_i, dNeg_i, dLt_i, dLe_i, dGt_i, dGe_i, dInt_i, dInt_b, dAbs_i, dMin_i, dMax_i, dGcd_i, fold_list, fold_listF, lst1, lst2, lst1i, lst2i, dSum_l, dAll_l, dAny_l, eLzip_eq, lzQ_l, eDcT_eq, stepD_eq, dEqX_int, dNeX_int, dEqX_bl, dNeX_bl, dEqX_str, dNeX_str, dSortP_l, dEqY_int, dNeY_int, dEqY_bl, dNeY_bl, dEqY_str, dNeY_str, env0_b2, t_len2, t_len3, Int.reduceEq, Int.reduceLT, Int.reduceLE, t_at0, t_at1, t_at2, s_len, rr_ne, ev_written_byR ⟨okl.2.2, by omega⟩, mul, wrL]
        rw [ext]
        simp only [List.getElem?_cons_zero, List.getElem?_cons_succ, List.set_cons_zero, List.set_cons_succ, env0_0, env0_1, env0_2, env0_3, env0_4, List.replicate_succ, List.replicate_zero, Nat.reduceSub, wipeE, xSeq_eq, seqO_nx, seqO_rt, seqO_bk, seqO_ct, rngI_length, xNext_eq, xAsg_eq, asgQ_s, nxO_s, xAsgO_eq, asgOQ_s, xPar_eq, parQ_s, setQ_s, xAug_eq, xDrop_eq, dropQ_s, xRet_eq, retO_s, xRetN_eq, xBrk_eq, xCt_eq, xIf_eq, ifX_t, ifX_f, ifX_s, Bool.false_eq_true, if_false, if_true, eq_self, Bool.false_or, Bool.or_false, Bool.true_or, Bool.or_true, Bool.true_and, Bool.and_true, Bool.false_and, Bool.and_false, Bool.not_true, Bool.not_false, decide_true, decide_false, xFrz_own, frzE_eq, frzQ_own, frzQ_sh, xFor_eq, forQ_s, xWhile_eq, eVar_eq, varQ_s, bVar_eq, lookQ_s, lookQ_o, lookQ_b, eC_eq, e1_eq, e1Q_s, e2_eq, e2Q_s, eCall_eq, callQ_s, aNil_eq, aCons_eq, consQ_s, eLst_eq, eTup_eq, lstQ0, lstQ1, lstQ2, lstQ3, lstQ4, lstQ8, tupQ2, tupQ3, qB_eq, boolQ_s, qAnd_eq, qOr_eq, qNot_eq, qnotQ_s, eAnd_eq, eOr_eq, eNot_eq, notQ_s, eIf_eq, eChain_eq, andO_bb, andO_t, andO_f, orO_bb, orO_t, orO_f, qandO_bb, qandO_t, qandO_f, qorO_bb, qorO_t, qorO_f, ifO_s, ifO_t, ifO_f, chO_s, ite_int, ite_bl, ite_enc, dIsN_non, dNotN_non, isNon_non, isNon_int, isNon_l, isNon_p, gN_eq, gT_p, eComp_eq, eComp2_eq, stepC_eq, stQ_s, stR_t, stR_f, stR_b, stepM_eq', stMQ_s, stM_t, stM_f, turnF_eq, tnB_s, turnW_eq, tnQ_nx, tnQ_ct, tnQ_bk, tnQ_rt, xApp_eq, xExt_eq, appO_i, extO_l, eScr_eq, scrF_s, eLenScr_eq, scrLen_s, eIxScr_eq, iSq_eq, seqOf_l, seqOf_p, iR1_eq, iR2_eq, r1Of_i, r2Of_i, iEn_eq, enOf_l, eSl_eq, slOf_l, oNo_eq, oSo_eq, soQ_s, tup_ii, tup_ee, tup_ei, tup_ie, enc_int, enc_bool, dAt_p0, dAt_p1, dLen_l, dEq_int, dNe_int, dEq_bl, dNe_bl, dMul_l, dMul_r, dDiv_i, dMod_i, dSub_i, dAdd_i, dAddI_i, dNeg_i, dLt_i, dLe_i, dGt_i, dGe_i, dInt_i, dInt_b, dAbs_i, dMin_i, dMax_i, dGcd_i, fold_list, fold_listF, lst1, lst2, lst1i, lst2i, dSum_l, dAll_l, dAny_l, eLzip_eq, lzQ_l, eDcT_eq, stepD_eq, dEqX_int, dNeX_int, dEqX_bl, dNeX_bl, dEqX_str, dNeX_str, dSortP_l, dEqY_int, dNeY_int, dEqY_bl, dNeY_bl, dEqY_str, dNeY_str, env0_b2, t_len2, t_len3, Int.reduceEq, Int.reduceLT, Int.reduceLE, t_at0, t_at1, t_at2, s_len]).1]
  rw [fold_wr]
  simp only [List.getElem?_cons_zero, List.getElem?_cons_succ, List.set_cons_zero, List.set_cons_succ, env0_0, env0_1, env0_2, env0_3, env0_4, List.replicate_succ, List.replicate_zero, Nat.reduceSub, wipeE, xSeq_eq, seqO_nx, seqO_rt, seqO_bk, seqO_ct, rngI_length, xNext_eq, xAsg_eq, asgQ_s, nxO_s, xAsgO_eq, asgOQ_s, xPar_eq, parQ_s, setQ_s, xAug_eq, xDrop_eq, dropQ_s, xRet_eq, retO_s, xRetN_eq, xBrk_eq, xCt_eq, xIf_eq, ifX_t, ifX_f, ifX_s, Bool.false_eq_true, if_false, if_true, eq_self, Bool.false_or, Bool.or_false, Bool.true_or, Bool.or_true, Bool.true_and, Bool.and_true, Bool.false_and, Bool.and_false, Bool.not_true, Bool.not_false, decide_true, decide_false, xFrz_own, frzE_eq, frzQ_own, frzQ_sh, xFor_eq, forQ_s, xWhile_eq, eVar_eq, varQ_s, bVar_eq, lookQ_s, lookQ_o, lookQ_b, eC_eq, e1_eq, e1Q_s, e2_eq, e2Q_s, eCall_eq, callQ_s, aNil_eq, aCons_eq, consQ_s, eLst_eq, eTup_eq, lstQ0, lstQ1, lstQ2, lstQ3, lstQ4, lstQ8, tupQ2, tupQ3, qB_eq, boolQ_s, qAnd_eq, qOr_eq, qNot_eq, qnotQ_s, eAnd_eq, eOr_eq, eNot_eq, notQ_s, eIf_eq, eChain_eq, andO_bb, andO_t, andO_f, orO_bb, orO_t, orO_f, qandO_bb, qandO_t, qandO_f, qorO_bb, qorO_t, qorO_f, ifO_s, ifO_t, ifO_f, chO_s, ite_int, ite_bl, ite_enc, dIsN_non, dNotN_non, isNon_non, isNon_int, isNon_l, isNon_p, gN_eq, gT_p, eComp_eq, eComp2_eq, stepC_eq, stQ_s, stR_t, stR_f, stR_b, stepM_eq', stMQ_s, stM_t, stM_f, turnF_eq, tnB_s, turnW_eq, tnQ_nx, tnQ_ct, tnQ_bk, tnQ_rt, xApp_eq, xExt_eq, appO_i, extO_l, eScr_eq, scrF_s, eLenScr_eq, scrLen_s, eIxScr_eq, iSq_eq, seqOf_l, seqOf_p, iR1_eq, iR2_eq, r1Of_i, r2Of_i, iEn_eq, enOf_l, eSl_eq, slOf_l, oNo_eq, oSo_eq, soQ_s, tup_ii, tup_ee, tup_ei, tup_ie, enc_int, enc_bool, dAt_p0, dAt_p1, dLen_l, dEq_int, dNe_int, dEq_bl, dNe_bl, dMul_l, dMul_r, dDiv_i, dMod_i, dSub_i, dAdd_i, dAddI_i, dNeg_i, dLt_i, dLe_i, dGt_i, dGe_i, dInt_i, dInt_b, dAbs_i, dMin_i, dMax_i, dGcd_i, fold_list, fold_listF, lst1, lst2, lst1i, lst2i, dSum_l, dAll_l, dAny_l, eLzip_eq, lzQ_l, eDcT_eq, stepD_eq, dEqX_int, dNeX_int, dEqX_bl, dNeX_bl, dEqX_str, dNeX_str, dSortP_l, dEqY_int, dNeY_int, dEqY_bl, dNeY_bl, dEqY_str, dNeY_str, env0_b2, t_len2, t_len3, Int.reduceEq, Int.reduceLT, Int.reduceLE, t_at0, t_at1, t_at2, s_len, List.nil_append]
theorem ev_written_by {s : S} (h : goodS s) : F_written_by [enc s] = some (enc (wrS s)) := ev_written_byR (d := 4) h
theorem ev_written {s : S} (h : goodS s) : F_written [enc s] = some (enc (wrS s)) := fn1_ev (a := s) h
theorem h_written : ∀ ds r, F_written ds = some r → Ret (x_written (env0 [false] ds 1)) r := fun ds r e => by
  obtain ⟨s, rfl, g, rfl⟩ := fn1_el e
  left
  simp (disch := omega) only [List.getElem?_cons_zero, List.getElem?_cons_succ, List.set_cons_zero, List.set_cons_succ, env0_0, env0_1, env0_2, env0_3, env0_4, List.replicate_succ, List.replicate_zero, Nat.reduceSub, wipeE, xSeq_eq, seqO_nx, seqO_rt, seqO_bk, seqO_ct, rngI_length, xNext_eq, xAsg_eq, asgQ_s, nxO_s, xAsgO_eq, asgOQ_s, xPar_eq, parQ_s, setQ_s, xAug_eq, xDrop_eq, dropQ_s, xRet_eq, retO_s, xRetN_eq, xBrk_eq, xCt_eq, xIf_eq, ifX_t, ifX_f, ifX_s, Bool.false_eq_true, if_false, if_true, eq_self, Bool.false_or, Bool.or_false, Bool.true_or, Bool.or_true, Bool.true_and, Bool.and_true, Bool.false_and, Bool.and_false, Bool.not_true, Bool.not_false, decide_true, decide_false, xFrz_own, frzE_eq, frzQ_own, frzQ_sh, xFor_eq, forQ_s, xWhile_eq, eVar_eq, varQ_s, bVar_eq, lookQ_s, lookQ_o, lookQ_b, eC_eq, e1_eq, e1Q_s, e2_eq, e2Q_s, eCall_eq, callQ_s, aNil_eq, aCons_eq, consQ_s, eLst_eq, eTup_eq, lstQ0, lstQ1, lstQ2, lstQ3, lstQ4, lstQ8, tupQ2, tupQ3, qB_eq, boolQ_s, qAnd_eq, qOr_eq, qNot_eq, qnotQ_s, eAnd_eq, eOr_eq, eNot_eq, notQ_s, eIf_eq, eChain_eq, andO_bb, andO_t, andO_f, orO_bb, orO_t, orO_f, qandO_bb, qandO_t, qandO_f, qorO_bb, qorO_t, qorO_f, ifO_s, ifO_t, ifO_f, chO_s, ite_int, ite_bl, ite_enc, dIsN_non, dNotN_non, isNon_non, isNon_int, isNon_l, isNon_p, gN_eq, gT_p, eComp_eq, eComp2_eq, stepC_eq, stQ_s, stR_t, stR_f, stR_b, stepM_eq', stMQ_s, stM_t, stM_f, turnF_eq, tnB_s, turnW_eq, tnQ_nx, tnQ_ct, tnQ_bk, tnQ_rt, xApp_eq, xExt_eq, appO_i, extO_l, eScr_eq, scrF_s, eLenScr_eq, scrLen_s, eIxScr_eq, iSq_eq, seqOf_l, seqOf_p, iR1_eq, iR2_eq, r1Of_i, r2Of_i, iEn_eq, enOf_l, eSl_eq, slOf_l, oNo_eq, oSo_eq, soQ_s, tup_ii, tup_ee, tup_ei, tup_ie, enc_int, enc_bool, dAt_p0, dAt_p1, dLen_l, dEq_int, dNe_int, dEq_bl, dNe_bl, dMul_l, dMul_r, dDiv_i, dMod_i, dSub_i, dAdd_i, dAddI_i, dNeg_i, dLt_i, dLe_i, dGt_i, dGe_i, dInt_i, dInt_b, dAbs_i, dMin_i, dMax_i, dGcd_i, fold_list, fold_listF, lst1, lst2, lst1i, lst2i, dSum_l, dAll_l, dAny_l, eLzip_eq, lzQ_l, eDcT_eq, stepD_eq, dEqX_int, dNeX_int, dEqX_bl, dNeX_bl, dEqX_str, dNeX_str, dSortP_l, dEqY_int, dNeY_int, dEqY_bl, dNeY_bl, dEqY_str, dNeY_str, env0_b2, t_len2, t_len3, Int.reduceEq, Int.reduceLT, Int.reduceLE, t_at0, t_at1, t_at2, s_len, x_written, ev_check_script g, ev_written_by g]
theorem ev_length_ofR {d : Nat} {s : S} (h : okS d s ∧ (wrS s).length ≤ 300) : R_length_of (d + 1) [enc s] = some (.int (lenS s : Nat)) := by
  rw [R_length_of]
  exact fn1_ev (a := s) h
theorem sum_len : ∀ s : S, (s.map fun l => (lenL l : Int)).sum = (lenS s : Int)
  | [] => rfl
  | l :: r => by rw [List.map_cons, List.sum_cons, sum_len r, lenS]; omega
theorem hx_length_of : ∀ d ds r, R_length_of (d + 1) ds = some r → Ret (x_length_of (R_length_of d) (env0 [false] ds 2)) r := fun d ds r e => by
  rw [R_length_of] at e
  obtain ⟨s, rfl, ⟨ok, few⟩, rfl⟩ := fn1_el e
  left
  have w2 := wr_len ok
  simp (disch := omega) only [List.getElem?_cons_zero, List.getElem?_cons_succ, List.set_cons_zero, List.set_cons_succ, env0_0, env0_1, env0_2, env0_3, env0_4, List.replicate_succ, List.replicate_zero, Nat.reduceSub, wipeE, xSeq_eq, seqO_nx, seqO_rt, seqO_bk, seqO_ct, rngI_length, xNext_eq, xAsg_eq, asgQ_s, nxO_s, xAsgO_eq, asgOQ_s, xPar_eq, parQ_s, setQ_s, xAug_eq, xDrop_eq, dropQ_s, xRet_eq, retO_s, xRetN_eq, xBrk_eq, xCt_eq, xIf_eq, ifX_t, ifX_f, ifX_s, Bool.false_eq_true, if_false, if_true, eq_self, Bool.false_or, Bool.or_false, Bool.true_or, Bool.or_true, Bool.true_and, Bool.and_true, Bool.false_and, Bool.and_false, Bool.not_true, Bool.not_false, decide_true, decide_false, xFrz_own, frzE_eq, frzQ_own, frzQ_sh, xFor_eq, forQ_s, xWhile_eq, eVar_eq, varQ_s, bVar_eq, lookQ_s, lookQ_o, lookQ_b, eC_eq, e1_eq, e1Q_s, e2_eq, e2Q_s, eCall_eq, callQ_s, aNil_eq, aCons_eq, consQ_s, eLst_eq, eTup_eq, lstQ0, lstQ1, lstQ2, lstQ3, lstQ4, lstQ8, tupQ2, tupQ3, qB_eq, boolQ_s, qAnd_eq, qOr_eq, qNot_eq, qnotQ_s, eAnd_eq, eOr_eq, eNot_eq, notQ_s, eIf_eq, eChain_eq, andO_bb, andO_t, andO_f, orO_bb, orO_t, orO_f, qandO_bb, qandO_t, qandO_f, qorO_bb, qorO_t, qorO_f, ifO_s, ifO_t, ifO_f, chO_s, ite_int, ite_bl, ite_enc, dIsN_non, dNotN_non, isNon_non, isNon_int, isNon_l, isNon_p, gN_eq, gT_p, eComp_eq, eComp2_eq, stepC_eq, stQ_s, stR_t, stR_f, stR_b, stepM_eq', stMQ_s, stM_t, stM_f, turnF_eq, tnB_s, turnW_eq, tnQ_nx, tnQ_ct, tnQ_bk, tnQ_rt, xApp_eq, xExt_eq, appO_i, extO_l, eScr_eq, scrF_s, eLenScr_eq, scrLen_s, eIxScr_eq, iSq_eq, seqOf_l, seqOf_p, iR1_eq, iR2_eq, r1Of_i, r2Of_i, iEn_eq, enOf_l, eSl_eq, slOf_l, oNo_eq, oSo_eq, soQ_s, tup_ii, tup_ee, tup_ei, tup_ie, enc_int, enc_bool, dAt_p0, dAt_p1, dLen_l, dEq_int, dNe_int, dEq_bl, dNe_bl, dMul_l, dMul_r, dDiv_i, dMod_i, dSub_i, dAdd_i, dAddI_i, dNeg_i, dLt_i, dLe_i, dGt_i, dGe_i, dInt_i, dInt_b, dAbs_i, dMin_i, dMax_i, dGcd_i, fold_list, fold_listF, lst1, lst2, lst1i, lst2i, dSum_l, dAll_l, dAny_l, eLzip_eq, lzQ_l, eDcT_eq, stepD_eq, dEqX_int, dNeX_int, dEqX_bl, dNeX_bl, dEqX_str, dNeX_str, dSortP_l, dEqY_int, dNeY_int, dEqY_bl, dNeY_bl, dEqY_str, dNeY_str, env0_b2, t_len2, t_len3, Int.reduceEq, Int.reduceLT, Int.reduceLE, t_at0, t_at1, t_at2, s_len, x_length_of]
  rw [compO_map (f := fun l : Ln Rw => (lenL l : Int)) (by omega) fun l hl => by
    have w3 := wr_line hl
    have okl := okS_line ok hl
    cases l with
    | row a =>
      rw [enc_row]
      simp (disch := omega) only [List.getElem?_cons_zero, List.getElem?_cons_succ, List.set_cons_zero, List.set_cons_succ, env0_0, env0_1, env0_2, env0_3, env0_4, List.replicate_succ, List.replicate_zero, Nat.reduceSub, wipeE, xSeq_eq, seqO_nx, seqO_rt, seqO_bk, seqO_ct, rngI_length, xNext_eq, xAsg_eq, asgQ_s, nxO_s, xAsgO_eq, asgOQ_s, xPar_eq, parQ_s, setQ_s, xAug_eq, xDrop_eq, dropQ_s, xRet_eq, retO_s, xRetN_eq, xBrk_eq, xCt_eq, xIf_eq, ifX_t, ifX_f, ifX_s, Bool.false_eq_true, if_false, if_true, eq_self, Bool.false_or, Bool.or_false, Bool.true_or, Bool.or_true, Bool.true_and, Bool.and_true, Bool.false_and, Bool.and_false, Bool.not_true, Bool.not_false, decide_true, decide_false, xFrz_own, frzE_eq, frzQ_own, frzQ_sh, xFor_eq, forQ_s, xWhile_eq, eVar_eq, varQ_s, bVar_eq, lookQ_s, lookQ_o, lookQ_b, eC_eq, e1_eq, e1Q_s, e2_eq, e2Q_s, eCall_eq, callQ_s, aNil_eq, aCons_eq, consQ_s, eLst_eq, eTup_eq, lstQ0, lstQ1, lstQ2, lstQ3, lstQ4, lstQ8, tupQ2, tupQ3, qB_eq, boolQ_s, qAnd_eq, qOr_eq, qNot_eq, qnotQ_s, eAnd_eq, eOr_eq, eNot_eq, notQ_s, eIf_eq, eChain_eq, andO_bb, andO_t, andO_f, orO_bb, orO_t, orO_f, qandO_bb, qandO_t, qandO_f, qorO_bb, qorO_t, qorO_f, ifO_s, ifO_t, ifO_f, chO_s, ite_int, ite_bl, ite_enc, dIsN_non, dNotN_non, isNon_non, isNon_int, isNon_l, isNon_p, gN_eq, gT_p, eComp_eq, eComp2_eq, stepC_eq, stQ_s, stR_t, stR_f, stR_b, stepM_eq', stMQ_s, stM_t, stM_f, turnF_eq, tnB_s, turnW_eq, tnQ_nx, tnQ_ct, tnQ_bk, tnQ_rt, xApp_eq, xExt_eq, appO_i, extO_l, eScr_eq, scrF_s, eLenScr_eq, scrLen_s, eIxScr_eq, iSq_eq, seqOf_l, seqOf_p, iR1_eq, iR2_eq, r1Of_i, r2Of_i, iEn_eq, enOf_l, eSl_eq, slOf_l, oNo_eq, oSo_eq, soQ_s, tup_ii, tup_ee, tup_ei, tup_ie, enc_int, enc_bool, dAt_p0, dAt_p1, dLen_l, dEq_int, dNe_int, dEq_bl, dNe_bl, dMul_l, dMul_r, dDiv_i, dMod_i, dSub_i, dAdd_i, dAddI_i, dNeg_i, dLt_i, dLe_i, dGt_i, dGe_i, dInt_i, dInt_b, dAbs_i, dMin_i, dMax_i, dGcd_i, fold_list, fold_listF, lst1, lst2, lst1i, lst2i, dSum_l, dAll_l, dAny_l, eLzip_eq, lzQ_l, eDcT_eq, stepD_eq, dEqX_int, dNeX_int, dEqX_bl, dNeX_bl, dEqX_str, dNeX_str, dSortP_l, dEqY_int, dNeY_int, dEqY_bl, dNeY_bl, dEqY_str, dNeY_str, env0_b2, t_len2, t_len3, Int.reduceEq, Int.reduceLT, Int.reduceLE, t_at0, t_at1, t_at2, s_len, r_eq, lenL]
      rfl
    | rep n ls =>
      cases d with
      | zero => rw [okL] at okl; exact okl.elim
      | succ d =>
        rw [okL] at okl
        obtain ⟨w4, w5⟩ := wr_rep (ls := ls) okl.1
        have en : (((1 + lenS ls : Nat) : Int)) = 1 + (lenS ls : Int) := by omega
        rw [enc_rep]
        simp (disch := omega) only [List.getElem?_cons_zero, List.getElem?_cons_succ, List.set_cons_zero, List.set_cons_succ, env0_0, env0_1, env0_2, env0_3, env0_4, List.replicate_succ, List.replicate_zero, Nat.reduceSub, wipeE, xSeq_eq, seqO_nx, seqO_rt, seqO_bk, seqO_ct, rngI_length, xNext_eq, xAsg_eq, asgQ_s, nxO_s, xAsgO_eq, asgOQ_s, xPar_eq, parQ_s, setQ_s, xAug_eq, xDrop_eq, dropQ_s, xRet_eq, retO_s, xRetN_eq, xBrk_eq, xCt_eq, xIf_eq, ifX_t, ifX_f, ifX_s, Bool.false_eq_true, if_false, if_true, eq_self, Bool.false_or, Bool.or_false, Bool.true_or, Bool.or_true, Bool.true_and, Bool.and_true, Bool.false_and, Bool.and_false, Bool.not_true, Bool.not_false, decide_true, decide_false, xFrz_own, frzE_eq, frzQ_own, frzQ_sh, xFor_eq, forQ_s, xWhile_eq, eVar_eq, varQ_s, bVar_eq, lookQ_s, lookQ_o, lookQ_b, eC_eq, e1_eq, e1Q_s, e2_eq, e2Q_s, eCall_eq, callQ_s, aNil_eq, aCons_eq, consQ_s, eLst_eq, eTup_eq, lstQ0, lstQ1, lstQ2, lstQ3, lstQ4, lstQ8, tupQ2, tupQ3, qB_eq, boolQ_s, qAnd_eq, qOr_eq, qNot_eq, qnotQ_s, eAnd_eq, eOr_eq, eNot_eq, notQ_s, eIf_eq, eChain_eq, andO_bb, andO_t, andO_f, orO_bb, orO_t, orO_f, qandO_bb, qandO_t, qandO_f, qorO_bb, qorO_t, qorO_f, ifO_s, ifO_t, ifO_f, chO_s, ite_int, ite_bl, ite_enc, dIsN_non, dNotN_non, isNon_non, isNon_int, isNon_l, isNon_p, gN_eq, gT_p, eComp_eq, eComp2_eq, stepC_eq, stQ_s, stR_t, stR_f, stR_b, stepM_eq', stMQ_s, stM_t, stM_f, turnF_eq, tnB_s, turnW_eq, tnQ_nx, tnQ_ct, tnQ_bk, tnQ_rt, xApp_eq, xExt_eq, appO_i, extO_l, eScr_eq, scrF_s, eLenScr_eq, scrLen_s, eIxScr_eq, iSq_eq, seqOf_l, seqOf_p, iR1_eq, iR2_eq, r1Of_i, r2Of_i, iEn_eq, enOf_l, eSl_eq, slOf_l, oNo_eq, oSo_eq, soQ_s, tup_ii, tup_ee, tup_ei, tup_ie, enc_int, enc_bool, dAt_p0, dAt_p1, dLen_l, dEq_int, dNe_int, dEq_bl, dNe_bl, dMul_l, dMul_r, dDiv_i, dMod_i, dSub_i, dAdd_i, dAddI_i, dNeg_i, dLt_i, dLe_i, dGt_i, dGe_i, dInt_i, dInt_b, dAbs_i, dMin_i, dMax_i, dGcd_i, fold_list, fold_listF, lst1, lst2, lst1i, lst2i, dSum_l, dAll_l, dAny_l, eLzip_eq, lzQ_l, eDcT_eq, stepD_eq, dEqX_int, dNeX_int, dEqX_bl, dNeX_bl, dEqX_str, dNeX_str, dSortP_l, dEqY_int, dNeY_int, dEqY_bl, dNeY_bl, dEqY_str, dNeY_str, env0_b2, t_len2, t_len3, Int.reduceEq, Int.reduceLT, Int.reduceLE, t_at0, t_at1, t_at2, s_len, rr_ne, ev_length_ofR ⟨okl.2.2, by omega⟩, lenL, en]]
  simp (disch := omega) only [List.getElem?_cons_zero, List.getElem?_cons_succ, List.set_cons_zero, List.set_cons_succ, env0_0, env0_1, env0_2, env0_3, env0_4, List.replicate_succ, List.replicate_zero, Nat.reduceSub, wipeE, xSeq_eq, seqO_nx, seqO_rt, seqO_bk, seqO_ct, rngI_length, xNext_eq, xAsg_eq, asgQ_s, nxO_s, xAsgO_eq, asgOQ_s, xPar_eq, parQ_s, setQ_s, xAug_eq, xDrop_eq, dropQ_s, xRet_eq, retO_s, xRetN_eq, xBrk_eq, xCt_eq, xIf_eq, ifX_t, ifX_f, ifX_s, Bool.false_eq_true, if_false, if_true, eq_self, Bool.false_or, Bool.or_false, Bool.true_or, Bool.or_true, Bool.true_and, Bool.and_true, Bool.false_and, Bool.and_false, Bool.not_true, Bool.not_false, decide_true, decide_false, xFrz_own, frzE_eq, frzQ_own, frzQ_sh, xFor_eq, forQ_s, xWhile_eq, eVar_eq, varQ_s, bVar_eq, lookQ_s, lookQ_o, lookQ_b, eC_eq, e1_eq, e1Q_s, e2_eq, e2Q_s, eCall_eq, callQ_s, aNil_eq, aCons_eq, consQ_s, eLst_eq, eTup_eq, lstQ0, lstQ1, lstQ2, lstQ3, lstQ4, lstQ8, tupQ2, tupQ3, qB_eq, boolQ_s, qAnd_eq, qOr_eq, qNot_eq, qnotQ_s, eAnd_eq, eOr_eq, eNot_eq, notQ_s, eIf_eq, eChain_eq, andO_bb, andO_t, andO_f, orO_bb, orO_t, orO_f, qandO_bb, qandO_t, qandO_f, qorO_bb, qorO_t, qorO_f, ifO_s, ifO_t, ifO_f, chO_s, ite_int, ite_bl, ite_enc, dIsN_non, dNotN_non, isNon_non, isNon_int, isNon_l, isNon_p, gN_eq, gT_p, eComp_eq, eComp2_eq, stepC_eq, stQ_s, stR_t, stR_f, stR_b, stepM_eq', stMQ_s, stM_t, stM_f, turnF_eq, tnB_s, turnW_eq, tnQ_nx, tnQ_ct, tnQ_bk, tnQ_rt, xApp_eq, xExt_eq, appO_i, extO_l, eScr_eq, scrF_s, eLenScr_eq, scrLen_s, eIxScr_eq, iSq_eq, seqOf_l, seqOf_p, iR1_eq, iR2_eq, r1Of_i, r2Of_i, iEn_eq, enOf_l, eSl_eq, slOf_l, oNo_eq, oSo_eq, soQ_s, tup_ii, tup_ee, tup_ei, tup_ie, enc_int, enc_bool, dAt_p0, dAt_p1, dLen_l, dEq_int, dNe_int, dEq_bl, dNe_bl, dMul_l, dMul_r, dDiv_i, dMod_i, dSub_i, dAdd_i, dAddI_i, dNeg_i, dLt_i, dLe_i, dGt_i, dGe_i, dInt_i, dInt_b, dAbs_i, dMin_i, dMax_i, dGcd_i, fold_list, fold_listF, lst1, lst2, lst1i, lst2i, dSum_l, dAll_l, dAny_l, eLzip_eq, lzQ_l, eDcT_eq, stepD_eq, dEqX_int, dNeX_int, dEqX_bl, dNeX_bl, dEqX_str, dNeX_str, dSortP_l, dEqY_int, dNeY_int, dEqY_bl, dNeY_bl, dEqY_str, dNeY_str, env0_b2, t_len2, t_len3, Int.reduceEq, Int.reduceLT, Int.reduceLE, t_at0, t_at1, t_at2, s_len, sum_len]
theorem ev_length_of {s : S} (h : goodS s) : F_length_of [enc s] = some (.int (lenS s : Nat)) := ev_length_ofR (d := 4) h
theorem ev_length {s : S} (h : goodS s) : F_length [enc s] = some (.int (lenS s : Nat)) := fn1_ev (a := s) h
theorem h_length : ∀ ds r, F_length ds = some r → Ret (x_length (env0 [false] ds 1)) r := fun ds r e => by
  obtain ⟨s, rfl, g, rfl⟩ := fn1_el e
  left
  simp (disch := omega) only [List.getElem?_cons_zero, List.getElem?_cons_succ, List.set_cons_zero, List.set_cons_succ, env0_0, env0_1, env0_2, env0_3, env0_4, List.replicate_succ, List.replicate_zero, Nat.reduceSub, wipeE, xSeq_eq, seqO_nx, seqO_rt, seqO_bk, seqO_ct, rngI_length, xNext_eq, xAsg_eq, asgQ_s, nxO_s, xAsgO_eq, asgOQ_s, xPar_eq, parQ_s, setQ_s, xAug_eq, xDrop_eq, dropQ_s, xRet_eq, retO_s, xRetN_eq, xBrk_eq, xCt_eq, xIf_eq, ifX_t, ifX_f, ifX_s, Bool.false_eq_true, if_false, if_true, eq_self, Bool.false_or, Bool.or_false, Bool.true_or, Bool.or_true, Bool.true_and, Bool.and_true, Bool.false_and, Bool.and_false, Bool.not_true, Bool.not_false, decide_true, decide_false, xFrz_own, frzE_eq, frzQ_own, frzQ_sh, xFor_eq, forQ_s, xWhile_eq, eVar_eq, varQ_s, bVar_eq, lookQ_s, lookQ_o, lookQ_b, eC_eq, e1_eq, e1Q_s, e2_eq, e2Q_s, eCall_eq, callQ_s, aNil_eq, aCons_eq, consQ_s, eLst_eq, eTup_eq, lstQ0, lstQ1, lstQ2, lstQ3, lstQ4, lstQ8, tupQ2, tupQ3, qB_eq, boolQ_s, qAnd_eq, qOr_eq, qNot_eq, qnotQ_s, eAnd_eq, eOr_eq, eNot_eq, notQ_s, eIf_eq, eChain_eq, andO_bb, andO_t, andO_f, orO_bb, orO_t, orO_f, qandO_bb, qandO_t, qandO_f, qorO_bb, qorO_t, qorO_f, ifO_s, ifO_t, ifO_f, chO_s, ite_int, ite_bl, ite_enc, dIsN_non, dNotN_non, isNon_non, isNon_int, isNon_l, isNon_p, gN_eq, gT_p, eComp_eq, eComp2_eq, stepC_eq, stQ_s, stR_t, stR_f, stR_b, stepM_eq', stMQ_s, stM_t, stM_f, turnF_eq, tnB_s, turnW_eq, tnQ_nx, tnQ_ct, tnQ_bk, tnQ_rt, xApp_eq, xExt_eq, appO_i, extO_l, eScr_eq, scrF_s, eLenScr_eq, scrLen_s, eIxScr_eq, iSq_eq, seqOf_l, seqOf_p, iR1_eq, iR2_eq, r1Of_i, r2Of_i, iEn_eq, enOf_l, eSl_eq, slOf_l, oNo_eq, oSo_eq, soQ_s, tup_ii, tup_ee, tup_ei, tup_ie, enc_int, enc_bool, dAt_p0, dAt_p1, dLen_l, dEq_int, dNe_int, dEq_bl, dNe_bl, dMul_l, dMul_r, dDiv_i, dMod_i, dSub_i, dAdd_i, dAddI_i, dNeg_i, dLt_i, dLe_i, dGt_i, dGe_i, dInt_i, dInt_b, dAbs_i, dMin_i, dMax_i, dGcd_i, fold_list, fold_listF, lst1, lst2, lst1i, lst2i, dSum_l, dAll_l, dAny_l, eLzip_eq, lzQ_l, eDcT_eq, stepD_eq, dEqX_int, dNeX_int, dEqX_bl, dNeX_bl, dEqX_str, dNeX_str, dSortP_l, dEqY_int, dNeY_int, dEqY_bl, dNeY_bl, dEqY_str, dNeY_str, env0_b2, t_len2, t_len3, Int.reduceEq, Int.reduceLT, Int.reduceLE, t_at0, t_at1, t_at2, s_len, x_length, ev_check_script g, ev_length_of g]
theorem ev_copiedR {d : Nat} {s : S} (h : okS d s ∧ (wrS s).length ≤ 300) : R_copied (d + 1) [enc s] = some (enc s) := by
  rw [R_copied]
  exact fn1_ev (a := s) h
theorem hx_copied : ∀ d ds r, R_copied (d + 1) ds = some r → Ret (x_copied (R_copied d) (env0 [false] ds 2)) r := fun d ds r e => by
  rw [R_copied] at e
  obtain ⟨s, rfl, ⟨ok, few⟩, rfl⟩ := fn1_el e
  left
  have w2 := wr_len ok
  simp (disch := omega) only [List.getElem?_cons_zero, List.getElem?_cons_succ, List.set_cons_zero, List.set_cons_succ, env0_0, env0_1, env0_2, env0_3, env0_4, List.replicate_succ, List.replicate_zero, Nat.reduceSub, wipeE, xSeq_eq, seqO_nx, seqO_rt, seqO_bk, seqO_ct, rngI_length, xNext_eq, xAsg_eq, asgQ_s, nxO_s, xAsgO_eq, asgOQ_s, xPar_eq, parQ_s, setQ_s, xAug_eq, xDrop_eq, dropQ_s, xRet_eq, retO_s, xRetN_eq, xBrk_eq, xCt_eq, xIf_eq, ifX_t, ifX_f, ifX_s, Bool.false_eq_true, if_false, if_true, eq_self, Bool.false_or, Bool.or_false, Bool.true_or, Bool.or_true, Bool.true_and, Bool.and_true, Bool.false_and, Bool.and_false, Bool.not_true, Bool.not_false, decide_true, decide_false, xFrz_own, frzE_eq, frzQ_own, frzQ_sh, xFor_eq, forQ_s, xWhile_eq, eVar_eq, varQ_s, bVar_eq, lookQ_s, lookQ_o, lookQ_b, eC_eq, e1_eq, e1Q_s, e2_eq, e2Q_s, eCall_eq, callQ_s, aNil_eq, aCons_eq, consQ_s, eLst_eq, eTup_eq, lstQ0, lstQ1, lstQ2, lstQ3, lstQ4, lstQ8, tupQ2, tupQ3, qB_eq, boolQ_s, qAnd_eq, qOr_eq, qNot_eq, qnotQ_s, eAnd_eq, eOr_eq, eNot_eq, notQ_s, eIf_eq, eChain_eq, andO_bb, andO_t, andO_f, orO_bb, orO_t, orO_f, qandO_bb, qandO_t, qandO_f, qorO_bb, qorO_t, qorO_f, ifO_s, ifO_t, ifO_f, chO_s, ite_int, ite_bl, ite_enc, dIsN_non, dNotN_non, isNon_non, isNon_int, isNon_l, isNon_p, gN_eq, gT_p, eComp_eq, eComp2_eq, stepC_eq, stQ_s, stR_t, stR_f, stR_b, stepM_eq', stMQ_s, stM_t, stM_f, turnF_eq, tnB_s, turnW_eq, tnQ_nx, tnQ_ct, tnQ_bk, tnQ_rt, xApp_eq, xExt_eq, appO_i, extO_l, eScr_eq, scrF_s, eLenScr_eq, scrLen_s, eIxScr_eq, iSq_eq, seqOf_l, seqOf_p, iR1_eq, iR2_eq, r1Of_i, r2Of_i, iEn_eq, enOf_l, eSl_eq, slOf_l, oNo_eq, oSo_eq, soQ_s, tup_ii, tup_ee, tup_ei, tup_ie, enc_int, enc_bool, dAt_p0, dAt_p1, dLen_l, dEq_int, dNe_int, dEq_bl, dNe_bl, dMul_l, dMul_r, dDiv_i, dMod_i, dSub_i, dAdd_i, dAddI_i, dNeg_i, dLt_i, dLe_i, dGt_i, dGe_i, dInt_i, dInt_b, dAbs_i, dMin_i, dMax_i, dGcd_i, fold_list, fold_listF, lst1, lst2, lst1i, lst2i, dSum_l, dAll_l, dAny_l, eLzip_eq, lzQ_l, eDcT_eq, stepD_eq, dEqX_int, dNeX_int, dEqX_bl, dNeX_bl, dEqX_str, dNeX_str, dSortP_l, dEqY_int, dNeY_int, dEqY_bl, dNeY_bl, dEqY_str, dNeY_str, env0_b2, t_len2, t_len3, Int.reduceEq, Int.reduceLT, Int.reduceLE, t_at0, t_at1, t_at2, s_len, x_copied]
  rw [compO_map (f := fun l : Ln Rw => l) (by omega) fun l hl => by
    have w3 := wr_line hl
    have okl := okS_line ok hl
    cases l with
    | row a =>
      rw [enc_row]
      simp (disch := omega) only [List.getElem?_cons_zero, List.getElem?_cons_succ, List.set_cons_zero, List.set_cons_succ, env0_0, env0_1, env0_2, env0_3, env0_4, List.replicate_succ, List.replicate_zero, Nat.reduceSub, wipeE, xSeq_eq, seqO_nx, seqO_rt, seqO_bk, seqO_ct, rngI_length, xNext_eq, xAsg_eq, asgQ_s, nxO_s, xAsgO_eq, asgOQ_s, xPar_eq, parQ_s, setQ_s, xAug_eq, xDrop_eq, dropQ_s, xRet_eq, retO_s, xRetN_eq, xBrk_eq, xCt_eq, xIf_eq, ifX_t, ifX_f, ifX_s, Bool.false_eq_true, if_false, if_true, eq_self, Bool.false_or, Bool.or_false, Bool.true_or, Bool.or_true, Bool.true_and, Bool.and_true, Bool.false_and, Bool.and_false, Bool.not_true, Bool.not_false, decide_true, decide_false, xFrz_own, frzE_eq, frzQ_own, frzQ_sh, xFor_eq, forQ_s, xWhile_eq, eVar_eq, varQ_s, bVar_eq, lookQ_s, lookQ_o, lookQ_b, eC_eq, e1_eq, e1Q_s, e2_eq, e2Q_s, eCall_eq, callQ_s, aNil_eq, aCons_eq, consQ_s, eLst_eq, eTup_eq, lstQ0, lstQ1, lstQ2, lstQ3, lstQ4, lstQ8, tupQ2, tupQ3, qB_eq, boolQ_s, qAnd_eq, qOr_eq, qNot_eq, qnotQ_s, eAnd_eq, eOr_eq, eNot_eq, notQ_s, eIf_eq, eChain_eq, andO_bb, andO_t, andO_f, orO_bb, orO_t, orO_f, qandO_bb, qandO_t, qandO_f, qorO_bb, qorO_t, qorO_f, ifO_s, ifO_t, ifO_f, chO_s, ite_int, ite_bl, ite_enc, dIsN_non, dNotN_non, isNon_non, isNon_int, isNon_l, isNon_p, gN_eq, gT_p, eComp_eq, eComp2_eq, stepC_eq, stQ_s, stR_t, stR_f, stR_b, stepM_eq', stMQ_s, stM_t, stM_f, turnF_eq, tnB_s, turnW_eq, tnQ_nx, tnQ_ct, tnQ_bk, tnQ_rt, xApp_eq, xExt_eq, appO_i, extO_l, eScr_eq, scrF_s, eLenScr_eq, scrLen_s, eIxScr_eq, iSq_eq, seqOf_l, seqOf_p, iR1_eq, iR2_eq, r1Of_i, r2Of_i, iEn_eq, enOf_l, eSl_eq, slOf_l, oNo_eq, oSo_eq, soQ_s, tup_ii, tup_ee, tup_ei, tup_ie, enc_int, enc_bool, dAt_p0, dAt_p1, dLen_l, dEq_int, dNe_int, dEq_bl, dNe_bl, dMul_l, dMul_r, dDiv_i, dMod_i, dSub_i, dAdd_i, dAddI_i, dNeg_i, dLt_i, dLe_i, dGt_i, dGe_i, dInt_i, dInt_b, dAbs_i, dMin_i, dMax_i, dGcd_i, fold_list, fold_listF, lst1, lst2, lst1i, lst2i, dSum_l, dAll_l, dAny_l, eLzip_eq, lzQ_l, eDcT_eq, stepD_eq, dEqX_int, dNeX_int, dEqX_bl, dNeX_bl, dEqX_str, dNeX_str, dSortP_l, dEqY_int, dNeY_int, dEqY_bl, dNeY_bl, dEqY_str, dNeY_str, env0_b2, t_len2, t_len3, Int.reduceEq, Int.reduceLT, Int.reduceLE, t_at0, t_at1, t_at2, s_len, r_eq]
    | rep n ls =>
      cases d with
      | zero => rw [okL] at okl; exact okl.elim
      | succ d =>
        rw [okL] at okl
        obtain ⟨w4, w5⟩ := wr_rep (ls := ls) okl.1
        rw [enc_rep]
        simp (disch := omega) only [List.getElem?_cons_zero, List.getElem?_cons_succ, List.set_cons_zero, List.set_cons_succ, env0_0, env0_1, env0_2, env0_3, env0_4, List.replicate_succ, List.replicate_zero, Nat.reduceSub, wipeE, xSeq_eq, seqO_nx, seqO_rt, seqO_bk, seqO_ct, rngI_length, xNext_eq, xAsg_eq, asgQ_s, nxO_s, xAsgO_eq, asgOQ_s, xPar_eq, parQ_s, setQ_s, xAug_eq, xDrop_eq, dropQ_s, xRet_eq, retO_s, xRetN_eq, xBrk_eq, xCt_eq, xIf_eq, ifX_t, ifX_f, ifX_s, Bool.false_eq_true, if_false, if_true, eq_self, Bool.false_or, Bool.or_false, Bool.true_or, Bool.or_true, Bool.true_and, Bool.and_true, Bool.false_and, Bool.and_false, Bool.not_true, Bool.not_false, decide_true, decide_false, xFrz_own, frzE_eq, frzQ_own, frzQ_sh, xFor_eq, forQ_s, xWhile_eq, eVar_eq, varQ_s, bVar_eq, lookQ_s, lookQ_o, lookQ_b, eC_eq, e1_eq, e1Q_s, e2_eq, e2Q_s, eCall_eq, callQ_s, aNil_eq, aCons_eq, consQ_s, eLst_eq, eTup_eq, lstQ0, lstQ1, lstQ2, lstQ3, lstQ4, lstQ8, tupQ2, tupQ3, qB_eq, boolQ_s, qAnd_eq, qOr_eq, qNot_eq, qnotQ_s, eAnd_eq, eOr_eq, eNot_eq, notQ_s, eIf_eq, eChain_eq, andO_bb, andO_t, andO_f, orO_bb, orO_t, orO_f, qandO_bb, qandO_t, qandO_f, qorO_bb, qorO_t, qorO_f, ifO_s, ifO_t, ifO_f, chO_s, ite_int, ite_bl, ite_enc, dIsN_non, dNotN_non, isNon_non, isNon_int, isNon_l, isNon_p, gN_eq, gT_p, eComp_eq, eComp2_eq, stepC_eq, stQ_s, stR_t, stR_f, stR_b, stepM_eq', stMQ_s, stM_t, stM_f, turnF_eq, tnB_s, turnW_eq, tnQ_nx, tnQ_ct, tnQ_bk, tnQ_rt, xApp_eq, xExt_eq, appO_i, extO_l, eScr_eq, scrF_s, eLenScr_eq, scrLen_s, eIxScr_eq, iSq_eq, seqOf_l, seqOf_p, iR1_eq, iR2_eq, r1Of_i, r2Of_i, iEn_eq, enOf_l, eSl_eq, slOf_l, oNo_eq, oSo_eq, soQ_s, tup_ii, tup_ee, tup_ei, tup_ie, enc_int, enc_bool, dAt_p0, dAt_p1, dLen_l, dEq_int, dNe_int, dEq_bl, dNe_bl, dMul_l, dMul_r, dDiv_i, dMod_i, dSub_i, dAdd_i, dAddI_i, dNeg_i, dLt_i, dLe_i, dGt_i, dGe_i, dInt_i, dInt_b, dAbs_i, dMin_i, dMax_i, dGcd_i, fold_list, fold_listF, lst1, lst2, lst1i, lst2i, dSum_l, dAll_l, dAny_l, eLzip_eq, lzQ_l, eDcT_eq, stepD_eq, dEqX_int, dNeX_int, dEqX_bl, dNeX_bl, dEqX_str, dNeX_str, dSortP_l, dEqY_int, dNeY_int, dEqY_bl, dNeY_bl, dEqY_str, dNeY_str, env0_b2, t_len2, t_len3, Int.reduceEq, Int.reduceLT, Int.reduceLE, t_at0, t_at1, t_at2, s_len, rr_ne, ev_copiedR ⟨okl.2.2, by omega⟩]]
  simp (disch := omega) only [List.getElem?_cons_zero, List.getElem?_cons_succ, List.set_cons_zero, List.set_cons_succ, env0_0, env0_1, env0_2, env0_3, env0_4, List.replicate_succ, List.replicate_zero, Nat.reduceSub, wipeE, xSeq_eq, seqO_nx, seqO_rt, seqO_bk, seqO_ct, rngI_length, xNext_eq, xAsg_eq, asgQ_s, nxO_s, xAsgO_eq, asgOQ_s, xPar_eq, parQ_s, setQ_s, xAug_eq, xDrop_eq, dropQ_s, xRet_eq, retO_s, xRetN_eq, xBrk_eq, xCt_eq, xIf_eq, ifX_t, ifX_f, ifX_s, Bool.false_eq_true, if_false, if_true, eq_self, Bool.false_or, Bool.or_false, Bool.true_or, Bool.or_true, Bool.true_and, Bool.and_true, Bool.false_and, Bool.and_false, Bool.not_true, Bool.not_false, decide_true, decide_false, xFrz_own, frzE_eq, frzQ_own, frzQ_sh, xFor_eq, forQ_s, xWhile_eq, eVar_eq, varQ_s, bVar_eq, lookQ_s, lookQ_o, lookQ_b, eC_eq, e1_eq, e1Q_s, e2_eq, e2Q_s, eCall_eq, callQ_s, aNil_eq, aCons_eq, consQ_s, eLst_eq, eTup_eq, lstQ0, lstQ1, lstQ2, lstQ3, lstQ4, lstQ8, tupQ2, tupQ3, qB_eq, boolQ_s, qAnd_eq, qOr_eq, qNot_eq, qnotQ_s, eAnd_eq, eOr_eq, eNot_eq, notQ_s, eIf_eq, eChain_eq, andO_bb, andO_t, andO_f, orO_bb, orO_t, orO_f, qandO_bb, qandO_t, qandO_f, qorO_bb, qorO_t, qorO_f, ifO_s, ifO_t, ifO_f, chO_s, ite_int, ite_bl, ite_enc, dIsN_non, dNotN_non, isNon_non, isNon_int, isNon_l, isNon_p, gN_eq, gT_p, eComp_eq, eComp2_eq, stepC_eq, stQ_s, stR_t, stR_f, stR_b, stepM_eq', stMQ_s, stM_t, stM_f, turnF_eq, tnB_s, turnW_eq, tnQ_nx, tnQ_ct, tnQ_bk, tnQ_rt, xApp_eq, xExt_eq, appO_i, extO_l, eScr_eq, scrF_s, eLenScr_eq, scrLen_s, eIxScr_eq, iSq_eq, seqOf_l, seqOf_p, iR1_eq, iR2_eq, r1Of_i, r2Of_i, iEn_eq, enOf_l, eSl_eq, slOf_l, oNo_eq, oSo_eq, soQ_s, tup_ii, tup_ee, tup_ei, tup_ie, enc_int, enc_bool, dAt_p0, dAt_p1, dLen_l, dEq_int, dNe_int, dEq_bl, dNe_bl, dMul_l, dMul_r, dDiv_i, dMod_i, dSub_i, dAdd_i, dAddI_i, dNeg_i, dLt_i, dLe_i, dGt_i, dGe_i, dInt_i, dInt_b, dAbs_i, dMin_i, dMax_i, dGcd_i, fold_list, fold_listF, lst1, lst2, lst1i, lst2i, dSum_l, dAll_l, dAny_l, eLzip_eq, lzQ_l, eDcT_eq, stepD_eq, dEqX_int, dNeX_int, dEqX_bl, dNeX_bl, dEqX_str, dNeX_str, dSortP_l, dEqY_int, dNeY_int, dEqY_bl, dNeY_bl, dEqY_str, dNeY_str, env0_b2, t_len2, t_len3, Int.reduceEq, Int.reduceLT, Int.reduceLE, t_at0, t_at1, t_at2, s_len, List.map_id']
theorem ev_copied {s : S} (h : goodS s) : F_copied [enc s] = some (enc s) := ev_copiedR (d := 4) h
theorem ev__law_sum {s : S} (h : goodS s) : F__law_sum [enc s] = some (enc (s.map wrL)) := fn1_ev (a := s) h
theorem good_line {s : S} (g : goodS s) {l : Ln Rw} (h : l ∈ s) : goodS [l] := by
  have w := wr_line h
  refine ⟨?_, ?_⟩
  · rw [okS, okS]; exact ⟨okS_line g.1 h, trivial⟩
  · rw [wrS, wrS, List.append_nil]; have := g.2; omega
theorem wr_one (l : Ln Rw) : wrS [l] = wrL l := by rw [wrS, wrS, List.append_nil]
theorem len_one (l : Ln Rw) : lenS [l] = lenL l := by rw [lenS, lenS, Nat.add_zero]
theorem fold_snoc {α β : Type} (f : α → β) : ∀ (xs : List α) (acc : List β), xs.foldl (fun acc l => acc ++ [f l]) acc = acc ++ xs.map f
  | [], acc => by rw [List.foldl_nil, List.map_nil, List.append_nil]
  | l :: r, acc => by rw [List.foldl_cons, fold_snoc f r, List.map_cons, List.append_assoc]; rfl
theorem h__law_sum : ∀ ds r, F__law_sum ds = some r → Ret (x__law_sum (env0 [false] ds 3)) r := fun ds r e => by
  obtain ⟨s, rfl, g, rfl⟩ := fn1_el e
  left
  have w2 := wr_len g.1
  have few := g.2
  simp (disch := omega) only [List.getElem?_cons_zero, List.getElem?_cons_succ, List.set_cons_zero, List.set_cons_succ, env0_0, env0_1, env0_2, env0_3, env0_4, List.replicate_succ, List.replicate_zero, Nat.reduceSub, wipeE, xSeq_eq, seqO_nx, seqO_rt, seqO_bk, seqO_ct, rngI_length, xNext_eq, xAsg_eq, asgQ_s, nxO_s, xAsgO_eq, asgOQ_s, xPar_eq, parQ_s, setQ_s, xAug_eq, xDrop_eq, dropQ_s, xRet_eq, retO_s, xRetN_eq, xBrk_eq, xCt_eq, xIf_eq, ifX_t, ifX_f, ifX_s, Bool.false_eq_true, if_false, if_true, eq_self, Bool.false_or, Bool.or_false, Bool.true_or, Bool.or_true, Bool.true_and, Bool.and_true, Bool.false_and, Bool.and_false, Bool.not_true, Bool.not_false, decide_true, decide_false, xFrz_own, frzE_eq, frzQ_own, frzQ_sh, xFor_eq, forQ_s, xWhile_eq, eVar_eq, varQ_s, bVar_eq, lookQ_s, lookQ_o, lookQ_b, eC_eq, e1_eq, e1Q_s, e2_eq, e2Q_s, eCall_eq, callQ_s, aNil_eq, aCons_eq, consQ_s, eLst_eq, eTup_eq, lstQ0, lstQ1, lstQ2, lstQ3, lstQ4, lstQ8, tupQ2, tupQ3, qB_eq, boolQ_s, qAnd_eq, qOr_eq, qNot_eq, qnotQ_s, eAnd_eq, eOr_eq, eNot_eq, notQ_s, eIf_eq, eChain_eq, andO_bb, andO_t, andO_f, orO_bb, orO_t, orO_f, qandO_bb, qandO_t, qandO_f, qorO_bb, qorO_t, qorO_f, ifO_s, ifO_t, ifO_f, chO_s, ite_int, ite_bl, ite_enc, dIsN_non, dNotN_non, isNon_non, isNon_int, isNon_l, isNon_p, gN_eq, gT_p, eComp_eq, eComp2_eq, stepC_eq, stQ_s, stR_t, stR_f, stR_b, stepM_eq', stMQ_s, stM_t, stM_f, turnF_eq, tnB_s, turnW_eq, tnQ_nx, tnQ_ct, tnQ_bk, tnQ_rt, xApp_eq, xExt_eq, appO_i, extO_l, eScr_eq, scrF_s, eLenScr_eq, scrLen_s, eIxScr_eq, iSq_eq, seqOf_l, seqOf_p, iR1_eq, iR2_eq, r1Of_i, r2Of_i, iEn_eq, enOf_l, eSl_eq, slOf_l, oNo_eq, oSo_eq, soQ_s, tup_ii, tup_ee, tup_ei, tup_ie, enc_int, enc_bool, dAt_p0, dAt_p1, dLen_l, dEq_int, dNe_int, dEq_bl, dNe_bl, dMul_l, dMul_r, dDiv_i, dMod_i, dSub_i, dAdd_i, dAddI_i, dNeg_i, dLt_i, dLe_i, dGt_i, dGe_i, dInt_i, dInt_b, dAbs_i, dMin_i, dMax_i, dGcd_i, fold_list, fold_listF, lst1, lst2, lst1i, lst2i, dSum_l, dAll_l, dAny_l, eLzip_eq, lzQ_l, eDcT_eq, stepD_eq, dEqX_int, dNeX_int, dEqX_bl, dNeX_bl, dEqX_str, dNeX_str, dSortP_l, dEqY_int, dNeY_int, dEqY_bl, dNeY_bl, dEqY_str, dNeY_str, env0_b2, t_len2, t_len3, Int.reduceEq, Int.reduceLT, Int.reduceLE, t_at0, t_at1, t_at2, s_len, x__law_sum]
  have e0 : D.lst [] = enc ([] : List Rows) := rfl
  rw [e0]
  rw [(iterF_steps (α := Ln Rw) (S := List Rows) (R := fun acc => [.sh (enc s), .own (enc acc), .un]) (st := fun acc l => acc ++ [wrL l]) (P := fun n acc => acc.length ≤ n) (xs := s) (n := 0) (s := []) (by simp) fun i l hl acc hP => by
    have m := List.mem_of_getElem? hl
    have hi : i < s.length := (List.getElem?_eq_some_iff.mp hl).1
    rw [Nat.zero_add] at hP
    refine ⟨?_, by rw [List.length_append, List.length_singleton]; omega⟩
    have ap := appO_l 1 [LV.sh (enc s), .own (enc acc), .sh (enc l)] acc (wrL l) (by omega)
    simp (disch := omega) only [List.getElem?_cons_zero, List.getElem?_cons_succ, List.set_cons_zero, List.set_cons_succ, env0_0, env0_1, env0_2, env0_3, env0_4, List.replicate_succ, List.replicate_zero, Nat.reduceSub, wipeE, xSeq_eq, seqO_nx, seqO_rt, seqO_bk, seqO_ct, rngI_length, xNext_eq, xAsg_eq, asgQ_s, nxO_s, xAsgO_eq, asgOQ_s, xPar_eq, parQ_s, setQ_s, xAug_eq, xDrop_eq, dropQ_s, xRet_eq, retO_s, xRetN_eq, xBrk_eq, xCt_eq, xIf_eq, ifX_t, ifX_f, ifX_s, Bool.false_eq_true, if_false, if_true, eq_self, Bool.false_or, Bool.or_false, Bool.true_or, Bool.or_true, Bool.true_and, Bool.and_true, Bool.false_and, Bool.and_false, Bool.not_true, Bool.not_false, decide_true, decide_false, xFrz_own, frzE_eq, frzQ_own, frzQ_sh, xFor_eq, forQ_s, xWhile_eq, eVar_eq, varQ_s, bVar_eq, lookQ_s, lookQ_o, lookQ_b, eC_eq, e1_eq, e1Q_s, e2_eq, e2Q_s, eCall_eq, callQ_s, aNil_eq, aCons_eq, consQ_s, eLst_eq, eTup_eq, lstQ0, lstQ1, lstQ2, lstQ3, lstQ4, lstQ8, tupQ2, tupQ3, qB_eq, boolQ_s, qAnd_eq, qOr_eq, qNot_eq, qnotQ_s, eAnd_eq, eOr_eq, eNot_eq, notQ_s, eIf_eq, eChain_eq, andO_bb, andO_t, andO_f, orO_bb, orO_t, orO_f, qandO_bb, qandO_t, qandO_f, qorO_bb, qorO_t, qorO_f, ifO_s, ifO_t, ifO_f, chO_s, ite_int, ite_bl, ite_enc, dIsN_non, dNotN_non, isNon_non, isNon_int, isNon_l, isNon_p, gN_eq, gT_p, eComp_eq, eComp2_eq, stepC_eq, stQ_s, stR_t, stR_f, stR_b, stepM_eq', stMQ_s, stM_t, stM_f, turnF_eq, tnB_s, turnW_eq, tnQ_nx, tnQ_ct, tnQ_bk, tnQ_rt, xApp_eq, xExt_eq, appO_i, extO_l, eScr_eq, scrF_s, eLenScr_eq, scrLen_s, eIxScr_eq, iSq_eq, seqOf_l, seqOf_p, iR1_eq, iR2_eq, r1Of_i, r2Of_i, iEn_eq, enOf_l, eSl_eq, slOf_l, oNo_eq, oSo_eq, soQ_s, tup_ii, tup_ee, tup_ei, tup_ie, enc_int, enc_bool, dAt_p0, dAt_p1, dLen_l, dEq_int, dNe_int, dEq_bl, dNe_bl, dMul_l, dMul_r, dDiv_i, dMod_i, dSub_i, dAdd_i, dAddI_i, dNeg_i, dLt_i, dLe_i, dGt_i, dGe_i, dInt_i, dInt_b, dAbs_i, dMin_i, dMax_i, dGcd_i, fold_list, fold_listF, lst1, lst2, lst1i, lst2i, dSum_l, dAll_l, dAny_l, eLzip_eq, lzQ_l, eDcT_eq, stepD_eq, dEqX_int, dNeX_int, dEqX_bl, dNeX_bl, dEqX_str, dNeX_str, dSortP_l, dEqY_int, dNeY_int, dEqY_bl, dNeY_bl, dEqY_str, dNeY_str, env0_b2, t_len2, t_len3, Int.reduceEq, Int.reduceLT, Int.reduceLE, t_at0, t_at1, t_at2, s_len, ev_written (good_line g m), wr_one, ap]).1]
  rw [fold_snoc]
  simp only [List.getElem?_cons_zero, List.getElem?_cons_succ, List.set_cons_zero, List.set_cons_succ, env0_0, env0_1, env0_2, env0_3, env0_4, List.replicate_succ, List.replicate_zero, Nat.reduceSub, wipeE, xSeq_eq, seqO_nx, seqO_rt, seqO_bk, seqO_ct, rngI_length, xNext_eq, xAsg_eq, asgQ_s, nxO_s, xAsgO_eq, asgOQ_s, xPar_eq, parQ_s, setQ_s, xAug_eq, xDrop_eq, dropQ_s, xRet_eq, retO_s, xRetN_eq, xBrk_eq, xCt_eq, xIf_eq, ifX_t, ifX_f, ifX_s, Bool.false_eq_true, if_false, if_true, eq_self, Bool.false_or, Bool.or_false, Bool.true_or, Bool.or_true, Bool.true_and, Bool.and_true, Bool.false_and, Bool.and_false, Bool.not_true, Bool.not_false, decide_true, decide_false, xFrz_own, frzE_eq, frzQ_own, frzQ_sh, xFor_eq, forQ_s, xWhile_eq, eVar_eq, varQ_s, bVar_eq, lookQ_s, lookQ_o, lookQ_b, eC_eq, e1_eq, e1Q_s, e2_eq, e2Q_s, eCall_eq, callQ_s, aNil_eq, aCons_eq, consQ_s, eLst_eq, eTup_eq, lstQ0, lstQ1, lstQ2, lstQ3, lstQ4, lstQ8, tupQ2, tupQ3, qB_eq, boolQ_s, qAnd_eq, qOr_eq, qNot_eq, qnotQ_s, eAnd_eq, eOr_eq, eNot_eq, notQ_s, eIf_eq, eChain_eq, andO_bb, andO_t, andO_f, orO_bb, orO_t, orO_f, qandO_bb, qandO_t, qandO_f, qorO_bb, qorO_t, qorO_f, ifO_s, ifO_t, ifO_f, chO_s, ite_int, ite_bl, ite_enc, dIsN_non, dNotN_non, isNon_non, isNon_int, isNon_l, isNon_p, gN_eq, gT_p, eComp_eq, eComp2_eq, stepC_eq, stQ_s, stR_t, stR_f, stR_b, stepM_eq', stMQ_s, stM_t, stM_f, turnF_eq, tnB_s, turnW_eq, tnQ_nx, tnQ_ct, tnQ_bk, tnQ_rt, xApp_eq, xExt_eq, appO_i, extO_l, eScr_eq, scrF_s, eLenScr_eq, scrLen_s, eIxScr_eq, iSq_eq, seqOf_l, seqOf_p, iR1_eq, iR2_eq, r1Of_i, r2Of_i, iEn_eq, enOf_l, eSl_eq, slOf_l, oNo_eq, oSo_eq, soQ_s, tup_ii, tup_ee, tup_ei, tup_ie, enc_int, enc_bool, dAt_p0, dAt_p1, dLen_l, dEq_int, dNe_int, dEq_bl, dNe_bl, dMul_l, dMul_r, dDiv_i, dMod_i, dSub_i, dAdd_i, dAddI_i, dNeg_i, dLt_i, dLe_i, dGt_i, dGe_i, dInt_i, dInt_b, dAbs_i, dMin_i, dMax_i, dGcd_i, fold_list, fold_listF, lst1, lst2, lst1i, lst2i, dSum_l, dAll_l, dAny_l, eLzip_eq, lzQ_l, eDcT_eq, stepD_eq, dEqX_int, dNeX_int, dEqX_bl, dNeX_bl, dEqX_str, dNeX_str, dSortP_l, dEqY_int, dNeY_int, dEqY_bl, dNeY_bl, dEqY_str, dNeY_str, env0_b2, t_len2, t_len3, Int.reduceEq, Int.reduceLT, Int.reduceLE, t_at0, t_at1, t_at2, s_len, List.nil_append]
end P66

namespace P66
open PySem L2 DL
open DL.Enc (enc)
/-! ### the first least -/
theorem minB_map {α : Type} [Enc α] {g : D → Option D} {k : α → Int} : ∀ {xs : List α} {b : α}, (∀ a ∈ xs, g (enc a) = some (.int (k a))) → minB g (enc b) (k b) (xs.map enc) = some (enc (xs.foldl (fun b a => if k a < k b then a else b) b))
  | [], b, _ => rfl
  | x :: xs, b, h => by
    rw [List.map_cons, minB, h x (List.mem_cons_self ..), List.foldl_cons]
    simp only
    have ih := fun b => minB_map (xs := xs) (b := b) fun a ha => h a (List.mem_cons_of_mem _ ha)
    by_cases q : k x < k b
    · rw [if_pos q, if_pos q, ih]
    · rw [if_neg q, if_neg q, ih]
theorem minKF_map {α : Type} [Enc α] {g : D → Option D} {k : α → Int} {x : α} {xs : List α} (h : ∀ a ∈ x :: xs, g (enc a) = some (.int (k a))) : minKF g ((x :: xs).map enc) = some (enc (xs.foldl (fun b a => if k a < k b then a else b) x)) := by
  rw [List.map_cons, minKF, h x (List.mem_cons_self ..)]
  exact minB_map fun a ha => h a (List.mem_cons_of_mem _ ha)
def minQ (F : List D → Option D) : Option (List D) → Option D
  | some [.lst ds] => minKF (fun d => F [d]) ds
  | _ => none
theorem eMinK_eq (F : List D → Option D) (fs : DL.Env → Option (List D)) (ρ : DL.Env) : eMinK F fs ρ = minQ F (fs ρ) := by
  unfold eMinK minQ
  split <;> simp_all
theorem minQ_s {xs : List S} (ne : xs ≠ []) (h : ∀ s ∈ xs, goodS s) : minQ F_length_of (some [enc xs]) = some (enc (argmin xs)) := by
  cases xs with
  | nil => exact absurd rfl ne
  | cons x xs =>
    show minKF (fun d => F_length_of [d]) ((x :: xs).map enc) = _
    rw [minKF_map (k := fun s => (lenS s : Int)) fun a ha => ev_length_of (h a ha)]
    rw [argmin]
    congr 3
    funext a b
    unfold lesser
    by_cases q : lenS b < lenS a
    · rw [if_pos q, if_pos (by omega)]
    · rw [if_neg q, if_neg (by omega)]
/-! ### keys -/
theorem keyR_inj : ∀ {a b : Rows}, keyR a = keyR b → a = b
  | [], [], _ => rfl
  | [], _ :: _, h => by cases h
  | _ :: _, [], h => by cases h
  | x :: xs, y :: ys, h => by
    unfold keyR at h
    rw [List.map_cons, List.map_cons] at h
    injection h with h1 h2
    injection h1 with h1
    rw [keyR_inj (a := xs) (b := ys) h2]
    congr 1
    exact Enc.inj x y (congrArg D.str h1)
theorem ksOf_rows : ∀ p : Rows, ksOf (p.map enc) = some (keyR p)
  | [] => rfl
  | a :: p => by
    rw [List.map_cons]
    show (match kOf (enc a), ksOf (p.map enc) with | some k, some ks => some (k :: ks) | _, _ => none) = _
    rw [ksOf_rows p]
    rfl
theorem tkOf_rows (p : Rows) : tkOf (.tup (p.map enc)) = some (keyR p) := ksOf_rows p
theorem dTuple_l {α : Type} [Enc α] (xs : List α) : dTuple [enc xs] = some (.tup (xs.map enc)) := nr rfl
theorem dAt_kn {kn : Kn} {p : Rows} (h : Knows kn p) : dAt (enc kn) (.tup (p.map enc)) = some (enc (least p)) := by
  show ((tkOf (.tup (p.map enc))).map (valD kn.kvs)).join = _
  rw [tkOf_rows]
  exact h
theorem dNotIn_kn (kn : Kn) (p : Rows) : dNotInX (.tup (p.map enc)) (enc kn) = some (.bl (!(valD kn.kvs (keyR p)).isSome)) := by
  show ((tkOf (.tup (p.map enc))).map (valD kn.kvs)).map (fun o => D.bl (!o.isSome)) = _
  rw [tkOf_rows]
  rfl
theorem valD_put {κ : Type} [DecidableEq κ] (kvs : List (κ × D)) (k j : κ) (v : D) : valD (putD kvs k v) j = if j = k then some v else valD kvs j := by
  have rep : ∀ xs : List (κ × D), (xs.any fun kv => decide (kv.1 = k)) = true → valD (xs.map fun kv => if kv.1 = k then (kv.1, v) else kv) j = if j = k then some v else valD xs j := fun xs => by
    induction xs with
    | nil => intro h; cases h
    | cons x xs ih =>
      intro h
      unfold valD at ih ⊢
      rw [List.map_cons, List.find?_cons, List.find?_cons]
      by_cases e : x.1 = k
      · rw [if_pos e]
        by_cases z : j = k
        · have : decide ((x.1, v).1 = j) = true := decide_eq_true (by rw [z]; exact e)
          rw [this, if_pos z]
          rfl
        · have n1 : decide ((x.1, v).1 = j) = false := decide_eq_false (fun q => z (by rw [← q]; exact e))
          have n2 : decide (x.1 = j) = false := decide_eq_false (fun q => z (by rw [← q]; exact e))
          rw [n1, if_neg z]
          have same : ∀ ys : List (κ × D), ((ys.map fun kv => if kv.1 = k then (kv.1, v) else kv).find? fun kv => decide (kv.1 = j)).map (·.2) = (ys.find? fun kv => decide (kv.1 = j)).map (·.2) := fun ys => by
            induction ys with
            | nil => rfl
            | cons y ys ih2 =>
              rw [List.map_cons, List.find?_cons, List.find?_cons]
              by_cases e2 : y.1 = k
              · rw [if_pos e2]
                have n1 : decide ((y.1, v).1 = j) = false := decide_eq_false (fun q => z (by rw [← q]; exact e2))
                have n2 : decide (y.1 = j) = false := decide_eq_false (fun q => z (by rw [← q]; exact e2))
                first | rw [n1, n2] | rw [n1]
                exact ih2
              · rw [if_neg e2]
                cases decide (y.1 = j) with
                | true => rfl
                | false => exact ih2
          exact same xs
      · rw [if_neg e]
        have h' : (xs.any fun kv => decide (kv.1 = k)) = true := by
          rw [List.any_cons, decide_eq_false e, Bool.false_or] at h
          exact h
        by_cases z : x.1 = j
        · rw [decide_eq_true z]
          have : j ≠ k := fun q => e (by rw [z]; exact q)
          rw [if_neg this]
        · rw [decide_eq_false z]
          exact ih h'
  unfold putD
  by_cases h : (kvs.any fun kv => decide (kv.1 = k)) = true
  · rw [if_pos h]
    exact rep kvs h
  · rw [if_neg h]
    have no : kvs.find? (fun kv => decide (kv.1 = k)) = none := by
      rw [List.find?_eq_none]
      intro x hx hk
      exact h (List.any_eq_true.mpr ⟨x, hx, hk⟩)
    unfold valD
    rw [List.find?_append]
    by_cases z : j = k
    · subst z
      rw [no, if_pos rfl]
      simp
    · rw [if_neg z]
      cases q : kvs.find? fun kv => decide (kv.1 = j) with
      | some x => rfl
      | none =>
        have : decide (k = j) = false := decide_eq_false (fun q => z q.symm)
        simp [this]
/-! ### the scripts are good -/
theorem pow_lim {d m : Nat} (h : 2 ^ d ≤ m) (hm : m < 2 ^ (k + 1)) : d ≤ k := by
  rcases Nat.lt_or_ge k d with q | q
  · have := two_pow_mono (a := k + 1) (b := d) q
    omega
  · exact q
theorem good_least {rows : Rows} (g : goodRows rows) : goodS (least rows) := by
  have ne : rows ≠ [] := List.length_pos_iff.mp (by have := g.1; omega)
  obtain ⟨d, h1, h2⟩ := least_ok ne
  have := g.2
  refine ⟨okS_mono (pow_lim (k := 4) h1 (by omega)) h2, ?_⟩
  rw [least_wr ne]
  omega
theorem good_cand {rows : Rows} (g : goodRows rows) {y : S} (h : y ∈ cands least rows) : goodS y := by
  obtain ⟨cut, c1, c2, hy⟩ := mem_cands.mp h
  have gl := g.2
  have lt : (rows.take cut).length = cut := by rw [List.length_take]; omega
  have ld : (rows.drop cut).length = rows.length - cut := List.length_drop
  have n1 : rows.take cut ≠ [] := fun e => by rw [e] at lt; simp at lt; omega
  have n2 : rows.drop cut ≠ [] := fun e => by rw [e] at ld; simp at ld; omega
  obtain ⟨d, h1, h2⟩ := least_ok n1
  obtain ⟨d', h3, h4⟩ := least_ok n2
  unfold candAt at hy
  rcases List.mem_cons.mp hy with q | q
  · rw [q]
    refine ⟨okS_app (okS_mono (pow_lim (k := 4) h1 (by omega)) h2) (okS_mono (pow_lim (k := 4) h3 (by omega)) h4), ?_⟩
    rw [wrS_app, least_wr n1, least_wr n2, List.take_append_drop]
    omega
  · split at q
    · rename_i hr
      rw [List.mem_singleton] at q
      rw [q]
      unfold isRep at hr
      rw [Bool.and_eq_true, decide_eq_true_eq, decide_eq_true_eq] at hr
      have hd : rows.length / cut * cut = rows.length := Nat.div_mul_cancel (Nat.dvd_of_mod_eq_zero hr.1)
      have two : 2 ≤ rows.length / cut := by
        rcases Nat.lt_or_ge (rows.length / cut) 2 with z | z
        · rcases Nat.lt_or_ge (rows.length / cut) 1 with y | y
          · have : rows.length / cut = 0 := Nat.eq_zero_of_le_zero (Nat.le_of_lt_succ y)
            rw [this] at hd; omega
          · have : rows.length / cut = 1 := Nat.le_antisymm (Nat.le_of_lt_succ z) y
            rw [this] at hd; omega
        · exact z
      have half : cut ≤ 8 := by
        have : 2 * cut ≤ rows.length / cut * cut := Nat.mul_le_mul_right _ two
        omega
      refine ⟨?_, ?_⟩
      · rw [okS, okS, okL]
        exact ⟨⟨two, least_ne n1, okS_mono (pow_lim (k := 3) h1 (by omega)) h2⟩, trivial⟩
      · rw [wrS, wrS, List.append_nil, wrL, least_wr n1, ← hr.2]
        omega
    · cases q
/-! ### best_for -/
abbrev preB (rows : Rows) (k : Kn) : Prop := goodRows rows ∧ ∀ cut : Nat, 1 ≤ cut → cut < rows.length → Knows k (rows.take cut) ∧ Knows k (rows.drop cut)
theorem ev_best_for {rows : Rows} {k : Kn} (h : preB rows k) : F_best_for [enc rows, enc k] = some (enc (least rows)) := fn2_ev (a := rows) (b := k) h
theorem fold_flat {α β : Type} (f : α → List β) : ∀ (xs : List α) (acc : List β), xs.foldl (fun acc l => acc ++ f l) acc = acc ++ xs.flatMap f
  | [], acc => by rw [List.foldl_nil, List.flatMap_nil, List.append_nil]
  | l :: r, acc => by rw [List.foldl_cons, fold_flat f r, List.flatMap_cons, List.append_assoc]
theorem cands_rng (rows : Rows) : (rngI 1 (rows.length - 1)).flatMap (fun c : Int => candAt least rows c.toNat) = cands least rows := by
  unfold cands rngI
  rw [List.range'_eq_map_range, List.flatMap_map, List.flatMap_map]
  congr 1
theorem h_best_for : ∀ ds r, F_best_for ds = some r → Ret (x_best_for (env0 [false, true] ds 4)) r := fun ds r e => by
  obtain ⟨rows, kn, rfl, ⟨⟨g1, g2⟩, kn1⟩, rfl⟩ := fn2_el e
  left
  by_cases one : rows.length = 1
  · obtain ⟨a, rfl⟩ := List.length_eq_one_iff.mp one
    have c1 : (((([a] : Rows).length : Nat) : Int) = 1) = True := eq_true rfl
    have a0 : dAt (enc ([a] : Rows)) (.int 0) = some (enc a) := dAt_l ([a] : Rows) 0 (by simp)
    simp (disch := omega) only [List.getElem?_cons_zero, List.getElem?_cons_succ, List.set_cons_zero, List.set_cons_succ, env0_0, env0_1, env0_2, env0_3, env0_4, List.replicate_succ, List.replicate_zero, Nat.reduceSub, wipeE, xSeq_eq, seqO_nx, seqO_rt, seqO_bk, seqO_ct, rngI_length, xNext_eq, xAsg_eq, asgQ_s, nxO_s, xAsgO_eq, asgOQ_s, xPar_eq, parQ_s, setQ_s, xAug_eq, xDrop_eq, dropQ_s, xRet_eq, retO_s, xRetN_eq, xBrk_eq, xCt_eq, xIf_eq, ifX_t, ifX_f, ifX_s, Bool.false_eq_true, if_false, if_true, eq_self, Bool.false_or, Bool.or_false, Bool.true_or, Bool.or_true, Bool.true_and, Bool.and_true, Bool.false_and, Bool.and_false, Bool.not_true, Bool.not_false, decide_true, decide_false, xFrz_own, frzE_eq, frzQ_own, frzQ_sh, xFor_eq, forQ_s, xWhile_eq, eVar_eq, varQ_s, bVar_eq, lookQ_s, lookQ_o, lookQ_b, eC_eq, e1_eq, e1Q_s, e2_eq, e2Q_s, eCall_eq, callQ_s, aNil_eq, aCons_eq, consQ_s, eLst_eq, eTup_eq, lstQ0, lstQ1, lstQ2, lstQ3, lstQ4, lstQ8, tupQ2, tupQ3, qB_eq, boolQ_s, qAnd_eq, qOr_eq, qNot_eq, qnotQ_s, eAnd_eq, eOr_eq, eNot_eq, notQ_s, eIf_eq, eChain_eq, andO_bb, andO_t, andO_f, orO_bb, orO_t, orO_f, qandO_bb, qandO_t, qandO_f, qorO_bb, qorO_t, qorO_f, ifO_s, ifO_t, ifO_f, chO_s, ite_int, ite_bl, ite_enc, dIsN_non, dNotN_non, isNon_non, isNon_int, isNon_l, isNon_p, gN_eq, gT_p, eComp_eq, eComp2_eq, stepC_eq, stQ_s, stR_t, stR_f, stR_b, stepM_eq', stMQ_s, stM_t, stM_f, turnF_eq, tnB_s, turnW_eq, tnQ_nx, tnQ_ct, tnQ_bk, tnQ_rt, xApp_eq, xExt_eq, appO_i, extO_l, eScr_eq, scrF_s, eLenScr_eq, scrLen_s, eIxScr_eq, iSq_eq, seqOf_l, seqOf_p, iR1_eq, iR2_eq, r1Of_i, r2Of_i, iEn_eq, enOf_l, eSl_eq, slOf_l, oNo_eq, oSo_eq, soQ_s, tup_ii, tup_ee, tup_ei, tup_ie, enc_int, enc_bool, dAt_p0, dAt_p1, dLen_l, dEq_int, dNe_int, dEq_bl, dNe_bl, dMul_l, dMul_r, dDiv_i, dMod_i, dSub_i, dAdd_i, dAddI_i, dNeg_i, dLt_i, dLe_i, dGt_i, dGe_i, dInt_i, dInt_b, dAbs_i, dMin_i, dMax_i, dGcd_i, fold_list, fold_listF, lst1, lst2, lst1i, lst2i, dSum_l, dAll_l, dAny_l, eLzip_eq, lzQ_l, eDcT_eq, stepD_eq, dEqX_int, dNeX_int, dEqX_bl, dNeX_bl, dEqX_str, dNeX_str, dSortP_l, dEqY_int, dNeY_int, dEqY_bl, dNeY_bl, dEqY_str, dNeY_str, env0_b2, t_len2, t_len3, Int.reduceEq, Int.reduceLT, Int.reduceLE, t_at0, t_at1, t_at2, s_len, xPut_eq, dTuple_l, eMinK_eq, x_best_for, c1, a0]
    rw [least_one]
    rfl
  · have c1 : ((rows.length : Int) = 1) = False := eq_false (by omega)
    simp (disch := omega) only [List.getElem?_cons_zero, List.getElem?_cons_succ, List.set_cons_zero, List.set_cons_succ, env0_0, env0_1, env0_2, env0_3, env0_4, List.replicate_succ, List.replicate_zero, Nat.reduceSub, wipeE, xSeq_eq, seqO_nx, seqO_rt, seqO_bk, seqO_ct, rngI_length, xNext_eq, xAsg_eq, asgQ_s, nxO_s, xAsgO_eq, asgOQ_s, xPar_eq, parQ_s, setQ_s, xAug_eq, xDrop_eq, dropQ_s, xRet_eq, retO_s, xRetN_eq, xBrk_eq, xCt_eq, xIf_eq, ifX_t, ifX_f, ifX_s, Bool.false_eq_true, if_false, if_true, eq_self, Bool.false_or, Bool.or_false, Bool.true_or, Bool.or_true, Bool.true_and, Bool.and_true, Bool.false_and, Bool.and_false, Bool.not_true, Bool.not_false, decide_true, decide_false, xFrz_own, frzE_eq, frzQ_own, frzQ_sh, xFor_eq, forQ_s, xWhile_eq, eVar_eq, varQ_s, bVar_eq, lookQ_s, lookQ_o, lookQ_b, eC_eq, e1_eq, e1Q_s, e2_eq, e2Q_s, eCall_eq, callQ_s, aNil_eq, aCons_eq, consQ_s, eLst_eq, eTup_eq, lstQ0, lstQ1, lstQ2, lstQ3, lstQ4, lstQ8, tupQ2, tupQ3, qB_eq, boolQ_s, qAnd_eq, qOr_eq, qNot_eq, qnotQ_s, eAnd_eq, eOr_eq, eNot_eq, notQ_s, eIf_eq, eChain_eq, andO_bb, andO_t, andO_f, orO_bb, orO_t, orO_f, qandO_bb, qandO_t, qandO_f, qorO_bb, qorO_t, qorO_f, ifO_s, ifO_t, ifO_f, chO_s, ite_int, ite_bl, ite_enc, dIsN_non, dNotN_non, isNon_non, isNon_int, isNon_l, isNon_p, gN_eq, gT_p, eComp_eq, eComp2_eq, stepC_eq, stQ_s, stR_t, stR_f, stR_b, stepM_eq', stMQ_s, stM_t, stM_f, turnF_eq, tnB_s, turnW_eq, tnQ_nx, tnQ_ct, tnQ_bk, tnQ_rt, xApp_eq, xExt_eq, appO_i, extO_l, eScr_eq, scrF_s, eLenScr_eq, scrLen_s, eIxScr_eq, iSq_eq, seqOf_l, seqOf_p, iR1_eq, iR2_eq, r1Of_i, r2Of_i, iEn_eq, enOf_l, eSl_eq, slOf_l, oNo_eq, oSo_eq, soQ_s, tup_ii, tup_ee, tup_ei, tup_ie, enc_int, enc_bool, dAt_p0, dAt_p1, dLen_l, dEq_int, dNe_int, dEq_bl, dNe_bl, dMul_l, dMul_r, dDiv_i, dMod_i, dSub_i, dAdd_i, dAddI_i, dNeg_i, dLt_i, dLe_i, dGt_i, dGe_i, dInt_i, dInt_b, dAbs_i, dMin_i, dMax_i, dGcd_i, fold_list, fold_listF, lst1, lst2, lst1i, lst2i, dSum_l, dAll_l, dAny_l, eLzip_eq, lzQ_l, eDcT_eq, stepD_eq, dEqX_int, dNeX_int, dEqX_bl, dNeX_bl, dEqX_str, dNeX_str, dSortP_l, dEqY_int, dNeY_int, dEqY_bl, dNeY_bl, dEqY_str, dNeY_str, env0_b2, t_len2, t_len3, Int.reduceEq, Int.reduceLT, Int.reduceLE, t_at0, t_at1, t_at2, s_len, xPut_eq, dTuple_l, eMinK_eq, x_best_for, c1]
    have e0 : D.lst [] = enc ([] : List S) := rfl
    rw [e0]
    rw [(iterF_steps (α := Int) (S := List S) (R := fun acc => [.sh (enc rows), .bor (enc kn), .own (enc acc), .un]) (st := fun acc c => acc ++ candAt least rows c.toNat) (P := fun n acc => acc.length ≤ 2 * n) (n := 0) (s := []) (by simp) fun i c hc acc hP => by
      have m := mem_rngI.mp (List.mem_of_getElem? hc)
      have hi : i < (rngI 1 (rows.length - 1)).length := by
        have := (List.getElem?_eq_some_iff.mp hc).1
        rw [rngI_length] at this ⊢
        omega
      rw [rngI_length] at hi
      rw [Nat.zero_add] at hP
      have cl : (candAt least rows c.toNat).length ≤ 2 := by
        unfold candAt
        split <;> simp
      refine ⟨?_, by rw [List.length_append]; omega⟩
      obtain ⟨cut, rfl⟩ : ∃ n : Nat, c = n := ⟨c.toNat, by omega⟩
      obtain ⟨k1, k2⟩ := kn1 cut (by omega) (by omega)
      have lt : (rows.take cut).length = cut := by rw [List.length_take]; omega
      have ld : (rows.drop cut).length = rows.length - cut := List.length_drop
      have s1 := cut_to rows (cut : Int) (by omega)
      have s2 := cut_from rows (cut : Int) (by omega)
      rw [Int.toNat_natCast] at s1 s2
      have a1 := dAt_kn k1
      have a2 := dAt_kn k2
      have gl : ∀ {p : Rows}, 1 ≤ p.length → p.length ≤ 16 → (least p).length ≤ 300 := fun {p} h1 h2 => by
        have := good_least (rows := p) ⟨h1, h2⟩
        have := wr_len this.1
        have := (good_least (rows := p) ⟨h1, h2⟩).2
        omega
      have l1 := gl (p := rows.take cut) (by omega) (by omega)
      have l2 := gl (p := rows.drop cut) (by omega) (by omega)
      have ad := dAdd_l (least (rows.take cut)) (least (rows.drop cut)) (by omega)
      have ap := appO_l 2 [LV.sh (enc rows), .bor (enc kn), .own (enc acc), .sh (.int cut)] acc (least (rows.take cut) ++ least (rows.drop cut)) (by omega)
      have md : (rows.length : Int) % (cut : Int) = ((rows.length % cut : Nat) : Int) := (Int.natCast_emod _ _).symm
      obtain ⟨qt, hqt⟩ : ∃ q, rows.length / cut = q := ⟨_, rfl⟩
      have dv : (rows.length : Int) / (cut : Int) = (qt : Int) := by rw [← hqt]; exact (Int.natCast_ediv _ _).symm
      have zc : (((rows.length % cut : Nat) : Int) = 0) = (rows.length % cut = 0) := propext ⟨fun h => Int.ofNat.inj h, fun h => congrArg Int.ofNat h⟩
      have dle : qt ≤ 16 := by rw [← hqt]; exact Nat.le_trans (Nat.div_le_self _ _) g2
      have mulb : cut * qt ≤ 16 := by rw [← hqt]; exact Nat.le_trans (Nat.mul_div_le _ _) g2
      have mul := dMulL (rows.take cut) (qt : Int) (by rw [Int.toNat_natCast, lt]; omega)
      rw [Int.toNat_natCast] at mul
      have eq := dEqY_l (by decide) rows (List.replicate (qt) (rows.take cut)).flatten
      simp (disch := omega) only [List.getElem?_cons_zero, List.getElem?_cons_succ, List.set_cons_zero, List.set_cons_succ, env0_0, env0_1, env0_2, env0_3, env0_4, List.replicate_succ, List.replicate_zero, Nat.reduceSub, wipeE, xSeq_eq, seqO_nx, seqO_rt, seqO_bk, seqO_ct, rngI_length, xNext_eq, xAsg_eq, asgQ_s, nxO_s, xAsgO_eq, asgOQ_s, xPar_eq, parQ_s, setQ_s, xAug_eq, xDrop_eq, dropQ_s, xRet_eq, retO_s, xRetN_eq, xBrk_eq, xCt_eq, xIf_eq, ifX_t, ifX_f, ifX_s, Bool.false_eq_true, if_false, if_true, eq_self, Bool.false_or, Bool.or_false, Bool.true_or, Bool.or_true, Bool.true_and, Bool.and_true, Bool.false_and, Bool.and_false, Bool.not_true, Bool.not_false, decide_true, decide_false, xFrz_own, frzE_eq, frzQ_own, frzQ_sh, xFor_eq, forQ_s, xWhile_eq, eVar_eq, varQ_s, bVar_eq, lookQ_s, lookQ_o, lookQ_b, eC_eq, e1_eq, e1Q_s, e2_eq, e2Q_s, eCall_eq, callQ_s, aNil_eq, aCons_eq, consQ_s, eLst_eq, eTup_eq, lstQ0, lstQ1, lstQ2, lstQ3, lstQ4, lstQ8, tupQ2, tupQ3, qB_eq, boolQ_s, qAnd_eq, qOr_eq, qNot_eq, qnotQ_s, eAnd_eq, eOr_eq, eNot_eq, notQ_s, eIf_eq, eChain_eq, andO_bb, andO_t, andO_f, orO_bb, orO_t, orO_f, qandO_bb, qandO_t, qandO_f, qorO_bb, qorO_t, qorO_f, ifO_s, ifO_t, ifO_f, chO_s, ite_int, ite_bl, ite_enc, dIsN_non, dNotN_non, isNon_non, isNon_int, isNon_l, isNon_p, gN_eq, gT_p, eComp_eq, eComp2_eq, stepC_eq, stQ_s, stR_t, stR_f, stR_b, stepM_eq', stMQ_s, stM_t, stM_f, turnF_eq, tnB_s, turnW_eq, tnQ_nx, tnQ_ct, tnQ_bk, tnQ_rt, xApp_eq, xExt_eq, appO_i, extO_l, eScr_eq, scrF_s, eLenScr_eq, scrLen_s, eIxScr_eq, iSq_eq, seqOf_l, seqOf_p, iR1_eq, iR2_eq, r1Of_i, r2Of_i, iEn_eq, enOf_l, eSl_eq, slOf_l, oNo_eq, oSo_eq, soQ_s, tup_ii, tup_ee, tup_ei, tup_ie, enc_int, enc_bool, dAt_p0, dAt_p1, dLen_l, dEq_int, dNe_int, dEq_bl, dNe_bl, dMul_l, dMul_r, dDiv_i, dMod_i, dSub_i, dAdd_i, dAddI_i, dNeg_i, dLt_i, dLe_i, dGt_i, dGe_i, dInt_i, dInt_b, dAbs_i, dMin_i, dMax_i, dGcd_i, fold_list, fold_listF, lst1, lst2, lst1i, lst2i, dSum_l, dAll_l, dAny_l, eLzip_eq, lzQ_l, eDcT_eq, stepD_eq, dEqX_int, dNeX_int, dEqX_bl, dNeX_bl, dEqX_str, dNeX_str, dSortP_l, dEqY_int, dNeY_int, dEqY_bl, dNeY_bl, dEqY_str, dNeY_str, env0_b2, t_len2, t_len3, Int.reduceEq, Int.reduceLT, Int.reduceLE, t_at0, t_at1, t_at2, s_len, xPut_eq, dTuple_l, eMinK_eq, s1, s2, a1, a2, ad, ap, md, dv, zc, mul, eq]
      unfold candAt isRep
      rw [Int.toNat_natCast, hqt]
      have rp : D.lst [D.tup [.str "repeat", .int (qt : Int), enc (least (rows.take cut))]] = enc ([.rep (qt) (least (rows.take cut))] : S) := by
        show _ = D.lst [enc (Ln.rep _ _)]
        rw [enc_rep]
      by_cases q : (decide (rows.length % cut = 0) && decide (rows = (List.replicate (qt) (rows.take cut)).flatten)) = true
      · rw [if_pos q]
        have ap2 := appO_l 2 [LV.sh (enc rows), .bor (enc kn), .own (enc (acc ++ [least (rows.take cut) ++ least (rows.drop cut)])), .sh (.int cut)] (acc ++ [least (rows.take cut) ++ least (rows.drop cut)]) ([.rep (qt) (least (rows.take cut))] : S) (by rw [List.length_append, List.length_singleton]; omega)
        simp (disch := omega) only [List.getElem?_cons_zero, List.getElem?_cons_succ, List.set_cons_zero, List.set_cons_succ, env0_0, env0_1, env0_2, env0_3, env0_4, List.replicate_succ, List.replicate_zero, Nat.reduceSub, wipeE, xSeq_eq, seqO_nx, seqO_rt, seqO_bk, seqO_ct, rngI_length, xNext_eq, xAsg_eq, asgQ_s, nxO_s, xAsgO_eq, asgOQ_s, xPar_eq, parQ_s, setQ_s, xAug_eq, xDrop_eq, dropQ_s, xRet_eq, retO_s, xRetN_eq, xBrk_eq, xCt_eq, xIf_eq, ifX_t, ifX_f, ifX_s, Bool.false_eq_true, if_false, if_true, eq_self, Bool.false_or, Bool.or_false, Bool.true_or, Bool.or_true, Bool.true_and, Bool.and_true, Bool.false_and, Bool.and_false, Bool.not_true, Bool.not_false, decide_true, decide_false, xFrz_own, frzE_eq, frzQ_own, frzQ_sh, xFor_eq, forQ_s, xWhile_eq, eVar_eq, varQ_s, bVar_eq, lookQ_s, lookQ_o, lookQ_b, eC_eq, e1_eq, e1Q_s, e2_eq, e2Q_s, eCall_eq, callQ_s, aNil_eq, aCons_eq, consQ_s, eLst_eq, eTup_eq, lstQ0, lstQ1, lstQ2, lstQ3, lstQ4, lstQ8, tupQ2, tupQ3, qB_eq, boolQ_s, qAnd_eq, qOr_eq, qNot_eq, qnotQ_s, eAnd_eq, eOr_eq, eNot_eq, notQ_s, eIf_eq, eChain_eq, andO_bb, andO_t, andO_f, orO_bb, orO_t, orO_f, qandO_bb, qandO_t, qandO_f, qorO_bb, qorO_t, qorO_f, ifO_s, ifO_t, ifO_f, chO_s, ite_int, ite_bl, ite_enc, dIsN_non, dNotN_non, isNon_non, isNon_int, isNon_l, isNon_p, gN_eq, gT_p, eComp_eq, eComp2_eq, stepC_eq, stQ_s, stR_t, stR_f, stR_b, stepM_eq', stMQ_s, stM_t, stM_f, turnF_eq, tnB_s, turnW_eq, tnQ_nx, tnQ_ct, tnQ_bk, tnQ_rt, xApp_eq, xExt_eq, appO_i, extO_l, eScr_eq, scrF_s, eLenScr_eq, scrLen_s, eIxScr_eq, iSq_eq, seqOf_l, seqOf_p, iR1_eq, iR2_eq, r1Of_i, r2Of_i, iEn_eq, enOf_l, eSl_eq, slOf_l, oNo_eq, oSo_eq, soQ_s, tup_ii, tup_ee, tup_ei, tup_ie, enc_int, enc_bool, dAt_p0, dAt_p1, dLen_l, dEq_int, dNe_int, dEq_bl, dNe_bl, dMul_l, dMul_r, dDiv_i, dMod_i, dSub_i, dAdd_i, dAddI_i, dNeg_i, dLt_i, dLe_i, dGt_i, dGe_i, dInt_i, dInt_b, dAbs_i, dMin_i, dMax_i, dGcd_i, fold_list, fold_listF, lst1, lst2, lst1i, lst2i, dSum_l, dAll_l, dAny_l, eLzip_eq, lzQ_l, eDcT_eq, stepD_eq, dEqX_int, dNeX_int, dEqX_bl, dNeX_bl, dEqX_str, dNeX_str, dSortP_l, dEqY_int, dNeY_int, dEqY_bl, dNeY_bl, dEqY_str, dNeY_str, env0_b2, t_len2, t_len3, Int.reduceEq, Int.reduceLT, Int.reduceLE, t_at0, t_at1, t_at2, s_len, xPut_eq, dTuple_l, eMinK_eq, q, s1, a1, dv, rp, ap2, List.append_assoc]
        rfl
      · rw [if_neg q]
        have q' : (decide (rows.length % cut = 0) && decide (rows = (List.replicate (qt) (rows.take cut)).flatten)) = false := by simpa using q
        simp (disch := omega) only [List.getElem?_cons_zero, List.getElem?_cons_succ, List.set_cons_zero, List.set_cons_succ, env0_0, env0_1, env0_2, env0_3, env0_4, List.replicate_succ, List.replicate_zero, Nat.reduceSub, wipeE, xSeq_eq, seqO_nx, seqO_rt, seqO_bk, seqO_ct, rngI_length, xNext_eq, xAsg_eq, asgQ_s, nxO_s, xAsgO_eq, asgOQ_s, xPar_eq, parQ_s, setQ_s, xAug_eq, xDrop_eq, dropQ_s, xRet_eq, retO_s, xRetN_eq, xBrk_eq, xCt_eq, xIf_eq, ifX_t, ifX_f, ifX_s, Bool.false_eq_true, if_false, if_true, eq_self, Bool.false_or, Bool.or_false, Bool.true_or, Bool.or_true, Bool.true_and, Bool.and_true, Bool.false_and, Bool.and_false, Bool.not_true, Bool.not_false, decide_true, decide_false, xFrz_own, frzE_eq, frzQ_own, frzQ_sh, xFor_eq, forQ_s, xWhile_eq, eVar_eq, varQ_s, bVar_eq, lookQ_s, lookQ_o, lookQ_b, eC_eq, e1_eq, e1Q_s, e2_eq, e2Q_s, eCall_eq, callQ_s, aNil_eq, aCons_eq, consQ_s, eLst_eq, eTup_eq, lstQ0, lstQ1, lstQ2, lstQ3, lstQ4, lstQ8, tupQ2, tupQ3, qB_eq, boolQ_s, qAnd_eq, qOr_eq, qNot_eq, qnotQ_s, eAnd_eq, eOr_eq, eNot_eq, notQ_s, eIf_eq, eChain_eq, andO_bb, andO_t, andO_f, orO_bb, orO_t, orO_f, qandO_bb, qandO_t, qandO_f, qorO_bb, qorO_t, qorO_f, ifO_s, ifO_t, ifO_f, chO_s, ite_int, ite_bl, ite_enc, dIsN_non, dNotN_non, isNon_non, isNon_int, isNon_l, isNon_p, gN_eq, gT_p, eComp_eq, eComp2_eq, stepC_eq, stQ_s, stR_t, stR_f, stR_b, stepM_eq', stMQ_s, stM_t, stM_f, turnF_eq, tnB_s, turnW_eq, tnQ_nx, tnQ_ct, tnQ_bk, tnQ_rt, xApp_eq, xExt_eq, appO_i, extO_l, eScr_eq, scrF_s, eLenScr_eq, scrLen_s, eIxScr_eq, iSq_eq, seqOf_l, seqOf_p, iR1_eq, iR2_eq, r1Of_i, r2Of_i, iEn_eq, enOf_l, eSl_eq, slOf_l, oNo_eq, oSo_eq, soQ_s, tup_ii, tup_ee, tup_ei, tup_ie, enc_int, enc_bool, dAt_p0, dAt_p1, dLen_l, dEq_int, dNe_int, dEq_bl, dNe_bl, dMul_l, dMul_r, dDiv_i, dMod_i, dSub_i, dAdd_i, dAddI_i, dNeg_i, dLt_i, dLe_i, dGt_i, dGe_i, dInt_i, dInt_b, dAbs_i, dMin_i, dMax_i, dGcd_i, fold_list, fold_listF, lst1, lst2, lst1i, lst2i, dSum_l, dAll_l, dAny_l, eLzip_eq, lzQ_l, eDcT_eq, stepD_eq, dEqX_int, dNeX_int, dEqX_bl, dNeX_bl, dEqX_str, dNeX_str, dSortP_l, dEqY_int, dNeY_int, dEqY_bl, dNeY_bl, dEqY_str, dNeY_str, env0_b2, t_len2, t_len3, Int.reduceEq, Int.reduceLT, Int.reduceLE, t_at0, t_at1, t_at2, s_len, xPut_eq, dTuple_l, eMinK_eq, q']).1]
    rw [fold_flat, List.nil_append]
    have rr : ((rows.length : Int) - 1).toNat = rows.length - 1 := by omega
    rw [rr, cands_rng]
    have two : 2 ≤ rows.length := by omega
    simp (disch := omega) only [List.getElem?_cons_zero, List.getElem?_cons_succ, List.set_cons_zero, List.set_cons_succ, env0_0, env0_1, env0_2, env0_3, env0_4, List.replicate_succ, List.replicate_zero, Nat.reduceSub, wipeE, xSeq_eq, seqO_nx, seqO_rt, seqO_bk, seqO_ct, rngI_length, xNext_eq, xAsg_eq, asgQ_s, nxO_s, xAsgO_eq, asgOQ_s, xPar_eq, parQ_s, setQ_s, xAug_eq, xDrop_eq, dropQ_s, xRet_eq, retO_s, xRetN_eq, xBrk_eq, xCt_eq, xIf_eq, ifX_t, ifX_f, ifX_s, Bool.false_eq_true, if_false, if_true, eq_self, Bool.false_or, Bool.or_false, Bool.true_or, Bool.or_true, Bool.true_and, Bool.and_true, Bool.false_and, Bool.and_false, Bool.not_true, Bool.not_false, decide_true, decide_false, xFrz_own, frzE_eq, frzQ_own, frzQ_sh, xFor_eq, forQ_s, xWhile_eq, eVar_eq, varQ_s, bVar_eq, lookQ_s, lookQ_o, lookQ_b, eC_eq, e1_eq, e1Q_s, e2_eq, e2Q_s, eCall_eq, callQ_s, aNil_eq, aCons_eq, consQ_s, eLst_eq, eTup_eq, lstQ0, lstQ1, lstQ2, lstQ3, lstQ4, lstQ8, tupQ2, tupQ3, qB_eq, boolQ_s, qAnd_eq, qOr_eq, qNot_eq, qnotQ_s, eAnd_eq, eOr_eq, eNot_eq, notQ_s, eIf_eq, eChain_eq, andO_bb, andO_t, andO_f, orO_bb, orO_t, orO_f, qandO_bb, qandO_t, qandO_f, qorO_bb, qorO_t, qorO_f, ifO_s, ifO_t, ifO_f, chO_s, ite_int, ite_bl, ite_enc, dIsN_non, dNotN_non, isNon_non, isNon_int, isNon_l, isNon_p, gN_eq, gT_p, eComp_eq, eComp2_eq, stepC_eq, stQ_s, stR_t, stR_f, stR_b, stepM_eq', stMQ_s, stM_t, stM_f, turnF_eq, tnB_s, turnW_eq, tnQ_nx, tnQ_ct, tnQ_bk, tnQ_rt, xApp_eq, xExt_eq, appO_i, extO_l, eScr_eq, scrF_s, eLenScr_eq, scrLen_s, eIxScr_eq, iSq_eq, seqOf_l, seqOf_p, iR1_eq, iR2_eq, r1Of_i, r2Of_i, iEn_eq, enOf_l, eSl_eq, slOf_l, oNo_eq, oSo_eq, soQ_s, tup_ii, tup_ee, tup_ei, tup_ie, enc_int, enc_bool, dAt_p0, dAt_p1, dLen_l, dEq_int, dNe_int, dEq_bl, dNe_bl, dMul_l, dMul_r, dDiv_i, dMod_i, dSub_i, dAdd_i, dAddI_i, dNeg_i, dLt_i, dLe_i, dGt_i, dGe_i, dInt_i, dInt_b, dAbs_i, dMin_i, dMax_i, dGcd_i, fold_list, fold_listF, lst1, lst2, lst1i, lst2i, dSum_l, dAll_l, dAny_l, eLzip_eq, lzQ_l, eDcT_eq, stepD_eq, dEqX_int, dNeX_int, dEqX_bl, dNeX_bl, dEqX_str, dNeX_str, dSortP_l, dEqY_int, dNeY_int, dEqY_bl, dNeY_bl, dEqY_str, dNeY_str, env0_b2, t_len2, t_len3, Int.reduceEq, Int.reduceLT, Int.reduceLE, t_at0, t_at1, t_at2, s_len, xPut_eq, dTuple_l, eMinK_eq, eMinK_eq, minQ_s (cands_ne (f := least) two) fun s hs => good_cand ⟨g1, g2⟩ hs]
    rw [least_two two]
end P66

namespace P66
open PySem L2 DL
open DL.Enc (enc)
theorem ev_least_script {rows : Rows} (g : goodRows rows) : F_least_script [enc rows] = some (enc (least rows)) := fn1_ev (a := rows) g
def part (rows : Rows) (first size : Nat) : Rows := (rows.drop first).take size
structure KInv (rows : Rows) (size first : Nat) (kn : Kn) : Prop where
  few : kn.kvs.length ≤ 16 * size + first
  sound : ∀ (p : Rows) v, valD kn.kvs (keyR p) = some v → v = enc (least p)
  full : ∀ f s, 1 ≤ s → f + s ≤ rows.length → (s < size ∨ (s = size ∧ f < first)) → Knows kn (part rows f s)
theorem part_take (rows : Rows) (f s c : Nat) (h : c ≤ s) : (part rows f s).take c = part rows f c := by
  unfold part
  rw [List.take_take, Nat.min_eq_left h]
theorem part_drop (rows : Rows) (f s c : Nat) : (part rows f s).drop c = part rows (f + c) (s - c) := by
  unfold part
  rw [List.drop_take, List.drop_drop]
theorem part_len {rows : Rows} {f s : Nat} (h : f + s ≤ rows.length) : (part rows f s).length = s := by
  unfold part
  rw [List.length_take, List.length_drop]
  omega
noncomputable def addKn (rows : Rows) (size : Nat) (kn : Kn) (first : Int) : Kn := if (valD kn.kvs (keyR (part rows first.toNat size))).isSome = true then kn else ⟨putD kn.kvs (keyR (part rows first.toNat size)) (enc (least (part rows first.toNat size)))⟩
theorem KInv.pre {rows : Rows} {size first : Nat} {kn : Kn} (I : KInv rows size first kn) (g : goodRows rows) (h1 : 1 ≤ size) (h : first + size ≤ rows.length) : preB (part rows first size) kn := by
  have ll := part_len h
  have g2 := g.2
  refine ⟨⟨by omega, by omega⟩, fun cut c1 c2 => ?_⟩
  rw [ll] at c2
  rw [part_take _ _ _ _ (by omega), part_drop]
  exact ⟨I.full first cut c1 (by omega) (.inl c2), I.full (first + cut) (size - cut) (by omega) (by omega) (.inl (by omega))⟩
theorem KInv.step {rows : Rows} {size first : Nat} {kn : Kn} (I : KInv rows size first kn) : KInv rows size (first + 1) (addKn rows size kn first) := by
  unfold addKn
  rw [Int.toNat_natCast]
  by_cases q : (valD kn.kvs (keyR (part rows first size))).isSome = true
  · rw [if_pos q]
    obtain ⟨v, hv⟩ := Option.isSome_iff_exists.mp q
    refine ⟨by have := I.few; omega, I.sound, fun f s h1 h2 h3 => ?_⟩
    by_cases e : s = size ∧ f = first
    · obtain ⟨rfl, rfl⟩ := e
      unfold Knows
      rw [hv, I.sound _ _ hv]
    · exact I.full f s h1 h2 (by omega)
  · rw [if_neg q]
    refine ⟨?_, fun p v hv => ?_, fun f s h1 h2 h3 => ?_⟩
    · have := putD_len kn.kvs (keyR (part rows first size)) (enc (least (part rows first size)))
      have := I.few
      show (putD _ _ _).length ≤ _
      omega
    · have hv : valD (putD kn.kvs (keyR (part rows first size)) (enc (least (part rows first size)))) (keyR p) = some v := hv
      rw [valD_put] at hv
      split at hv
      · rename_i e
        cases hv
        rw [keyR_inj e]
      · exact I.sound p v hv
    · unfold Knows
      show valD (putD kn.kvs (keyR (part rows first size)) (enc (least (part rows first size)))) (keyR (part rows f s)) = _
      rw [valD_put]
      by_cases e : keyR (part rows f s) = keyR (part rows first size)
      · rw [if_pos e, keyR_inj e]
      · rw [if_neg e]
        by_cases e2 : s = size ∧ f = first
        · obtain ⟨rfl, rfl⟩ := e2
          exact absurd rfl e
        · exact I.full f s h1 h2 (by omega)
theorem KInv.next {rows : Rows} {size first : Nat} {kn : Kn} (I : KInv rows size first kn) (h : rows.length < first + size) (hf : first ≤ 16) : KInv rows (size + 1) 0 kn :=
  ⟨by have := I.few; omega, I.sound, fun f s h1 h2 h3 => I.full f s h1 h2 (by omega)⟩
theorem putO_kn (i : Nat) (ρ : DL.Env) (kn : Kn) (p : Rows) (v : D) (hl : kn.kvs.length < 100000) : putO i ρ (some (.own (enc kn))) (some (.tup (p.map enc))) (some v) = some (.nx (ρ.set i (.own (enc (⟨putD kn.kvs (keyR p) v⟩ : Kn))))) := by
  show (match (match tkOf (.tup (p.map enc)) with | some k => if kn.kvs.length < 100000 then some (D.dT (putD kn.kvs k v)) else none | none => none) with | some z => some (Out.nx (ρ.set i (.own z))) | none => none) = _
  rw [tkOf_rows]
  simp only
  rw [if_pos hl]
  rfl
theorem h_least_script : ∀ ds r, F_least_script ds = some r → Ret (x_least_script (env0 [false] ds 5)) r := fun ds r e => by
  obtain ⟨rows, rfl, g, rfl⟩ := fn1_el e
  left
  have g1 := g.1
  have g2 := g.2
  simp (disch := omega) only [List.getElem?_cons_zero, List.getElem?_cons_succ, List.set_cons_zero, List.set_cons_succ, env0_0, env0_1, env0_2, env0_3, env0_4, List.replicate_succ, List.replicate_zero, Nat.reduceSub, wipeE, xSeq_eq, seqO_nx, seqO_rt, seqO_bk, seqO_ct, rngI_length, xNext_eq, xAsg_eq, asgQ_s, nxO_s, xAsgO_eq, asgOQ_s, xPar_eq, parQ_s, setQ_s, xAug_eq, xDrop_eq, dropQ_s, xRet_eq, retO_s, xRetN_eq, xBrk_eq, xCt_eq, xIf_eq, ifX_t, ifX_f, ifX_s, Bool.false_eq_true, if_false, if_true, eq_self, Bool.false_or, Bool.or_false, Bool.true_or, Bool.or_true, Bool.true_and, Bool.and_true, Bool.false_and, Bool.and_false, Bool.not_true, Bool.not_false, decide_true, decide_false, xFrz_own, frzE_eq, frzQ_own, frzQ_sh, xFor_eq, forQ_s, xWhile_eq, eVar_eq, varQ_s, bVar_eq, lookQ_s, lookQ_o, lookQ_b, eC_eq, e1_eq, e1Q_s, e2_eq, e2Q_s, eCall_eq, callQ_s, aNil_eq, aCons_eq, consQ_s, eLst_eq, eTup_eq, lstQ0, lstQ1, lstQ2, lstQ3, lstQ4, lstQ8, tupQ2, tupQ3, qB_eq, boolQ_s, qAnd_eq, qOr_eq, qNot_eq, qnotQ_s, eAnd_eq, eOr_eq, eNot_eq, notQ_s, eIf_eq, eChain_eq, andO_bb, andO_t, andO_f, orO_bb, orO_t, orO_f, qandO_bb, qandO_t, qandO_f, qorO_bb, qorO_t, qorO_f, ifO_s, ifO_t, ifO_f, chO_s, ite_int, ite_bl, ite_enc, dIsN_non, dNotN_non, isNon_non, isNon_int, isNon_l, isNon_p, gN_eq, gT_p, eComp_eq, eComp2_eq, stepC_eq, stQ_s, stR_t, stR_f, stR_b, stepM_eq', stMQ_s, stM_t, stM_f, turnF_eq, tnB_s, turnW_eq, tnQ_nx, tnQ_ct, tnQ_bk, tnQ_rt, xApp_eq, xExt_eq, appO_i, extO_l, eScr_eq, scrF_s, eLenScr_eq, scrLen_s, eIxScr_eq, iSq_eq, seqOf_l, seqOf_p, iR1_eq, iR2_eq, r1Of_i, r2Of_i, iEn_eq, enOf_l, eSl_eq, slOf_l, oNo_eq, oSo_eq, soQ_s, tup_ii, tup_ee, tup_ei, tup_ie, enc_int, enc_bool, dAt_p0, dAt_p1, dLen_l, dEq_int, dNe_int, dEq_bl, dNe_bl, dMul_l, dMul_r, dDiv_i, dMod_i, dSub_i, dAdd_i, dAddI_i, dNeg_i, dLt_i, dLe_i, dGt_i, dGe_i, dInt_i, dInt_b, dAbs_i, dMin_i, dMax_i, dGcd_i, fold_list, fold_listF, lst1, lst2, lst1i, lst2i, dSum_l, dAll_l, dAny_l, eLzip_eq, lzQ_l, eDcT_eq, stepD_eq, dEqX_int, dNeX_int, dEqX_bl, dNeX_bl, dEqX_str, dNeX_str, dSortP_l, dEqY_int, dNeY_int, dEqY_bl, dNeY_bl, dEqY_str, dNeY_str, env0_b2, t_len2, t_len3, Int.reduceEq, Int.reduceLT, Int.reduceLE, t_at0, t_at1, t_at2, s_len, xPut_eq, dTuple_l, eMinK_eq, x_least_script, ev_check_rows g]
  have e0 : D.dT [] = enc (⟨[]⟩ : Kn) := rfl
  rw [e0]
  have rl : ((rows.length : Int) + 1 - 1).toNat = rows.length := by omega
  rw [rl]
  have L := iterF_steps (js := [2, 3, 4]) (α := Int) (S := Kn) (R := fun kn => [.sh (enc rows), .own (enc kn), .un, .un, .un]) (st := fun kn size => (rngI 0 (rows.length - size.toNat + 1)).foldl (addKn rows size.toNat) kn) (P := fun n kn => KInv rows (n + 1) 0 kn) (xs := rngI 1 rows.length) (n := 0) (s := ⟨[]⟩)
    (body := (xSeq (xFor [3, 4] (iR1 (aCons (e2 dAdd (e2 dSub (eCall dLen (aCons (bVar 0) aNil)) (bVar 2)) (eC (.int 1))) aNil)) (gN 3) (xSeq (xAsg (eSl (bVar 0) (oSo (bVar 3)) (oSo (e2 dAdd (bVar 3) (bVar 2)))) (gN 4)) (xSeq (xIf (qB (e2 dNotInX (eCall dTuple (aCons (bVar 4) aNil)) (bVar 1))) (xSeq (xPut 1 (eCall dTuple (aCons (bVar 4) aNil)) (eCall F_best_for (aCons (eVar 4) (aCons (bVar 1) aNil)))) xNext) xNext) xNext))) xNext)) (g := gN 2) ⟨by simp, (fun p v h => by cases h), fun f s h1 h2 h3 => by omega⟩ ?_
  · rw [L.1]
    obtain ⟨_, I⟩ := L
    rw [rngI_length, Nat.zero_add] at I
    have kn := I.full 0 rows.length g1 (by omega) (.inl (by omega))
    have pr : part rows 0 rows.length = rows := by
      unfold part
      rw [List.drop_zero, List.take_length]
    rw [pr] at kn
    simp (disch := omega) only [List.getElem?_cons_zero, List.getElem?_cons_succ, List.set_cons_zero, List.set_cons_succ, env0_0, env0_1, env0_2, env0_3, env0_4, List.replicate_succ, List.replicate_zero, Nat.reduceSub, wipeE, xSeq_eq, seqO_nx, seqO_rt, seqO_bk, seqO_ct, rngI_length, xNext_eq, xAsg_eq, asgQ_s, nxO_s, xAsgO_eq, asgOQ_s, xPar_eq, parQ_s, setQ_s, xAug_eq, xDrop_eq, dropQ_s, xRet_eq, retO_s, xRetN_eq, xBrk_eq, xCt_eq, xIf_eq, ifX_t, ifX_f, ifX_s, Bool.false_eq_true, if_false, if_true, eq_self, Bool.false_or, Bool.or_false, Bool.true_or, Bool.or_true, Bool.true_and, Bool.and_true, Bool.false_and, Bool.and_false, Bool.not_true, Bool.not_false, decide_true, decide_false, xFrz_own, frzE_eq, frzQ_own, frzQ_sh, xFor_eq, forQ_s, xWhile_eq, eVar_eq, varQ_s, bVar_eq, lookQ_s, lookQ_o, lookQ_b, eC_eq, e1_eq, e1Q_s, e2_eq, e2Q_s, eCall_eq, callQ_s, aNil_eq, aCons_eq, consQ_s, eLst_eq, eTup_eq, lstQ0, lstQ1, lstQ2, lstQ3, lstQ4, lstQ8, tupQ2, tupQ3, qB_eq, boolQ_s, qAnd_eq, qOr_eq, qNot_eq, qnotQ_s, eAnd_eq, eOr_eq, eNot_eq, notQ_s, eIf_eq, eChain_eq, andO_bb, andO_t, andO_f, orO_bb, orO_t, orO_f, qandO_bb, qandO_t, qandO_f, qorO_bb, qorO_t, qorO_f, ifO_s, ifO_t, ifO_f, chO_s, ite_int, ite_bl, ite_enc, dIsN_non, dNotN_non, isNon_non, isNon_int, isNon_l, isNon_p, gN_eq, gT_p, eComp_eq, eComp2_eq, stepC_eq, stQ_s, stR_t, stR_f, stR_b, stepM_eq', stMQ_s, stM_t, stM_f, turnF_eq, tnB_s, turnW_eq, tnQ_nx, tnQ_ct, tnQ_bk, tnQ_rt, xApp_eq, xExt_eq, appO_i, extO_l, eScr_eq, scrF_s, eLenScr_eq, scrLen_s, eIxScr_eq, iSq_eq, seqOf_l, seqOf_p, iR1_eq, iR2_eq, r1Of_i, r2Of_i, iEn_eq, enOf_l, eSl_eq, slOf_l, oNo_eq, oSo_eq, soQ_s, tup_ii, tup_ee, tup_ei, tup_ie, enc_int, enc_bool, dAt_p0, dAt_p1, dLen_l, dEq_int, dNe_int, dEq_bl, dNe_bl, dMul_l, dMul_r, dDiv_i, dMod_i, dSub_i, dAdd_i, dAddI_i, dNeg_i, dLt_i, dLe_i, dGt_i, dGe_i, dInt_i, dInt_b, dAbs_i, dMin_i, dMax_i, dGcd_i, fold_list, fold_listF, lst1, lst2, lst1i, lst2i, dSum_l, dAll_l, dAny_l, eLzip_eq, lzQ_l, eDcT_eq, stepD_eq, dEqX_int, dNeX_int, dEqX_bl, dNeX_bl, dEqX_str, dNeX_str, dSortP_l, dEqY_int, dNeY_int, dEqY_bl, dNeY_bl, dEqY_str, dNeY_str, env0_b2, t_len2, t_len3, Int.reduceEq, Int.reduceLT, Int.reduceLE, t_at0, t_at1, t_at2, s_len, xPut_eq, dTuple_l, eMinK_eq, dAt_kn kn, ev_copied (good_least g)]
  · intro i size hs kn I
    have lt : i < rows.length := by
      have := (List.getElem?_eq_some_iff.mp hs).1
      rw [rngI_length] at this
      exact this
    have es : size = 1 + (i : Int) := by
      unfold rngI at hs
      rw [List.getElem?_map, List.getElem?_range lt] at hs
      injection hs with hs
      exact hs.symm
    rw [Nat.zero_add] at I ⊢
    have sn : size.toNat = i + 1 := by omega
    have cnt : ((rows.length : Int) - size + 1).toNat = rows.length - (i + 1) + 1 := by omega
    have L := iterF_steps (js := [3, 4]) (α := Int) (S := Kn) (R := fun kn => [.sh (enc rows), .own (enc kn), .sh (.int size), .un, .un]) (st := addKn rows (i + 1)) (P := fun n kn => KInv rows (i + 1) n kn) (xs := rngI 0 (rows.length - (i + 1) + 1)) (n := 0) (s := kn)
      (body := (xSeq (xAsg (eSl (bVar 0) (oSo (bVar 3)) (oSo (e2 dAdd (bVar 3) (bVar 2)))) (gN 4)) (xSeq (xIf (qB (e2 dNotInX (eCall dTuple (aCons (bVar 4) aNil)) (bVar 1))) (xSeq (xPut 1 (eCall dTuple (aCons (bVar 4) aNil)) (eCall F_best_for (aCons (eVar 4) (aCons (bVar 1) aNil)))) xNext) xNext) xNext))) (g := gN 3) I ?_
    · simp (disch := omega) only [List.getElem?_cons_zero, List.getElem?_cons_succ, List.set_cons_zero, List.set_cons_succ, env0_0, env0_1, env0_2, env0_3, env0_4, List.replicate_succ, List.replicate_zero, Nat.reduceSub, wipeE, xSeq_eq, seqO_nx, seqO_rt, seqO_bk, seqO_ct, rngI_length, xNext_eq, xAsg_eq, asgQ_s, nxO_s, xAsgO_eq, asgOQ_s, xPar_eq, parQ_s, setQ_s, xAug_eq, xDrop_eq, dropQ_s, xRet_eq, retO_s, xRetN_eq, xBrk_eq, xCt_eq, xIf_eq, ifX_t, ifX_f, ifX_s, Bool.false_eq_true, if_false, if_true, eq_self, Bool.false_or, Bool.or_false, Bool.true_or, Bool.or_true, Bool.true_and, Bool.and_true, Bool.false_and, Bool.and_false, Bool.not_true, Bool.not_false, decide_true, decide_false, xFrz_own, frzE_eq, frzQ_own, frzQ_sh, xFor_eq, forQ_s, xWhile_eq, eVar_eq, varQ_s, bVar_eq, lookQ_s, lookQ_o, lookQ_b, eC_eq, e1_eq, e1Q_s, e2_eq, e2Q_s, eCall_eq, callQ_s, aNil_eq, aCons_eq, consQ_s, eLst_eq, eTup_eq, lstQ0, lstQ1, lstQ2, lstQ3, lstQ4, lstQ8, tupQ2, tupQ3, qB_eq, boolQ_s, qAnd_eq, qOr_eq, qNot_eq, qnotQ_s, eAnd_eq, eOr_eq, eNot_eq, notQ_s, eIf_eq, eChain_eq, andO_bb, andO_t, andO_f, orO_bb, orO_t, orO_f, qandO_bb, qandO_t, qandO_f, qorO_bb, qorO_t, qorO_f, ifO_s, ifO_t, ifO_f, chO_s, ite_int, ite_bl, ite_enc, dIsN_non, dNotN_non, isNon_non, isNon_int, isNon_l, isNon_p, gN_eq, gT_p, eComp_eq, eComp2_eq, stepC_eq, stQ_s, stR_t, stR_f, stR_b, stepM_eq', stMQ_s, stM_t, stM_f, turnF_eq, tnB_s, turnW_eq, tnQ_nx, tnQ_ct, tnQ_bk, tnQ_rt, xApp_eq, xExt_eq, appO_i, extO_l, eScr_eq, scrF_s, eLenScr_eq, scrLen_s, eIxScr_eq, iSq_eq, seqOf_l, seqOf_p, iR1_eq, iR2_eq, r1Of_i, r2Of_i, iEn_eq, enOf_l, eSl_eq, slOf_l, oNo_eq, oSo_eq, soQ_s, tup_ii, tup_ee, tup_ei, tup_ie, enc_int, enc_bool, dAt_p0, dAt_p1, dLen_l, dEq_int, dNe_int, dEq_bl, dNe_bl, dMul_l, dMul_r, dDiv_i, dMod_i, dSub_i, dAdd_i, dAddI_i, dNeg_i, dLt_i, dLe_i, dGt_i, dGe_i, dInt_i, dInt_b, dAbs_i, dMin_i, dMax_i, dGcd_i, fold_list, fold_listF, lst1, lst2, lst1i, lst2i, dSum_l, dAll_l, dAny_l, eLzip_eq, lzQ_l, eDcT_eq, stepD_eq, dEqX_int, dNeX_int, dEqX_bl, dNeX_bl, dEqX_str, dNeX_str, dSortP_l, dEqY_int, dNeY_int, dEqY_bl, dNeY_bl, dEqY_str, dNeY_str, env0_b2, t_len2, t_len3, Int.reduceEq, Int.reduceLT, Int.reduceLE, t_at0, t_at1, t_at2, s_len, xPut_eq, dTuple_l, eMinK_eq, cnt, sn]
      rw [L.1]
      obtain ⟨_, J⟩ := L
      rw [rngI_length, Nat.zero_add] at J
      refine ⟨?_, J.next (by omega) (by omega)⟩
      simp (disch := omega) only [List.getElem?_cons_zero, List.getElem?_cons_succ, List.set_cons_zero, List.set_cons_succ, env0_0, env0_1, env0_2, env0_3, env0_4, List.replicate_succ, List.replicate_zero, Nat.reduceSub, wipeE, xSeq_eq, seqO_nx, seqO_rt, seqO_bk, seqO_ct, rngI_length, xNext_eq, xAsg_eq, asgQ_s, nxO_s, xAsgO_eq, asgOQ_s, xPar_eq, parQ_s, setQ_s, xAug_eq, xDrop_eq, dropQ_s, xRet_eq, retO_s, xRetN_eq, xBrk_eq, xCt_eq, xIf_eq, ifX_t, ifX_f, ifX_s, Bool.false_eq_true, if_false, if_true, eq_self, Bool.false_or, Bool.or_false, Bool.true_or, Bool.or_true, Bool.true_and, Bool.and_true, Bool.false_and, Bool.and_false, Bool.not_true, Bool.not_false, decide_true, decide_false, xFrz_own, frzE_eq, frzQ_own, frzQ_sh, xFor_eq, forQ_s, xWhile_eq, eVar_eq, varQ_s, bVar_eq, lookQ_s, lookQ_o, lookQ_b, eC_eq, e1_eq, e1Q_s, e2_eq, e2Q_s, eCall_eq, callQ_s, aNil_eq, aCons_eq, consQ_s, eLst_eq, eTup_eq, lstQ0, lstQ1, lstQ2, lstQ3, lstQ4, lstQ8, tupQ2, tupQ3, qB_eq, boolQ_s, qAnd_eq, qOr_eq, qNot_eq, qnotQ_s, eAnd_eq, eOr_eq, eNot_eq, notQ_s, eIf_eq, eChain_eq, andO_bb, andO_t, andO_f, orO_bb, orO_t, orO_f, qandO_bb, qandO_t, qandO_f, qorO_bb, qorO_t, qorO_f, ifO_s, ifO_t, ifO_f, chO_s, ite_int, ite_bl, ite_enc, dIsN_non, dNotN_non, isNon_non, isNon_int, isNon_l, isNon_p, gN_eq, gT_p, eComp_eq, eComp2_eq, stepC_eq, stQ_s, stR_t, stR_f, stR_b, stepM_eq', stMQ_s, stM_t, stM_f, turnF_eq, tnB_s, turnW_eq, tnQ_nx, tnQ_ct, tnQ_bk, tnQ_rt, xApp_eq, xExt_eq, appO_i, extO_l, eScr_eq, scrF_s, eLenScr_eq, scrLen_s, eIxScr_eq, iSq_eq, seqOf_l, seqOf_p, iR1_eq, iR2_eq, r1Of_i, r2Of_i, iEn_eq, enOf_l, eSl_eq, slOf_l, oNo_eq, oSo_eq, soQ_s, tup_ii, tup_ee, tup_ei, tup_ie, enc_int, enc_bool, dAt_p0, dAt_p1, dLen_l, dEq_int, dNe_int, dEq_bl, dNe_bl, dMul_l, dMul_r, dDiv_i, dMod_i, dSub_i, dAdd_i, dAddI_i, dNeg_i, dLt_i, dLe_i, dGt_i, dGe_i, dInt_i, dInt_b, dAbs_i, dMin_i, dMax_i, dGcd_i, fold_list, fold_listF, lst1, lst2, lst1i, lst2i, dSum_l, dAll_l, dAny_l, eLzip_eq, lzQ_l, eDcT_eq, stepD_eq, dEqX_int, dNeX_int, dEqX_bl, dNeX_bl, dEqX_str, dNeX_str, dSortP_l, dEqY_int, dNeY_int, dEqY_bl, dNeY_bl, dEqY_str, dNeY_str, env0_b2, t_len2, t_len3, Int.reduceEq, Int.reduceLT, Int.reduceLE, t_at0, t_at1, t_at2, s_len, xPut_eq, dTuple_l, eMinK_eq]
    · intro j first hf kn J
      have lt2 : j < rows.length - (i + 1) + 1 := by
        have := (List.getElem?_eq_some_iff.mp hf).1
        rw [rngI_length] at this
        exact this
      have ef : first = (j : Int) := by
        unfold rngI at hf
        rw [List.getElem?_map, List.getElem?_range lt2] at hf
        injection hf with hf
        rw [← hf]
        show 0 + (j : Int) = j
        omega
      subst ef
      subst es
      rw [Nat.zero_add] at J ⊢
      refine ⟨?_, J.step⟩
      have few := J.few
      have pre := J.pre g (by omega) (by omega)
      have cb := cut_both rows (j : Int) ((j : Int) + (1 + (i : Int))) (by omega)
      have pe : (rows.take ((j : Int) + (1 + (i : Int))).toNat).drop (j : Int).toNat = part rows j (i + 1) := by
        unfold part
        rw [show ((j : Int) + (1 + (i : Int))).toNat = j + (i + 1) by omega, Int.toNat_natCast, List.drop_take]
        congr 1
        omega
      rw [pe] at cb
      simp (disch := omega) only [List.getElem?_cons_zero, List.getElem?_cons_succ, List.set_cons_zero, List.set_cons_succ, env0_0, env0_1, env0_2, env0_3, env0_4, List.replicate_succ, List.replicate_zero, Nat.reduceSub, wipeE, xSeq_eq, seqO_nx, seqO_rt, seqO_bk, seqO_ct, rngI_length, xNext_eq, xAsg_eq, asgQ_s, nxO_s, xAsgO_eq, asgOQ_s, xPar_eq, parQ_s, setQ_s, xAug_eq, xDrop_eq, dropQ_s, xRet_eq, retO_s, xRetN_eq, xBrk_eq, xCt_eq, xIf_eq, ifX_t, ifX_f, ifX_s, Bool.false_eq_true, if_false, if_true, eq_self, Bool.false_or, Bool.or_false, Bool.true_or, Bool.or_true, Bool.true_and, Bool.and_true, Bool.false_and, Bool.and_false, Bool.not_true, Bool.not_false, decide_true, decide_false, xFrz_own, frzE_eq, frzQ_own, frzQ_sh, xFor_eq, forQ_s, xWhile_eq, eVar_eq, varQ_s, bVar_eq, lookQ_s, lookQ_o, lookQ_b, eC_eq, e1_eq, e1Q_s, e2_eq, e2Q_s, eCall_eq, callQ_s, aNil_eq, aCons_eq, consQ_s, eLst_eq, eTup_eq, lstQ0, lstQ1, lstQ2, lstQ3, lstQ4, lstQ8, tupQ2, tupQ3, qB_eq, boolQ_s, qAnd_eq, qOr_eq, qNot_eq, qnotQ_s, eAnd_eq, eOr_eq, eNot_eq, notQ_s, eIf_eq, eChain_eq, andO_bb, andO_t, andO_f, orO_bb, orO_t, orO_f, qandO_bb, qandO_t, qandO_f, qorO_bb, qorO_t, qorO_f, ifO_s, ifO_t, ifO_f, chO_s, ite_int, ite_bl, ite_enc, dIsN_non, dNotN_non, isNon_non, isNon_int, isNon_l, isNon_p, gN_eq, gT_p, eComp_eq, eComp2_eq, stepC_eq, stQ_s, stR_t, stR_f, stR_b, stepM_eq', stMQ_s, stM_t, stM_f, turnF_eq, tnB_s, turnW_eq, tnQ_nx, tnQ_ct, tnQ_bk, tnQ_rt, xApp_eq, xExt_eq, appO_i, extO_l, eScr_eq, scrF_s, eLenScr_eq, scrLen_s, eIxScr_eq, iSq_eq, seqOf_l, seqOf_p, iR1_eq, iR2_eq, r1Of_i, r2Of_i, iEn_eq, enOf_l, eSl_eq, slOf_l, oNo_eq, oSo_eq, soQ_s, tup_ii, tup_ee, tup_ei, tup_ie, enc_int, enc_bool, dAt_p0, dAt_p1, dLen_l, dEq_int, dNe_int, dEq_bl, dNe_bl, dMul_l, dMul_r, dDiv_i, dMod_i, dSub_i, dAdd_i, dAddI_i, dNeg_i, dLt_i, dLe_i, dGt_i, dGe_i, dInt_i, dInt_b, dAbs_i, dMin_i, dMax_i, dGcd_i, fold_list, fold_listF, lst1, lst2, lst1i, lst2i, dSum_l, dAll_l, dAny_l, eLzip_eq, lzQ_l, eDcT_eq, stepD_eq, dEqX_int, dNeX_int, dEqX_bl, dNeX_bl, dEqX_str, dNeX_str, dSortP_l, dEqY_int, dNeY_int, dEqY_bl, dNeY_bl, dEqY_str, dNeY_str, env0_b2, t_len2, t_len3, Int.reduceEq, Int.reduceLT, Int.reduceLE, t_at0, t_at1, t_at2, s_len, xPut_eq, dTuple_l, eMinK_eq, cb, dNotIn_kn]
      unfold addKn
      rw [Int.toNat_natCast]
      by_cases q : (valD kn.kvs (keyR (part rows j (i + 1)))).isSome = true
      · simp (disch := omega) only [List.getElem?_cons_zero, List.getElem?_cons_succ, List.set_cons_zero, List.set_cons_succ, env0_0, env0_1, env0_2, env0_3, env0_4, List.replicate_succ, List.replicate_zero, Nat.reduceSub, wipeE, xSeq_eq, seqO_nx, seqO_rt, seqO_bk, seqO_ct, rngI_length, xNext_eq, xAsg_eq, asgQ_s, nxO_s, xAsgO_eq, asgOQ_s, xPar_eq, parQ_s, setQ_s, xAug_eq, xDrop_eq, dropQ_s, xRet_eq, retO_s, xRetN_eq, xBrk_eq, xCt_eq, xIf_eq, ifX_t, ifX_f, ifX_s, Bool.false_eq_true, if_false, if_true, eq_self, Bool.false_or, Bool.or_false, Bool.true_or, Bool.or_true, Bool.true_and, Bool.and_true, Bool.false_and, Bool.and_false, Bool.not_true, Bool.not_false, decide_true, decide_false, xFrz_own, frzE_eq, frzQ_own, frzQ_sh, xFor_eq, forQ_s, xWhile_eq, eVar_eq, varQ_s, bVar_eq, lookQ_s, lookQ_o, lookQ_b, eC_eq, e1_eq, e1Q_s, e2_eq, e2Q_s, eCall_eq, callQ_s, aNil_eq, aCons_eq, consQ_s, eLst_eq, eTup_eq, lstQ0, lstQ1, lstQ2, lstQ3, lstQ4, lstQ8, tupQ2, tupQ3, qB_eq, boolQ_s, qAnd_eq, qOr_eq, qNot_eq, qnotQ_s, eAnd_eq, eOr_eq, eNot_eq, notQ_s, eIf_eq, eChain_eq, andO_bb, andO_t, andO_f, orO_bb, orO_t, orO_f, qandO_bb, qandO_t, qandO_f, qorO_bb, qorO_t, qorO_f, ifO_s, ifO_t, ifO_f, chO_s, ite_int, ite_bl, ite_enc, dIsN_non, dNotN_non, isNon_non, isNon_int, isNon_l, isNon_p, gN_eq, gT_p, eComp_eq, eComp2_eq, stepC_eq, stQ_s, stR_t, stR_f, stR_b, stepM_eq', stMQ_s, stM_t, stM_f, turnF_eq, tnB_s, turnW_eq, tnQ_nx, tnQ_ct, tnQ_bk, tnQ_rt, xApp_eq, xExt_eq, appO_i, extO_l, eScr_eq, scrF_s, eLenScr_eq, scrLen_s, eIxScr_eq, iSq_eq, seqOf_l, seqOf_p, iR1_eq, iR2_eq, r1Of_i, r2Of_i, iEn_eq, enOf_l, eSl_eq, slOf_l, oNo_eq, oSo_eq, soQ_s, tup_ii, tup_ee, tup_ei, tup_ie, enc_int, enc_bool, dAt_p0, dAt_p1, dLen_l, dEq_int, dNe_int, dEq_bl, dNe_bl, dMul_l, dMul_r, dDiv_i, dMod_i, dSub_i, dAdd_i, dAddI_i, dNeg_i, dLt_i, dLe_i, dGt_i, dGe_i, dInt_i, dInt_b, dAbs_i, dMin_i, dMax_i, dGcd_i, fold_list, fold_listF, lst1, lst2, lst1i, lst2i, dSum_l, dAll_l, dAny_l, eLzip_eq, lzQ_l, eDcT_eq, stepD_eq, dEqX_int, dNeX_int, dEqX_bl, dNeX_bl, dEqX_str, dNeX_str, dSortP_l, dEqY_int, dNeY_int, dEqY_bl, dNeY_bl, dEqY_str, dNeY_str, env0_b2, t_len2, t_len3, Int.reduceEq, Int.reduceLT, Int.reduceLE, t_at0, t_at1, t_at2, s_len, xPut_eq, dTuple_l, eMinK_eq, q]
      · have q' : (valD kn.kvs (keyR (part rows j (i + 1)))).isSome = false := by simpa using q
        have pk := putO_kn 1 [LV.sh (enc rows), .own (enc kn), .sh (.int (1 + (i : Int))), .sh (.int (j : Int)), .sh (enc (part rows j (i + 1)))] kn (part rows j (i + 1)) (enc (least (part rows j (i + 1)))) (by omega)
        simp (disch := omega) only [List.getElem?_cons_zero, List.getElem?_cons_succ, List.set_cons_zero, List.set_cons_succ, env0_0, env0_1, env0_2, env0_3, env0_4, List.replicate_succ, List.replicate_zero, Nat.reduceSub, wipeE, xSeq_eq, seqO_nx, seqO_rt, seqO_bk, seqO_ct, rngI_length, xNext_eq, xAsg_eq, asgQ_s, nxO_s, xAsgO_eq, asgOQ_s, xPar_eq, parQ_s, setQ_s, xAug_eq, xDrop_eq, dropQ_s, xRet_eq, retO_s, xRetN_eq, xBrk_eq, xCt_eq, xIf_eq, ifX_t, ifX_f, ifX_s, Bool.false_eq_true, if_false, if_true, eq_self, Bool.false_or, Bool.or_false, Bool.true_or, Bool.or_true, Bool.true_and, Bool.and_true, Bool.false_and, Bool.and_false, Bool.not_true, Bool.not_false, decide_true, decide_false, xFrz_own, frzE_eq, frzQ_own, frzQ_sh, xFor_eq, forQ_s, xWhile_eq, eVar_eq, varQ_s, bVar_eq, lookQ_s, lookQ_o, lookQ_b, eC_eq, e1_eq, e1Q_s, e2_eq, e2Q_s, eCall_eq, callQ_s, aNil_eq, aCons_eq, consQ_s, eLst_eq, eTup_eq, lstQ0, lstQ1, lstQ2, lstQ3, lstQ4, lstQ8, tupQ2, tupQ3, qB_eq, boolQ_s, qAnd_eq, qOr_eq, qNot_eq, qnotQ_s, eAnd_eq, eOr_eq, eNot_eq, notQ_s, eIf_eq, eChain_eq, andO_bb, andO_t, andO_f, orO_bb, orO_t, orO_f, qandO_bb, qandO_t, qandO_f, qorO_bb, qorO_t, qorO_f, ifO_s, ifO_t, ifO_f, chO_s, ite_int, ite_bl, ite_enc, dIsN_non, dNotN_non, isNon_non, isNon_int, isNon_l, isNon_p, gN_eq, gT_p, eComp_eq, eComp2_eq, stepC_eq, stQ_s, stR_t, stR_f, stR_b, stepM_eq', stMQ_s, stM_t, stM_f, turnF_eq, tnB_s, turnW_eq, tnQ_nx, tnQ_ct, tnQ_bk, tnQ_rt, xApp_eq, xExt_eq, appO_i, extO_l, eScr_eq, scrF_s, eLenScr_eq, scrLen_s, eIxScr_eq, iSq_eq, seqOf_l, seqOf_p, iR1_eq, iR2_eq, r1Of_i, r2Of_i, iEn_eq, enOf_l, eSl_eq, slOf_l, oNo_eq, oSo_eq, soQ_s, tup_ii, tup_ee, tup_ei, tup_ie, enc_int, enc_bool, dAt_p0, dAt_p1, dLen_l, dEq_int, dNe_int, dEq_bl, dNe_bl, dMul_l, dMul_r, dDiv_i, dMod_i, dSub_i, dAdd_i, dAddI_i, dNeg_i, dLt_i, dLe_i, dGt_i, dGe_i, dInt_i, dInt_b, dAbs_i, dMin_i, dMax_i, dGcd_i, fold_list, fold_listF, lst1, lst2, lst1i, lst2i, dSum_l, dAll_l, dAny_l, eLzip_eq, lzQ_l, eDcT_eq, stepD_eq, dEqX_int, dNeX_int, dEqX_bl, dNeX_bl, dEqX_str, dNeX_str, dSortP_l, dEqY_int, dNeY_int, dEqY_bl, dNeY_bl, dEqY_str, dNeY_str, env0_b2, t_len2, t_len3, Int.reduceEq, Int.reduceLT, Int.reduceLE, t_at0, t_at1, t_at2, s_len, xPut_eq, dTuple_l, eMinK_eq, q', ev_best_for pre, pk]
end P66

namespace P66
open PySem L2 DL
open DL.Enc (enc)
theorem absI_eq (n : Int) : (if n < 0 then -n else n) = absI n := rfl
theorem drawSt_ok {s : List Int × Int} {n : Nat} {t : Int} (h : s.1.length ≤ n ∧ (∀ d ∈ s.1, 0 ≤ d ∧ d < 65536)) : (drawSt s t).1.length ≤ n + 1 ∧ (∀ d ∈ (drawSt s t).1, 0 ≤ d ∧ d < 65536) := by
  unfold drawSt
  split
  · refine ⟨by simp; omega, fun d hd => ?_⟩
    rcases List.mem_append.mp hd with q | q
    · exact h.2 d q
    · rw [List.mem_singleton.mp q]; omega
  · exact ⟨by omega, h.2⟩
theorem drawSt_fold : ∀ (ts : List Int) (s : List Int × Int) (n : Nat), s.1.length ≤ n ∧ (∀ d ∈ s.1, 0 ≤ d ∧ d < 65536) → (ts.foldl drawSt s).1.length ≤ n + ts.length ∧ (∀ d ∈ (ts.foldl drawSt s).1, 0 ≤ d ∧ d < 65536)
  | [], _, _, h => h
  | t :: ts, s, n, h => by
    have := drawSt_fold ts (drawSt s t) (n + 1) (drawSt_ok h)
    rw [List.foldl_cons, List.length_cons]
    exact ⟨by omega, this.2⟩
theorem drawK_ok {ns : List Int} {ds : List Int} {n : Nat} {k : Int} (h : ds.length ≤ n ∧ ∀ d ∈ ds, 0 ≤ d ∧ d < 65536) : (drawK ns ds k).length ≤ n + 60 ∧ ∀ d ∈ drawK ns ds k, 0 ≤ d ∧ d < 65536 := by
  unfold drawK
  split
  · have := drawSt_fold (rngI 0 60) (ds, absI (ns.getD k.toNat default)) n h
    rw [rngI_length] at this
    exact this
  · refine ⟨by simp; omega, fun d hd => ?_⟩
    rcases List.mem_append.mp hd with q | q
    · rcases List.mem_append.mp q with q | q
      · exact h.2 d q
      · rw [List.mem_singleton.mp q]; omega
    · rw [List.mem_singleton.mp q]; omega
theorem absI_nn (n : Int) : 0 ≤ absI n := by
  unfold absI
  split <;> omega
theorem h__law_draws : ∀ ns r, F__law_draws ns = some r → Ret (x__law_draws (envS ns 6)) r := fun ns r e => by
  cases e
  left
  have E : envS ns 6 = [.scr ns, .un, .un, .un, .un, .un] := rfl
  rw [E]
  simp (disch := omega) [List.getElem?_cons_zero, List.getElem?_cons_succ, List.set_cons_zero, List.set_cons_succ, env0_0, env0_1, env0_2, env0_3, env0_4, List.replicate_succ, List.replicate_zero, Nat.reduceSub, wipeE, xSeq_eq, seqO_nx, seqO_rt, seqO_bk, seqO_ct, rngI_length, xNext_eq, xAsg_eq, asgQ_s, nxO_s, xAsgO_eq, asgOQ_s, xPar_eq, parQ_s, setQ_s, xAug_eq, xDrop_eq, dropQ_s, xRet_eq, retO_s, xRetN_eq, xBrk_eq, xCt_eq, xIf_eq, ifX_t, ifX_f, ifX_s, Bool.false_eq_true, if_false, if_true, eq_self, Bool.false_or, Bool.or_false, Bool.true_or, Bool.or_true, Bool.true_and, Bool.and_true, Bool.false_and, Bool.and_false, Bool.not_true, Bool.not_false, decide_true, decide_false, xFrz_own, frzE_eq, frzQ_own, frzQ_sh, xFor_eq, forQ_s, xWhile_eq, eVar_eq, varQ_s, bVar_eq, lookQ_s, lookQ_o, lookQ_b, eC_eq, e1_eq, e1Q_s, e2_eq, e2Q_s, eCall_eq, callQ_s, aNil_eq, aCons_eq, consQ_s, eLst_eq, eTup_eq, lstQ0, lstQ1, lstQ2, lstQ3, lstQ4, lstQ8, tupQ2, tupQ3, qB_eq, boolQ_s, qAnd_eq, qOr_eq, qNot_eq, qnotQ_s, eAnd_eq, eOr_eq, eNot_eq, notQ_s, eIf_eq, eChain_eq, andO_bb, andO_t, andO_f, orO_bb, orO_t, orO_f, qandO_bb, qandO_t, qandO_f, qorO_bb, qorO_t, qorO_f, ifO_s, ifO_t, ifO_f, chO_s, ite_int, ite_bl, ite_enc, dIsN_non, dNotN_non, isNon_non, isNon_int, isNon_l, isNon_p, gN_eq, gT_p, eComp_eq, eComp2_eq, stepC_eq, stQ_s, stR_t, stR_f, stR_b, stepM_eq', stMQ_s, stM_t, stM_f, turnF_eq, tnB_s, turnW_eq, tnQ_nx, tnQ_ct, tnQ_bk, tnQ_rt, xApp_eq, xExt_eq, appO_i, extO_l, eScr_eq, scrF_s, eLenScr_eq, scrLen_s, eIxScr_eq, iSq_eq, seqOf_l, seqOf_p, iR1_eq, iR2_eq, r1Of_i, r2Of_i, iEn_eq, enOf_l, eSl_eq, slOf_l, oNo_eq, oSo_eq, soQ_s, tup_ii, tup_ee, tup_ei, tup_ie, enc_int, enc_bool, dAt_p0, dAt_p1, dLen_l, dEq_int, dNe_int, dEq_bl, dNe_bl, dMul_l, dMul_r, dDiv_i, dMod_i, dSub_i, dAdd_i, dAddI_i, dNeg_i, dLt_i, dLe_i, dGt_i, dGe_i, dInt_i, dInt_b, dAbs_i, dMin_i, dMax_i, dGcd_i, fold_list, fold_listF, lst1, lst2, lst1i, lst2i, dSum_l, dAll_l, dAny_l, eLzip_eq, lzQ_l, eDcT_eq, stepD_eq, dEqX_int, dNeX_int, dEqX_bl, dNeX_bl, dEqX_str, dNeX_str, dSortP_l, dEqY_int, dNeY_int, dEqY_bl, dNeY_bl, dEqY_str, dNeY_str, env0_b2, t_len2, t_len3, Int.reduceEq, Int.reduceLT, Int.reduceLE, t_at0, t_at1, t_at2, s_len, xPut_eq, dTuple_l, eMinK_eq, x__law_draws]
  have hmin : (min 63 ns.length : Nat) ≤ ns.length := Nat.min_le_right ..
  have e0 : (if (ns.length : Int) < 63 then (ns.length : Int) else 63).toNat = min 63 ns.length := by split <;> omega
  rw [e0]
  have L := iterF_steps (js := [2, 3, 4, 5]) (α := Int) (S := List Int) (R := fun ds => [.scr ns, .own (enc ds), .un, .un, .un, .un]) (st := drawK ns) (P := fun n ds => ds.length ≤ 60 * n ∧ ∀ d ∈ ds, 0 ≤ d ∧ d < 65536) (xs := rngI 0 (min 63 ns.length)) (n := 0) (s := []) (body := (xSeq (xAsg (eCall dAbs (aCons (eIxScr 0 (eVar 2)) aNil)) (gN 3)) (xSeq (xIf (qB (e2 dGe (bVar 3) (e2 dPow (eC (.int 10)) (eC (.int 18))))) (xSeq (xFor [4] (iR1 (aCons (eC (.int 60)) aNil)) (gN 4) (xSeq (xIf (qB (e2 dGt (bVar 3) (eC (.int 0)))) (xSeq (xApp 1 (e2 dMod (eCall dInt (aCons (bVar 3) aNil)) (eC (.int 65536)))) (xSeq (xAsg (e2 dDiv (bVar 3) (eC (.int 65536))) (gN 3)) xNext)) xNext) xNext)) xNext) (xSeq (xAsg (e2 dMod (eCall dInt (aCons (e2 dAdd (e2 dMul (bVar 3) (eC (.int 48271))) (e2 dMul (e2 dAdd (bVar 2) (eC (.int 1))) (eC (.int 69621)))) aNil)) (eC (.int 2147483647))) (gN 5)) (xSeq (xAsg (e2 dMod (eCall dInt (aCons (e2 dAdd (e2 dAdd (e2 dMul (bVar 5) (eC (.int 16807))) (e2 dMul (eC (.int 11)) (bVar 2))) (eC (.int 5))) aNil)) (eC (.int 2147483629))) (gN 5)) (xSeq (xApp 1 (e2 dMod (eCall dInt (aCons (bVar 5) aNil)) (eC (.int 65536)))) (xSeq (xApp 1 (e2 dMod (eCall dInt (aCons (e2 dDiv (bVar 5) (eC (.int 65536))) aNil)) (eC (.int 32768)))) xNext))))) xNext))) (g := gN 2) ⟨Nat.zero_le _, fun d hd => nomatch hd⟩ ?_
  · have L1 : iterF _ _ _ (List.map enc (rngI 0 (min 63 ns.length))) [.scr ns, .own (.lst []), .un, .un, .un, .un] = _ := L.1
    rw [L1]
    simp [List.getElem?_cons_zero, List.getElem?_cons_succ, List.set_cons_zero, List.set_cons_succ, env0_0, env0_1, env0_2, env0_3, env0_4, List.replicate_succ, List.replicate_zero, Nat.reduceSub, wipeE, xSeq_eq, seqO_nx, seqO_rt, seqO_bk, seqO_ct, rngI_length, xNext_eq, xAsg_eq, asgQ_s, nxO_s, xAsgO_eq, asgOQ_s, xPar_eq, parQ_s, setQ_s, xAug_eq, xDrop_eq, dropQ_s, xRet_eq, retO_s, xRetN_eq, xBrk_eq, xCt_eq, xIf_eq, ifX_t, ifX_f, ifX_s, Bool.false_eq_true, if_false, if_true, eq_self, Bool.false_or, Bool.or_false, Bool.true_or, Bool.or_true, Bool.true_and, Bool.and_true, Bool.false_and, Bool.and_false, Bool.not_true, Bool.not_false, decide_true, decide_false, xFrz_own, frzE_eq, frzQ_own, frzQ_sh, xFor_eq, forQ_s, xWhile_eq, eVar_eq, varQ_s, bVar_eq, lookQ_s, lookQ_o, lookQ_b, eC_eq, e1_eq, e1Q_s, e2_eq, e2Q_s, eCall_eq, callQ_s, aNil_eq, aCons_eq, consQ_s, eLst_eq, eTup_eq, lstQ0, lstQ1, lstQ2, lstQ3, lstQ4, lstQ8, tupQ2, tupQ3, qB_eq, boolQ_s, qAnd_eq, qOr_eq, qNot_eq, qnotQ_s, eAnd_eq, eOr_eq, eNot_eq, notQ_s, eIf_eq, eChain_eq, andO_bb, andO_t, andO_f, orO_bb, orO_t, orO_f, qandO_bb, qandO_t, qandO_f, qorO_bb, qorO_t, qorO_f, ifO_s, ifO_t, ifO_f, chO_s, ite_int, ite_bl, ite_enc, dIsN_non, dNotN_non, isNon_non, isNon_int, isNon_l, isNon_p, gN_eq, gT_p, eComp_eq, eComp2_eq, stepC_eq, stQ_s, stR_t, stR_f, stR_b, stepM_eq', stMQ_s, stM_t, stM_f, turnF_eq, tnB_s, turnW_eq, tnQ_nx, tnQ_ct, tnQ_bk, tnQ_rt, xApp_eq, xExt_eq, appO_i, extO_l, eScr_eq, scrF_s, eLenScr_eq, scrLen_s, eIxScr_eq, iSq_eq, seqOf_l, seqOf_p, iR1_eq, iR2_eq, r1Of_i, r2Of_i, iEn_eq, enOf_l, eSl_eq, slOf_l, oNo_eq, oSo_eq, soQ_s, tup_ii, tup_ee, tup_ei, tup_ie, enc_int, enc_bool, dAt_p0, dAt_p1, dLen_l, dEq_int, dNe_int, dEq_bl, dNe_bl, dMul_l, dMul_r, dDiv_i, dMod_i, dSub_i, dAdd_i, dAddI_i, dNeg_i, dLt_i, dLe_i, dGt_i, dGe_i, dInt_i, dInt_b, dAbs_i, dMin_i, dMax_i, dGcd_i, fold_list, fold_listF, lst1, lst2, lst1i, lst2i, dSum_l, dAll_l, dAny_l, eLzip_eq, lzQ_l, eDcT_eq, stepD_eq, dEqX_int, dNeX_int, dEqX_bl, dNeX_bl, dEqX_str, dNeX_str, dSortP_l, dEqY_int, dNeY_int, dEqY_bl, dNeY_bl, dEqY_str, dNeY_str, env0_b2, t_len2, t_len3, Int.reduceEq, Int.reduceLT, Int.reduceLE, t_at0, t_at1, t_at2, s_len, xPut_eq, dTuple_l, eMinK_eq, drawsM]
  · intro i k hk ds hP
    have hk2 := mem_rngI.mp (List.mem_of_getElem? hk)
    have hi : i < 63 := by
      have := (List.getElem?_eq_some_iff.mp hk).1
      rw [rngI_length] at this
      omega
    rw [Nat.zero_add] at hP ⊢
    refine ⟨?_, by
      have := drawK_ok (ns := ns) (n := 60 * i) (k := k) hP
      exact ⟨by omega, this.2⟩⟩
    have nn := absI_nn (ns.getD k.toNat default)
    have e1 : atI ns k = some (ns.getD k.toNat default) := atI_of ns k (by omega)
    unfold drawK
    generalize ns.getD k.toNat default = x at nn e1 ⊢
    by_cases c : 1000000000000000000 ≤ absI x
    · rw [if_pos c]
      simp (disch := omega) [List.getElem?_cons_zero, List.getElem?_cons_succ, List.set_cons_zero, List.set_cons_succ, env0_0, env0_1, env0_2, env0_3, env0_4, List.replicate_succ, List.replicate_zero, Nat.reduceSub, wipeE, xSeq_eq, seqO_nx, seqO_rt, seqO_bk, seqO_ct, rngI_length, xNext_eq, xAsg_eq, asgQ_s, nxO_s, xAsgO_eq, asgOQ_s, xPar_eq, parQ_s, setQ_s, xAug_eq, xDrop_eq, dropQ_s, xRet_eq, retO_s, xRetN_eq, xBrk_eq, xCt_eq, xIf_eq, ifX_t, ifX_f, ifX_s, Bool.false_eq_true, if_false, if_true, eq_self, Bool.false_or, Bool.or_false, Bool.true_or, Bool.or_true, Bool.true_and, Bool.and_true, Bool.false_and, Bool.and_false, Bool.not_true, Bool.not_false, decide_true, decide_false, xFrz_own, frzE_eq, frzQ_own, frzQ_sh, xFor_eq, forQ_s, xWhile_eq, eVar_eq, varQ_s, bVar_eq, lookQ_s, lookQ_o, lookQ_b, eC_eq, e1_eq, e1Q_s, e2_eq, e2Q_s, eCall_eq, callQ_s, aNil_eq, aCons_eq, consQ_s, eLst_eq, eTup_eq, lstQ0, lstQ1, lstQ2, lstQ3, lstQ4, lstQ8, tupQ2, tupQ3, qB_eq, boolQ_s, qAnd_eq, qOr_eq, qNot_eq, qnotQ_s, eAnd_eq, eOr_eq, eNot_eq, notQ_s, eIf_eq, eChain_eq, andO_bb, andO_t, andO_f, orO_bb, orO_t, orO_f, qandO_bb, qandO_t, qandO_f, qorO_bb, qorO_t, qorO_f, ifO_s, ifO_t, ifO_f, chO_s, ite_int, ite_bl, ite_enc, dIsN_non, dNotN_non, isNon_non, isNon_int, isNon_l, isNon_p, gN_eq, gT_p, eComp_eq, eComp2_eq, stepC_eq, stQ_s, stR_t, stR_f, stR_b, stepM_eq', stMQ_s, stM_t, stM_f, turnF_eq, tnB_s, turnW_eq, tnQ_nx, tnQ_ct, tnQ_bk, tnQ_rt, xApp_eq, xExt_eq, appO_i, extO_l, eScr_eq, scrF_s, eLenScr_eq, scrLen_s, eIxScr_eq, iSq_eq, seqOf_l, seqOf_p, iR1_eq, iR2_eq, r1Of_i, r2Of_i, iEn_eq, enOf_l, eSl_eq, slOf_l, oNo_eq, oSo_eq, soQ_s, tup_ii, tup_ee, tup_ei, tup_ie, enc_int, enc_bool, dAt_p0, dAt_p1, dLen_l, dEq_int, dNe_int, dEq_bl, dNe_bl, dMul_l, dMul_r, dDiv_i, dMod_i, dSub_i, dAdd_i, dAddI_i, dNeg_i, dLt_i, dLe_i, dGt_i, dGe_i, dInt_i, dInt_b, dAbs_i, dMin_i, dMax_i, dGcd_i, fold_list, fold_listF, lst1, lst2, lst1i, lst2i, dSum_l, dAll_l, dAny_l, eLzip_eq, lzQ_l, eDcT_eq, stepD_eq, dEqX_int, dNeX_int, dEqX_bl, dNeX_bl, dEqX_str, dNeX_str, dSortP_l, dEqY_int, dNeY_int, dEqY_bl, dNeY_bl, dEqY_str, dNeY_str, env0_b2, t_len2, t_len3, Int.reduceEq, Int.reduceLT, Int.reduceLE, t_at0, t_at1, t_at2, s_len, xPut_eq, dTuple_l, eMinK_eq, scrIx_s ns k x e1, absI_eq, dPow_18, c]
      rw [show iterF [4] _ _ _ [LV.scr ns, .own (enc ds), .sh (.int k), .sh (.int (absI x)), .un, .un] = _ from (iterF_steps (α := Int) (S := List Int × Int) (R := fun s => [.scr ns, .own (enc s.1), .sh (.int k), .sh (.int s.2), .un, .un]) (st := drawSt) (P := fun n s => s.1.length ≤ 60 * i + n) (n := 0) (s := (ds, absI x)) hP.1 fun t x hx s hs => by
        have ht : t < 60 := by
          have := (List.getElem?_eq_some_iff.mp hx).1
          rw [rngI_length] at this
          exact this
        by_cases c2 : 0 < s.2
        · rw [show drawSt s x = (s.1 ++ [s.2 % 65536], s.2 / 65536) from if_pos c2]
          exact ⟨by simp (disch := omega) [List.getElem?_cons_zero, List.getElem?_cons_succ, List.set_cons_zero, List.set_cons_succ, env0_0, env0_1, env0_2, env0_3, env0_4, List.replicate_succ, List.replicate_zero, Nat.reduceSub, wipeE, xSeq_eq, seqO_nx, seqO_rt, seqO_bk, seqO_ct, rngI_length, xNext_eq, xAsg_eq, asgQ_s, nxO_s, xAsgO_eq, asgOQ_s, xPar_eq, parQ_s, setQ_s, xAug_eq, xDrop_eq, dropQ_s, xRet_eq, retO_s, xRetN_eq, xBrk_eq, xCt_eq, xIf_eq, ifX_t, ifX_f, ifX_s, Bool.false_eq_true, if_false, if_true, eq_self, Bool.false_or, Bool.or_false, Bool.true_or, Bool.or_true, Bool.true_and, Bool.and_true, Bool.false_and, Bool.and_false, Bool.not_true, Bool.not_false, decide_true, decide_false, xFrz_own, frzE_eq, frzQ_own, frzQ_sh, xFor_eq, forQ_s, xWhile_eq, eVar_eq, varQ_s, bVar_eq, lookQ_s, lookQ_o, lookQ_b, eC_eq, e1_eq, e1Q_s, e2_eq, e2Q_s, eCall_eq, callQ_s, aNil_eq, aCons_eq, consQ_s, eLst_eq, eTup_eq, lstQ0, lstQ1, lstQ2, lstQ3, lstQ4, lstQ8, tupQ2, tupQ3, qB_eq, boolQ_s, qAnd_eq, qOr_eq, qNot_eq, qnotQ_s, eAnd_eq, eOr_eq, eNot_eq, notQ_s, eIf_eq, eChain_eq, andO_bb, andO_t, andO_f, orO_bb, orO_t, orO_f, qandO_bb, qandO_t, qandO_f, qorO_bb, qorO_t, qorO_f, ifO_s, ifO_t, ifO_f, chO_s, ite_int, ite_bl, ite_enc, dIsN_non, dNotN_non, isNon_non, isNon_int, isNon_l, isNon_p, gN_eq, gT_p, eComp_eq, eComp2_eq, stepC_eq, stQ_s, stR_t, stR_f, stR_b, stepM_eq', stMQ_s, stM_t, stM_f, turnF_eq, tnB_s, turnW_eq, tnQ_nx, tnQ_ct, tnQ_bk, tnQ_rt, xApp_eq, xExt_eq, appO_i, extO_l, eScr_eq, scrF_s, eLenScr_eq, scrLen_s, eIxScr_eq, iSq_eq, seqOf_l, seqOf_p, iR1_eq, iR2_eq, r1Of_i, r2Of_i, iEn_eq, enOf_l, eSl_eq, slOf_l, oNo_eq, oSo_eq, soQ_s, tup_ii, tup_ee, tup_ei, tup_ie, enc_int, enc_bool, dAt_p0, dAt_p1, dLen_l, dEq_int, dNe_int, dEq_bl, dNe_bl, dMul_l, dMul_r, dDiv_i, dMod_i, dSub_i, dAdd_i, dAddI_i, dNeg_i, dLt_i, dLe_i, dGt_i, dGe_i, dInt_i, dInt_b, dAbs_i, dMin_i, dMax_i, dGcd_i, fold_list, fold_listF, lst1, lst2, lst1i, lst2i, dSum_l, dAll_l, dAny_l, eLzip_eq, lzQ_l, eDcT_eq, stepD_eq, dEqX_int, dNeX_int, dEqX_bl, dNeX_bl, dEqX_str, dNeX_str, dSortP_l, dEqY_int, dNeY_int, dEqY_bl, dNeY_bl, dEqY_str, dNeY_str, env0_b2, t_len2, t_len3, Int.reduceEq, Int.reduceLT, Int.reduceLE, t_at0, t_at1, t_at2, s_len, xPut_eq, dTuple_l, eMinK_eq, c2], by simp; omega⟩
        · rw [show drawSt s x = s from if_neg c2]
          exact ⟨by simp (disch := omega) [List.getElem?_cons_zero, List.getElem?_cons_succ, List.set_cons_zero, List.set_cons_succ, env0_0, env0_1, env0_2, env0_3, env0_4, List.replicate_succ, List.replicate_zero, Nat.reduceSub, wipeE, xSeq_eq, seqO_nx, seqO_rt, seqO_bk, seqO_ct, rngI_length, xNext_eq, xAsg_eq, asgQ_s, nxO_s, xAsgO_eq, asgOQ_s, xPar_eq, parQ_s, setQ_s, xAug_eq, xDrop_eq, dropQ_s, xRet_eq, retO_s, xRetN_eq, xBrk_eq, xCt_eq, xIf_eq, ifX_t, ifX_f, ifX_s, Bool.false_eq_true, if_false, if_true, eq_self, Bool.false_or, Bool.or_false, Bool.true_or, Bool.or_true, Bool.true_and, Bool.and_true, Bool.false_and, Bool.and_false, Bool.not_true, Bool.not_false, decide_true, decide_false, xFrz_own, frzE_eq, frzQ_own, frzQ_sh, xFor_eq, forQ_s, xWhile_eq, eVar_eq, varQ_s, bVar_eq, lookQ_s, lookQ_o, lookQ_b, eC_eq, e1_eq, e1Q_s, e2_eq, e2Q_s, eCall_eq, callQ_s, aNil_eq, aCons_eq, consQ_s, eLst_eq, eTup_eq, lstQ0, lstQ1, lstQ2, lstQ3, lstQ4, lstQ8, tupQ2, tupQ3, qB_eq, boolQ_s, qAnd_eq, qOr_eq, qNot_eq, qnotQ_s, eAnd_eq, eOr_eq, eNot_eq, notQ_s, eIf_eq, eChain_eq, andO_bb, andO_t, andO_f, orO_bb, orO_t, orO_f, qandO_bb, qandO_t, qandO_f, qorO_bb, qorO_t, qorO_f, ifO_s, ifO_t, ifO_f, chO_s, ite_int, ite_bl, ite_enc, dIsN_non, dNotN_non, isNon_non, isNon_int, isNon_l, isNon_p, gN_eq, gT_p, eComp_eq, eComp2_eq, stepC_eq, stQ_s, stR_t, stR_f, stR_b, stepM_eq', stMQ_s, stM_t, stM_f, turnF_eq, tnB_s, turnW_eq, tnQ_nx, tnQ_ct, tnQ_bk, tnQ_rt, xApp_eq, xExt_eq, appO_i, extO_l, eScr_eq, scrF_s, eLenScr_eq, scrLen_s, eIxScr_eq, iSq_eq, seqOf_l, seqOf_p, iR1_eq, iR2_eq, r1Of_i, r2Of_i, iEn_eq, enOf_l, eSl_eq, slOf_l, oNo_eq, oSo_eq, soQ_s, tup_ii, tup_ee, tup_ei, tup_ie, enc_int, enc_bool, dAt_p0, dAt_p1, dLen_l, dEq_int, dNe_int, dEq_bl, dNe_bl, dMul_l, dMul_r, dDiv_i, dMod_i, dSub_i, dAdd_i, dAddI_i, dNeg_i, dLt_i, dLe_i, dGt_i, dGe_i, dInt_i, dInt_b, dAbs_i, dMin_i, dMax_i, dGcd_i, fold_list, fold_listF, lst1, lst2, lst1i, lst2i, dSum_l, dAll_l, dAny_l, eLzip_eq, lzQ_l, eDcT_eq, stepD_eq, dEqX_int, dNeX_int, dEqX_bl, dNeX_bl, dEqX_str, dNeX_str, dSortP_l, dEqY_int, dNeY_int, dEqY_bl, dNeY_bl, dEqY_str, dNeY_str, env0_b2, t_len2, t_len3, Int.reduceEq, Int.reduceLT, Int.reduceLE, t_at0, t_at1, t_at2, s_len, xPut_eq, dTuple_l, eMinK_eq, c2], by omega⟩).1]
      simp [List.getElem?_cons_zero, List.getElem?_cons_succ, List.set_cons_zero, List.set_cons_succ, env0_0, env0_1, env0_2, env0_3, env0_4, List.replicate_succ, List.replicate_zero, Nat.reduceSub, wipeE, xSeq_eq, seqO_nx, seqO_rt, seqO_bk, seqO_ct, rngI_length, xNext_eq, xAsg_eq, asgQ_s, nxO_s, xAsgO_eq, asgOQ_s, xPar_eq, parQ_s, setQ_s, xAug_eq, xDrop_eq, dropQ_s, xRet_eq, retO_s, xRetN_eq, xBrk_eq, xCt_eq, xIf_eq, ifX_t, ifX_f, ifX_s, Bool.false_eq_true, if_false, if_true, eq_self, Bool.false_or, Bool.or_false, Bool.true_or, Bool.or_true, Bool.true_and, Bool.and_true, Bool.false_and, Bool.and_false, Bool.not_true, Bool.not_false, decide_true, decide_false, xFrz_own, frzE_eq, frzQ_own, frzQ_sh, xFor_eq, forQ_s, xWhile_eq, eVar_eq, varQ_s, bVar_eq, lookQ_s, lookQ_o, lookQ_b, eC_eq, e1_eq, e1Q_s, e2_eq, e2Q_s, eCall_eq, callQ_s, aNil_eq, aCons_eq, consQ_s, eLst_eq, eTup_eq, lstQ0, lstQ1, lstQ2, lstQ3, lstQ4, lstQ8, tupQ2, tupQ3, qB_eq, boolQ_s, qAnd_eq, qOr_eq, qNot_eq, qnotQ_s, eAnd_eq, eOr_eq, eNot_eq, notQ_s, eIf_eq, eChain_eq, andO_bb, andO_t, andO_f, orO_bb, orO_t, orO_f, qandO_bb, qandO_t, qandO_f, qorO_bb, qorO_t, qorO_f, ifO_s, ifO_t, ifO_f, chO_s, ite_int, ite_bl, ite_enc, dIsN_non, dNotN_non, isNon_non, isNon_int, isNon_l, isNon_p, gN_eq, gT_p, eComp_eq, eComp2_eq, stepC_eq, stQ_s, stR_t, stR_f, stR_b, stepM_eq', stMQ_s, stM_t, stM_f, turnF_eq, tnB_s, turnW_eq, tnQ_nx, tnQ_ct, tnQ_bk, tnQ_rt, xApp_eq, xExt_eq, appO_i, extO_l, eScr_eq, scrF_s, eLenScr_eq, scrLen_s, eIxScr_eq, iSq_eq, seqOf_l, seqOf_p, iR1_eq, iR2_eq, r1Of_i, r2Of_i, iEn_eq, enOf_l, eSl_eq, slOf_l, oNo_eq, oSo_eq, soQ_s, tup_ii, tup_ee, tup_ei, tup_ie, enc_int, enc_bool, dAt_p0, dAt_p1, dLen_l, dEq_int, dNe_int, dEq_bl, dNe_bl, dMul_l, dMul_r, dDiv_i, dMod_i, dSub_i, dAdd_i, dAddI_i, dNeg_i, dLt_i, dLe_i, dGt_i, dGe_i, dInt_i, dInt_b, dAbs_i, dMin_i, dMax_i, dGcd_i, fold_list, fold_listF, lst1, lst2, lst1i, lst2i, dSum_l, dAll_l, dAny_l, eLzip_eq, lzQ_l, eDcT_eq, stepD_eq, dEqX_int, dNeX_int, dEqX_bl, dNeX_bl, dEqX_str, dNeX_str, dSortP_l, dEqY_int, dNeY_int, dEqY_bl, dNeY_bl, dEqY_str, dNeY_str, env0_b2, t_len2, t_len3, Int.reduceEq, Int.reduceLT, Int.reduceLE, t_at0, t_at1, t_at2, s_len, xPut_eq, dTuple_l, eMinK_eq]
    · rw [if_neg c]
      simp (disch := first | omega | (simp only [List.length_append, List.length_cons, List.length_nil, List.length_map, rngI_length]; omega)) [List.getElem?_cons_zero, List.getElem?_cons_succ, List.set_cons_zero, List.set_cons_succ, env0_0, env0_1, env0_2, env0_3, env0_4, List.replicate_succ, List.replicate_zero, Nat.reduceSub, wipeE, xSeq_eq, seqO_nx, seqO_rt, seqO_bk, seqO_ct, rngI_length, xNext_eq, xAsg_eq, asgQ_s, nxO_s, xAsgO_eq, asgOQ_s, xPar_eq, parQ_s, setQ_s, xAug_eq, xDrop_eq, dropQ_s, xRet_eq, retO_s, xRetN_eq, xBrk_eq, xCt_eq, xIf_eq, ifX_t, ifX_f, ifX_s, Bool.false_eq_true, if_false, if_true, eq_self, Bool.false_or, Bool.or_false, Bool.true_or, Bool.or_true, Bool.true_and, Bool.and_true, Bool.false_and, Bool.and_false, Bool.not_true, Bool.not_false, decide_true, decide_false, xFrz_own, frzE_eq, frzQ_own, frzQ_sh, xFor_eq, forQ_s, xWhile_eq, eVar_eq, varQ_s, bVar_eq, lookQ_s, lookQ_o, lookQ_b, eC_eq, e1_eq, e1Q_s, e2_eq, e2Q_s, eCall_eq, callQ_s, aNil_eq, aCons_eq, consQ_s, eLst_eq, eTup_eq, lstQ0, lstQ1, lstQ2, lstQ3, lstQ4, lstQ8, tupQ2, tupQ3, qB_eq, boolQ_s, qAnd_eq, qOr_eq, qNot_eq, qnotQ_s, eAnd_eq, eOr_eq, eNot_eq, notQ_s, eIf_eq, eChain_eq, andO_bb, andO_t, andO_f, orO_bb, orO_t, orO_f, qandO_bb, qandO_t, qandO_f, qorO_bb, qorO_t, qorO_f, ifO_s, ifO_t, ifO_f, chO_s, ite_int, ite_bl, ite_enc, dIsN_non, dNotN_non, isNon_non, isNon_int, isNon_l, isNon_p, gN_eq, gT_p, eComp_eq, eComp2_eq, stepC_eq, stQ_s, stR_t, stR_f, stR_b, stepM_eq', stMQ_s, stM_t, stM_f, turnF_eq, tnB_s, turnW_eq, tnQ_nx, tnQ_ct, tnQ_bk, tnQ_rt, xApp_eq, xExt_eq, appO_i, extO_l, eScr_eq, scrF_s, eLenScr_eq, scrLen_s, eIxScr_eq, iSq_eq, seqOf_l, seqOf_p, iR1_eq, iR2_eq, r1Of_i, r2Of_i, iEn_eq, enOf_l, eSl_eq, slOf_l, oNo_eq, oSo_eq, soQ_s, tup_ii, tup_ee, tup_ei, tup_ie, enc_int, enc_bool, dAt_p0, dAt_p1, dLen_l, dEq_int, dNe_int, dEq_bl, dNe_bl, dMul_l, dMul_r, dDiv_i, dMod_i, dSub_i, dAdd_i, dAddI_i, dNeg_i, dLt_i, dLe_i, dGt_i, dGe_i, dInt_i, dInt_b, dAbs_i, dMin_i, dMax_i, dGcd_i, fold_list, fold_listF, lst1, lst2, lst1i, lst2i, dSum_l, dAll_l, dAny_l, eLzip_eq, lzQ_l, eDcT_eq, stepD_eq, dEqX_int, dNeX_int, dEqX_bl, dNeX_bl, dEqX_str, dNeX_str, dSortP_l, dEqY_int, dNeY_int, dEqY_bl, dNeY_bl, dEqY_str, dNeY_str, env0_b2, t_len2, t_len3, Int.reduceEq, Int.reduceLT, Int.reduceLE, t_at0, t_at1, t_at2, s_len, xPut_eq, dTuple_l, eMinK_eq, scrIx_s ns k x e1, absI_eq, dPow_18, c]
theorem ev__law_mix {ds : List Int} {k m : Int} (h : isDraws ds) (h2 : 0 ≤ k ∧ k ≤ 100000 ∧ 0 < m ∧ m ≤ 100000) : F__law_mix [enc ds, .int k, .int m] = some (.int (mixM ds k m)) := fn3_ev (a := ds) (b := k) (c := m) ⟨h, h2⟩
theorem h__law_mix : ∀ ds r, F__law_mix ds = some r → Ret (x__law_mix (env0 [false, false, false] ds 4)) r := fun ds r e => by
  obtain ⟨ds, k, m, rfl, ⟨hd, h⟩, rfl⟩ := fn3_el e
  left
  by_cases c : 0 < ds.length
  · have hm : 0 ≤ k % (ds.length : Int) ∧ k % (ds.length : Int) < ds.length := ⟨Int.emod_nonneg _ (by omega), Int.emod_lt_of_pos _ (by omega)⟩
    by_cases c2 : k < ds.length
    · simp (disch := omega) [List.getElem?_cons_zero, List.getElem?_cons_succ, List.set_cons_zero, List.set_cons_succ, env0_0, env0_1, env0_2, env0_3, env0_4, List.replicate_succ, List.replicate_zero, Nat.reduceSub, wipeE, xSeq_eq, seqO_nx, seqO_rt, seqO_bk, seqO_ct, rngI_length, xNext_eq, xAsg_eq, asgQ_s, nxO_s, xAsgO_eq, asgOQ_s, xPar_eq, parQ_s, setQ_s, xAug_eq, xDrop_eq, dropQ_s, xRet_eq, retO_s, xRetN_eq, xBrk_eq, xCt_eq, xIf_eq, ifX_t, ifX_f, ifX_s, Bool.false_eq_true, if_false, if_true, eq_self, Bool.false_or, Bool.or_false, Bool.true_or, Bool.or_true, Bool.true_and, Bool.and_true, Bool.false_and, Bool.and_false, Bool.not_true, Bool.not_false, decide_true, decide_false, xFrz_own, frzE_eq, frzQ_own, frzQ_sh, xFor_eq, forQ_s, xWhile_eq, eVar_eq, varQ_s, bVar_eq, lookQ_s, lookQ_o, lookQ_b, eC_eq, e1_eq, e1Q_s, e2_eq, e2Q_s, eCall_eq, callQ_s, aNil_eq, aCons_eq, consQ_s, eLst_eq, eTup_eq, lstQ0, lstQ1, lstQ2, lstQ3, lstQ4, lstQ8, tupQ2, tupQ3, qB_eq, boolQ_s, qAnd_eq, qOr_eq, qNot_eq, qnotQ_s, eAnd_eq, eOr_eq, eNot_eq, notQ_s, eIf_eq, eChain_eq, andO_bb, andO_t, andO_f, orO_bb, orO_t, orO_f, qandO_bb, qandO_t, qandO_f, qorO_bb, qorO_t, qorO_f, ifO_s, ifO_t, ifO_f, chO_s, ite_int, ite_bl, ite_enc, dIsN_non, dNotN_non, isNon_non, isNon_int, isNon_l, isNon_p, gN_eq, gT_p, eComp_eq, eComp2_eq, stepC_eq, stQ_s, stR_t, stR_f, stR_b, stepM_eq', stMQ_s, stM_t, stM_f, turnF_eq, tnB_s, turnW_eq, tnQ_nx, tnQ_ct, tnQ_bk, tnQ_rt, xApp_eq, xExt_eq, appO_i, extO_l, eScr_eq, scrF_s, eLenScr_eq, scrLen_s, eIxScr_eq, iSq_eq, seqOf_l, seqOf_p, iR1_eq, iR2_eq, r1Of_i, r2Of_i, iEn_eq, enOf_l, eSl_eq, slOf_l, oNo_eq, oSo_eq, soQ_s, tup_ii, tup_ee, tup_ei, tup_ie, enc_int, enc_bool, dAt_p0, dAt_p1, dLen_l, dEq_int, dNe_int, dEq_bl, dNe_bl, dMul_l, dMul_r, dDiv_i, dMod_i, dSub_i, dAdd_i, dAddI_i, dNeg_i, dLt_i, dLe_i, dGt_i, dGe_i, dInt_i, dInt_b, dAbs_i, dMin_i, dMax_i, dGcd_i, fold_list, fold_listF, lst1, lst2, lst1i, lst2i, dSum_l, dAll_l, dAny_l, eLzip_eq, lzQ_l, eDcT_eq, stepD_eq, dEqX_int, dNeX_int, dEqX_bl, dNeX_bl, dEqX_str, dNeX_str, dSortP_l, dEqY_int, dNeY_int, dEqY_bl, dNeY_bl, dEqY_str, dNeY_str, env0_b2, t_len2, t_len3, Int.reduceEq, Int.reduceLT, Int.reduceLE, t_at0, t_at1, t_at2, s_len, xPut_eq, dTuple_l, eMinK_eq, x__law_mix, mixM, c, c2, dAt_l]
    · simp (disch := omega) [List.getElem?_cons_zero, List.getElem?_cons_succ, List.set_cons_zero, List.set_cons_succ, env0_0, env0_1, env0_2, env0_3, env0_4, List.replicate_succ, List.replicate_zero, Nat.reduceSub, wipeE, xSeq_eq, seqO_nx, seqO_rt, seqO_bk, seqO_ct, rngI_length, xNext_eq, xAsg_eq, asgQ_s, nxO_s, xAsgO_eq, asgOQ_s, xPar_eq, parQ_s, setQ_s, xAug_eq, xDrop_eq, dropQ_s, xRet_eq, retO_s, xRetN_eq, xBrk_eq, xCt_eq, xIf_eq, ifX_t, ifX_f, ifX_s, Bool.false_eq_true, if_false, if_true, eq_self, Bool.false_or, Bool.or_false, Bool.true_or, Bool.or_true, Bool.true_and, Bool.and_true, Bool.false_and, Bool.and_false, Bool.not_true, Bool.not_false, decide_true, decide_false, xFrz_own, frzE_eq, frzQ_own, frzQ_sh, xFor_eq, forQ_s, xWhile_eq, eVar_eq, varQ_s, bVar_eq, lookQ_s, lookQ_o, lookQ_b, eC_eq, e1_eq, e1Q_s, e2_eq, e2Q_s, eCall_eq, callQ_s, aNil_eq, aCons_eq, consQ_s, eLst_eq, eTup_eq, lstQ0, lstQ1, lstQ2, lstQ3, lstQ4, lstQ8, tupQ2, tupQ3, qB_eq, boolQ_s, qAnd_eq, qOr_eq, qNot_eq, qnotQ_s, eAnd_eq, eOr_eq, eNot_eq, notQ_s, eIf_eq, eChain_eq, andO_bb, andO_t, andO_f, orO_bb, orO_t, orO_f, qandO_bb, qandO_t, qandO_f, qorO_bb, qorO_t, qorO_f, ifO_s, ifO_t, ifO_f, chO_s, ite_int, ite_bl, ite_enc, dIsN_non, dNotN_non, isNon_non, isNon_int, isNon_l, isNon_p, gN_eq, gT_p, eComp_eq, eComp2_eq, stepC_eq, stQ_s, stR_t, stR_f, stR_b, stepM_eq', stMQ_s, stM_t, stM_f, turnF_eq, tnB_s, turnW_eq, tnQ_nx, tnQ_ct, tnQ_bk, tnQ_rt, xApp_eq, xExt_eq, appO_i, extO_l, eScr_eq, scrF_s, eLenScr_eq, scrLen_s, eIxScr_eq, iSq_eq, seqOf_l, seqOf_p, iR1_eq, iR2_eq, r1Of_i, r2Of_i, iEn_eq, enOf_l, eSl_eq, slOf_l, oNo_eq, oSo_eq, soQ_s, tup_ii, tup_ee, tup_ei, tup_ie, enc_int, enc_bool, dAt_p0, dAt_p1, dLen_l, dEq_int, dNe_int, dEq_bl, dNe_bl, dMul_l, dMul_r, dDiv_i, dMod_i, dSub_i, dAdd_i, dAddI_i, dNeg_i, dLt_i, dLe_i, dGt_i, dGe_i, dInt_i, dInt_b, dAbs_i, dMin_i, dMax_i, dGcd_i, fold_list, fold_listF, lst1, lst2, lst1i, lst2i, dSum_l, dAll_l, dAny_l, eLzip_eq, lzQ_l, eDcT_eq, stepD_eq, dEqX_int, dNeX_int, dEqX_bl, dNeX_bl, dEqX_str, dNeX_str, dSortP_l, dEqY_int, dNeY_int, dEqY_bl, dNeY_bl, dEqY_str, dNeY_str, env0_b2, t_len2, t_len3, Int.reduceEq, Int.reduceLT, Int.reduceLE, t_at0, t_at1, t_at2, s_len, xPut_eq, dTuple_l, eMinK_eq, x__law_mix, mixM, c, c2, dAt_l]
  · have c2 : ¬ k < ds.length := by omega
    simp (disch := omega) [List.getElem?_cons_zero, List.getElem?_cons_succ, List.set_cons_zero, List.set_cons_succ, env0_0, env0_1, env0_2, env0_3, env0_4, List.replicate_succ, List.replicate_zero, Nat.reduceSub, wipeE, xSeq_eq, seqO_nx, seqO_rt, seqO_bk, seqO_ct, rngI_length, xNext_eq, xAsg_eq, asgQ_s, nxO_s, xAsgO_eq, asgOQ_s, xPar_eq, parQ_s, setQ_s, xAug_eq, xDrop_eq, dropQ_s, xRet_eq, retO_s, xRetN_eq, xBrk_eq, xCt_eq, xIf_eq, ifX_t, ifX_f, ifX_s, Bool.false_eq_true, if_false, if_true, eq_self, Bool.false_or, Bool.or_false, Bool.true_or, Bool.or_true, Bool.true_and, Bool.and_true, Bool.false_and, Bool.and_false, Bool.not_true, Bool.not_false, decide_true, decide_false, xFrz_own, frzE_eq, frzQ_own, frzQ_sh, xFor_eq, forQ_s, xWhile_eq, eVar_eq, varQ_s, bVar_eq, lookQ_s, lookQ_o, lookQ_b, eC_eq, e1_eq, e1Q_s, e2_eq, e2Q_s, eCall_eq, callQ_s, aNil_eq, aCons_eq, consQ_s, eLst_eq, eTup_eq, lstQ0, lstQ1, lstQ2, lstQ3, lstQ4, lstQ8, tupQ2, tupQ3, qB_eq, boolQ_s, qAnd_eq, qOr_eq, qNot_eq, qnotQ_s, eAnd_eq, eOr_eq, eNot_eq, notQ_s, eIf_eq, eChain_eq, andO_bb, andO_t, andO_f, orO_bb, orO_t, orO_f, qandO_bb, qandO_t, qandO_f, qorO_bb, qorO_t, qorO_f, ifO_s, ifO_t, ifO_f, chO_s, ite_int, ite_bl, ite_enc, dIsN_non, dNotN_non, isNon_non, isNon_int, isNon_l, isNon_p, gN_eq, gT_p, eComp_eq, eComp2_eq, stepC_eq, stQ_s, stR_t, stR_f, stR_b, stepM_eq', stMQ_s, stM_t, stM_f, turnF_eq, tnB_s, turnW_eq, tnQ_nx, tnQ_ct, tnQ_bk, tnQ_rt, xApp_eq, xExt_eq, appO_i, extO_l, eScr_eq, scrF_s, eLenScr_eq, scrLen_s, eIxScr_eq, iSq_eq, seqOf_l, seqOf_p, iR1_eq, iR2_eq, r1Of_i, r2Of_i, iEn_eq, enOf_l, eSl_eq, slOf_l, oNo_eq, oSo_eq, soQ_s, tup_ii, tup_ee, tup_ei, tup_ie, enc_int, enc_bool, dAt_p0, dAt_p1, dLen_l, dEq_int, dNe_int, dEq_bl, dNe_bl, dMul_l, dMul_r, dDiv_i, dMod_i, dSub_i, dAdd_i, dAddI_i, dNeg_i, dLt_i, dLe_i, dGt_i, dGe_i, dInt_i, dInt_b, dAbs_i, dMin_i, dMax_i, dGcd_i, fold_list, fold_listF, lst1, lst2, lst1i, lst2i, dSum_l, dAll_l, dAny_l, eLzip_eq, lzQ_l, eDcT_eq, stepD_eq, dEqX_int, dNeX_int, dEqX_bl, dNeX_bl, dEqX_str, dNeX_str, dSortP_l, dEqY_int, dNeY_int, dEqY_bl, dNeY_bl, dEqY_str, dNeY_str, env0_b2, t_len2, t_len3, Int.reduceEq, Int.reduceLT, Int.reduceLE, t_at0, t_at1, t_at2, s_len, xPut_eq, dTuple_l, eMinK_eq, x__law_mix, mixM, c, c2, dAt_l]
theorem mix_lim (ds : List Int) (k m : Int) (h : 0 < m) : 0 ≤ mixM ds k m ∧ mixM ds k m < m := by
  unfold mixM
  simp only
  split <;> exact ⟨Int.emod_nonneg _ (by omega), Int.emod_lt_of_pos _ h⟩

theorem base_mem (k : Nat) : base.getD k default ∈ base := by
  by_cases h : k < base.length
  · exact getD_mem _ _ _ h
  · rw [List.getD_eq_getElem?_getD, List.getElem?_eq_none (by omega)]
    exact List.mem_cons_self ..
structure RowsOk (n : Nat) (f : Rows) : Prop where
  pos : 1 ≤ f.length
  few : f.length ≤ n
  mem : ∀ r ∈ f, r ∈ base
theorem lrowSt_ok {ds : List Int} {k : Int} {f : Rows} {n : Nat} {t : Int} (h : RowsOk n f) (hn : 1 ≤ n) : RowsOk (n + n) (lrowSt ds k f t) := by
  unfold lrowSt
  have a1 : RowsOk (n + n) (f ++ f) := ⟨by rw [List.length_append]; have := h.pos; omega, by rw [List.length_append]; have := h.few; omega, fun r hr => (List.mem_append.mp hr).elim (h.mem r) (h.mem r)⟩
  have a2 : RowsOk (n + n) (f ++ f.take 1) := ⟨by rw [List.length_append]; have := h.pos; omega, by rw [List.length_append, List.length_take]; have := h.few; omega, fun r hr => (List.mem_append.mp hr).elim (h.mem r) fun q => h.mem r (List.mem_of_mem_take q)⟩
  have a3 : RowsOk (n + n) (f ++ [base.getD (mixM ds (k + 9 + t) 4).toNat default]) := ⟨by rw [List.length_append]; have := h.pos; omega, by rw [List.length_append, List.length_singleton]; have := h.few; omega, fun r hr => (List.mem_append.mp hr).elim (h.mem r) fun q => by rw [List.mem_singleton.mp q]; exact base_mem _⟩
  have m := mix_lim ds (k + 6 + t) 3 (by omega)
  have hj : (mixM ds (k + 6 + t) 3).toNat < 3 := by omega
  generalize (mixM ds (k + 6 + t) 3).toNat = j at hj
  rcases (show j = 0 ∨ j = 1 ∨ j = 2 by omega) with rfl | rfl | rfl
  · exact a1
  · exact a2
  · exact a3
theorem ev__law_mix' {ds : List Int} {k m : Int} (hd : isDraws ds) (h : 0 ≤ k ∧ k ≤ 100000 ∧ 0 < m ∧ m ≤ 100000) : F__law_mix [enc ds, .int k, .int m] = some (.int (mixM ds k m)) := ev__law_mix hd h
theorem lrows_start (ds : List Int) (k : Int) : RowsOk 3 ((rngI 0 (1 + mixM ds k 3).toNat).map fun t => base.getD (mixM ds (k + 2 + t) 3).toNat default) := by
  have m := mix_lim ds k 3 (by omega)
  refine ⟨by rw [List.length_map, rngI_length]; omega, by rw [List.length_map, rngI_length]; omega, fun r hr => ?_⟩
  obtain ⟨t, _, rfl⟩ := List.mem_map.mp hr
  exact base_mem _
theorem base_at {n : Int} (h : 0 ≤ n ∧ n < 4) : dAt (enc base) (.int n) = some (enc (base.getD n.toNat default)) := dAt_l base n (by simp [base]; omega)
theorem lst3e {α : Type} [Enc α] (a b c : α) : D.lst [enc a, enc b, enc c] = enc [a, b, c] := nr rfl
theorem ev__law_rows {ds : List Int} {k : Int} (h : isDraws ds ∧ 0 ≤ k ∧ k ≤ 1000) : F__law_rows [enc ds, .int k] = some (enc (lrowsM ds k)) := fn2_ev (a := ds) (b := k) h
theorem lrows_ok (ds : List Int) (k : Int) : RowsOk 8 (lrowsM ds k) := by
  have st := lrows_start ds k
  have m := mix_lim ds (k + 1) 3 (by omega)
  have all : ∀ (ts : List Int) (f : Rows) (n : Nat), 1 ≤ n → RowsOk n f → ∃ n', RowsOk n' (ts.foldl (lrowSt ds k) f) := fun ts => by
    induction ts with
    | nil => exact fun f n _ h => ⟨n, h⟩
    | cons t ts ih => exact fun f n hn h => ih _ (n + n) (by omega) (lrowSt_ok h hn)
  obtain ⟨n', h⟩ := all (rngI 0 (mixM ds (k + 1) 3).toNat) _ 3 (by omega) st
  unfold lrowsM
  exact ⟨by rw [List.length_take]; have := h.pos; omega, by rw [List.length_take]; omega, fun r hr => h.mem r (List.mem_of_mem_take hr)⟩
theorem h__law_rows : ∀ ds r, F__law_rows ds = some r → Ret (x__law_rows (env0 [false, false] ds 6)) r := fun ds r e => by
  obtain ⟨ds, k, rfl, ⟨hd, hk0, hk1⟩, rfl⟩ := fn2_el e
  left
  have m0 := mix_lim ds k 3 (by omega)
  have m1 := mix_lim ds (k + 1) 3 (by omega)
  have eb : D.lst [D.str "0110", D.str "1", D.str "01", D.str "0"] = enc base := rfl
  simp (disch := omega) only [List.getElem?_cons_zero, List.getElem?_cons_succ, List.set_cons_zero, List.set_cons_succ, env0_0, env0_1, env0_2, env0_3, env0_4, List.replicate_succ, List.replicate_zero, Nat.reduceSub, wipeE, xSeq_eq, seqO_nx, seqO_rt, seqO_bk, seqO_ct, rngI_length, xNext_eq, xAsg_eq, asgQ_s, nxO_s, xAsgO_eq, asgOQ_s, xPar_eq, parQ_s, setQ_s, xAug_eq, xDrop_eq, dropQ_s, xRet_eq, retO_s, xRetN_eq, xBrk_eq, xCt_eq, xIf_eq, ifX_t, ifX_f, ifX_s, Bool.false_eq_true, if_false, if_true, eq_self, Bool.false_or, Bool.or_false, Bool.true_or, Bool.or_true, Bool.true_and, Bool.and_true, Bool.false_and, Bool.and_false, Bool.not_true, Bool.not_false, decide_true, decide_false, xFrz_own, frzE_eq, frzQ_own, frzQ_sh, xFor_eq, forQ_s, xWhile_eq, eVar_eq, varQ_s, bVar_eq, lookQ_s, lookQ_o, lookQ_b, eC_eq, e1_eq, e1Q_s, e2_eq, e2Q_s, eCall_eq, callQ_s, aNil_eq, aCons_eq, consQ_s, eLst_eq, eTup_eq, lstQ0, lstQ1, lstQ2, lstQ3, lstQ4, lstQ8, tupQ2, tupQ3, qB_eq, boolQ_s, qAnd_eq, qOr_eq, qNot_eq, qnotQ_s, eAnd_eq, eOr_eq, eNot_eq, notQ_s, eIf_eq, eChain_eq, andO_bb, andO_t, andO_f, orO_bb, orO_t, orO_f, qandO_bb, qandO_t, qandO_f, qorO_bb, qorO_t, qorO_f, ifO_s, ifO_t, ifO_f, chO_s, ite_int, ite_bl, ite_enc, dIsN_non, dNotN_non, isNon_non, isNon_int, isNon_l, isNon_p, gN_eq, gT_p, eComp_eq, eComp2_eq, stepC_eq, stQ_s, stR_t, stR_f, stR_b, stepM_eq', stMQ_s, stM_t, stM_f, turnF_eq, tnB_s, turnW_eq, tnQ_nx, tnQ_ct, tnQ_bk, tnQ_rt, xApp_eq, xExt_eq, appO_i, extO_l, eScr_eq, scrF_s, eLenScr_eq, scrLen_s, eIxScr_eq, iSq_eq, seqOf_l, seqOf_p, iR1_eq, iR2_eq, r1Of_i, r2Of_i, iEn_eq, enOf_l, eSl_eq, slOf_l, oNo_eq, oSo_eq, soQ_s, tup_ii, tup_ee, tup_ei, tup_ie, enc_int, enc_bool, dAt_p0, dAt_p1, dLen_l, dEq_int, dNe_int, dEq_bl, dNe_bl, dMul_l, dMul_r, dDiv_i, dMod_i, dSub_i, dAdd_i, dAddI_i, dNeg_i, dLt_i, dLe_i, dGt_i, dGe_i, dInt_i, dInt_b, dAbs_i, dMin_i, dMax_i, dGcd_i, fold_list, fold_listF, lst1, lst2, lst1i, lst2i, dSum_l, dAll_l, dAny_l, eLzip_eq, lzQ_l, eDcT_eq, stepD_eq, dEqX_int, dNeX_int, dEqX_bl, dNeX_bl, dEqX_str, dNeX_str, dSortP_l, dEqY_int, dNeY_int, dEqY_bl, dNeY_bl, dEqY_str, dNeY_str, env0_b2, t_len2, t_len3, Int.reduceEq, Int.reduceLT, Int.reduceLE, t_at0, t_at1, t_at2, s_len, xPut_eq, dTuple_l, eMinK_eq, x__law_rows, ev__law_mix' hd, eb]
  rw [compO_map (f := fun t : Int => base.getD (mixM ds (k + 2 + t) 3).toNat default) (by rw [rngI_length]; omega) fun t ht => by
    have := mem_rngI.mp ht
    have m2 := mix_lim ds (k + 2 + t) 3 (by omega)
    simp (disch := omega) only [List.getElem?_cons_zero, List.getElem?_cons_succ, List.set_cons_zero, List.set_cons_succ, env0_0, env0_1, env0_2, env0_3, env0_4, List.replicate_succ, List.replicate_zero, Nat.reduceSub, wipeE, xSeq_eq, seqO_nx, seqO_rt, seqO_bk, seqO_ct, rngI_length, xNext_eq, xAsg_eq, asgQ_s, nxO_s, xAsgO_eq, asgOQ_s, xPar_eq, parQ_s, setQ_s, xAug_eq, xDrop_eq, dropQ_s, xRet_eq, retO_s, xRetN_eq, xBrk_eq, xCt_eq, xIf_eq, ifX_t, ifX_f, ifX_s, Bool.false_eq_true, if_false, if_true, eq_self, Bool.false_or, Bool.or_false, Bool.true_or, Bool.or_true, Bool.true_and, Bool.and_true, Bool.false_and, Bool.and_false, Bool.not_true, Bool.not_false, decide_true, decide_false, xFrz_own, frzE_eq, frzQ_own, frzQ_sh, xFor_eq, forQ_s, xWhile_eq, eVar_eq, varQ_s, bVar_eq, lookQ_s, lookQ_o, lookQ_b, eC_eq, e1_eq, e1Q_s, e2_eq, e2Q_s, eCall_eq, callQ_s, aNil_eq, aCons_eq, consQ_s, eLst_eq, eTup_eq, lstQ0, lstQ1, lstQ2, lstQ3, lstQ4, lstQ8, tupQ2, tupQ3, qB_eq, boolQ_s, qAnd_eq, qOr_eq, qNot_eq, qnotQ_s, eAnd_eq, eOr_eq, eNot_eq, notQ_s, eIf_eq, eChain_eq, andO_bb, andO_t, andO_f, orO_bb, orO_t, orO_f, qandO_bb, qandO_t, qandO_f, qorO_bb, qorO_t, qorO_f, ifO_s, ifO_t, ifO_f, chO_s, ite_int, ite_bl, ite_enc, dIsN_non, dNotN_non, isNon_non, isNon_int, isNon_l, isNon_p, gN_eq, gT_p, eComp_eq, eComp2_eq, stepC_eq, stQ_s, stR_t, stR_f, stR_b, stepM_eq', stMQ_s, stM_t, stM_f, turnF_eq, tnB_s, turnW_eq, tnQ_nx, tnQ_ct, tnQ_bk, tnQ_rt, xApp_eq, xExt_eq, appO_i, extO_l, eScr_eq, scrF_s, eLenScr_eq, scrLen_s, eIxScr_eq, iSq_eq, seqOf_l, seqOf_p, iR1_eq, iR2_eq, r1Of_i, r2Of_i, iEn_eq, enOf_l, eSl_eq, slOf_l, oNo_eq, oSo_eq, soQ_s, tup_ii, tup_ee, tup_ei, tup_ie, enc_int, enc_bool, dAt_p0, dAt_p1, dLen_l, dEq_int, dNe_int, dEq_bl, dNe_bl, dMul_l, dMul_r, dDiv_i, dMod_i, dSub_i, dAdd_i, dAddI_i, dNeg_i, dLt_i, dLe_i, dGt_i, dGe_i, dInt_i, dInt_b, dAbs_i, dMin_i, dMax_i, dGcd_i, fold_list, fold_listF, lst1, lst2, lst1i, lst2i, dSum_l, dAll_l, dAny_l, eLzip_eq, lzQ_l, eDcT_eq, stepD_eq, dEqX_int, dNeX_int, dEqX_bl, dNeX_bl, dEqX_str, dNeX_str, dSortP_l, dEqY_int, dNeY_int, dEqY_bl, dNeY_bl, dEqY_str, dNeY_str, env0_b2, t_len2, t_len3, Int.reduceEq, Int.reduceLT, Int.reduceLE, t_at0, t_at1, t_at2, s_len, xPut_eq, dTuple_l, eMinK_eq, ev__law_mix' hd, base_at]]
  simp (disch := omega) only [List.getElem?_cons_zero, List.getElem?_cons_succ, List.set_cons_zero, List.set_cons_succ, env0_0, env0_1, env0_2, env0_3, env0_4, List.replicate_succ, List.replicate_zero, Nat.reduceSub, wipeE, xSeq_eq, seqO_nx, seqO_rt, seqO_bk, seqO_ct, rngI_length, xNext_eq, xAsg_eq, asgQ_s, nxO_s, xAsgO_eq, asgOQ_s, xPar_eq, parQ_s, setQ_s, xAug_eq, xDrop_eq, dropQ_s, xRet_eq, retO_s, xRetN_eq, xBrk_eq, xCt_eq, xIf_eq, ifX_t, ifX_f, ifX_s, Bool.false_eq_true, if_false, if_true, eq_self, Bool.false_or, Bool.or_false, Bool.true_or, Bool.or_true, Bool.true_and, Bool.and_true, Bool.false_and, Bool.and_false, Bool.not_true, Bool.not_false, decide_true, decide_false, xFrz_own, frzE_eq, frzQ_own, frzQ_sh, xFor_eq, forQ_s, xWhile_eq, eVar_eq, varQ_s, bVar_eq, lookQ_s, lookQ_o, lookQ_b, eC_eq, e1_eq, e1Q_s, e2_eq, e2Q_s, eCall_eq, callQ_s, aNil_eq, aCons_eq, consQ_s, eLst_eq, eTup_eq, lstQ0, lstQ1, lstQ2, lstQ3, lstQ4, lstQ8, tupQ2, tupQ3, qB_eq, boolQ_s, qAnd_eq, qOr_eq, qNot_eq, qnotQ_s, eAnd_eq, eOr_eq, eNot_eq, notQ_s, eIf_eq, eChain_eq, andO_bb, andO_t, andO_f, orO_bb, orO_t, orO_f, qandO_bb, qandO_t, qandO_f, qorO_bb, qorO_t, qorO_f, ifO_s, ifO_t, ifO_f, chO_s, ite_int, ite_bl, ite_enc, dIsN_non, dNotN_non, isNon_non, isNon_int, isNon_l, isNon_p, gN_eq, gT_p, eComp_eq, eComp2_eq, stepC_eq, stQ_s, stR_t, stR_f, stR_b, stepM_eq', stMQ_s, stM_t, stM_f, turnF_eq, tnB_s, turnW_eq, tnQ_nx, tnQ_ct, tnQ_bk, tnQ_rt, xApp_eq, xExt_eq, appO_i, extO_l, eScr_eq, scrF_s, eLenScr_eq, scrLen_s, eIxScr_eq, iSq_eq, seqOf_l, seqOf_p, iR1_eq, iR2_eq, r1Of_i, r2Of_i, iEn_eq, enOf_l, eSl_eq, slOf_l, oNo_eq, oSo_eq, soQ_s, tup_ii, tup_ee, tup_ei, tup_ie, enc_int, enc_bool, dAt_p0, dAt_p1, dLen_l, dEq_int, dNe_int, dEq_bl, dNe_bl, dMul_l, dMul_r, dDiv_i, dMod_i, dSub_i, dAdd_i, dAddI_i, dNeg_i, dLt_i, dLe_i, dGt_i, dGe_i, dInt_i, dInt_b, dAbs_i, dMin_i, dMax_i, dGcd_i, fold_list, fold_listF, lst1, lst2, lst1i, lst2i, dSum_l, dAll_l, dAny_l, eLzip_eq, lzQ_l, eDcT_eq, stepD_eq, dEqX_int, dNeX_int, dEqX_bl, dNeX_bl, dEqX_str, dNeX_str, dSortP_l, dEqY_int, dNeY_int, dEqY_bl, dNeY_bl, dEqY_str, dNeY_str, env0_b2, t_len2, t_len3, Int.reduceEq, Int.reduceLT, Int.reduceLE, t_at0, t_at1, t_at2, s_len, xPut_eq, dTuple_l, eMinK_eq, ev__law_mix' hd]
  have st := lrows_start ds k
  rw [(iterF_steps (α := Int) (S := Rows) (R := fun f => [.sh (enc ds), .sh (.int k), .sh (enc base), .sh (enc f), .un, .un]) (st := lrowSt ds k) (P := fun n f => (n = 0 → RowsOk 3 f) ∧ (n = 1 → RowsOk 6 f)) (n := 0) (s := (rngI 0 (1 + mixM ds k 3).toNat).map fun t => base.getD (mixM ds (k + 2 + t) 3).toNat default) ⟨fun _ => st, fun z => absurd z (by omega)⟩ fun i t ht f hP => by
    have mt := mem_rngI.mp (List.mem_of_getElem? ht)
    have hi : i < 2 := by
      have := (List.getElem?_eq_some_iff.mp ht).1
      rw [rngI_length] at this
      omega
    rw [Nat.zero_add] at hP
    have ok : RowsOk 6 f := by
      rcases (show i = 0 ∨ i = 1 by omega) with rfl | rfl
      · have := hP.1 rfl
        exact ⟨this.pos, by have := this.few; omega, this.mem⟩
      · exact hP.2 rfl
    refine ⟨?_, fun z => absurd z (by omega), fun z => by
      have : i = 0 := by omega
      subst this
      exact lrowSt_ok (hP.1 rfl) (by omega)⟩
    have few := ok.few
    have m2 := mix_lim ds (k + 9 + t) 4 (by omega)
    have m3 := mix_lim ds (k + 6 + t) 3 (by omega)
    have mul := dMulL f 2 (by show _ ∧ _ ∧ f.length * 2 ≤ _; omega)
    have mul2 : (List.replicate (2 : Int).toNat f).flatten = f ++ f := by
      show (List.replicate 2 f).flatten = _
      simp [List.replicate]
    rw [mul2] at mul
    have tk := cut_to f 1 (by omega)
    have ad1 := dAdd_l f (f.take 1) (by rw [List.length_take]; omega)
    have ad2 := dAdd_l f [base.getD (mixM ds (k + 9 + t) 4).toNat default] (by rw [List.length_singleton]; omega)
    rw [show (1 : Int).toNat = 1 from rfl] at tk
    have at3 := dAt_l [f ++ f, f ++ f.take 1, f ++ [base.getD (mixM ds (k + 9 + t) 4).toNat default]] (mixM ds (k + 6 + t) 3) (by show _ ∧ _ < ((3 : Nat) : Int); omega)
    simp (disch := omega) only [List.getElem?_cons_zero, List.getElem?_cons_succ, List.set_cons_zero, List.set_cons_succ, env0_0, env0_1, env0_2, env0_3, env0_4, List.replicate_succ, List.replicate_zero, Nat.reduceSub, wipeE, xSeq_eq, seqO_nx, seqO_rt, seqO_bk, seqO_ct, rngI_length, xNext_eq, xAsg_eq, asgQ_s, nxO_s, xAsgO_eq, asgOQ_s, xPar_eq, parQ_s, setQ_s, xAug_eq, xDrop_eq, dropQ_s, xRet_eq, retO_s, xRetN_eq, xBrk_eq, xCt_eq, xIf_eq, ifX_t, ifX_f, ifX_s, Bool.false_eq_true, if_false, if_true, eq_self, Bool.false_or, Bool.or_false, Bool.true_or, Bool.or_true, Bool.true_and, Bool.and_true, Bool.false_and, Bool.and_false, Bool.not_true, Bool.not_false, decide_true, decide_false, xFrz_own, frzE_eq, frzQ_own, frzQ_sh, xFor_eq, forQ_s, xWhile_eq, eVar_eq, varQ_s, bVar_eq, lookQ_s, lookQ_o, lookQ_b, eC_eq, e1_eq, e1Q_s, e2_eq, e2Q_s, eCall_eq, callQ_s, aNil_eq, aCons_eq, consQ_s, eLst_eq, eTup_eq, lstQ0, lstQ1, lstQ2, lstQ3, lstQ4, lstQ8, tupQ2, tupQ3, qB_eq, boolQ_s, qAnd_eq, qOr_eq, qNot_eq, qnotQ_s, eAnd_eq, eOr_eq, eNot_eq, notQ_s, eIf_eq, eChain_eq, andO_bb, andO_t, andO_f, orO_bb, orO_t, orO_f, qandO_bb, qandO_t, qandO_f, qorO_bb, qorO_t, qorO_f, ifO_s, ifO_t, ifO_f, chO_s, ite_int, ite_bl, ite_enc, dIsN_non, dNotN_non, isNon_non, isNon_int, isNon_l, isNon_p, gN_eq, gT_p, eComp_eq, eComp2_eq, stepC_eq, stQ_s, stR_t, stR_f, stR_b, stepM_eq', stMQ_s, stM_t, stM_f, turnF_eq, tnB_s, turnW_eq, tnQ_nx, tnQ_ct, tnQ_bk, tnQ_rt, xApp_eq, xExt_eq, appO_i, extO_l, eScr_eq, scrF_s, eLenScr_eq, scrLen_s, eIxScr_eq, iSq_eq, seqOf_l, seqOf_p, iR1_eq, iR2_eq, r1Of_i, r2Of_i, iEn_eq, enOf_l, eSl_eq, slOf_l, oNo_eq, oSo_eq, soQ_s, tup_ii, tup_ee, tup_ei, tup_ie, enc_int, enc_bool, dAt_p0, dAt_p1, dLen_l, dEq_int, dNe_int, dEq_bl, dNe_bl, dMul_l, dMul_r, dDiv_i, dMod_i, dSub_i, dAdd_i, dAddI_i, dNeg_i, dLt_i, dLe_i, dGt_i, dGe_i, dInt_i, dInt_b, dAbs_i, dMin_i, dMax_i, dGcd_i, fold_list, fold_listF, lst1, lst2, lst1i, lst2i, dSum_l, dAll_l, dAny_l, eLzip_eq, lzQ_l, eDcT_eq, stepD_eq, dEqX_int, dNeX_int, dEqX_bl, dNeX_bl, dEqX_str, dNeX_str, dSortP_l, dEqY_int, dNeY_int, dEqY_bl, dNeY_bl, dEqY_str, dNeY_str, env0_b2, t_len2, t_len3, Int.reduceEq, Int.reduceLT, Int.reduceLE, t_at0, t_at1, t_at2, s_len, xPut_eq, dTuple_l, eMinK_eq, ev__law_mix' hd, base_at, mul, tk, ad1, lst1r, ad2, lst3e, at3]
    rfl).1]
  have c8 := cut_to ((rngI 0 (mixM ds (k + 1) 3).toNat).foldl (lrowSt ds k) ((rngI 0 (1 + mixM ds k 3).toNat).map fun t => base.getD (mixM ds (k + 2 + t) 3).toNat default)) 8 (by omega)
  simp (disch := omega) only [List.getElem?_cons_zero, List.getElem?_cons_succ, List.set_cons_zero, List.set_cons_succ, env0_0, env0_1, env0_2, env0_3, env0_4, List.replicate_succ, List.replicate_zero, Nat.reduceSub, wipeE, xSeq_eq, seqO_nx, seqO_rt, seqO_bk, seqO_ct, rngI_length, xNext_eq, xAsg_eq, asgQ_s, nxO_s, xAsgO_eq, asgOQ_s, xPar_eq, parQ_s, setQ_s, xAug_eq, xDrop_eq, dropQ_s, xRet_eq, retO_s, xRetN_eq, xBrk_eq, xCt_eq, xIf_eq, ifX_t, ifX_f, ifX_s, Bool.false_eq_true, if_false, if_true, eq_self, Bool.false_or, Bool.or_false, Bool.true_or, Bool.or_true, Bool.true_and, Bool.and_true, Bool.false_and, Bool.and_false, Bool.not_true, Bool.not_false, decide_true, decide_false, xFrz_own, frzE_eq, frzQ_own, frzQ_sh, xFor_eq, forQ_s, xWhile_eq, eVar_eq, varQ_s, bVar_eq, lookQ_s, lookQ_o, lookQ_b, eC_eq, e1_eq, e1Q_s, e2_eq, e2Q_s, eCall_eq, callQ_s, aNil_eq, aCons_eq, consQ_s, eLst_eq, eTup_eq, lstQ0, lstQ1, lstQ2, lstQ3, lstQ4, lstQ8, tupQ2, tupQ3, qB_eq, boolQ_s, qAnd_eq, qOr_eq, qNot_eq, qnotQ_s, eAnd_eq, eOr_eq, eNot_eq, notQ_s, eIf_eq, eChain_eq, andO_bb, andO_t, andO_f, orO_bb, orO_t, orO_f, qandO_bb, qandO_t, qandO_f, qorO_bb, qorO_t, qorO_f, ifO_s, ifO_t, ifO_f, chO_s, ite_int, ite_bl, ite_enc, dIsN_non, dNotN_non, isNon_non, isNon_int, isNon_l, isNon_p, gN_eq, gT_p, eComp_eq, eComp2_eq, stepC_eq, stQ_s, stR_t, stR_f, stR_b, stepM_eq', stMQ_s, stM_t, stM_f, turnF_eq, tnB_s, turnW_eq, tnQ_nx, tnQ_ct, tnQ_bk, tnQ_rt, xApp_eq, xExt_eq, appO_i, extO_l, eScr_eq, scrF_s, eLenScr_eq, scrLen_s, eIxScr_eq, iSq_eq, seqOf_l, seqOf_p, iR1_eq, iR2_eq, r1Of_i, r2Of_i, iEn_eq, enOf_l, eSl_eq, slOf_l, oNo_eq, oSo_eq, soQ_s, tup_ii, tup_ee, tup_ei, tup_ie, enc_int, enc_bool, dAt_p0, dAt_p1, dLen_l, dEq_int, dNe_int, dEq_bl, dNe_bl, dMul_l, dMul_r, dDiv_i, dMod_i, dSub_i, dAdd_i, dAddI_i, dNeg_i, dLt_i, dLe_i, dGt_i, dGe_i, dInt_i, dInt_b, dAbs_i, dMin_i, dMax_i, dGcd_i, fold_list, fold_listF, lst1, lst2, lst1i, lst2i, dSum_l, dAll_l, dAny_l, eLzip_eq, lzQ_l, eDcT_eq, stepD_eq, dEqX_int, dNeX_int, dEqX_bl, dNeX_bl, dEqX_str, dNeX_str, dSortP_l, dEqY_int, dNeY_int, dEqY_bl, dNeY_bl, dEqY_str, dNeY_str, env0_b2, t_len2, t_len3, Int.reduceEq, Int.reduceLT, Int.reduceLE, t_at0, t_at1, t_at2, s_len, xPut_eq, dTuple_l, eMinK_eq, c8]
  rfl
end P66

set_option maxHeartbeats 8000000
namespace P66
open PySem L2 DL
open DL.Enc (enc)
theorem draws_ok (ns : List Int) : isDraws (drawsM ns) := by
  have all : ∀ (ks : List Int) (ds : List Int) (n : Nat), (ds.length ≤ n ∧ ∀ d ∈ ds, 0 ≤ d ∧ d < 65536) → (ks.foldl (drawK ns) ds).length ≤ n + 60 * ks.length ∧ ∀ d ∈ ks.foldl (drawK ns) ds, 0 ≤ d ∧ d < 65536 := fun ks => by
    induction ks with
    | nil => intro ds n h; exact ⟨by simpa using h.1, h.2⟩
    | cons k ks ih =>
      intro ds n h
      have := ih (drawK ns ds k) (n + 60) (drawK_ok h)
      rw [List.foldl_cons, List.length_cons]
      exact ⟨by omega, this.2⟩
  have := all (rngI 0 (min 63 ns.length)) [] 0 ⟨Nat.zero_le _, fun d hd => by cases hd⟩
  rw [rngI_length] at this
  exact ⟨by unfold drawsM; omega, this.2⟩
/-! ### the law's pieces -/
def unx : Rw → Rw
  | .e => .a | .d => .b | .f => .c | .b => .d | r => r
theorem exch_back {r : Rw} (h : r ∈ base) : unx (exch r) = r := by
  cases r <;> first | rfl | exact absurd h (by decide +kernel)
def nam : Rw → Rw
  | .a => .g | .b => .h | .c => .f | .d => .b | r => r
def unn : Rw → Rw
  | .g => .a | .h => .b | .f => .c | .b => .d | r => r
theorem nam_back {r : Rw} (h : r ∈ base) : unn (nam r) = r := by
  cases r <;> first | rfl | exact absurd h (by decide +kernel)
def namesD : D := .dK [(.inr "0110", .str "00"), (.inr "1", .str "111"), (.inr "01", .str "10"), (.inr "0", .str "1")]
def dpQ : Option D → Option D
  | some (.lst ds) => match pairsK ds with
    | some kvs => some (.dK (mergeD [] kvs))
    | none => none
  | _ => none
theorem eDictP_eq (f : EvF) (ρ : DL.Env) : eDictP f ρ = dpQ (f ρ) := by
  unfold eDictP
  generalize f ρ = o
  rcases o with _ | x
  · rfl
  · cases x <;> rfl
theorem names_eq : dpQ (some (D.lst [D.tup [D.str "0110", D.str "00"], D.tup [D.str "1", D.str "111"], D.tup [D.str "01", D.str "10"], D.tup [D.str "0", D.str "1"]])) = some namesD := by kernel_rfl
theorem names_at {r : Rw} (h : r ∈ base) : dAt namesD (enc r) = some (enc (nam r)) := by
  cases r
  case a => kernel_rfl
  case b => kernel_rfl
  case c => kernel_rfl
  case d => kernel_rfl
  all_goals exact absurd h (by decide +kernel)
def lsQ : Option D → Option D
  | some (.lst ds) => match ksOf ds with
    | some ks => if ks.length ≤ 4000 then some (.int ((uniqK ks).length : Nat)) else none
    | none => none
  | _ => none
theorem eLenSet_eq (f : EvF) (ρ : DL.Env) : eLenSet f ρ = lsQ (f ρ) := by
  unfold eLenSet
  generalize f ρ = o
  rcases o with _ | x
  · rfl
  · cases x <;> rfl
theorem lsQ_r {A : Rows} (h : A.length ≤ 4000) : lsQ (some (enc A)) = some (.int ((uniqK (keyR A)).length : Nat)) := by
  show (match ksOf (A.map enc) with | some ks => if ks.length ≤ 4000 then some (D.int ((uniqK ks).length : Nat)) else none | none => none) = _
  rw [ksOf_rows]
  exact if_pos (by unfold keyR; rw [List.length_map]; exact h)
theorem uniq_nodup : ∀ (ks acc : List Key), (ks.foldl addK acc).length = acc.length + ks.length → ks.Nodup ∧ ∀ k ∈ ks, k ∉ acc
  | [], acc, _ => ⟨List.nodup_nil, fun k h => by cases h⟩
  | k :: ks, acc, h => by
    have le : ∀ (xs acc : List Key), (xs.foldl addK acc).length ≤ acc.length + xs.length := fun xs => by
      induction xs with
      | nil => exact fun acc => Nat.le_refl _
      | cons x xs ih =>
        intro acc
        rw [List.foldl_cons]
        have := ih (addK acc x)
        have h2 : (addK acc x).length ≤ acc.length + 1 := by
          unfold addK
          split
          · omega
          · rw [List.length_append]; exact Nat.le_refl _
        rw [List.length_cons]
        omega
    rw [List.foldl_cons, List.length_cons] at h
    have l1 := le ks (addK acc k)
    have nk : k ∉ acc := fun z => by
      have : addK acc k = acc := by unfold addK; rw [if_pos (memK_iff.mpr z)]
      rw [this] at l1 h
      omega
    have ea : addK acc k = acc ++ [k] := by
      unfold addK
      rw [if_neg fun z => nk (memK_iff.mp z)]
    have ih := uniq_nodup ks (addK acc k) (by rw [h, ea, List.length_append, List.length_singleton]; omega)
    rw [ea] at ih
    refine ⟨List.nodup_cons.mpr ⟨fun z => ih.2 k z (by simp), ih.1⟩, fun j hj => ?_⟩
    rcases List.mem_cons.mp hj with rfl | q
    · exact nk
    · exact fun z => ih.2 j q (List.mem_append_left _ z)
theorem keys_nodup {A : Rows} (h : (uniqK (keyR A)).length = A.length) : A.Nodup := by
  have := (uniq_nodup (keyR A) [] (by
    unfold uniqK at h
    rw [h]
    unfold keyR
    simp)).1
  unfold keyR at this
  rw [List.nodup_iff_pairwise_ne] at this ⊢
  rw [List.pairwise_map] at this
  exact this.imp fun h e => h (by rw [e])
/-- the rows that begin a run -/
def sing (A : Rows) (p : Int × Rw) : Bool := decide (p.1 = 0) || !decide (p.2 = A.getD (p.1 - 1).toNat default)
theorem sing_same {A : Rows} (h : ((enI A).filter (sing A)).length = 1) : ∀ i (hi : i < A.length), A[i] = A.getD 0 default := by
  have h0 : 0 < A.length := by
    cases A with
    | nil => simp [enI] at h
    | cons a r => simp
  have rest : ∀ i, 1 ≤ i → ∀ hi : i < A.length, sing A ((i : Int), A[i]) = false := fun i h1 hi => by
    cases q : sing A ((i : Int), A[i]) with
    | false => rfl
    | true =>
      have m0 : ((0 : Int), A[0]) ∈ (enI A).filter (sing A) := List.mem_filter.mpr ⟨by unfold enI; rw [List.mem_mapIdx]; exact ⟨0, h0, rfl⟩, by unfold sing; simp⟩
      have m1 : ((i : Int), A[i]) ∈ (enI A).filter (sing A) := List.mem_filter.mpr ⟨by unfold enI; rw [List.mem_mapIdx]; exact ⟨i, hi, rfl⟩, q⟩
      obtain ⟨x, hx⟩ := List.length_eq_one_iff.mp h
      rw [hx, List.mem_singleton] at m0 m1
      have := congrArg Prod.fst (m0.trans m1.symm)
      simp at this
      omega
  intro i
  induction i with
  | zero => intro hi; rw [List.getD_eq_getElem?_getD, List.getElem?_eq_getElem h0]; rfl
  | succ i ih =>
    intro hi
    have r := rest (i + 1) (by omega) hi
    unfold sing at r
    rw [Bool.or_eq_false_iff] at r
    have r2 : A[i + 1] = A.getD (((i + 1 : Nat) : Int) - 1).toNat default := by simpa using r.2
    rw [r2, show (((i + 1 : Nat) : Int) - 1).toNat = i by omega, List.getD_eq_getElem?_getD, List.getElem?_eq_getElem (by omega)]
    exact ih (by omega)
theorem last_ok {A : Rows} (h : 1 ≤ A.length) : ((decide ((uniqK (keyR A)).length = A.length) && !decide (L A = A.length)) || (decide (((enI A).filter (sing A)).length = 1) && decide (2 < L A))) = false := by
  have ne : A ≠ [] := List.length_pos_iff.mp (by omega)
  rw [Bool.or_eq_false_iff]
  constructor
  · by_cases q : (uniqK (keyR A)).length = A.length
    · rw [L_nodup ne (keys_nodup q)]; simp
    · rw [decide_eq_false q]; rfl
  · by_cases q : ((enI A).filter (sing A)).length = 1
    · have := L_same ne (a := A.getD 0 default) fun x hx => by
        obtain ⟨i, hi, rfl⟩ := List.getElem_of_mem hx
        exact sing_same q i hi
      rw [decide_eq_false (p := 2 < L A) (by omega), Bool.and_false]
    · rw [decide_eq_false q]; rfl
/-- the rows of all lines but one -/
def strikeF (rows : List Rows) (spot : Int) (acc : Rows) (k : Int) : Rows := if k = spot then acc else acc ++ rows.getD k.toNat default
theorem strike_fold {s : S} {spot : Nat} (h : spot < s.length) : (rngI 0 s.length).foldl (strikeF (s.map wrL) spot) [] = wrS (s.eraseIdx spot) := by
  have all : ∀ n, n ≤ s.length → (rngI 0 n).foldl (strikeF (s.map wrL) spot) [] = wrS (if spot < n then (s.take n).eraseIdx spot else s.take n) := fun n => by
    induction n with
    | zero => intro _; simp [rngI, wrS]
    | succ n ih =>
      intro hn
      have e : rngI 0 (n + 1) = rngI 0 n ++ [(n : Int)] := by
        unfold rngI
        rw [List.range_succ, List.map_append]
        simp
      rw [e, List.foldl_append, ih (by omega)]
      show strikeF _ _ _ _ = _
      unfold strikeF
      have gd : (s.map wrL).getD (n : Int).toNat default = wrL s[n] := by
        rw [Int.toNat_natCast, List.getD_eq_getElem?_getD, List.getElem?_map, List.getElem?_eq_getElem (by omega)]
        rfl
      have tk : s.take (n + 1) = s.take n ++ [s[n]] := by
        rw [List.take_add_one, List.getElem?_eq_getElem (by omega)]
        rfl
      have ll : (s.take n).length = n := by rw [List.length_take]; omega
      rw [gd, tk]
      by_cases q : n = spot
      · subst q
        rw [if_pos rfl, if_neg (by omega), if_pos (by omega), List.eraseIdx_append_of_length_le (by omega), ll, Nat.sub_self]
        simp
      · rw [if_neg (by omega)]
        by_cases z : spot < n
        · rw [if_pos z, if_pos (by omega), List.eraseIdx_append_of_lt_length (by omega), wrS_app, wr_one]
        · rw [if_neg z, if_neg (by omega), wrS_app, wr_one]
  have := all s.length (Nat.le_refl _)
  rw [if_pos h, List.take_length] at this
  exact this
theorem strike_sub (s : S) (k : Nat) : (wrS (s.eraseIdx k)).length ≤ (wrS s).length := by
  have sub : ∀ {a b : S}, a.Sublist b → (wrS a).length ≤ (wrS b).length := fun h => by
    induction h with
    | slnil => exact Nat.le_refl _
    | cons a _ ih => rw [wrS, List.length_append]; omega
    | cons_cons a _ ih => rw [wrS, wrS, List.length_append, List.length_append]; omega
  exact sub (List.eraseIdx_sublist _ _)
end P66

set_option maxHeartbeats 16000000
namespace P66
open PySem L2 DL
open DL.Enc (enc)
theorem dNeY_rw (a b : Rw) : dNeY (enc a) (enc b) = some (.bl (!decide (a = b))) := by
  have h := dNeY_str a.str b.str
  have e : decide (a.str = b.str) = decide (a = b) := by
    by_cases q : a = b
    · rw [q, decide_eq_true rfl, decide_eq_true rfl]
    · rw [decide_eq_false q, decide_eq_false fun z => q (Enc.inj a b (congrArg D.str z))]
  rw [e] at h
  exact h
theorem h_law : ∀ ns r, F_law ns = some r → Ret (x_law (envS ns 20)) r := fun ns r e => by
  cases e
  left
  have E : envS ns 20 = .scr ns :: List.replicate 19 .un := rfl
  rw [E]
  have hd := draws_ok ns
  have e0 : F__law_draws ns = some (enc (drawsM ns)) := rfl
  simp (disch := omega) only [List.getElem?_cons_zero, List.getElem?_cons_succ, List.set_cons_zero, List.set_cons_succ, env0_0, env0_1, env0_2, env0_3, env0_4, List.replicate_succ, List.replicate_zero, Nat.reduceSub, wipeE, xSeq_eq, seqO_nx, seqO_rt, seqO_bk, seqO_ct, rngI_length, xNext_eq, xAsg_eq, asgQ_s, nxO_s, xAsgO_eq, asgOQ_s, xPar_eq, parQ_s, setQ_s, xAug_eq, xDrop_eq, dropQ_s, xRet_eq, retO_s, xRetN_eq, xBrk_eq, xCt_eq, xIf_eq, ifX_t, ifX_f, ifX_s, Bool.false_eq_true, if_false, if_true, eq_self, Bool.false_or, Bool.or_false, Bool.true_or, Bool.or_true, Bool.true_and, Bool.and_true, Bool.false_and, Bool.and_false, Bool.not_true, Bool.not_false, decide_true, decide_false, xFrz_own, frzE_eq, frzQ_own, frzQ_sh, xFor_eq, forQ_s, xWhile_eq, eVar_eq, varQ_s, bVar_eq, lookQ_s, lookQ_o, lookQ_b, eC_eq, e1_eq, e1Q_s, e2_eq, e2Q_s, eCall_eq, callQ_s, aNil_eq, aCons_eq, consQ_s, eLst_eq, eTup_eq, lstQ0, lstQ1, lstQ2, lstQ3, lstQ4, lstQ8, tupQ2, tupQ3, qB_eq, boolQ_s, qAnd_eq, qOr_eq, qNot_eq, qnotQ_s, eAnd_eq, eOr_eq, eNot_eq, notQ_s, eIf_eq, eChain_eq, andO_bb, andO_t, andO_f, orO_bb, orO_t, orO_f, qandO_bb, qandO_t, qandO_f, qorO_bb, qorO_t, qorO_f, ifO_s, ifO_t, ifO_f, chO_s, ite_int, ite_bl, ite_enc, dIsN_non, dNotN_non, isNon_non, isNon_int, isNon_l, isNon_p, gN_eq, gT_p, eComp_eq, eComp2_eq, stepC_eq, stQ_s, stR_t, stR_f, stR_b, stepM_eq', stMQ_s, stM_t, stM_f, turnF_eq, tnB_s, turnW_eq, tnQ_nx, tnQ_ct, tnQ_bk, tnQ_rt, xApp_eq, xExt_eq, appO_i, extO_l, eScr_eq, scrF_s, eLenScr_eq, scrLen_s, eIxScr_eq, iSq_eq, seqOf_l, seqOf_p, iR1_eq, iR2_eq, r1Of_i, r2Of_i, iEn_eq, enOf_l, eSl_eq, slOf_l, oNo_eq, oSo_eq, soQ_s, tup_ii, tup_ee, tup_ei, tup_ie, enc_int, enc_bool, dAt_p0, dAt_p1, dLen_l, dEq_int, dNe_int, dEq_bl, dNe_bl, dMul_l, dMul_r, dDiv_i, dMod_i, dSub_i, dAdd_i, dAddI_i, dNeg_i, dLt_i, dLe_i, dGt_i, dGe_i, dInt_i, dInt_b, dAbs_i, dMin_i, dMax_i, dGcd_i, fold_list, fold_listF, lst1, lst2, lst1i, lst2i, dSum_l, dAll_l, dAny_l, eLzip_eq, lzQ_l, eDcT_eq, stepD_eq, dEqX_int, dNeX_int, dEqX_bl, dNeX_bl, dEqX_str, dNeX_str, dSortP_l, dEqY_int, dNeY_int, dEqY_bl, dNeY_bl, dEqY_str, dNeY_str, env0_b2, t_len2, t_len3, Int.reduceEq, Int.reduceLT, Int.reduceLE, t_at0, t_at1, t_at2, s_len, xPut_eq, dTuple_l, eMinK_eq, x_law, e0]
  generalize drawsM ns = ds at hd ⊢
  rw [iterF_same fun turn ht => by
    have ht := mem_rngI.mp ht
    have rA := lrows_ok ds (10 + 40 * turn)
    have rB := lrows_ok ds (30 + 40 * turn)
    have eA := ev__law_rows (ds := ds) (k := 10 + 40 * turn) ⟨hd, by omega, by omega⟩
    have eB := ev__law_rows (ds := ds) (k := 30 + 40 * turn) ⟨hd, by omega, by omega⟩
    generalize lrowsM ds (10 + 40 * turn) = A at rA eA
    generalize lrowsM ds (30 + 40 * turn) = B at rB eB
    have a1 := rA.pos
    have a2 := rA.few
    have b1 := rB.pos
    have b2 := rB.few
    have neA : A ≠ [] := List.length_pos_iff.mp (by omega)
    have neB : B ≠ [] := List.length_pos_iff.mp (by omega)
    have gA : goodRows A := ⟨a1, by omega⟩
    have gB : goodRows B := ⟨b1, by omega⟩
    have gAB : goodRows (A ++ B) := ⟨by rw [List.length_append]; omega, by rw [List.length_append]; omega⟩
    have adAB := dAdd_l A B (by omega)
    have lL : ∀ X : Rows, lenS (least X) = L X := fun _ => rfl
    have q1 := L_app neA neB
    have c1 : ((L A : Int) + (L B : Int) < (L (A ++ B) : Int)) = False := eq_false (by omega)
    simp (disch := omega) only [List.getElem?_cons_zero, List.getElem?_cons_succ, List.set_cons_zero, List.set_cons_succ, env0_0, env0_1, env0_2, env0_3, env0_4, List.replicate_succ, List.replicate_zero, Nat.reduceSub, wipeE, xSeq_eq, seqO_nx, seqO_rt, seqO_bk, seqO_ct, rngI_length, xNext_eq, xAsg_eq, asgQ_s, nxO_s, xAsgO_eq, asgOQ_s, xPar_eq, parQ_s, setQ_s, xAug_eq, xDrop_eq, dropQ_s, xRet_eq, retO_s, xRetN_eq, xBrk_eq, xCt_eq, xIf_eq, ifX_t, ifX_f, ifX_s, Bool.false_eq_true, if_false, if_true, eq_self, Bool.false_or, Bool.or_false, Bool.true_or, Bool.or_true, Bool.true_and, Bool.and_true, Bool.false_and, Bool.and_false, Bool.not_true, Bool.not_false, decide_true, decide_false, xFrz_own, frzE_eq, frzQ_own, frzQ_sh, xFor_eq, forQ_s, xWhile_eq, eVar_eq, varQ_s, bVar_eq, lookQ_s, lookQ_o, lookQ_b, eC_eq, e1_eq, e1Q_s, e2_eq, e2Q_s, eCall_eq, callQ_s, aNil_eq, aCons_eq, consQ_s, eLst_eq, eTup_eq, lstQ0, lstQ1, lstQ2, lstQ3, lstQ4, lstQ8, tupQ2, tupQ3, qB_eq, boolQ_s, qAnd_eq, qOr_eq, qNot_eq, qnotQ_s, eAnd_eq, eOr_eq, eNot_eq, notQ_s, eIf_eq, eChain_eq, andO_bb, andO_t, andO_f, orO_bb, orO_t, orO_f, qandO_bb, qandO_t, qandO_f, qorO_bb, qorO_t, qorO_f, ifO_s, ifO_t, ifO_f, chO_s, ite_int, ite_bl, ite_enc, dIsN_non, dNotN_non, isNon_non, isNon_int, isNon_l, isNon_p, gN_eq, gT_p, eComp_eq, eComp2_eq, stepC_eq, stQ_s, stR_t, stR_f, stR_b, stepM_eq', stMQ_s, stM_t, stM_f, turnF_eq, tnB_s, turnW_eq, tnQ_nx, tnQ_ct, tnQ_bk, tnQ_rt, xApp_eq, xExt_eq, appO_i, extO_l, eScr_eq, scrF_s, eLenScr_eq, scrLen_s, eIxScr_eq, iSq_eq, seqOf_l, seqOf_p, iR1_eq, iR2_eq, r1Of_i, r2Of_i, iEn_eq, enOf_l, eSl_eq, slOf_l, oNo_eq, oSo_eq, soQ_s, tup_ii, tup_ee, tup_ei, tup_ie, enc_int, enc_bool, dAt_p0, dAt_p1, dLen_l, dEq_int, dNe_int, dEq_bl, dNe_bl, dMul_l, dMul_r, dDiv_i, dMod_i, dSub_i, dAdd_i, dAddI_i, dNeg_i, dLt_i, dLe_i, dGt_i, dGe_i, dInt_i, dInt_b, dAbs_i, dMin_i, dMax_i, dGcd_i, fold_list, fold_listF, lst1, lst2, lst1i, lst2i, dSum_l, dAll_l, dAny_l, eLzip_eq, lzQ_l, eDcT_eq, stepD_eq, dEqX_int, dNeX_int, dEqX_bl, dNeX_bl, dEqX_str, dNeX_str, dSortP_l, dEqY_int, dNeY_int, dEqY_bl, dNeY_bl, dEqY_str, dNeY_str, env0_b2, t_len2, t_len3, Int.reduceEq, Int.reduceLT, Int.reduceLE, t_at0, t_at1, t_at2, s_len, xPut_eq, dTuple_l, eMinK_eq, eA, eB, adAB, ev_least_script gA, ev_least_script gB, ev_least_script gAB, ev_length (good_least gA), ev_length (good_least gB), ev_length (good_least gAB), lL, c1]
    rw [compO_map (f := exch) (by omega) fun r hr => by
      simp (disch := omega) only [List.getElem?_cons_zero, List.getElem?_cons_succ, List.set_cons_zero, List.set_cons_succ, env0_0, env0_1, env0_2, env0_3, env0_4, List.replicate_succ, List.replicate_zero, Nat.reduceSub, wipeE, xSeq_eq, seqO_nx, seqO_rt, seqO_bk, seqO_ct, rngI_length, xNext_eq, xAsg_eq, asgQ_s, nxO_s, xAsgO_eq, asgOQ_s, xPar_eq, parQ_s, setQ_s, xAug_eq, xDrop_eq, dropQ_s, xRet_eq, retO_s, xRetN_eq, xBrk_eq, xCt_eq, xIf_eq, ifX_t, ifX_f, ifX_s, Bool.false_eq_true, if_false, if_true, eq_self, Bool.false_or, Bool.or_false, Bool.true_or, Bool.or_true, Bool.true_and, Bool.and_true, Bool.false_and, Bool.and_false, Bool.not_true, Bool.not_false, decide_true, decide_false, xFrz_own, frzE_eq, frzQ_own, frzQ_sh, xFor_eq, forQ_s, xWhile_eq, eVar_eq, varQ_s, bVar_eq, lookQ_s, lookQ_o, lookQ_b, eC_eq, e1_eq, e1Q_s, e2_eq, e2Q_s, eCall_eq, callQ_s, aNil_eq, aCons_eq, consQ_s, eLst_eq, eTup_eq, lstQ0, lstQ1, lstQ2, lstQ3, lstQ4, lstQ8, tupQ2, tupQ3, qB_eq, boolQ_s, qAnd_eq, qOr_eq, qNot_eq, qnotQ_s, eAnd_eq, eOr_eq, eNot_eq, notQ_s, eIf_eq, eChain_eq, andO_bb, andO_t, andO_f, orO_bb, orO_t, orO_f, qandO_bb, qandO_t, qandO_f, qorO_bb, qorO_t, qorO_f, ifO_s, ifO_t, ifO_f, chO_s, ite_int, ite_bl, ite_enc, dIsN_non, dNotN_non, isNon_non, isNon_int, isNon_l, isNon_p, gN_eq, gT_p, eComp_eq, eComp2_eq, stepC_eq, stQ_s, stR_t, stR_f, stR_b, stepM_eq', stMQ_s, stM_t, stM_f, turnF_eq, tnB_s, turnW_eq, tnQ_nx, tnQ_ct, tnQ_bk, tnQ_rt, xApp_eq, xExt_eq, appO_i, extO_l, eScr_eq, scrF_s, eLenScr_eq, scrLen_s, eIxScr_eq, iSq_eq, seqOf_l, seqOf_p, iR1_eq, iR2_eq, r1Of_i, r2Of_i, iEn_eq, enOf_l, eSl_eq, slOf_l, oNo_eq, oSo_eq, soQ_s, tup_ii, tup_ee, tup_ei, tup_ie, enc_int, enc_bool, dAt_p0, dAt_p1, dLen_l, dEq_int, dNe_int, dEq_bl, dNe_bl, dMul_l, dMul_r, dDiv_i, dMod_i, dSub_i, dAdd_i, dAddI_i, dNeg_i, dLt_i, dLe_i, dGt_i, dGe_i, dInt_i, dInt_b, dAbs_i, dMin_i, dMax_i, dGcd_i, fold_list, fold_listF, lst1, lst2, lst1i, lst2i, dSum_l, dAll_l, dAny_l, eLzip_eq, lzQ_l, eDcT_eq, stepD_eq, dEqX_int, dNeX_int, dEqX_bl, dNeX_bl, dEqX_str, dNeX_str, dSortP_l, dEqY_int, dNeY_int, dEqY_bl, dNeY_bl, dEqY_str, dNeY_str, env0_b2, t_len2, t_len3, Int.reduceEq, Int.reduceLT, Int.reduceLE, t_at0, t_at1, t_at2, s_len, xPut_eq, dTuple_l, eMinK_eq, ev__law_exchanged (rA.mem r hr)]]
    have gX : goodRows (A.map exch) := ⟨by rw [List.length_map]; omega, by rw [List.length_map]; omega⟩
    have q2 := L_map exch unx neA fun a ha => exch_back (rA.mem a ha)
    have same : ∀ n : Int, decide (n = n) = true := fun n => decide_eq_true rfl
    simp (disch := omega) only [List.getElem?_cons_zero, List.getElem?_cons_succ, List.set_cons_zero, List.set_cons_succ, env0_0, env0_1, env0_2, env0_3, env0_4, List.replicate_succ, List.replicate_zero, Nat.reduceSub, wipeE, xSeq_eq, seqO_nx, seqO_rt, seqO_bk, seqO_ct, rngI_length, xNext_eq, xAsg_eq, asgQ_s, nxO_s, xAsgO_eq, asgOQ_s, xPar_eq, parQ_s, setQ_s, xAug_eq, xDrop_eq, dropQ_s, xRet_eq, retO_s, xRetN_eq, xBrk_eq, xCt_eq, xIf_eq, ifX_t, ifX_f, ifX_s, Bool.false_eq_true, if_false, if_true, eq_self, Bool.false_or, Bool.or_false, Bool.true_or, Bool.or_true, Bool.true_and, Bool.and_true, Bool.false_and, Bool.and_false, Bool.not_true, Bool.not_false, decide_true, decide_false, xFrz_own, frzE_eq, frzQ_own, frzQ_sh, xFor_eq, forQ_s, xWhile_eq, eVar_eq, varQ_s, bVar_eq, lookQ_s, lookQ_o, lookQ_b, eC_eq, e1_eq, e1Q_s, e2_eq, e2Q_s, eCall_eq, callQ_s, aNil_eq, aCons_eq, consQ_s, eLst_eq, eTup_eq, lstQ0, lstQ1, lstQ2, lstQ3, lstQ4, lstQ8, tupQ2, tupQ3, qB_eq, boolQ_s, qAnd_eq, qOr_eq, qNot_eq, qnotQ_s, eAnd_eq, eOr_eq, eNot_eq, notQ_s, eIf_eq, eChain_eq, andO_bb, andO_t, andO_f, orO_bb, orO_t, orO_f, qandO_bb, qandO_t, qandO_f, qorO_bb, qorO_t, qorO_f, ifO_s, ifO_t, ifO_f, chO_s, ite_int, ite_bl, ite_enc, dIsN_non, dNotN_non, isNon_non, isNon_int, isNon_l, isNon_p, gN_eq, gT_p, eComp_eq, eComp2_eq, stepC_eq, stQ_s, stR_t, stR_f, stR_b, stepM_eq', stMQ_s, stM_t, stM_f, turnF_eq, tnB_s, turnW_eq, tnQ_nx, tnQ_ct, tnQ_bk, tnQ_rt, xApp_eq, xExt_eq, appO_i, extO_l, eScr_eq, scrF_s, eLenScr_eq, scrLen_s, eIxScr_eq, iSq_eq, seqOf_l, seqOf_p, iR1_eq, iR2_eq, r1Of_i, r2Of_i, iEn_eq, enOf_l, eSl_eq, slOf_l, oNo_eq, oSo_eq, soQ_s, tup_ii, tup_ee, tup_ei, tup_ie, enc_int, enc_bool, dAt_p0, dAt_p1, dLen_l, dEq_int, dNe_int, dEq_bl, dNe_bl, dMul_l, dMul_r, dDiv_i, dMod_i, dSub_i, dAdd_i, dAddI_i, dNeg_i, dLt_i, dLe_i, dGt_i, dGe_i, dInt_i, dInt_b, dAbs_i, dMin_i, dMax_i, dGcd_i, fold_list, fold_listF, lst1, lst2, lst1i, lst2i, dSum_l, dAll_l, dAny_l, eLzip_eq, lzQ_l, eDcT_eq, stepD_eq, dEqX_int, dNeX_int, dEqX_bl, dNeX_bl, dEqX_str, dNeX_str, dSortP_l, dEqY_int, dNeY_int, dEqY_bl, dNeY_bl, dEqY_str, dNeY_str, env0_b2, t_len2, t_len3, Int.reduceEq, Int.reduceLT, Int.reduceLE, t_at0, t_at1, t_at2, s_len, xPut_eq, dTuple_l, eMinK_eq, ev_least_script gX, ev_length (good_least gX), lL, q2, same, eDictP_eq, names_eq]
    rw [compO_map (f := nam) (by omega) fun r hr => by
      simp (disch := omega) only [List.getElem?_cons_zero, List.getElem?_cons_succ, List.set_cons_zero, List.set_cons_succ, env0_0, env0_1, env0_2, env0_3, env0_4, List.replicate_succ, List.replicate_zero, Nat.reduceSub, wipeE, xSeq_eq, seqO_nx, seqO_rt, seqO_bk, seqO_ct, rngI_length, xNext_eq, xAsg_eq, asgQ_s, nxO_s, xAsgO_eq, asgOQ_s, xPar_eq, parQ_s, setQ_s, xAug_eq, xDrop_eq, dropQ_s, xRet_eq, retO_s, xRetN_eq, xBrk_eq, xCt_eq, xIf_eq, ifX_t, ifX_f, ifX_s, Bool.false_eq_true, if_false, if_true, eq_self, Bool.false_or, Bool.or_false, Bool.true_or, Bool.or_true, Bool.true_and, Bool.and_true, Bool.false_and, Bool.and_false, Bool.not_true, Bool.not_false, decide_true, decide_false, xFrz_own, frzE_eq, frzQ_own, frzQ_sh, xFor_eq, forQ_s, xWhile_eq, eVar_eq, varQ_s, bVar_eq, lookQ_s, lookQ_o, lookQ_b, eC_eq, e1_eq, e1Q_s, e2_eq, e2Q_s, eCall_eq, callQ_s, aNil_eq, aCons_eq, consQ_s, eLst_eq, eTup_eq, lstQ0, lstQ1, lstQ2, lstQ3, lstQ4, lstQ8, tupQ2, tupQ3, qB_eq, boolQ_s, qAnd_eq, qOr_eq, qNot_eq, qnotQ_s, eAnd_eq, eOr_eq, eNot_eq, notQ_s, eIf_eq, eChain_eq, andO_bb, andO_t, andO_f, orO_bb, orO_t, orO_f, qandO_bb, qandO_t, qandO_f, qorO_bb, qorO_t, qorO_f, ifO_s, ifO_t, ifO_f, chO_s, ite_int, ite_bl, ite_enc, dIsN_non, dNotN_non, isNon_non, isNon_int, isNon_l, isNon_p, gN_eq, gT_p, eComp_eq, eComp2_eq, stepC_eq, stQ_s, stR_t, stR_f, stR_b, stepM_eq', stMQ_s, stM_t, stM_f, turnF_eq, tnB_s, turnW_eq, tnQ_nx, tnQ_ct, tnQ_bk, tnQ_rt, xApp_eq, xExt_eq, appO_i, extO_l, eScr_eq, scrF_s, eLenScr_eq, scrLen_s, eIxScr_eq, iSq_eq, seqOf_l, seqOf_p, iR1_eq, iR2_eq, r1Of_i, r2Of_i, iEn_eq, enOf_l, eSl_eq, slOf_l, oNo_eq, oSo_eq, soQ_s, tup_ii, tup_ee, tup_ei, tup_ie, enc_int, enc_bool, dAt_p0, dAt_p1, dLen_l, dEq_int, dNe_int, dEq_bl, dNe_bl, dMul_l, dMul_r, dDiv_i, dMod_i, dSub_i, dAdd_i, dAddI_i, dNeg_i, dLt_i, dLe_i, dGt_i, dGe_i, dInt_i, dInt_b, dAbs_i, dMin_i, dMax_i, dGcd_i, fold_list, fold_listF, lst1, lst2, lst1i, lst2i, dSum_l, dAll_l, dAny_l, eLzip_eq, lzQ_l, eDcT_eq, stepD_eq, dEqX_int, dNeX_int, dEqX_bl, dNeX_bl, dEqX_str, dNeX_str, dSortP_l, dEqY_int, dNeY_int, dEqY_bl, dNeY_bl, dEqY_str, dNeY_str, env0_b2, t_len2, t_len3, Int.reduceEq, Int.reduceLT, Int.reduceLE, t_at0, t_at1, t_at2, s_len, xPut_eq, dTuple_l, eMinK_eq, names_at (rA.mem r hr)]]
    have gN : goodRows (A.map nam) := ⟨by rw [List.length_map]; omega, by rw [List.length_map]; omega⟩
    have q3 := L_map nam unn neA fun a ha => nam_back (rA.mem a ha)
    have two : ∀ X : Rows, (List.replicate 2 X).flatten = X ++ X := fun X => by simp [List.replicate]
    have mulA := dMulL A 2 (by show _ ∧ _ ∧ A.length * 2 ≤ _; omega)
    have mulAB := dMulL (A ++ B) 2 (by show _ ∧ _ ∧ (A ++ B).length * 2 ≤ _; rw [List.length_append]; omega)
    rw [show (2 : Int).toNat = 2 from rfl, two] at mulA mulAB
    have gA2 : goodRows (A ++ A) := ⟨by rw [List.length_append]; omega, by rw [List.length_append]; omega⟩
    have q4 := L_rep neA (n := 2) (by omega)
    rw [two] at q4
    have c4 : ((L A : Int) + 1 < (L (A ++ A) : Int)) = False := eq_false (by omega)
    have step : qandO (some (decide (((A ++ B).length : Int) ≤ 8))) (boolQ (e2Q dGt (callQ F_length (consQ (F_least_script [enc (A ++ B ++ (A ++ B))]) (some []))) (some (D.int ((L (A ++ B) : Int) + 1))))) = some false := by
      by_cases q : ((A ++ B).length : Int) ≤ 8
      · have gAB2 : goodRows (A ++ B ++ (A ++ B)) := ⟨by rw [List.length_append, List.length_append]; omega, by rw [List.length_append]; omega⟩
        have neAB : A ++ B ≠ [] := fun z => neA (List.append_eq_nil_iff.mp z).1
        have q5 := L_rep neAB (n := 2) (by omega)
        rw [two] at q5
        have c5 : ((L (A ++ B) : Int) + 1 < (L (A ++ B ++ (A ++ B)) : Int)) = False := eq_false (by omega)
        simp (disch := omega) only [List.getElem?_cons_zero, List.getElem?_cons_succ, List.set_cons_zero, List.set_cons_succ, env0_0, env0_1, env0_2, env0_3, env0_4, List.replicate_succ, List.replicate_zero, Nat.reduceSub, wipeE, xSeq_eq, seqO_nx, seqO_rt, seqO_bk, seqO_ct, rngI_length, xNext_eq, xAsg_eq, asgQ_s, nxO_s, xAsgO_eq, asgOQ_s, xPar_eq, parQ_s, setQ_s, xAug_eq, xDrop_eq, dropQ_s, xRet_eq, retO_s, xRetN_eq, xBrk_eq, xCt_eq, xIf_eq, ifX_t, ifX_f, ifX_s, Bool.false_eq_true, if_false, if_true, eq_self, Bool.false_or, Bool.or_false, Bool.true_or, Bool.or_true, Bool.true_and, Bool.and_true, Bool.false_and, Bool.and_false, Bool.not_true, Bool.not_false, decide_true, decide_false, xFrz_own, frzE_eq, frzQ_own, frzQ_sh, xFor_eq, forQ_s, xWhile_eq, eVar_eq, varQ_s, bVar_eq, lookQ_s, lookQ_o, lookQ_b, eC_eq, e1_eq, e1Q_s, e2_eq, e2Q_s, eCall_eq, callQ_s, aNil_eq, aCons_eq, consQ_s, eLst_eq, eTup_eq, lstQ0, lstQ1, lstQ2, lstQ3, lstQ4, lstQ8, tupQ2, tupQ3, qB_eq, boolQ_s, qAnd_eq, qOr_eq, qNot_eq, qnotQ_s, eAnd_eq, eOr_eq, eNot_eq, notQ_s, eIf_eq, eChain_eq, andO_bb, andO_t, andO_f, orO_bb, orO_t, orO_f, qandO_bb, qandO_t, qandO_f, qorO_bb, qorO_t, qorO_f, ifO_s, ifO_t, ifO_f, chO_s, ite_int, ite_bl, ite_enc, dIsN_non, dNotN_non, isNon_non, isNon_int, isNon_l, isNon_p, gN_eq, gT_p, eComp_eq, eComp2_eq, stepC_eq, stQ_s, stR_t, stR_f, stR_b, stepM_eq', stMQ_s, stM_t, stM_f, turnF_eq, tnB_s, turnW_eq, tnQ_nx, tnQ_ct, tnQ_bk, tnQ_rt, xApp_eq, xExt_eq, appO_i, extO_l, eScr_eq, scrF_s, eLenScr_eq, scrLen_s, eIxScr_eq, iSq_eq, seqOf_l, seqOf_p, iR1_eq, iR2_eq, r1Of_i, r2Of_i, iEn_eq, enOf_l, eSl_eq, slOf_l, oNo_eq, oSo_eq, soQ_s, tup_ii, tup_ee, tup_ei, tup_ie, enc_int, enc_bool, dAt_p0, dAt_p1, dLen_l, dEq_int, dNe_int, dEq_bl, dNe_bl, dMul_l, dMul_r, dDiv_i, dMod_i, dSub_i, dAdd_i, dAddI_i, dNeg_i, dLt_i, dLe_i, dGt_i, dGe_i, dInt_i, dInt_b, dAbs_i, dMin_i, dMax_i, dGcd_i, fold_list, fold_listF, lst1, lst2, lst1i, lst2i, dSum_l, dAll_l, dAny_l, eLzip_eq, lzQ_l, eDcT_eq, stepD_eq, dEqX_int, dNeX_int, dEqX_bl, dNeX_bl, dEqX_str, dNeX_str, dSortP_l, dEqY_int, dNeY_int, dEqY_bl, dNeY_bl, dEqY_str, dNeY_str, env0_b2, t_len2, t_len3, Int.reduceEq, Int.reduceLT, Int.reduceLE, t_at0, t_at1, t_at2, s_len, xPut_eq, dTuple_l, eMinK_eq, q, ev_least_script gAB2, ev_length (good_least gAB2), lL, c5]
      · simp (disch := omega) only [List.getElem?_cons_zero, List.getElem?_cons_succ, List.set_cons_zero, List.set_cons_succ, env0_0, env0_1, env0_2, env0_3, env0_4, List.replicate_succ, List.replicate_zero, Nat.reduceSub, wipeE, xSeq_eq, seqO_nx, seqO_rt, seqO_bk, seqO_ct, rngI_length, xNext_eq, xAsg_eq, asgQ_s, nxO_s, xAsgO_eq, asgOQ_s, xPar_eq, parQ_s, setQ_s, xAug_eq, xDrop_eq, dropQ_s, xRet_eq, retO_s, xRetN_eq, xBrk_eq, xCt_eq, xIf_eq, ifX_t, ifX_f, ifX_s, Bool.false_eq_true, if_false, if_true, eq_self, Bool.false_or, Bool.or_false, Bool.true_or, Bool.or_true, Bool.true_and, Bool.and_true, Bool.false_and, Bool.and_false, Bool.not_true, Bool.not_false, decide_true, decide_false, xFrz_own, frzE_eq, frzQ_own, frzQ_sh, xFor_eq, forQ_s, xWhile_eq, eVar_eq, varQ_s, bVar_eq, lookQ_s, lookQ_o, lookQ_b, eC_eq, e1_eq, e1Q_s, e2_eq, e2Q_s, eCall_eq, callQ_s, aNil_eq, aCons_eq, consQ_s, eLst_eq, eTup_eq, lstQ0, lstQ1, lstQ2, lstQ3, lstQ4, lstQ8, tupQ2, tupQ3, qB_eq, boolQ_s, qAnd_eq, qOr_eq, qNot_eq, qnotQ_s, eAnd_eq, eOr_eq, eNot_eq, notQ_s, eIf_eq, eChain_eq, andO_bb, andO_t, andO_f, orO_bb, orO_t, orO_f, qandO_bb, qandO_t, qandO_f, qorO_bb, qorO_t, qorO_f, ifO_s, ifO_t, ifO_f, chO_s, ite_int, ite_bl, ite_enc, dIsN_non, dNotN_non, isNon_non, isNon_int, isNon_l, isNon_p, gN_eq, gT_p, eComp_eq, eComp2_eq, stepC_eq, stQ_s, stR_t, stR_f, stR_b, stepM_eq', stMQ_s, stM_t, stM_f, turnF_eq, tnB_s, turnW_eq, tnQ_nx, tnQ_ct, tnQ_bk, tnQ_rt, xApp_eq, xExt_eq, appO_i, extO_l, eScr_eq, scrF_s, eLenScr_eq, scrLen_s, eIxScr_eq, iSq_eq, seqOf_l, seqOf_p, iR1_eq, iR2_eq, r1Of_i, r2Of_i, iEn_eq, enOf_l, eSl_eq, slOf_l, oNo_eq, oSo_eq, soQ_s, tup_ii, tup_ee, tup_ei, tup_ie, enc_int, enc_bool, dAt_p0, dAt_p1, dLen_l, dEq_int, dNe_int, dEq_bl, dNe_bl, dMul_l, dMul_r, dDiv_i, dMod_i, dSub_i, dAdd_i, dAddI_i, dNeg_i, dLt_i, dLe_i, dGt_i, dGe_i, dInt_i, dInt_b, dAbs_i, dMin_i, dMax_i, dGcd_i, fold_list, fold_listF, lst1, lst2, lst1i, lst2i, dSum_l, dAll_l, dAny_l, eLzip_eq, lzQ_l, eDcT_eq, stepD_eq, dEqX_int, dNeX_int, dEqX_bl, dNeX_bl, dEqX_str, dNeX_str, dSortP_l, dEqY_int, dNeY_int, dEqY_bl, dNeY_bl, dEqY_str, dNeY_str, env0_b2, t_len2, t_len3, Int.reduceEq, Int.reduceLT, Int.reduceLE, t_at0, t_at1, t_at2, s_len, xPut_eq, dTuple_l, eMinK_eq, q]
    simp (disch := omega) only [List.getElem?_cons_zero, List.getElem?_cons_succ, List.set_cons_zero, List.set_cons_succ, env0_0, env0_1, env0_2, env0_3, env0_4, List.replicate_succ, List.replicate_zero, Nat.reduceSub, wipeE, xSeq_eq, seqO_nx, seqO_rt, seqO_bk, seqO_ct, rngI_length, xNext_eq, xAsg_eq, asgQ_s, nxO_s, xAsgO_eq, asgOQ_s, xPar_eq, parQ_s, setQ_s, xAug_eq, xDrop_eq, dropQ_s, xRet_eq, retO_s, xRetN_eq, xBrk_eq, xCt_eq, xIf_eq, ifX_t, ifX_f, ifX_s, Bool.false_eq_true, if_false, if_true, eq_self, Bool.false_or, Bool.or_false, Bool.true_or, Bool.or_true, Bool.true_and, Bool.and_true, Bool.false_and, Bool.and_false, Bool.not_true, Bool.not_false, decide_true, decide_false, xFrz_own, frzE_eq, frzQ_own, frzQ_sh, xFor_eq, forQ_s, xWhile_eq, eVar_eq, varQ_s, bVar_eq, lookQ_s, lookQ_o, lookQ_b, eC_eq, e1_eq, e1Q_s, e2_eq, e2Q_s, eCall_eq, callQ_s, aNil_eq, aCons_eq, consQ_s, eLst_eq, eTup_eq, lstQ0, lstQ1, lstQ2, lstQ3, lstQ4, lstQ8, tupQ2, tupQ3, qB_eq, boolQ_s, qAnd_eq, qOr_eq, qNot_eq, qnotQ_s, eAnd_eq, eOr_eq, eNot_eq, notQ_s, eIf_eq, eChain_eq, andO_bb, andO_t, andO_f, orO_bb, orO_t, orO_f, qandO_bb, qandO_t, qandO_f, qorO_bb, qorO_t, qorO_f, ifO_s, ifO_t, ifO_f, chO_s, ite_int, ite_bl, ite_enc, dIsN_non, dNotN_non, isNon_non, isNon_int, isNon_l, isNon_p, gN_eq, gT_p, eComp_eq, eComp2_eq, stepC_eq, stQ_s, stR_t, stR_f, stR_b, stepM_eq', stMQ_s, stM_t, stM_f, turnF_eq, tnB_s, turnW_eq, tnQ_nx, tnQ_ct, tnQ_bk, tnQ_rt, xApp_eq, xExt_eq, appO_i, extO_l, eScr_eq, scrF_s, eLenScr_eq, scrLen_s, eIxScr_eq, iSq_eq, seqOf_l, seqOf_p, iR1_eq, iR2_eq, r1Of_i, r2Of_i, iEn_eq, enOf_l, eSl_eq, slOf_l, oNo_eq, oSo_eq, soQ_s, tup_ii, tup_ee, tup_ei, tup_ie, enc_int, enc_bool, dAt_p0, dAt_p1, dLen_l, dEq_int, dNe_int, dEq_bl, dNe_bl, dMul_l, dMul_r, dDiv_i, dMod_i, dSub_i, dAdd_i, dAddI_i, dNeg_i, dLt_i, dLe_i, dGt_i, dGe_i, dInt_i, dInt_b, dAbs_i, dMin_i, dMax_i, dGcd_i, fold_list, fold_listF, lst1, lst2, lst1i, lst2i, dSum_l, dAll_l, dAny_l, eLzip_eq, lzQ_l, eDcT_eq, stepD_eq, dEqX_int, dNeX_int, dEqX_bl, dNeX_bl, dEqX_str, dNeX_str, dSortP_l, dEqY_int, dNeY_int, dEqY_bl, dNeY_bl, dEqY_str, dNeY_str, env0_b2, t_len2, t_len3, Int.reduceEq, Int.reduceLT, Int.reduceLE, t_at0, t_at1, t_at2, s_len, xPut_eq, dTuple_l, eMinK_eq, ev_least_script gN, ev_length (good_least gN), lL, q3, same, mulA, adAB, mulAB, ev_least_script gA2, ev_length (good_least gA2), c4, step]
    have mm := mix_lim ds (140 + turn) 3 (by omega)
    obtain ⟨m, hm⟩ : ∃ m : Nat, 2 + mixM ds (140 + turn) 3 = (m : Int) := ⟨(2 + mixM ds (140 + turn) 3).toNat, by omega⟩
    have lA := good_least gA
    have rep : D.lst [D.tup [D.str "repeat", D.int (m : Int), enc (least A)]] = enc ([.rep m (least A)] : S) := by
      show _ = D.lst [enc (Ln.rep _ _)]
      rw [enc_rep]
    obtain ⟨dd, hd1, hd2⟩ := least_ok neA
    have wrr : wrS ([.rep m (least A)] : S) = (List.replicate m A).flatten := by rw [wr_one, wrL, least_wr neA]
    have m4 : m ≤ 4 := by omega
    have gR : goodS ([.rep m (least A)] : S) := by
      refine ⟨?_, ?_⟩
      · rw [okS, okS, okL]
        exact ⟨⟨by omega, least_ne neA, okS_mono (pow_lim (k := 3) hd1 (by omega)) hd2⟩, trivial⟩
      · rw [wrr, rep_len]
        have : m * A.length ≤ 4 * 8 := Nat.mul_le_mul m4 a2
        omega
    have lR : lenS ([.rep m (least A)] : S) = 1 + L A := by rw [len_one, lenL]; rfl
    have mulM := dMulL A (m : Int) (by
      rw [Int.toNat_natCast, Nat.mul_comm]
      have : m * A.length ≤ 4 * 8 := Nat.mul_le_mul m4 a2
      omega)
    rw [Int.toNat_natCast] at mulM
    have eqM : dNeY (enc (List.replicate m A).flatten) (enc (List.replicate m A).flatten) = some (.bl false) := by
      rw [dNeY_l (by decide), decide_eq_true rfl]; rfl
    have sc : ((1 + L A : Nat) : Int) = 1 + (L A : Int) := by omega
    simp (disch := omega) only [List.getElem?_cons_zero, List.getElem?_cons_succ, List.set_cons_zero, List.set_cons_succ, env0_0, env0_1, env0_2, env0_3, env0_4, List.replicate_succ, List.replicate_zero, Nat.reduceSub, wipeE, xSeq_eq, seqO_nx, seqO_rt, seqO_bk, seqO_ct, rngI_length, xNext_eq, xAsg_eq, asgQ_s, nxO_s, xAsgO_eq, asgOQ_s, xPar_eq, parQ_s, setQ_s, xAug_eq, xDrop_eq, dropQ_s, xRet_eq, retO_s, xRetN_eq, xBrk_eq, xCt_eq, xIf_eq, ifX_t, ifX_f, ifX_s, Bool.false_eq_true, if_false, if_true, eq_self, Bool.false_or, Bool.or_false, Bool.true_or, Bool.or_true, Bool.true_and, Bool.and_true, Bool.false_and, Bool.and_false, Bool.not_true, Bool.not_false, decide_true, decide_false, xFrz_own, frzE_eq, frzQ_own, frzQ_sh, xFor_eq, forQ_s, xWhile_eq, eVar_eq, varQ_s, bVar_eq, lookQ_s, lookQ_o, lookQ_b, eC_eq, e1_eq, e1Q_s, e2_eq, e2Q_s, eCall_eq, callQ_s, aNil_eq, aCons_eq, consQ_s, eLst_eq, eTup_eq, lstQ0, lstQ1, lstQ2, lstQ3, lstQ4, lstQ8, tupQ2, tupQ3, qB_eq, boolQ_s, qAnd_eq, qOr_eq, qNot_eq, qnotQ_s, eAnd_eq, eOr_eq, eNot_eq, notQ_s, eIf_eq, eChain_eq, andO_bb, andO_t, andO_f, orO_bb, orO_t, orO_f, qandO_bb, qandO_t, qandO_f, qorO_bb, qorO_t, qorO_f, ifO_s, ifO_t, ifO_f, chO_s, ite_int, ite_bl, ite_enc, dIsN_non, dNotN_non, isNon_non, isNon_int, isNon_l, isNon_p, gN_eq, gT_p, eComp_eq, eComp2_eq, stepC_eq, stQ_s, stR_t, stR_f, stR_b, stepM_eq', stMQ_s, stM_t, stM_f, turnF_eq, tnB_s, turnW_eq, tnQ_nx, tnQ_ct, tnQ_bk, tnQ_rt, xApp_eq, xExt_eq, appO_i, extO_l, eScr_eq, scrF_s, eLenScr_eq, scrLen_s, eIxScr_eq, iSq_eq, seqOf_l, seqOf_p, iR1_eq, iR2_eq, r1Of_i, r2Of_i, iEn_eq, enOf_l, eSl_eq, slOf_l, oNo_eq, oSo_eq, soQ_s, tup_ii, tup_ee, tup_ei, tup_ie, enc_int, enc_bool, dAt_p0, dAt_p1, dLen_l, dEq_int, dNe_int, dEq_bl, dNe_bl, dMul_l, dMul_r, dDiv_i, dMod_i, dSub_i, dAdd_i, dAddI_i, dNeg_i, dLt_i, dLe_i, dGt_i, dGe_i, dInt_i, dInt_b, dAbs_i, dMin_i, dMax_i, dGcd_i, fold_list, fold_listF, lst1, lst2, lst1i, lst2i, dSum_l, dAll_l, dAny_l, eLzip_eq, lzQ_l, eDcT_eq, stepD_eq, dEqX_int, dNeX_int, dEqX_bl, dNeX_bl, dEqX_str, dNeX_str, dSortP_l, dEqY_int, dNeY_int, dEqY_bl, dNeY_bl, dEqY_str, dNeY_str, env0_b2, t_len2, t_len3, Int.reduceEq, Int.reduceLT, Int.reduceLE, t_at0, t_at1, t_at2, s_len, xPut_eq, dTuple_l, eMinK_eq, ev_least_script gA, ev__law_mix' hd, hm, rep, ev_written gR, wrr, mulM, eqM, ev_length gR, lR, sc, same, ev__law_sum lA]
    have nilR : D.lst [] = enc ([] : Rows) := rfl
    have wA := least_wr neA
    have wl := wr_len lA.1
    rw [wA] at wl
    rw [nilR]
    rw [show iterF [9] _ _ (((least A).map wrL).map enc) [LV.scr ns, .sh (enc ds), .sh (.int turn), .sh (.int (L (A ++ B) : Int)), .sh namesD, .sh (enc (least A)), .sh (.int (m : Int)), .sh (enc ((least A).map wrL)), .sh (enc ([] : Rows)), .un, .un, .un, .sh (enc A), .sh (enc B), .sh (.int (L A : Int)), .sh (.int (L B : Int)), .un, .un, .un, .un] = _ from
      (iterF_steps (α := Rows) (S := Rows) (xs := (least A).map wrL) (R := fun acc => [LV.scr ns, .sh (enc ds), .sh (.int turn), .sh (.int (L (A ++ B) : Int)), .sh namesD, .sh (enc (least A)), .sh (.int (m : Int)), .sh (enc ((least A).map wrL)), .sh (enc acc), .un, .un, .un, .sh (enc A), .sh (enc B), .sh (.int (L A : Int)), .sh (.int (L B : Int)), .un, .un, .un, .un]) (st := fun acc p => acc ++ p) (P := fun n acc => acc.length ≤ 8 * n) (n := 0) (s := []) (by simp) fun i p hp acc hP => by
        obtain ⟨l, hl, rfl⟩ := List.mem_map.mp (List.mem_of_getElem? hp)
        have w3 := wr_line hl
        rw [wA] at w3
        have hi : i < (least A).length := by
          have := (List.getElem?_eq_some_iff.mp hp).1
          rwa [List.length_map] at this
        rw [Nat.zero_add] at hP
        have ad := dAdd_l acc (wrL l) (by omega)
        refine ⟨?_, by rw [List.length_append]; omega⟩
        simp (disch := omega) only [List.getElem?_cons_zero, List.getElem?_cons_succ, List.set_cons_zero, List.set_cons_succ, env0_0, env0_1, env0_2, env0_3, env0_4, List.replicate_succ, List.replicate_zero, Nat.reduceSub, wipeE, xSeq_eq, seqO_nx, seqO_rt, seqO_bk, seqO_ct, rngI_length, xNext_eq, xAsg_eq, asgQ_s, nxO_s, xAsgO_eq, asgOQ_s, xPar_eq, parQ_s, setQ_s, xAug_eq, xDrop_eq, dropQ_s, xRet_eq, retO_s, xRetN_eq, xBrk_eq, xCt_eq, xIf_eq, ifX_t, ifX_f, ifX_s, Bool.false_eq_true, if_false, if_true, eq_self, Bool.false_or, Bool.or_false, Bool.true_or, Bool.or_true, Bool.true_and, Bool.and_true, Bool.false_and, Bool.and_false, Bool.not_true, Bool.not_false, decide_true, decide_false, xFrz_own, frzE_eq, frzQ_own, frzQ_sh, xFor_eq, forQ_s, xWhile_eq, eVar_eq, varQ_s, bVar_eq, lookQ_s, lookQ_o, lookQ_b, eC_eq, e1_eq, e1Q_s, e2_eq, e2Q_s, eCall_eq, callQ_s, aNil_eq, aCons_eq, consQ_s, eLst_eq, eTup_eq, lstQ0, lstQ1, lstQ2, lstQ3, lstQ4, lstQ8, tupQ2, tupQ3, qB_eq, boolQ_s, qAnd_eq, qOr_eq, qNot_eq, qnotQ_s, eAnd_eq, eOr_eq, eNot_eq, notQ_s, eIf_eq, eChain_eq, andO_bb, andO_t, andO_f, orO_bb, orO_t, orO_f, qandO_bb, qandO_t, qandO_f, qorO_bb, qorO_t, qorO_f, ifO_s, ifO_t, ifO_f, chO_s, ite_int, ite_bl, ite_enc, dIsN_non, dNotN_non, isNon_non, isNon_int, isNon_l, isNon_p, gN_eq, gT_p, eComp_eq, eComp2_eq, stepC_eq, stQ_s, stR_t, stR_f, stR_b, stepM_eq', stMQ_s, stM_t, stM_f, turnF_eq, tnB_s, turnW_eq, tnQ_nx, tnQ_ct, tnQ_bk, tnQ_rt, xApp_eq, xExt_eq, appO_i, extO_l, eScr_eq, scrF_s, eLenScr_eq, scrLen_s, eIxScr_eq, iSq_eq, seqOf_l, seqOf_p, iR1_eq, iR2_eq, r1Of_i, r2Of_i, iEn_eq, enOf_l, eSl_eq, slOf_l, oNo_eq, oSo_eq, soQ_s, tup_ii, tup_ee, tup_ei, tup_ie, enc_int, enc_bool, dAt_p0, dAt_p1, dLen_l, dEq_int, dNe_int, dEq_bl, dNe_bl, dMul_l, dMul_r, dDiv_i, dMod_i, dSub_i, dAdd_i, dAddI_i, dNeg_i, dLt_i, dLe_i, dGt_i, dGe_i, dInt_i, dInt_b, dAbs_i, dMin_i, dMax_i, dGcd_i, fold_list, fold_listF, lst1, lst2, lst1i, lst2i, dSum_l, dAll_l, dAny_l, eLzip_eq, lzQ_l, eDcT_eq, stepD_eq, dEqX_int, dNeX_int, dEqX_bl, dNeX_bl, dEqX_str, dNeX_str, dSortP_l, dEqY_int, dNeY_int, dEqY_bl, dNeY_bl, dEqY_str, dNeY_str, env0_b2, t_len2, t_len3, Int.reduceEq, Int.reduceLT, Int.reduceLE, t_at0, t_at1, t_at2, s_len, xPut_eq, dTuple_l, eMinK_eq, ad]).1]
    rw [List.foldl_map, fold_wr, List.nil_append, wA]
    have eqA : dNeY (enc A) (enc A) = some (.bl false) := by
      rw [dNeY_l (by decide), decide_eq_true rfl]; rfl
    simp (disch := omega) only [List.getElem?_cons_zero, List.getElem?_cons_succ, List.set_cons_zero, List.set_cons_succ, env0_0, env0_1, env0_2, env0_3, env0_4, List.replicate_succ, List.replicate_zero, Nat.reduceSub, wipeE, xSeq_eq, seqO_nx, seqO_rt, seqO_bk, seqO_ct, rngI_length, xNext_eq, xAsg_eq, asgQ_s, nxO_s, xAsgO_eq, asgOQ_s, xPar_eq, parQ_s, setQ_s, xAug_eq, xDrop_eq, dropQ_s, xRet_eq, retO_s, xRetN_eq, xBrk_eq, xCt_eq, xIf_eq, ifX_t, ifX_f, ifX_s, Bool.false_eq_true, if_false, if_true, eq_self, Bool.false_or, Bool.or_false, Bool.true_or, Bool.or_true, Bool.true_and, Bool.and_true, Bool.false_and, Bool.and_false, Bool.not_true, Bool.not_false, decide_true, decide_false, xFrz_own, frzE_eq, frzQ_own, frzQ_sh, xFor_eq, forQ_s, xWhile_eq, eVar_eq, varQ_s, bVar_eq, lookQ_s, lookQ_o, lookQ_b, eC_eq, e1_eq, e1Q_s, e2_eq, e2Q_s, eCall_eq, callQ_s, aNil_eq, aCons_eq, consQ_s, eLst_eq, eTup_eq, lstQ0, lstQ1, lstQ2, lstQ3, lstQ4, lstQ8, tupQ2, tupQ3, qB_eq, boolQ_s, qAnd_eq, qOr_eq, qNot_eq, qnotQ_s, eAnd_eq, eOr_eq, eNot_eq, notQ_s, eIf_eq, eChain_eq, andO_bb, andO_t, andO_f, orO_bb, orO_t, orO_f, qandO_bb, qandO_t, qandO_f, qorO_bb, qorO_t, qorO_f, ifO_s, ifO_t, ifO_f, chO_s, ite_int, ite_bl, ite_enc, dIsN_non, dNotN_non, isNon_non, isNon_int, isNon_l, isNon_p, gN_eq, gT_p, eComp_eq, eComp2_eq, stepC_eq, stQ_s, stR_t, stR_f, stR_b, stepM_eq', stMQ_s, stM_t, stM_f, turnF_eq, tnB_s, turnW_eq, tnQ_nx, tnQ_ct, tnQ_bk, tnQ_rt, xApp_eq, xExt_eq, appO_i, extO_l, eScr_eq, scrF_s, eLenScr_eq, scrLen_s, eIxScr_eq, iSq_eq, seqOf_l, seqOf_p, iR1_eq, iR2_eq, r1Of_i, r2Of_i, iEn_eq, enOf_l, eSl_eq, slOf_l, oNo_eq, oSo_eq, soQ_s, tup_ii, tup_ee, tup_ei, tup_ie, enc_int, enc_bool, dAt_p0, dAt_p1, dLen_l, dEq_int, dNe_int, dEq_bl, dNe_bl, dMul_l, dMul_r, dDiv_i, dMod_i, dSub_i, dAdd_i, dAddI_i, dNeg_i, dLt_i, dLe_i, dGt_i, dGe_i, dInt_i, dInt_b, dAbs_i, dMin_i, dMax_i, dGcd_i, fold_list, fold_listF, lst1, lst2, lst1i, lst2i, dSum_l, dAll_l, dAny_l, eLzip_eq, lzQ_l, eDcT_eq, stepD_eq, dEqX_int, dNeX_int, dEqX_bl, dNeX_bl, dEqX_str, dNeX_str, dSortP_l, dEqY_int, dNeY_int, dEqY_bl, dNeY_bl, dEqY_str, dNeY_str, env0_b2, t_len2, t_len3, Int.reduceEq, Int.reduceLT, Int.reduceLE, t_at0, t_at1, t_at2, s_len, xPut_eq, dTuple_l, eMinK_eq, eqA]
    rw [compO_map (f := fun l : Ln Rw => (lenL l : Int)) (by omega) fun l hl => by
      simp (disch := omega) only [List.getElem?_cons_zero, List.getElem?_cons_succ, List.set_cons_zero, List.set_cons_succ, env0_0, env0_1, env0_2, env0_3, env0_4, List.replicate_succ, List.replicate_zero, Nat.reduceSub, wipeE, xSeq_eq, seqO_nx, seqO_rt, seqO_bk, seqO_ct, rngI_length, xNext_eq, xAsg_eq, asgQ_s, nxO_s, xAsgO_eq, asgOQ_s, xPar_eq, parQ_s, setQ_s, xAug_eq, xDrop_eq, dropQ_s, xRet_eq, retO_s, xRetN_eq, xBrk_eq, xCt_eq, xIf_eq, ifX_t, ifX_f, ifX_s, Bool.false_eq_true, if_false, if_true, eq_self, Bool.false_or, Bool.or_false, Bool.true_or, Bool.or_true, Bool.true_and, Bool.and_true, Bool.false_and, Bool.and_false, Bool.not_true, Bool.not_false, decide_true, decide_false, xFrz_own, frzE_eq, frzQ_own, frzQ_sh, xFor_eq, forQ_s, xWhile_eq, eVar_eq, varQ_s, bVar_eq, lookQ_s, lookQ_o, lookQ_b, eC_eq, e1_eq, e1Q_s, e2_eq, e2Q_s, eCall_eq, callQ_s, aNil_eq, aCons_eq, consQ_s, eLst_eq, eTup_eq, lstQ0, lstQ1, lstQ2, lstQ3, lstQ4, lstQ8, tupQ2, tupQ3, qB_eq, boolQ_s, qAnd_eq, qOr_eq, qNot_eq, qnotQ_s, eAnd_eq, eOr_eq, eNot_eq, notQ_s, eIf_eq, eChain_eq, andO_bb, andO_t, andO_f, orO_bb, orO_t, orO_f, qandO_bb, qandO_t, qandO_f, qorO_bb, qorO_t, qorO_f, ifO_s, ifO_t, ifO_f, chO_s, ite_int, ite_bl, ite_enc, dIsN_non, dNotN_non, isNon_non, isNon_int, isNon_l, isNon_p, gN_eq, gT_p, eComp_eq, eComp2_eq, stepC_eq, stQ_s, stR_t, stR_f, stR_b, stepM_eq', stMQ_s, stM_t, stM_f, turnF_eq, tnB_s, turnW_eq, tnQ_nx, tnQ_ct, tnQ_bk, tnQ_rt, xApp_eq, xExt_eq, appO_i, extO_l, eScr_eq, scrF_s, eLenScr_eq, scrLen_s, eIxScr_eq, iSq_eq, seqOf_l, seqOf_p, iR1_eq, iR2_eq, r1Of_i, r2Of_i, iEn_eq, enOf_l, eSl_eq, slOf_l, oNo_eq, oSo_eq, soQ_s, tup_ii, tup_ee, tup_ei, tup_ie, enc_int, enc_bool, dAt_p0, dAt_p1, dLen_l, dEq_int, dNe_int, dEq_bl, dNe_bl, dMul_l, dMul_r, dDiv_i, dMod_i, dSub_i, dAdd_i, dAddI_i, dNeg_i, dLt_i, dLe_i, dGt_i, dGe_i, dInt_i, dInt_b, dAbs_i, dMin_i, dMax_i, dGcd_i, fold_list, fold_listF, lst1, lst2, lst1i, lst2i, dSum_l, dAll_l, dAny_l, eLzip_eq, lzQ_l, eDcT_eq, stepD_eq, dEqX_int, dNeX_int, dEqX_bl, dNeX_bl, dEqX_str, dNeX_str, dSortP_l, dEqY_int, dNeY_int, dEqY_bl, dNeY_bl, dEqY_str, dNeY_str, env0_b2, t_len2, t_len3, Int.reduceEq, Int.reduceLT, Int.reduceLE, t_at0, t_at1, t_at2, s_len, xPut_eq, dTuple_l, eMinK_eq, ev_length (good_line lA hl), len_one]]
    have pos : 0 < (least A).length := List.length_pos_iff.mpr (least_ne neA)
    have ms := mix_lim ds (150 + turn) (least A).length (by omega)
    obtain ⟨spot, hs⟩ : ∃ m : Nat, mixM ds (150 + turn) (least A).length = (m : Int) := ⟨(mixM ds (150 + turn) (least A).length).toNat, by omega⟩
    rw [hs] at ms
    have ls : spot < (least A).length := by omega
    simp (disch := omega) only [List.getElem?_cons_zero, List.getElem?_cons_succ, List.set_cons_zero, List.set_cons_succ, env0_0, env0_1, env0_2, env0_3, env0_4, List.replicate_succ, List.replicate_zero, Nat.reduceSub, wipeE, xSeq_eq, seqO_nx, seqO_rt, seqO_bk, seqO_ct, rngI_length, xNext_eq, xAsg_eq, asgQ_s, nxO_s, xAsgO_eq, asgOQ_s, xPar_eq, parQ_s, setQ_s, xAug_eq, xDrop_eq, dropQ_s, xRet_eq, retO_s, xRetN_eq, xBrk_eq, xCt_eq, xIf_eq, ifX_t, ifX_f, ifX_s, Bool.false_eq_true, if_false, if_true, eq_self, Bool.false_or, Bool.or_false, Bool.true_or, Bool.or_true, Bool.true_and, Bool.and_true, Bool.false_and, Bool.and_false, Bool.not_true, Bool.not_false, decide_true, decide_false, xFrz_own, frzE_eq, frzQ_own, frzQ_sh, xFor_eq, forQ_s, xWhile_eq, eVar_eq, varQ_s, bVar_eq, lookQ_s, lookQ_o, lookQ_b, eC_eq, e1_eq, e1Q_s, e2_eq, e2Q_s, eCall_eq, callQ_s, aNil_eq, aCons_eq, consQ_s, eLst_eq, eTup_eq, lstQ0, lstQ1, lstQ2, lstQ3, lstQ4, lstQ8, tupQ2, tupQ3, qB_eq, boolQ_s, qAnd_eq, qOr_eq, qNot_eq, qnotQ_s, eAnd_eq, eOr_eq, eNot_eq, notQ_s, eIf_eq, eChain_eq, andO_bb, andO_t, andO_f, orO_bb, orO_t, orO_f, qandO_bb, qandO_t, qandO_f, qorO_bb, qorO_t, qorO_f, ifO_s, ifO_t, ifO_f, chO_s, ite_int, ite_bl, ite_enc, dIsN_non, dNotN_non, isNon_non, isNon_int, isNon_l, isNon_p, gN_eq, gT_p, eComp_eq, eComp2_eq, stepC_eq, stQ_s, stR_t, stR_f, stR_b, stepM_eq', stMQ_s, stM_t, stM_f, turnF_eq, tnB_s, turnW_eq, tnQ_nx, tnQ_ct, tnQ_bk, tnQ_rt, xApp_eq, xExt_eq, appO_i, extO_l, eScr_eq, scrF_s, eLenScr_eq, scrLen_s, eIxScr_eq, iSq_eq, seqOf_l, seqOf_p, iR1_eq, iR2_eq, r1Of_i, r2Of_i, iEn_eq, enOf_l, eSl_eq, slOf_l, oNo_eq, oSo_eq, soQ_s, tup_ii, tup_ee, tup_ei, tup_ie, enc_int, enc_bool, dAt_p0, dAt_p1, dLen_l, dEq_int, dNe_int, dEq_bl, dNe_bl, dMul_l, dMul_r, dDiv_i, dMod_i, dSub_i, dAdd_i, dAddI_i, dNeg_i, dLt_i, dLe_i, dGt_i, dGe_i, dInt_i, dInt_b, dAbs_i, dMin_i, dMax_i, dGcd_i, fold_list, fold_listF, lst1, lst2, lst1i, lst2i, dSum_l, dAll_l, dAny_l, eLzip_eq, lzQ_l, eDcT_eq, stepD_eq, dEqX_int, dNeX_int, dEqX_bl, dNeX_bl, dEqX_str, dNeX_str, dSortP_l, dEqY_int, dNeY_int, dEqY_bl, dNeY_bl, dEqY_str, dNeY_str, env0_b2, t_len2, t_len3, Int.reduceEq, Int.reduceLT, Int.reduceLE, t_at0, t_at1, t_at2, s_len, xPut_eq, dTuple_l, eMinK_eq, sum_len, lL, same, ev__law_mix' hd, hs]
    have lastF : ∀ s : Nat, s = ((enI A).filter (sing A)).length → ((decide (((uniqK (keyR A)).length : Int) = (A.length : Int)) && !decide ((L A : Int) = (A.length : Int))) || (decide ((s : Int) = 1) && decide (2 < (L A : Int)))) = false := fun s hs => by
      have := last_ok a1
      subst hs
      have i1 : (((uniqK (keyR A)).length : Int) = (A.length : Int)) = ((uniqK (keyR A)).length = A.length) := propext ⟨fun h => Int.ofNat.inj h, fun h => congrArg Int.ofNat h⟩
      have i2 : ((L A : Int) = (A.length : Int)) = (L A = A.length) := propext ⟨fun h => Int.ofNat.inj h, fun h => congrArg Int.ofNat h⟩
      have i3 : ((((enI A).filter (sing A)).length : Int) = 1) = (((enI A).filter (sing A)).length = 1) := propext ⟨fun h => Int.ofNat.inj h, fun h => congrArg Int.ofNat h⟩
      have i4 : (2 < (L A : Int)) = (2 < L A) := propext ⟨fun h => by omega, fun h => by omega⟩
      simp only [i1, i2, i3, i4]
      exact this
    by_cases many : 1 < ((least A).length : Int)
    · simp (disch := omega) only [List.getElem?_cons_zero, List.getElem?_cons_succ, List.set_cons_zero, List.set_cons_succ, env0_0, env0_1, env0_2, env0_3, env0_4, List.replicate_succ, List.replicate_zero, Nat.reduceSub, wipeE, xSeq_eq, seqO_nx, seqO_rt, seqO_bk, seqO_ct, rngI_length, xNext_eq, xAsg_eq, asgQ_s, nxO_s, xAsgO_eq, asgOQ_s, xPar_eq, parQ_s, setQ_s, xAug_eq, xDrop_eq, dropQ_s, xRet_eq, retO_s, xRetN_eq, xBrk_eq, xCt_eq, xIf_eq, ifX_t, ifX_f, ifX_s, Bool.false_eq_true, if_false, if_true, eq_self, Bool.false_or, Bool.or_false, Bool.true_or, Bool.or_true, Bool.true_and, Bool.and_true, Bool.false_and, Bool.and_false, Bool.not_true, Bool.not_false, decide_true, decide_false, xFrz_own, frzE_eq, frzQ_own, frzQ_sh, xFor_eq, forQ_s, xWhile_eq, eVar_eq, varQ_s, bVar_eq, lookQ_s, lookQ_o, lookQ_b, eC_eq, e1_eq, e1Q_s, e2_eq, e2Q_s, eCall_eq, callQ_s, aNil_eq, aCons_eq, consQ_s, eLst_eq, eTup_eq, lstQ0, lstQ1, lstQ2, lstQ3, lstQ4, lstQ8, tupQ2, tupQ3, qB_eq, boolQ_s, qAnd_eq, qOr_eq, qNot_eq, qnotQ_s, eAnd_eq, eOr_eq, eNot_eq, notQ_s, eIf_eq, eChain_eq, andO_bb, andO_t, andO_f, orO_bb, orO_t, orO_f, qandO_bb, qandO_t, qandO_f, qorO_bb, qorO_t, qorO_f, ifO_s, ifO_t, ifO_f, chO_s, ite_int, ite_bl, ite_enc, dIsN_non, dNotN_non, isNon_non, isNon_int, isNon_l, isNon_p, gN_eq, gT_p, eComp_eq, eComp2_eq, stepC_eq, stQ_s, stR_t, stR_f, stR_b, stepM_eq', stMQ_s, stM_t, stM_f, turnF_eq, tnB_s, turnW_eq, tnQ_nx, tnQ_ct, tnQ_bk, tnQ_rt, xApp_eq, xExt_eq, appO_i, extO_l, eScr_eq, scrF_s, eLenScr_eq, scrLen_s, eIxScr_eq, iSq_eq, seqOf_l, seqOf_p, iR1_eq, iR2_eq, r1Of_i, r2Of_i, iEn_eq, enOf_l, eSl_eq, slOf_l, oNo_eq, oSo_eq, soQ_s, tup_ii, tup_ee, tup_ei, tup_ie, enc_int, enc_bool, dAt_p0, dAt_p1, dLen_l, dEq_int, dNe_int, dEq_bl, dNe_bl, dMul_l, dMul_r, dDiv_i, dMod_i, dSub_i, dAdd_i, dAddI_i, dNeg_i, dLt_i, dLe_i, dGt_i, dGe_i, dInt_i, dInt_b, dAbs_i, dMin_i, dMax_i, dGcd_i, fold_list, fold_listF, lst1, lst2, lst1i, lst2i, dSum_l, dAll_l, dAny_l, eLzip_eq, lzQ_l, eDcT_eq, stepD_eq, dEqX_int, dNeX_int, dEqX_bl, dNeX_bl, dEqX_str, dNeX_str, dSortP_l, dEqY_int, dNeY_int, dEqY_bl, dNeY_bl, dEqY_str, dNeY_str, env0_b2, t_len2, t_len3, Int.reduceEq, Int.reduceLT, Int.reduceLE, t_at0, t_at1, t_at2, s_len, xPut_eq, dTuple_l, eMinK_eq, many]
      rw [nilR, Int.toNat_natCast]
      have evS : ∀ acc : Rows, LV.sh (enc acc) = LV.sh (enc acc) := fun _ => rfl
      rw [show iterF [17] _ _ ((rngI 0 (least A).length).map enc) [LV.scr ns, .sh (enc ds), .sh (.int turn), .sh (.int (L (A ++ B) : Int)), .sh namesD, .sh (enc (least A)), .sh (.int (m : Int)), .sh (enc ((least A).map wrL)), .sh (enc A), .un, .sh (.int (spot : Int)), .un, .sh (enc A), .sh (enc B), .sh (.int (L A : Int)), .sh (.int (L B : Int)), .sh (enc ([] : Rows)), .un, .un, .un] = _ from
        (iterF_steps (α := Int) (S := Rows) (xs := rngI 0 (least A).length) (R := fun acc => [LV.scr ns, .sh (enc ds), .sh (.int turn), .sh (.int (L (A ++ B) : Int)), .sh namesD, .sh (enc (least A)), .sh (.int (m : Int)), .sh (enc ((least A).map wrL)), .sh (enc A), .un, .sh (.int (spot : Int)), .un, .sh (enc A), .sh (enc B), .sh (.int (L A : Int)), .sh (.int (L B : Int)), .sh (enc acc), .un, .un, .un]) (st := strikeF ((least A).map wrL) spot) (P := fun n acc => acc.length ≤ 8 * n) (n := 0) (s := []) (by simp) fun i k hk acc hP => by
          have mk := mem_rngI.mp (List.mem_of_getElem? hk)
          have hi : i < (least A).length := by
            have := (List.getElem?_eq_some_iff.mp hk).1
            rwa [rngI_length] at this
          rw [Nat.zero_add] at hP
          have at1 : dAt (enc ((least A).map wrL)) (.int k) = some (enc (((least A).map wrL).getD k.toNat default)) := dAt_l _ k (by rw [List.length_map]; omega)
          have w3 : (((least A).map wrL).getD k.toNat default).length ≤ 8 := by
            obtain ⟨l, hl, e⟩ := List.mem_map.mp (getD_mem ((least A).map wrL) k.toNat default (by rw [List.length_map]; omega))
            rw [← e]
            have w3 := wr_line hl
            rw [wA] at w3
            omega
          have ad := dAdd_l acc (((least A).map wrL).getD k.toNat default) (by omega)
          unfold strikeF
          by_cases q : k = (spot : Int)
          · rw [if_pos q]
            exact ⟨by simp (disch := omega) only [List.getElem?_cons_zero, List.getElem?_cons_succ, List.set_cons_zero, List.set_cons_succ, env0_0, env0_1, env0_2, env0_3, env0_4, List.replicate_succ, List.replicate_zero, Nat.reduceSub, wipeE, xSeq_eq, seqO_nx, seqO_rt, seqO_bk, seqO_ct, rngI_length, xNext_eq, xAsg_eq, asgQ_s, nxO_s, xAsgO_eq, asgOQ_s, xPar_eq, parQ_s, setQ_s, xAug_eq, xDrop_eq, dropQ_s, xRet_eq, retO_s, xRetN_eq, xBrk_eq, xCt_eq, xIf_eq, ifX_t, ifX_f, ifX_s, Bool.false_eq_true, if_false, if_true, eq_self, Bool.false_or, Bool.or_false, Bool.true_or, Bool.or_true, Bool.true_and, Bool.and_true, Bool.false_and, Bool.and_false, Bool.not_true, Bool.not_false, decide_true, decide_false, xFrz_own, frzE_eq, frzQ_own, frzQ_sh, xFor_eq, forQ_s, xWhile_eq, eVar_eq, varQ_s, bVar_eq, lookQ_s, lookQ_o, lookQ_b, eC_eq, e1_eq, e1Q_s, e2_eq, e2Q_s, eCall_eq, callQ_s, aNil_eq, aCons_eq, consQ_s, eLst_eq, eTup_eq, lstQ0, lstQ1, lstQ2, lstQ3, lstQ4, lstQ8, tupQ2, tupQ3, qB_eq, boolQ_s, qAnd_eq, qOr_eq, qNot_eq, qnotQ_s, eAnd_eq, eOr_eq, eNot_eq, notQ_s, eIf_eq, eChain_eq, andO_bb, andO_t, andO_f, orO_bb, orO_t, orO_f, qandO_bb, qandO_t, qandO_f, qorO_bb, qorO_t, qorO_f, ifO_s, ifO_t, ifO_f, chO_s, ite_int, ite_bl, ite_enc, dIsN_non, dNotN_non, isNon_non, isNon_int, isNon_l, isNon_p, gN_eq, gT_p, eComp_eq, eComp2_eq, stepC_eq, stQ_s, stR_t, stR_f, stR_b, stepM_eq', stMQ_s, stM_t, stM_f, turnF_eq, tnB_s, turnW_eq, tnQ_nx, tnQ_ct, tnQ_bk, tnQ_rt, xApp_eq, xExt_eq, appO_i, extO_l, eScr_eq, scrF_s, eLenScr_eq, scrLen_s, eIxScr_eq, iSq_eq, seqOf_l, seqOf_p, iR1_eq, iR2_eq, r1Of_i, r2Of_i, iEn_eq, enOf_l, eSl_eq, slOf_l, oNo_eq, oSo_eq, soQ_s, tup_ii, tup_ee, tup_ei, tup_ie, enc_int, enc_bool, dAt_p0, dAt_p1, dLen_l, dEq_int, dNe_int, dEq_bl, dNe_bl, dMul_l, dMul_r, dDiv_i, dMod_i, dSub_i, dAdd_i, dAddI_i, dNeg_i, dLt_i, dLe_i, dGt_i, dGe_i, dInt_i, dInt_b, dAbs_i, dMin_i, dMax_i, dGcd_i, fold_list, fold_listF, lst1, lst2, lst1i, lst2i, dSum_l, dAll_l, dAny_l, eLzip_eq, lzQ_l, eDcT_eq, stepD_eq, dEqX_int, dNeX_int, dEqX_bl, dNeX_bl, dEqX_str, dNeX_str, dSortP_l, dEqY_int, dNeY_int, dEqY_bl, dNeY_bl, dEqY_str, dNeY_str, env0_b2, t_len2, t_len3, Int.reduceEq, Int.reduceLT, Int.reduceLE, t_at0, t_at1, t_at2, s_len, xPut_eq, dTuple_l, eMinK_eq, q], by omega⟩
          · rw [if_neg q]
            refine ⟨?_, by rw [List.length_append]; omega⟩
            simp (disch := omega) only [List.getElem?_cons_zero, List.getElem?_cons_succ, List.set_cons_zero, List.set_cons_succ, env0_0, env0_1, env0_2, env0_3, env0_4, List.replicate_succ, List.replicate_zero, Nat.reduceSub, wipeE, xSeq_eq, seqO_nx, seqO_rt, seqO_bk, seqO_ct, rngI_length, xNext_eq, xAsg_eq, asgQ_s, nxO_s, xAsgO_eq, asgOQ_s, xPar_eq, parQ_s, setQ_s, xAug_eq, xDrop_eq, dropQ_s, xRet_eq, retO_s, xRetN_eq, xBrk_eq, xCt_eq, xIf_eq, ifX_t, ifX_f, ifX_s, Bool.false_eq_true, if_false, if_true, eq_self, Bool.false_or, Bool.or_false, Bool.true_or, Bool.or_true, Bool.true_and, Bool.and_true, Bool.false_and, Bool.and_false, Bool.not_true, Bool.not_false, decide_true, decide_false, xFrz_own, frzE_eq, frzQ_own, frzQ_sh, xFor_eq, forQ_s, xWhile_eq, eVar_eq, varQ_s, bVar_eq, lookQ_s, lookQ_o, lookQ_b, eC_eq, e1_eq, e1Q_s, e2_eq, e2Q_s, eCall_eq, callQ_s, aNil_eq, aCons_eq, consQ_s, eLst_eq, eTup_eq, lstQ0, lstQ1, lstQ2, lstQ3, lstQ4, lstQ8, tupQ2, tupQ3, qB_eq, boolQ_s, qAnd_eq, qOr_eq, qNot_eq, qnotQ_s, eAnd_eq, eOr_eq, eNot_eq, notQ_s, eIf_eq, eChain_eq, andO_bb, andO_t, andO_f, orO_bb, orO_t, orO_f, qandO_bb, qandO_t, qandO_f, qorO_bb, qorO_t, qorO_f, ifO_s, ifO_t, ifO_f, chO_s, ite_int, ite_bl, ite_enc, dIsN_non, dNotN_non, isNon_non, isNon_int, isNon_l, isNon_p, gN_eq, gT_p, eComp_eq, eComp2_eq, stepC_eq, stQ_s, stR_t, stR_f, stR_b, stepM_eq', stMQ_s, stM_t, stM_f, turnF_eq, tnB_s, turnW_eq, tnQ_nx, tnQ_ct, tnQ_bk, tnQ_rt, xApp_eq, xExt_eq, appO_i, extO_l, eScr_eq, scrF_s, eLenScr_eq, scrLen_s, eIxScr_eq, iSq_eq, seqOf_l, seqOf_p, iR1_eq, iR2_eq, r1Of_i, r2Of_i, iEn_eq, enOf_l, eSl_eq, slOf_l, oNo_eq, oSo_eq, soQ_s, tup_ii, tup_ee, tup_ei, tup_ie, enc_int, enc_bool, dAt_p0, dAt_p1, dLen_l, dEq_int, dNe_int, dEq_bl, dNe_bl, dMul_l, dMul_r, dDiv_i, dMod_i, dSub_i, dAdd_i, dAddI_i, dNeg_i, dLt_i, dLe_i, dGt_i, dGe_i, dInt_i, dInt_b, dAbs_i, dMin_i, dMax_i, dGcd_i, fold_list, fold_listF, lst1, lst2, lst1i, lst2i, dSum_l, dAll_l, dAny_l, eLzip_eq, lzQ_l, eDcT_eq, stepD_eq, dEqX_int, dNeX_int, dEqX_bl, dNeX_bl, dEqX_str, dNeX_str, dSortP_l, dEqY_int, dNeY_int, dEqY_bl, dNeY_bl, dEqY_str, dNeY_str, env0_b2, t_len2, t_len3, Int.reduceEq, Int.reduceLT, Int.reduceLE, t_at0, t_at1, t_at2, s_len, xPut_eq, dTuple_l, eMinK_eq, q, at1, ad]).1]
      rw [strike_fold ls]
      obtain ⟨sk1, sk2⟩ := L_strike neA ls (by omega)
      have s3 := strike_sub (least A) spot
      rw [wA] at s3
      have gS : goodRows (wrS ((least A).eraseIdx spot)) := ⟨List.length_pos_iff.mpr sk1, by omega⟩
      have gE : goodS ((least A).eraseIdx spot) := ⟨okS_of fun l hl => okS_mem lA.1 l (List.mem_of_mem_eraseIdx hl), by omega⟩
      have c1' := cut_to (least A) (spot : Int) (by omega)
      have c2' := cut_from (least A) ((spot : Int) + 1) (by omega)
      rw [Int.toNat_natCast] at c1'
      rw [show ((spot : Int) + 1).toNat = spot + 1 by omega] at c2'
      have adE := dAdd_l ((least A).take spot) ((least A).drop (spot + 1)) (by rw [List.length_take, List.length_drop]; omega)
      rw [← List.eraseIdx_eq_take_drop_succ] at adE
      have eqE : dNeY (enc (wrS ((least A).eraseIdx spot))) (enc (wrS ((least A).eraseIdx spot))) = some (.bl false) := by
        rw [dNeY_l (by decide), decide_eq_true rfl]; rfl
      have atS : dAt (enc (least A)) (.int (spot : Int)) = some (enc ((least A)[spot])) := by
        rw [dAt_l (least A) spot (by omega), Int.toNat_natCast, List.getD_eq_getElem?_getD, List.getElem?_eq_getElem ls]
        rfl
      have mS : (least A)[spot] ∈ least A := List.getElem_mem ls
      have cS : ((L A : Int) - (lenL ((least A)[spot]) : Int) < (L (wrS ((least A).eraseIdx spot)) : Int)) = False := eq_false (by omega)
      simp (disch := omega) only [List.getElem?_cons_zero, List.getElem?_cons_succ, List.set_cons_zero, List.set_cons_succ, env0_0, env0_1, env0_2, env0_3, env0_4, List.replicate_succ, List.replicate_zero, Nat.reduceSub, wipeE, xSeq_eq, seqO_nx, seqO_rt, seqO_bk, seqO_ct, rngI_length, xNext_eq, xAsg_eq, asgQ_s, nxO_s, xAsgO_eq, asgOQ_s, xPar_eq, parQ_s, setQ_s, xAug_eq, xDrop_eq, dropQ_s, xRet_eq, retO_s, xRetN_eq, xBrk_eq, xCt_eq, xIf_eq, ifX_t, ifX_f, ifX_s, Bool.false_eq_true, if_false, if_true, eq_self, Bool.false_or, Bool.or_false, Bool.true_or, Bool.or_true, Bool.true_and, Bool.and_true, Bool.false_and, Bool.and_false, Bool.not_true, Bool.not_false, decide_true, decide_false, xFrz_own, frzE_eq, frzQ_own, frzQ_sh, xFor_eq, forQ_s, xWhile_eq, eVar_eq, varQ_s, bVar_eq, lookQ_s, lookQ_o, lookQ_b, eC_eq, e1_eq, e1Q_s, e2_eq, e2Q_s, eCall_eq, callQ_s, aNil_eq, aCons_eq, consQ_s, eLst_eq, eTup_eq, lstQ0, lstQ1, lstQ2, lstQ3, lstQ4, lstQ8, tupQ2, tupQ3, qB_eq, boolQ_s, qAnd_eq, qOr_eq, qNot_eq, qnotQ_s, eAnd_eq, eOr_eq, eNot_eq, notQ_s, eIf_eq, eChain_eq, andO_bb, andO_t, andO_f, orO_bb, orO_t, orO_f, qandO_bb, qandO_t, qandO_f, qorO_bb, qorO_t, qorO_f, ifO_s, ifO_t, ifO_f, chO_s, ite_int, ite_bl, ite_enc, dIsN_non, dNotN_non, isNon_non, isNon_int, isNon_l, isNon_p, gN_eq, gT_p, eComp_eq, eComp2_eq, stepC_eq, stQ_s, stR_t, stR_f, stR_b, stepM_eq', stMQ_s, stM_t, stM_f, turnF_eq, tnB_s, turnW_eq, tnQ_nx, tnQ_ct, tnQ_bk, tnQ_rt, xApp_eq, xExt_eq, appO_i, extO_l, eScr_eq, scrF_s, eLenScr_eq, scrLen_s, eIxScr_eq, iSq_eq, seqOf_l, seqOf_p, iR1_eq, iR2_eq, r1Of_i, r2Of_i, iEn_eq, enOf_l, eSl_eq, slOf_l, oNo_eq, oSo_eq, soQ_s, tup_ii, tup_ee, tup_ei, tup_ie, enc_int, enc_bool, dAt_p0, dAt_p1, dLen_l, dEq_int, dNe_int, dEq_bl, dNe_bl, dMul_l, dMul_r, dDiv_i, dMod_i, dSub_i, dAdd_i, dAddI_i, dNeg_i, dLt_i, dLe_i, dGt_i, dGe_i, dInt_i, dInt_b, dAbs_i, dMin_i, dMax_i, dGcd_i, fold_list, fold_listF, lst1, lst2, lst1i, lst2i, dSum_l, dAll_l, dAny_l, eLzip_eq, lzQ_l, eDcT_eq, stepD_eq, dEqX_int, dNeX_int, dEqX_bl, dNeX_bl, dEqX_str, dNeX_str, dSortP_l, dEqY_int, dNeY_int, dEqY_bl, dNeY_bl, dEqY_str, dNeY_str, env0_b2, t_len2, t_len3, Int.reduceEq, Int.reduceLT, Int.reduceLE, t_at0, t_at1, t_at2, s_len, xPut_eq, dTuple_l, eMinK_eq, c1', c2', adE, ev_written gE, eqE, ev_least_script gS, ev_length (good_least gS), lL, atS, ev_length (good_line lA mS), len_one, cS]
      rw [compO_filt (p := sing A) (f := fun p : Int × Rw => p.2) (by unfold enI; rw [List.length_mapIdx]; omega) fun p hp => by
        obtain ⟨m1, m2, m3, m4⟩ := mem_enI hp
        obtain ⟨k, r⟩ := p
        simp only at m1 m2 m3 m4
        unfold sing
        by_cases kz : k = 0
        · simp (disch := omega) only [List.getElem?_cons_zero, List.getElem?_cons_succ, List.set_cons_zero, List.set_cons_succ, env0_0, env0_1, env0_2, env0_3, env0_4, List.replicate_succ, List.replicate_zero, Nat.reduceSub, wipeE, xSeq_eq, seqO_nx, seqO_rt, seqO_bk, seqO_ct, rngI_length, xNext_eq, xAsg_eq, asgQ_s, nxO_s, xAsgO_eq, asgOQ_s, xPar_eq, parQ_s, setQ_s, xAug_eq, xDrop_eq, dropQ_s, xRet_eq, retO_s, xRetN_eq, xBrk_eq, xCt_eq, xIf_eq, ifX_t, ifX_f, ifX_s, Bool.false_eq_true, if_false, if_true, eq_self, Bool.false_or, Bool.or_false, Bool.true_or, Bool.or_true, Bool.true_and, Bool.and_true, Bool.false_and, Bool.and_false, Bool.not_true, Bool.not_false, decide_true, decide_false, xFrz_own, frzE_eq, frzQ_own, frzQ_sh, xFor_eq, forQ_s, xWhile_eq, eVar_eq, varQ_s, bVar_eq, lookQ_s, lookQ_o, lookQ_b, eC_eq, e1_eq, e1Q_s, e2_eq, e2Q_s, eCall_eq, callQ_s, aNil_eq, aCons_eq, consQ_s, eLst_eq, eTup_eq, lstQ0, lstQ1, lstQ2, lstQ3, lstQ4, lstQ8, tupQ2, tupQ3, qB_eq, boolQ_s, qAnd_eq, qOr_eq, qNot_eq, qnotQ_s, eAnd_eq, eOr_eq, eNot_eq, notQ_s, eIf_eq, eChain_eq, andO_bb, andO_t, andO_f, orO_bb, orO_t, orO_f, qandO_bb, qandO_t, qandO_f, qorO_bb, qorO_t, qorO_f, ifO_s, ifO_t, ifO_f, chO_s, ite_int, ite_bl, ite_enc, dIsN_non, dNotN_non, isNon_non, isNon_int, isNon_l, isNon_p, gN_eq, gT_p, eComp_eq, eComp2_eq, stepC_eq, stQ_s, stR_t, stR_f, stR_b, stepM_eq', stMQ_s, stM_t, stM_f, turnF_eq, tnB_s, turnW_eq, tnQ_nx, tnQ_ct, tnQ_bk, tnQ_rt, xApp_eq, xExt_eq, appO_i, extO_l, eScr_eq, scrF_s, eLenScr_eq, scrLen_s, eIxScr_eq, iSq_eq, seqOf_l, seqOf_p, iR1_eq, iR2_eq, r1Of_i, r2Of_i, iEn_eq, enOf_l, eSl_eq, slOf_l, oNo_eq, oSo_eq, soQ_s, tup_ii, tup_ee, tup_ei, tup_ie, enc_int, enc_bool, dAt_p0, dAt_p1, dLen_l, dEq_int, dNe_int, dEq_bl, dNe_bl, dMul_l, dMul_r, dDiv_i, dMod_i, dSub_i, dAdd_i, dAddI_i, dNeg_i, dLt_i, dLe_i, dGt_i, dGe_i, dInt_i, dInt_b, dAbs_i, dMin_i, dMax_i, dGcd_i, fold_list, fold_listF, lst1, lst2, lst1i, lst2i, dSum_l, dAll_l, dAny_l, eLzip_eq, lzQ_l, eDcT_eq, stepD_eq, dEqX_int, dNeX_int, dEqX_bl, dNeX_bl, dEqX_str, dNeX_str, dSortP_l, dEqY_int, dNeY_int, dEqY_bl, dNeY_bl, dEqY_str, dNeY_str, env0_b2, t_len2, t_len3, Int.reduceEq, Int.reduceLT, Int.reduceLE, t_at0, t_at1, t_at2, s_len, xPut_eq, dTuple_l, eMinK_eq, kz]
        · have at1 : dAt (enc A) (.int (k - 1)) = some (enc (A.getD (k - 1).toNat default)) := dAt_l A (k - 1) (by omega)
          have ne1 : dNeY (enc r) (enc (A.getD (k - 1).toNat default)) = some (.bl (!decide (r = A.getD (k - 1).toNat default))) := dNeY_rw _ _
          simp (disch := omega) only [List.getElem?_cons_zero, List.getElem?_cons_succ, List.set_cons_zero, List.set_cons_succ, env0_0, env0_1, env0_2, env0_3, env0_4, List.replicate_succ, List.replicate_zero, Nat.reduceSub, wipeE, xSeq_eq, seqO_nx, seqO_rt, seqO_bk, seqO_ct, rngI_length, xNext_eq, xAsg_eq, asgQ_s, nxO_s, xAsgO_eq, asgOQ_s, xPar_eq, parQ_s, setQ_s, xAug_eq, xDrop_eq, dropQ_s, xRet_eq, retO_s, xRetN_eq, xBrk_eq, xCt_eq, xIf_eq, ifX_t, ifX_f, ifX_s, Bool.false_eq_true, if_false, if_true, eq_self, Bool.false_or, Bool.or_false, Bool.true_or, Bool.or_true, Bool.true_and, Bool.and_true, Bool.false_and, Bool.and_false, Bool.not_true, Bool.not_false, decide_true, decide_false, xFrz_own, frzE_eq, frzQ_own, frzQ_sh, xFor_eq, forQ_s, xWhile_eq, eVar_eq, varQ_s, bVar_eq, lookQ_s, lookQ_o, lookQ_b, eC_eq, e1_eq, e1Q_s, e2_eq, e2Q_s, eCall_eq, callQ_s, aNil_eq, aCons_eq, consQ_s, eLst_eq, eTup_eq, lstQ0, lstQ1, lstQ2, lstQ3, lstQ4, lstQ8, tupQ2, tupQ3, qB_eq, boolQ_s, qAnd_eq, qOr_eq, qNot_eq, qnotQ_s, eAnd_eq, eOr_eq, eNot_eq, notQ_s, eIf_eq, eChain_eq, andO_bb, andO_t, andO_f, orO_bb, orO_t, orO_f, qandO_bb, qandO_t, qandO_f, qorO_bb, qorO_t, qorO_f, ifO_s, ifO_t, ifO_f, chO_s, ite_int, ite_bl, ite_enc, dIsN_non, dNotN_non, isNon_non, isNon_int, isNon_l, isNon_p, gN_eq, gT_p, eComp_eq, eComp2_eq, stepC_eq, stQ_s, stR_t, stR_f, stR_b, stepM_eq', stMQ_s, stM_t, stM_f, turnF_eq, tnB_s, turnW_eq, tnQ_nx, tnQ_ct, tnQ_bk, tnQ_rt, xApp_eq, xExt_eq, appO_i, extO_l, eScr_eq, scrF_s, eLenScr_eq, scrLen_s, eIxScr_eq, iSq_eq, seqOf_l, seqOf_p, iR1_eq, iR2_eq, r1Of_i, r2Of_i, iEn_eq, enOf_l, eSl_eq, slOf_l, oNo_eq, oSo_eq, soQ_s, tup_ii, tup_ee, tup_ei, tup_ie, enc_int, enc_bool, dAt_p0, dAt_p1, dLen_l, dEq_int, dNe_int, dEq_bl, dNe_bl, dMul_l, dMul_r, dDiv_i, dMod_i, dSub_i, dAdd_i, dAddI_i, dNeg_i, dLt_i, dLe_i, dGt_i, dGe_i, dInt_i, dInt_b, dAbs_i, dMin_i, dMax_i, dGcd_i, fold_list, fold_listF, lst1, lst2, lst1i, lst2i, dSum_l, dAll_l, dAny_l, eLzip_eq, lzQ_l, eDcT_eq, stepD_eq, dEqX_int, dNeX_int, dEqX_bl, dNeX_bl, dEqX_str, dNeX_str, dSortP_l, dEqY_int, dNeY_int, dEqY_bl, dNeY_bl, dEqY_str, dNeY_str, env0_b2, t_len2, t_len3, Int.reduceEq, Int.reduceLT, Int.reduceLE, t_at0, t_at1, t_at2, s_len, xPut_eq, dTuple_l, eMinK_eq, kz, at1, ne1]]
      simp (disch := omega) only [List.getElem?_cons_zero, List.getElem?_cons_succ, List.set_cons_zero, List.set_cons_succ, env0_0, env0_1, env0_2, env0_3, env0_4, List.replicate_succ, List.replicate_zero, Nat.reduceSub, wipeE, xSeq_eq, seqO_nx, seqO_rt, seqO_bk, seqO_ct, rngI_length, xNext_eq, xAsg_eq, asgQ_s, nxO_s, xAsgO_eq, asgOQ_s, xPar_eq, parQ_s, setQ_s, xAug_eq, xDrop_eq, dropQ_s, xRet_eq, retO_s, xRetN_eq, xBrk_eq, xCt_eq, xIf_eq, ifX_t, ifX_f, ifX_s, Bool.false_eq_true, if_false, if_true, eq_self, Bool.false_or, Bool.or_false, Bool.true_or, Bool.or_true, Bool.true_and, Bool.and_true, Bool.false_and, Bool.and_false, Bool.not_true, Bool.not_false, decide_true, decide_false, xFrz_own, frzE_eq, frzQ_own, frzQ_sh, xFor_eq, forQ_s, xWhile_eq, eVar_eq, varQ_s, bVar_eq, lookQ_s, lookQ_o, lookQ_b, eC_eq, e1_eq, e1Q_s, e2_eq, e2Q_s, eCall_eq, callQ_s, aNil_eq, aCons_eq, consQ_s, eLst_eq, eTup_eq, lstQ0, lstQ1, lstQ2, lstQ3, lstQ4, lstQ8, tupQ2, tupQ3, qB_eq, boolQ_s, qAnd_eq, qOr_eq, qNot_eq, qnotQ_s, eAnd_eq, eOr_eq, eNot_eq, notQ_s, eIf_eq, eChain_eq, andO_bb, andO_t, andO_f, orO_bb, orO_t, orO_f, qandO_bb, qandO_t, qandO_f, qorO_bb, qorO_t, qorO_f, ifO_s, ifO_t, ifO_f, chO_s, ite_int, ite_bl, ite_enc, dIsN_non, dNotN_non, isNon_non, isNon_int, isNon_l, isNon_p, gN_eq, gT_p, eComp_eq, eComp2_eq, stepC_eq, stQ_s, stR_t, stR_f, stR_b, stepM_eq', stMQ_s, stM_t, stM_f, turnF_eq, tnB_s, turnW_eq, tnQ_nx, tnQ_ct, tnQ_bk, tnQ_rt, xApp_eq, xExt_eq, appO_i, extO_l, eScr_eq, scrF_s, eLenScr_eq, scrLen_s, eIxScr_eq, iSq_eq, seqOf_l, seqOf_p, iR1_eq, iR2_eq, r1Of_i, r2Of_i, iEn_eq, enOf_l, eSl_eq, slOf_l, oNo_eq, oSo_eq, soQ_s, tup_ii, tup_ee, tup_ei, tup_ie, enc_int, enc_bool, dAt_p0, dAt_p1, dLen_l, dEq_int, dNe_int, dEq_bl, dNe_bl, dMul_l, dMul_r, dDiv_i, dMod_i, dSub_i, dAdd_i, dAddI_i, dNeg_i, dLt_i, dLe_i, dGt_i, dGe_i, dInt_i, dInt_b, dAbs_i, dMin_i, dMax_i, dGcd_i, fold_list, fold_listF, lst1, lst2, lst1i, lst2i, dSum_l, dAll_l, dAny_l, eLzip_eq, lzQ_l, eDcT_eq, stepD_eq, dEqX_int, dNeX_int, dEqX_bl, dNeX_bl, dEqX_str, dNeX_str, dSortP_l, dEqY_int, dNeY_int, dEqY_bl, dNeY_bl, dEqY_str, dNeY_str, env0_b2, t_len2, t_len3, Int.reduceEq, Int.reduceLT, Int.reduceLE, t_at0, t_at1, t_at2, s_len, xPut_eq, dTuple_l, eMinK_eq, eLenSet_eq, lsQ_r, lastF _ (List.length_map _)]
    · simp (disch := omega) only [List.getElem?_cons_zero, List.getElem?_cons_succ, List.set_cons_zero, List.set_cons_succ, env0_0, env0_1, env0_2, env0_3, env0_4, List.replicate_succ, List.replicate_zero, Nat.reduceSub, wipeE, xSeq_eq, seqO_nx, seqO_rt, seqO_bk, seqO_ct, rngI_length, xNext_eq, xAsg_eq, asgQ_s, nxO_s, xAsgO_eq, asgOQ_s, xPar_eq, parQ_s, setQ_s, xAug_eq, xDrop_eq, dropQ_s, xRet_eq, retO_s, xRetN_eq, xBrk_eq, xCt_eq, xIf_eq, ifX_t, ifX_f, ifX_s, Bool.false_eq_true, if_false, if_true, eq_self, Bool.false_or, Bool.or_false, Bool.true_or, Bool.or_true, Bool.true_and, Bool.and_true, Bool.false_and, Bool.and_false, Bool.not_true, Bool.not_false, decide_true, decide_false, xFrz_own, frzE_eq, frzQ_own, frzQ_sh, xFor_eq, forQ_s, xWhile_eq, eVar_eq, varQ_s, bVar_eq, lookQ_s, lookQ_o, lookQ_b, eC_eq, e1_eq, e1Q_s, e2_eq, e2Q_s, eCall_eq, callQ_s, aNil_eq, aCons_eq, consQ_s, eLst_eq, eTup_eq, lstQ0, lstQ1, lstQ2, lstQ3, lstQ4, lstQ8, tupQ2, tupQ3, qB_eq, boolQ_s, qAnd_eq, qOr_eq, qNot_eq, qnotQ_s, eAnd_eq, eOr_eq, eNot_eq, notQ_s, eIf_eq, eChain_eq, andO_bb, andO_t, andO_f, orO_bb, orO_t, orO_f, qandO_bb, qandO_t, qandO_f, qorO_bb, qorO_t, qorO_f, ifO_s, ifO_t, ifO_f, chO_s, ite_int, ite_bl, ite_enc, dIsN_non, dNotN_non, isNon_non, isNon_int, isNon_l, isNon_p, gN_eq, gT_p, eComp_eq, eComp2_eq, stepC_eq, stQ_s, stR_t, stR_f, stR_b, stepM_eq', stMQ_s, stM_t, stM_f, turnF_eq, tnB_s, turnW_eq, tnQ_nx, tnQ_ct, tnQ_bk, tnQ_rt, xApp_eq, xExt_eq, appO_i, extO_l, eScr_eq, scrF_s, eLenScr_eq, scrLen_s, eIxScr_eq, iSq_eq, seqOf_l, seqOf_p, iR1_eq, iR2_eq, r1Of_i, r2Of_i, iEn_eq, enOf_l, eSl_eq, slOf_l, oNo_eq, oSo_eq, soQ_s, tup_ii, tup_ee, tup_ei, tup_ie, enc_int, enc_bool, dAt_p0, dAt_p1, dLen_l, dEq_int, dNe_int, dEq_bl, dNe_bl, dMul_l, dMul_r, dDiv_i, dMod_i, dSub_i, dAdd_i, dAddI_i, dNeg_i, dLt_i, dLe_i, dGt_i, dGe_i, dInt_i, dInt_b, dAbs_i, dMin_i, dMax_i, dGcd_i, fold_list, fold_listF, lst1, lst2, lst1i, lst2i, dSum_l, dAll_l, dAny_l, eLzip_eq, lzQ_l, eDcT_eq, stepD_eq, dEqX_int, dNeX_int, dEqX_bl, dNeX_bl, dEqX_str, dNeX_str, dSortP_l, dEqY_int, dNeY_int, dEqY_bl, dNeY_bl, dEqY_str, dNeY_str, env0_b2, t_len2, t_len3, Int.reduceEq, Int.reduceLT, Int.reduceLE, t_at0, t_at1, t_at2, s_len, xPut_eq, dTuple_l, eMinK_eq, many]
      rw [compO_filt (p := sing A) (f := fun p : Int × Rw => p.2) (by unfold enI; rw [List.length_mapIdx]; omega) fun p hp => by
        obtain ⟨m1, m2, m3, m4⟩ := mem_enI hp
        obtain ⟨k, r⟩ := p
        simp only at m1 m2 m3 m4
        unfold sing
        by_cases kz : k = 0
        · simp (disch := omega) only [List.getElem?_cons_zero, List.getElem?_cons_succ, List.set_cons_zero, List.set_cons_succ, env0_0, env0_1, env0_2, env0_3, env0_4, List.replicate_succ, List.replicate_zero, Nat.reduceSub, wipeE, xSeq_eq, seqO_nx, seqO_rt, seqO_bk, seqO_ct, rngI_length, xNext_eq, xAsg_eq, asgQ_s, nxO_s, xAsgO_eq, asgOQ_s, xPar_eq, parQ_s, setQ_s, xAug_eq, xDrop_eq, dropQ_s, xRet_eq, retO_s, xRetN_eq, xBrk_eq, xCt_eq, xIf_eq, ifX_t, ifX_f, ifX_s, Bool.false_eq_true, if_false, if_true, eq_self, Bool.false_or, Bool.or_false, Bool.true_or, Bool.or_true, Bool.true_and, Bool.and_true, Bool.false_and, Bool.and_false, Bool.not_true, Bool.not_false, decide_true, decide_false, xFrz_own, frzE_eq, frzQ_own, frzQ_sh, xFor_eq, forQ_s, xWhile_eq, eVar_eq, varQ_s, bVar_eq, lookQ_s, lookQ_o, lookQ_b, eC_eq, e1_eq, e1Q_s, e2_eq, e2Q_s, eCall_eq, callQ_s, aNil_eq, aCons_eq, consQ_s, eLst_eq, eTup_eq, lstQ0, lstQ1, lstQ2, lstQ3, lstQ4, lstQ8, tupQ2, tupQ3, qB_eq, boolQ_s, qAnd_eq, qOr_eq, qNot_eq, qnotQ_s, eAnd_eq, eOr_eq, eNot_eq, notQ_s, eIf_eq, eChain_eq, andO_bb, andO_t, andO_f, orO_bb, orO_t, orO_f, qandO_bb, qandO_t, qandO_f, qorO_bb, qorO_t, qorO_f, ifO_s, ifO_t, ifO_f, chO_s, ite_int, ite_bl, ite_enc, dIsN_non, dNotN_non, isNon_non, isNon_int, isNon_l, isNon_p, gN_eq, gT_p, eComp_eq, eComp2_eq, stepC_eq, stQ_s, stR_t, stR_f, stR_b, stepM_eq', stMQ_s, stM_t, stM_f, turnF_eq, tnB_s, turnW_eq, tnQ_nx, tnQ_ct, tnQ_bk, tnQ_rt, xApp_eq, xExt_eq, appO_i, extO_l, eScr_eq, scrF_s, eLenScr_eq, scrLen_s, eIxScr_eq, iSq_eq, seqOf_l, seqOf_p, iR1_eq, iR2_eq, r1Of_i, r2Of_i, iEn_eq, enOf_l, eSl_eq, slOf_l, oNo_eq, oSo_eq, soQ_s, tup_ii, tup_ee, tup_ei, tup_ie, enc_int, enc_bool, dAt_p0, dAt_p1, dLen_l, dEq_int, dNe_int, dEq_bl, dNe_bl, dMul_l, dMul_r, dDiv_i, dMod_i, dSub_i, dAdd_i, dAddI_i, dNeg_i, dLt_i, dLe_i, dGt_i, dGe_i, dInt_i, dInt_b, dAbs_i, dMin_i, dMax_i, dGcd_i, fold_list, fold_listF, lst1, lst2, lst1i, lst2i, dSum_l, dAll_l, dAny_l, eLzip_eq, lzQ_l, eDcT_eq, stepD_eq, dEqX_int, dNeX_int, dEqX_bl, dNeX_bl, dEqX_str, dNeX_str, dSortP_l, dEqY_int, dNeY_int, dEqY_bl, dNeY_bl, dEqY_str, dNeY_str, env0_b2, t_len2, t_len3, Int.reduceEq, Int.reduceLT, Int.reduceLE, t_at0, t_at1, t_at2, s_len, xPut_eq, dTuple_l, eMinK_eq, kz]
        · have at1 : dAt (enc A) (.int (k - 1)) = some (enc (A.getD (k - 1).toNat default)) := dAt_l A (k - 1) (by omega)
          have ne1 : dNeY (enc r) (enc (A.getD (k - 1).toNat default)) = some (.bl (!decide (r = A.getD (k - 1).toNat default))) := dNeY_rw _ _
          simp (disch := omega) only [List.getElem?_cons_zero, List.getElem?_cons_succ, List.set_cons_zero, List.set_cons_succ, env0_0, env0_1, env0_2, env0_3, env0_4, List.replicate_succ, List.replicate_zero, Nat.reduceSub, wipeE, xSeq_eq, seqO_nx, seqO_rt, seqO_bk, seqO_ct, rngI_length, xNext_eq, xAsg_eq, asgQ_s, nxO_s, xAsgO_eq, asgOQ_s, xPar_eq, parQ_s, setQ_s, xAug_eq, xDrop_eq, dropQ_s, xRet_eq, retO_s, xRetN_eq, xBrk_eq, xCt_eq, xIf_eq, ifX_t, ifX_f, ifX_s, Bool.false_eq_true, if_false, if_true, eq_self, Bool.false_or, Bool.or_false, Bool.true_or, Bool.or_true, Bool.true_and, Bool.and_true, Bool.false_and, Bool.and_false, Bool.not_true, Bool.not_false, decide_true, decide_false, xFrz_own, frzE_eq, frzQ_own, frzQ_sh, xFor_eq, forQ_s, xWhile_eq, eVar_eq, varQ_s, bVar_eq, lookQ_s, lookQ_o, lookQ_b, eC_eq, e1_eq, e1Q_s, e2_eq, e2Q_s, eCall_eq, callQ_s, aNil_eq, aCons_eq, consQ_s, eLst_eq, eTup_eq, lstQ0, lstQ1, lstQ2, lstQ3, lstQ4, lstQ8, tupQ2, tupQ3, qB_eq, boolQ_s, qAnd_eq, qOr_eq, qNot_eq, qnotQ_s, eAnd_eq, eOr_eq, eNot_eq, notQ_s, eIf_eq, eChain_eq, andO_bb, andO_t, andO_f, orO_bb, orO_t, orO_f, qandO_bb, qandO_t, qandO_f, qorO_bb, qorO_t, qorO_f, ifO_s, ifO_t, ifO_f, chO_s, ite_int, ite_bl, ite_enc, dIsN_non, dNotN_non, isNon_non, isNon_int, isNon_l, isNon_p, gN_eq, gT_p, eComp_eq, eComp2_eq, stepC_eq, stQ_s, stR_t, stR_f, stR_b, stepM_eq', stMQ_s, stM_t, stM_f, turnF_eq, tnB_s, turnW_eq, tnQ_nx, tnQ_ct, tnQ_bk, tnQ_rt, xApp_eq, xExt_eq, appO_i, extO_l, eScr_eq, scrF_s, eLenScr_eq, scrLen_s, eIxScr_eq, iSq_eq, seqOf_l, seqOf_p, iR1_eq, iR2_eq, r1Of_i, r2Of_i, iEn_eq, enOf_l, eSl_eq, slOf_l, oNo_eq, oSo_eq, soQ_s, tup_ii, tup_ee, tup_ei, tup_ie, enc_int, enc_bool, dAt_p0, dAt_p1, dLen_l, dEq_int, dNe_int, dEq_bl, dNe_bl, dMul_l, dMul_r, dDiv_i, dMod_i, dSub_i, dAdd_i, dAddI_i, dNeg_i, dLt_i, dLe_i, dGt_i, dGe_i, dInt_i, dInt_b, dAbs_i, dMin_i, dMax_i, dGcd_i, fold_list, fold_listF, lst1, lst2, lst1i, lst2i, dSum_l, dAll_l, dAny_l, eLzip_eq, lzQ_l, eDcT_eq, stepD_eq, dEqX_int, dNeX_int, dEqX_bl, dNeX_bl, dEqX_str, dNeX_str, dSortP_l, dEqY_int, dNeY_int, dEqY_bl, dNeY_bl, dEqY_str, dNeY_str, env0_b2, t_len2, t_len3, Int.reduceEq, Int.reduceLT, Int.reduceLE, t_at0, t_at1, t_at2, s_len, xPut_eq, dTuple_l, eMinK_eq, kz, at1, ne1]]
      simp (disch := omega) only [List.getElem?_cons_zero, List.getElem?_cons_succ, List.set_cons_zero, List.set_cons_succ, env0_0, env0_1, env0_2, env0_3, env0_4, List.replicate_succ, List.replicate_zero, Nat.reduceSub, wipeE, xSeq_eq, seqO_nx, seqO_rt, seqO_bk, seqO_ct, rngI_length, xNext_eq, xAsg_eq, asgQ_s, nxO_s, xAsgO_eq, asgOQ_s, xPar_eq, parQ_s, setQ_s, xAug_eq, xDrop_eq, dropQ_s, xRet_eq, retO_s, xRetN_eq, xBrk_eq, xCt_eq, xIf_eq, ifX_t, ifX_f, ifX_s, Bool.false_eq_true, if_false, if_true, eq_self, Bool.false_or, Bool.or_false, Bool.true_or, Bool.or_true, Bool.true_and, Bool.and_true, Bool.false_and, Bool.and_false, Bool.not_true, Bool.not_false, decide_true, decide_false, xFrz_own, frzE_eq, frzQ_own, frzQ_sh, xFor_eq, forQ_s, xWhile_eq, eVar_eq, varQ_s, bVar_eq, lookQ_s, lookQ_o, lookQ_b, eC_eq, e1_eq, e1Q_s, e2_eq, e2Q_s, eCall_eq, callQ_s, aNil_eq, aCons_eq, consQ_s, eLst_eq, eTup_eq, lstQ0, lstQ1, lstQ2, lstQ3, lstQ4, lstQ8, tupQ2, tupQ3, qB_eq, boolQ_s, qAnd_eq, qOr_eq, qNot_eq, qnotQ_s, eAnd_eq, eOr_eq, eNot_eq, notQ_s, eIf_eq, eChain_eq, andO_bb, andO_t, andO_f, orO_bb, orO_t, orO_f, qandO_bb, qandO_t, qandO_f, qorO_bb, qorO_t, qorO_f, ifO_s, ifO_t, ifO_f, chO_s, ite_int, ite_bl, ite_enc, dIsN_non, dNotN_non, isNon_non, isNon_int, isNon_l, isNon_p, gN_eq, gT_p, eComp_eq, eComp2_eq, stepC_eq, stQ_s, stR_t, stR_f, stR_b, stepM_eq', stMQ_s, stM_t, stM_f, turnF_eq, tnB_s, turnW_eq, tnQ_nx, tnQ_ct, tnQ_bk, tnQ_rt, xApp_eq, xExt_eq, appO_i, extO_l, eScr_eq, scrF_s, eLenScr_eq, scrLen_s, eIxScr_eq, iSq_eq, seqOf_l, seqOf_p, iR1_eq, iR2_eq, r1Of_i, r2Of_i, iEn_eq, enOf_l, eSl_eq, slOf_l, oNo_eq, oSo_eq, soQ_s, tup_ii, tup_ee, tup_ei, tup_ie, enc_int, enc_bool, dAt_p0, dAt_p1, dLen_l, dEq_int, dNe_int, dEq_bl, dNe_bl, dMul_l, dMul_r, dDiv_i, dMod_i, dSub_i, dAdd_i, dAddI_i, dNeg_i, dLt_i, dLe_i, dGt_i, dGe_i, dInt_i, dInt_b, dAbs_i, dMin_i, dMax_i, dGcd_i, fold_list, fold_listF, lst1, lst2, lst1i, lst2i, dSum_l, dAll_l, dAny_l, eLzip_eq, lzQ_l, eDcT_eq, stepD_eq, dEqX_int, dNeX_int, dEqX_bl, dNeX_bl, dEqX_str, dNeX_str, dSortP_l, dEqY_int, dNeY_int, dEqY_bl, dNeY_bl, dEqY_str, dNeY_str, env0_b2, t_len2, t_len3, Int.reduceEq, Int.reduceLT, Int.reduceLE, t_at0, t_at1, t_at2, s_len, xPut_eq, dTuple_l, eMinK_eq, eLenSet_eq, lsQ_r, lastF _ (List.length_map _)]]
  simp (disch := omega) only [List.getElem?_cons_zero, List.getElem?_cons_succ, List.set_cons_zero, List.set_cons_succ, env0_0, env0_1, env0_2, env0_3, env0_4, List.replicate_succ, List.replicate_zero, Nat.reduceSub, wipeE, xSeq_eq, seqO_nx, seqO_rt, seqO_bk, seqO_ct, rngI_length, xNext_eq, xAsg_eq, asgQ_s, nxO_s, xAsgO_eq, asgOQ_s, xPar_eq, parQ_s, setQ_s, xAug_eq, xDrop_eq, dropQ_s, xRet_eq, retO_s, xRetN_eq, xBrk_eq, xCt_eq, xIf_eq, ifX_t, ifX_f, ifX_s, Bool.false_eq_true, if_false, if_true, eq_self, Bool.false_or, Bool.or_false, Bool.true_or, Bool.or_true, Bool.true_and, Bool.and_true, Bool.false_and, Bool.and_false, Bool.not_true, Bool.not_false, decide_true, decide_false, xFrz_own, frzE_eq, frzQ_own, frzQ_sh, xFor_eq, forQ_s, xWhile_eq, eVar_eq, varQ_s, bVar_eq, lookQ_s, lookQ_o, lookQ_b, eC_eq, e1_eq, e1Q_s, e2_eq, e2Q_s, eCall_eq, callQ_s, aNil_eq, aCons_eq, consQ_s, eLst_eq, eTup_eq, lstQ0, lstQ1, lstQ2, lstQ3, lstQ4, lstQ8, tupQ2, tupQ3, qB_eq, boolQ_s, qAnd_eq, qOr_eq, qNot_eq, qnotQ_s, eAnd_eq, eOr_eq, eNot_eq, notQ_s, eIf_eq, eChain_eq, andO_bb, andO_t, andO_f, orO_bb, orO_t, orO_f, qandO_bb, qandO_t, qandO_f, qorO_bb, qorO_t, qorO_f, ifO_s, ifO_t, ifO_f, chO_s, ite_int, ite_bl, ite_enc, dIsN_non, dNotN_non, isNon_non, isNon_int, isNon_l, isNon_p, gN_eq, gT_p, eComp_eq, eComp2_eq, stepC_eq, stQ_s, stR_t, stR_f, stR_b, stepM_eq', stMQ_s, stM_t, stM_f, turnF_eq, tnB_s, turnW_eq, tnQ_nx, tnQ_ct, tnQ_bk, tnQ_rt, xApp_eq, xExt_eq, appO_i, extO_l, eScr_eq, scrF_s, eLenScr_eq, scrLen_s, eIxScr_eq, iSq_eq, seqOf_l, seqOf_p, iR1_eq, iR2_eq, r1Of_i, r2Of_i, iEn_eq, enOf_l, eSl_eq, slOf_l, oNo_eq, oSo_eq, soQ_s, tup_ii, tup_ee, tup_ei, tup_ie, enc_int, enc_bool, dAt_p0, dAt_p1, dLen_l, dEq_int, dNe_int, dEq_bl, dNe_bl, dMul_l, dMul_r, dDiv_i, dMod_i, dSub_i, dAdd_i, dAddI_i, dNeg_i, dLt_i, dLe_i, dGt_i, dGe_i, dInt_i, dInt_b, dAbs_i, dMin_i, dMax_i, dGcd_i, fold_list, fold_listF, lst1, lst2, lst1i, lst2i, dSum_l, dAll_l, dAny_l, eLzip_eq, lzQ_l, eDcT_eq, stepD_eq, dEqX_int, dNeX_int, dEqX_bl, dNeX_bl, dEqX_str, dNeX_str, dSortP_l, dEqY_int, dNeY_int, dEqY_bl, dNeY_bl, dEqY_str, dNeY_str, env0_b2, t_len2, t_len3, Int.reduceEq, Int.reduceLT, Int.reduceLE, t_at0, t_at1, t_at2, s_len, xPut_eq, dTuple_l, eMinK_eq]
end P66
namespace P66
open PySem PySem.Spec PyProof.Rows L2 DL
theorem all_mk {l : PySem.W.OpenLaw} {w : World} {K : PySem.W.Frag} {mg : Str → Option Value} {fa : Addr} (M : Mg mg) (hfa : mg "law" = some (.ref fa))
    (D_is_row : DefAt K mg "is_row" s_is_row)
    (D_check_rows : DefAt K mg "check_rows" s_check_rows)
    (D_is_line : DefAt K mg "is_line" s_is_line)
    (D_rows_in : DefAt K mg "rows_in" s_rows_in)
    (D_check_script : DefAt K mg "check_script" s_check_script)
    (D_written_by : DefAt K mg "written_by" s_written_by)
    (D_written : DefAt K mg "written" s_written)
    (D_length_of : DefAt K mg "length_of" s_length_of)
    (D_length : DefAt K mg "length" s_length)
    (D_best_for : DefAt K mg "best_for" s_best_for)
    (D_copied : DefAt K mg "copied" s_copied)
    (D_least_script : DefAt K mg "least_script" s_least_script)
    (D__law_draws : DefAt K mg "_law_draws" s__law_draws)
    (D__law_mix : DefAt K mg "_law_mix" s__law_mix)
    (D__law_rows : DefAt K mg "_law_rows" s__law_rows)
    (D__law_exchanged : DefAt K mg "_law_exchanged" s__law_exchanged)
    (D__law_sum : DefAt K mg "_law_sum" s__law_sum)
    (D_law : DefAt K mg "law" s_law)
    : ∃ fd : FuncData, (∀ (s : Shared) (v : Value), BindsTo s fd ⟨[v], []⟩ [("script", v)]) ∧ ∀ base : Heap, K.In base → base.Ns mainGlobals mg → FnOk l.prog w K mg base CX0 11 fa fd ["script"] (DL.spS K F_law) := by
  obtain ⟨f, fd, F, m⟩ := D_law
  cases hfa.symm.trans m
  have F2 := F
  obtain ⟨⟨oc, od, kV, doc, pm, an, cdv, ct, osl, e, lk, hcd⟩, kp⟩ := F
  refine ⟨fd, fun s v => ?_, fun base _ _ => ?_⟩
  · rw [e]; exact .of_eq rfl
  have H_is_row := c_is_row (P := l.prog) (w := w) (base := base) M D_is_row h_is_row
  have H__law_draws := c__law_draws (P := l.prog) (w := w) (base := base) M D__law_draws h__law_draws
  have H__law_mix := c__law_mix (P := l.prog) (w := w) (base := base) M D__law_mix h__law_mix
  have H__law_exchanged := c__law_exchanged (P := l.prog) (w := w) (base := base) M D__law_exchanged h__law_exchanged
  have H_check_rows := c_check_rows (P := l.prog) (w := w) (base := base) M H_is_row D_check_rows h_check_rows
  have H__law_rows := c__law_rows (P := l.prog) (w := w) (base := base) M H__law_mix D__law_rows h__law_rows
  have H_rows_in := c_rows_in (P := l.prog) (w := w) (base := base) M D_rows_in (Fr := R_rows_in) (fun _ => rfl) hx_rows_in 5
  have H_written_by := c_written_by (P := l.prog) (w := w) (base := base) M D_written_by (Fr := R_written_by) (fun _ => rfl) hx_written_by 5
  have H_length_of := c_length_of (P := l.prog) (w := w) (base := base) M D_length_of (Fr := R_length_of) (fun _ => rfl) hx_length_of 5
  have H_copied := c_copied (P := l.prog) (w := w) (base := base) M D_copied (Fr := R_copied) (fun _ => rfl) hx_copied 5
  have H_is_line := c_is_line (P := l.prog) (w := w) (base := base) M H_is_row D_is_line (Fr := R_is_line) (fun _ => rfl) hx_is_line 5
  have H_check_script := c_check_script (P := l.prog) (w := w) (base := base) M H_is_line H_rows_in D_check_script h_check_script
  have H_best_for := c_best_for (P := l.prog) (w := w) (base := base) M H_length_of D_best_for h_best_for
  have H_written := c_written (P := l.prog) (w := w) (base := base) M H_check_script H_written_by D_written h_written
  have H_length := c_length (P := l.prog) (w := w) (base := base) M H_check_script H_length_of D_length h_length
  have H_least_script := c_least_script (P := l.prog) (w := w) (base := base) M H_check_rows H_best_for H_copied D_least_script h_least_script
  have H__law_sum := c__law_sum (P := l.prog) (w := w) (base := base) M H_written D__law_sum h__law_sum
  exact fn_okS F2 sc_law (by decide) h_law (b_law M H__law_draws H__law_rows H_least_script H_length H__law_exchanged H__law_mix H_written H__law_sum _)
end P66
open PySem PySem.W PyProof.Rows
theorem DL.defAt {K : PySem.W.Frag} {h : Heap} {mg : Str → Option Value} (X : K.In h) (G : h.Ns mainGlobals mg) {x : Str} {st : Stmt} {f : Addr} {oc : Value} {od an : Option Addr} {osl : Array (Option Value)} {kV doc pm cdv ct : Value}
    (a : PySem.W.nsIn K mainGlobals x = some (some (.ref f))) (l : K.lookup f = some ⟨oc, od, .func (PySem.W.fnOf x x (L2.defArgs st) (L2.defBody st) (L2.defScope st) .none kV doc pm an cdv ct), osl⟩) (c : PySem.W.codeIn K cdv x = true) (k : PySem.W.keepIn K (.ref f) = true) : DL.DefAt K mg x st :=
  ⟨f, _, L2.fun_mk l c k, PySem.W.mg_of X G a⟩
theorem DL.spLaw_ok {K : PySem.W.Frag} {F : List Int → Option DL.D} (hF : ∀ ns, F ns = some (.bl true)) {H : L2.Hp} {a : Addr} {ns : List Int} (hS : L2.SqL K H a (ns.map L2.V.int)) : DL.spS K F [.ref a] H (fun v _ => v = .bl true) fun _ _ _ => False :=
  ⟨fun _ => none, a, ns, .bl true, (fun _ _ q => nomatch q), rfl, hS, hF ns, (fun v G H2 _ r => by cases r; rfl)⟩
set_option maxHeartbeats 0 in
theorem PySem.Challenge.cw_printstack_k66_whole_scripts_put_togethe_holds : PySem.Challenge.rw_printstack_k66_whole_scripts_put_togethe.Holds := by
  w_on; o_law; k_head; (case hw => w_witness2)
  k_fill
  refine L2.walk_of (l := PySem.Challenge.rw_printstack_k66_whole_scripts_put_togethe) (n := 63) (k := 11) (x := "script") (CX := fun _ => L2.CX0) (sp := fun w => DL.spS _ P66.F_law) rfl (by decide) rfl ⟨rfl, by decide, by decide⟩ (fun w h Y => PySem.W.kIn_of Y) ?F (fun _ _ a ns hl _ hS => DL.spLaw_ok (fun _ => rfl) hS) (fun _ _ _ _ _ h => h)
  case F =>
    intro w mg fa h KX G hmg
    have z_abs : mg "abs" = none := PySem.W.mg_none_of KX G (by k_is)
    have z_all : mg "all" = none := PySem.W.mg_none_of KX G (by k_is)
    have z_dict : mg "dict" = none := PySem.W.mg_none_of KX G (by k_is)
    have z_enumerate : mg "enumerate" = none := PySem.W.mg_none_of KX G (by k_is)
    have z_int : mg "int" = none := PySem.W.mg_none_of KX G (by k_is)
    have z_len : mg "len" = none := PySem.W.mg_none_of KX G (by k_is)
    have z_min : mg "min" = none := PySem.W.mg_none_of KX G (by k_is)
    have z_range : mg "range" = none := PySem.W.mg_none_of KX G (by k_is)
    have z_set : mg "set" = none := PySem.W.mg_none_of KX G (by k_is)
    have z_sum : mg "sum" = none := PySem.W.mg_none_of KX G (by k_is)
    have z_tuple : mg "tuple" = none := PySem.W.mg_none_of KX G (by k_is)
    have y_MOST_DEEP : ∃ t, mg "MOST_DEEP" = some (.int (4) t) := ⟨_, PySem.W.mg_of KX G (by k_is)⟩
    have y_MOST_ROWS : ∃ t, mg "MOST_ROWS" = some (.int (16) t) := ⟨_, PySem.W.mg_of KX G (by k_is)⟩
    have y_MOST_WRITTEN : ∃ t, mg "MOST_WRITTEN" = some (.int (300) t) := ⟨_, PySem.W.mg_of KX G (by k_is)⟩
    refine' P66.all_mk ?facts hmg ?D_is_row ?D_check_rows ?D_is_line ?D_rows_in ?D_check_script ?D_written_by ?D_written ?D_length_of ?D_length ?D_best_for ?D_copied ?D_least_script ?D__law_draws ?D__law_mix ?D__law_rows ?D__law_exchanged ?D__law_sum ?D_law
    (case facts =>
      refine' { abs := z_abs, all := z_all, dict := z_dict, enumerate := z_enumerate, int := z_int, len := z_len, min := z_min, range := z_range, set := z_set, sum := z_sum, tuple := z_tuple, c_MOST_DEEP := y_MOST_DEEP, c_MOST_ROWS := y_MOST_ROWS, c_MOST_WRITTEN := y_MOST_WRITTEN })
    (case D_is_row => (refine' DL.defAt KX G ?a_is_row ?l_is_row ?c_is_row ?k_is_row; (case a_is_row => k_is); (case l_is_row => k_is); (case c_is_row => k_is); (case k_is_row => k_is)))
    (case D_check_rows => (refine' DL.defAt KX G ?a_check_rows ?l_check_rows ?c_check_rows ?k_check_rows; (case a_check_rows => k_is); (case l_check_rows => k_is); (case c_check_rows => k_is); (case k_check_rows => k_is)))
    (case D_is_line => (refine' DL.defAt KX G ?a_is_line ?l_is_line ?c_is_line ?k_is_line; (case a_is_line => k_is); (case l_is_line => k_is); (case c_is_line => k_is); (case k_is_line => k_is)))
    (case D_rows_in => (refine' DL.defAt KX G ?a_rows_in ?l_rows_in ?c_rows_in ?k_rows_in; (case a_rows_in => k_is); (case l_rows_in => k_is); (case c_rows_in => k_is); (case k_rows_in => k_is)))
    (case D_check_script => (refine' DL.defAt KX G ?a_check_script ?l_check_script ?c_check_script ?k_check_script; (case a_check_script => k_is); (case l_check_script => k_is); (case c_check_script => k_is); (case k_check_script => k_is)))
    (case D_written_by => (refine' DL.defAt KX G ?a_written_by ?l_written_by ?c_written_by ?k_written_by; (case a_written_by => k_is); (case l_written_by => k_is); (case c_written_by => k_is); (case k_written_by => k_is)))
    (case D_written => (refine' DL.defAt KX G ?a_written ?l_written ?c_written ?k_written; (case a_written => k_is); (case l_written => k_is); (case c_written => k_is); (case k_written => k_is)))
    (case D_length_of => (refine' DL.defAt KX G ?a_length_of ?l_length_of ?c_length_of ?k_length_of; (case a_length_of => k_is); (case l_length_of => k_is); (case c_length_of => k_is); (case k_length_of => k_is)))
    (case D_length => (refine' DL.defAt KX G ?a_length ?l_length ?c_length ?k_length; (case a_length => k_is); (case l_length => k_is); (case c_length => k_is); (case k_length => k_is)))
    (case D_best_for => (refine' DL.defAt KX G ?a_best_for ?l_best_for ?c_best_for ?k_best_for; (case a_best_for => k_is); (case l_best_for => k_is); (case c_best_for => k_is); (case k_best_for => k_is)))
    (case D_copied => (refine' DL.defAt KX G ?a_copied ?l_copied ?c_copied ?k_copied; (case a_copied => k_is); (case l_copied => k_is); (case c_copied => k_is); (case k_copied => k_is)))
    (case D_least_script => (refine' DL.defAt KX G ?a_least_script ?l_least_script ?c_least_script ?k_least_script; (case a_least_script => k_is); (case l_least_script => k_is); (case c_least_script => k_is); (case k_least_script => k_is)))
    (case D__law_draws => (refine' DL.defAt KX G ?a__law_draws ?l__law_draws ?c__law_draws ?k__law_draws; (case a__law_draws => k_is); (case l__law_draws => k_is); (case c__law_draws => k_is); (case k__law_draws => k_is)))
    (case D__law_mix => (refine' DL.defAt KX G ?a__law_mix ?l__law_mix ?c__law_mix ?k__law_mix; (case a__law_mix => k_is); (case l__law_mix => k_is); (case c__law_mix => k_is); (case k__law_mix => k_is)))
    (case D__law_rows => (refine' DL.defAt KX G ?a__law_rows ?l__law_rows ?c__law_rows ?k__law_rows; (case a__law_rows => k_is); (case l__law_rows => k_is); (case c__law_rows => k_is); (case k__law_rows => k_is)))
    (case D__law_exchanged => (refine' DL.defAt KX G ?a__law_exchanged ?l__law_exchanged ?c__law_exchanged ?k__law_exchanged; (case a__law_exchanged => k_is); (case l__law_exchanged => k_is); (case c__law_exchanged => k_is); (case k__law_exchanged => k_is)))
    (case D__law_sum => (refine' DL.defAt KX G ?a__law_sum ?l__law_sum ?c__law_sum ?k__law_sum; (case a__law_sum => k_is); (case l__law_sum => k_is); (case c__law_sum => k_is); (case k__law_sum => k_is)))
    (case D_law => (refine' DL.defAt KX G ?a_law ?l_law ?c_law ?k_law; (case a_law => k_is); (case l_law => k_is); (case c_law => k_is); (case k_law => k_is)))
