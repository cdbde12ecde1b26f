import PyProof.Rows.All
import Wide.All
import OpenK.AllK
import Wide.FinOn
import HandS.ForMost
import HandS.Exc
import HandS.TryOnly
import HandS.ExcOwn
import HandS.WordsExc
import HandS.IsInst
import HandS.DictComp
import HandS.Conv
import HandS.Zip
import HandS.NoneIn
import HandS.TupAny
import HandS.Star
import HandS.Flow
import HandS.Strs
import HandS.More
import HandS.Small
import HandS.ExcBuiltin
import HandS.ExcValue
import KE.SortData
import KE.KDictItemsList
import KE.KDictZip
import KE.GoesEnum
import HandS.ExcIs
import PySem.Challenge.RW_anylatency_k11_whole_ticks_without_an_is
set_option Elab.async false
set_option linter.all false
set_option maxRecDepth 100000
set_option maxHeartbeats 4000000
/-! K11Base: data in the heap, and what an expression gives, whatever stands. -/
namespace K11
open PySem PySem.Spec PyProof.Rows L2

/-! ### G: what is known and stands; H: all that stands; G2, H2: the same, later -/
structure Gx (G H G2 H2 : Hp) : Prop where
  g : Same G G2
  i : Same G2 H2
  h : Same H H2
  f : ∀ a o, G2 a = some o → G a = none → H a = none

theorem same_new {H : Hp} {p : Addr} {o : HO} (h : H p = none) : Same H (upd H p o) := fun b u q => by
  rw [upd_ne (ne_of_none q h)]; exact q
/-- what G doesn't know may change -/
theorem same_mut {G H : Hp} {p : Addr} {o : HO} (e : Same G H) (h : G p = none) : Same G (upd H p o) := fun b u q => by
  rw [upd_ne (ne_of_none q h)]; exact e b u q
theorem same_upd2 {G H : Hp} {p : Addr} {o : HO} (e : Same G H) (h : G p = none) : Same (upd G p o) (upd H p o) := fun b u q => by
  by_cases c : b = p
  · subst c; rw [upd_same] at q ⊢; exact q
  · rw [upd_ne c] at q ⊢; exact e b u q

variable {G H H1 H2 H3 G1 G2 G3 : Hp}
theorem Gx.refl (e : Same G H) : Gx G H G H := ⟨Same.refl _, e, Same.refl _, fun a o h1 h2 => by rw [h2] at h1; cases h1⟩
/-- H grew, nothing more is known -/
theorem Gx.grow (e : Same G H) (h : Same H H2) : Gx G H G H2 := ⟨Same.refl _, e.trans h, h, fun a o h1 h2 => by rw [h2] at h1; cases h1⟩
theorem Gx.trans (a : Gx G H G1 H1) (b : Gx G1 H1 G2 H2) : Gx G H G2 H2 := by
  refine ⟨a.g.trans b.g, b.i, a.h.trans b.h, fun x o h1 h2 => ?_⟩
  cases q : G1 x with
  | none =>
    have n := b.f x o h1 q
    exact a.h.free n
  | some u => exact a.f x u q h2
theorem Gx.new {p : Addr} {o : HO} (e : Same G H) (hp : H p = none) : Gx G H (upd G p o) (upd H p o) := by
  have gp : G p = none := e.free hp
  refine ⟨same_new gp, same_upd2 e gp, same_new hp, fun x u h1 h2 => ?_⟩
  by_cases c : x = p
  · subst c; exact hp
  · rw [upd_ne c, h2] at h1; cases h1
theorem Gx.pre (a : Gx G H1 G2 H2) (e : Same G H) (h : Same H H1) : Gx G H G2 H2 :=
  ⟨a.g, a.i, h.trans a.h, fun x o h1 h2 => h.free (a.f x o h1 h2)⟩
theorem Gx.post (a : Gx G H G2 H1) (h : Same H1 H2) : Gx G H G2 H2 := ⟨a.g, a.i.trans h, a.h.trans h, a.f⟩
/-- what wasn't known and stood is not known now -/
theorem Gx.out (a : Gx G H G2 H2) {p : Addr} {o : HO} (hg : G p = none) (hp : H p = some o) : G2 p = none := by
  cases q : G2 p with
  | none => rfl
  | some u =>
    have n := a.f p u q hg
    rw [hp] at n; cases n

/-! ### data -/
/-- a tuple that is known (perhaps its very object, and that this has no dict) -/
def Tp (G : Hp) (a : Addr) (xs : List V) : Prop := G a = some (.tup xs) ∨ ∃ o : Obj, G a = some (.frz o (.tup xs)) ∧ o.dict = none
theorem Tp.of {a : Addr} {xs : List V} (h : G a = some (.tup xs)) : Tp G a xs := .inl h
theorem Tp.up {a : Addr} {xs : List V} (h : Tp G a xs) (e : Same G G2) : Tp G2 a xs := by
  rcases h with h | ⟨o, h, z⟩
  · exact .inl (e _ _ h)
  · exact .inr ⟨o, e _ _ h, z⟩
theorem Tp.sq {K : PySem.W.Frag} {a : Addr} {xs : List V} (h : Tp G a xs) : SqT K G a xs := by
  rcases h with h | ⟨o, h, _⟩
  · exact .inl (.inl h)
  · exact .inl (.inr ⟨o, h⟩)
mutual
/-- v is the datum d, by what G knows -/
inductive Rp (G : Hp) : V → PyData → Prop
  | non : Rp G .non .none
  | bl (b : Bool) : Rp G (.bl b) (.bool b)
  | int (i : Int) : Rp G (.int i) (.int i)
  | str (x : Str) : Rp G (.str x) (.str x)
  | lst {a : Addr} {xs : List V} {ds : List PyData} : G a = some (.lst xs) → Rps G xs ds → Rp G (.ref a) (.list ds)
  | tup {a : Addr} {xs : List V} {ds : List PyData} : Tp G a xs → Rps G xs ds → Rp G (.ref a) (.tuple ds)
inductive Rps (G : Hp) : List V → List PyData → Prop
  | nil : Rps G [] []
  | cons {v : V} {vs : List V} {d : PyData} {ds : List PyData} : Rp G v d → Rps G vs ds → Rps G (v :: vs) (d :: ds)
end
mutual
theorem Rp.mo (e : Same G G2) : ∀ (d : PyData) (v : V), Rp G v d → Rp G2 v d
  | .none, _, .non => .non
  | .bool _, _, .bl b => .bl b
  | .int _, _, .int i => .int i
  | .str _, _, .str x => .str x
  | .list ds, _, .lst h r => .lst (e _ _ h) (Rps.mo e ds _ r)
  | .tuple ds, _, .tup h r => .tup (h.up e) (Rps.mo e ds _ r)
theorem Rps.mo (e : Same G G2) : ∀ (ds : List PyData) (vs : List V), Rps G vs ds → Rps G2 vs ds
  | [], _, .nil => .nil
  | d :: ds, _, .cons h r => .cons (Rp.mo e d _ h) (Rps.mo e ds _ r)
end
theorem Rp.up {v : V} {d : PyData} (h : Rp G v d) (e : Same G G2) : Rp G2 v d := Rp.mo e d v h
theorem Rps.up {vs : List V} {ds : List PyData} (h : Rps G vs ds) (e : Same G G2) : Rps G2 vs ds := Rps.mo e ds vs h
mutual
theorem Rp.dp {K : PySem.W.Frag} : ∀ (d : PyData) (v : V), Rp G v d → Dp K G v d
  | .none, _, .non => .non
  | .bool _, _, .bl b => .bl b
  | .int _, _, .int i => .int i
  | .str _, _, .str x => .str x
  | .list ds, _, .lst h r => .lst (SqL.of h) (Rps.dp ds _ r)
  | .tuple ds, _, .tup h r => .tup h.sq (Rps.dp ds _ r)
theorem Rps.dp {K : PySem.W.Frag} : ∀ (ds : List PyData) (vs : List V), Rps G vs ds → DpAll K G vs ds
  | [], _, .nil => .nil
  | d :: ds, _, .cons h r => .cons (Rp.dp d _ h) (Rps.dp ds _ r)
end
theorem Rps.len : ∀ {ds : List PyData} {vs : List V}, Rps G vs ds → vs.length = ds.length
  | [], _, .nil => rfl
  | d :: ds, _, .cons h r => by rw [List.length_cons, List.length_cons, Rps.len r]
theorem Rps.get : ∀ {ds : List PyData} {vs : List V} {i : Nat} {d : PyData}, Rps G vs ds → ds[i]? = some d → ∃ v, vs[i]? = some v ∧ Rp G v d
  | _, _, _, _, .nil, e => by simp at e
  | _, _, 0, _, .cons h r, e => by simp at e; subst e; exact ⟨_, by simp, h⟩
  | _, _, i + 1, _, .cons h r, e => by
    obtain ⟨v, q, z⟩ := Rps.get (i := i) r (by simpa using e)
    exact ⟨v, by simpa using q, z⟩
theorem Rps.getV : ∀ {ds : List PyData} {vs : List V} {i : Nat} {v : V}, Rps G vs ds → vs[i]? = some v → ∃ d, ds[i]? = some d ∧ Rp G v d
  | _, _, _, _, .nil, e => by simp at e
  | _, _, 0, _, .cons h r, e => by simp at e; subst e; exact ⟨_, by simp, h⟩
  | _, _, i + 1, _, .cons h r, e => by
    obtain ⟨v, q, z⟩ := Rps.getV (i := i) r (by simpa using e)
    exact ⟨v, by simpa using q, z⟩
theorem Rps.app : ∀ {ds es : List PyData} {vs us : List V}, Rps G vs ds → Rps G us es → Rps G (vs ++ us) (ds ++ es)
  | _, _, _, _, .nil, s => s
  | _, _, _, _, .cons h r, s => .cons h (Rps.app r s)
theorem Rps.snoc {ds : List PyData} {vs : List V} {d : PyData} {v : V} (r : Rps G vs ds) (h : Rp G v d) : Rps G (vs ++ [v]) (ds ++ [d]) := Rps.app r (.cons h .nil)
theorem Rps.tk : ∀ (n : Nat) {ds : List PyData} {vs : List V}, Rps G vs ds → Rps G (vs.take n) (ds.take n)
  | 0, _, _, _ => .nil
  | _ + 1, _, _, .nil => .nil
  | n + 1, _, _, .cons h r => .cons h (Rps.tk n r)
theorem Rps.dr : ∀ (n : Nat) {ds : List PyData} {vs : List V}, Rps G vs ds → Rps G (vs.drop n) (ds.drop n)
  | 0, _, _, r => r
  | _ + 1, _, _, .nil => .nil
  | n + 1, _, _, .cons _ r => Rps.dr n r
theorem Rps.strs : ∀ {ss : List Str} {vs : List V}, Rps G vs (ss.map .str) → vs = ss.map V.str
  | [], _, .nil => rfl
  | s :: ss, _, .cons h r => by
    cases h
    rw [Rps.strs r]; rfl
theorem Rps.ofStrs : ∀ (ss : List Str), Rps G (ss.map V.str) (ss.map .str)
  | [] => .nil
  | s :: ss => .cons (.str s) (Rps.ofStrs ss)
theorem Rps.ints : ∀ {ss : List Int} {vs : List V}, Rps G vs (ss.map .int) → vs = ss.map V.int
  | [], _, .nil => rfl
  | s :: ss, _, .cons h r => by
    cases h
    rw [Rps.ints r]; rfl
theorem Rps.ofInts : ∀ (ss : List Int), Rps G (ss.map V.int) (ss.map .int)
  | [] => .nil
  | s :: ss => .cons (.int s) (Rps.ofInts ss)
theorem Rps.bools : ∀ {ss : List Bool} {vs : List V}, Rps G vs (ss.map .bool) → vs = ss.map V.bl
  | [], _, .nil => rfl
  | s :: ss, _, .cons h r => by
    cases h
    rw [Rps.bools r]; rfl
theorem Rps.ofBools : ∀ (ss : List Bool), Rps G (ss.map V.bl) (ss.map .bool)
  | [] => .nil
  | s :: ss => .cons (.bl s) (Rps.ofBools ss)
theorem Rp.isInt {v : V} {i : Int} (h : Rp G v (.int i)) : v = .int i := by cases h; rfl
theorem Rp.isStr {v : V} {s : Str} (h : Rp G v (.str s)) : v = .str s := by cases h; rfl
theorem Rp.isBool {v : V} {b : Bool} (h : Rp G v (.bool b)) : v = .bl b := by cases h; rfl
theorem Rp.isNone {v : V} (h : Rp G v .none) : v = .non := by cases h; rfl
theorem Rp.isList {v : V} {ds : List PyData} (h : Rp G v (.list ds)) : ∃ a xs, v = .ref a ∧ G a = some (.lst xs) ∧ Rps G xs ds := by
  cases h with
  | lst h r => exact ⟨_, _, rfl, h, r⟩
theorem Rp.isTup {v : V} {ds : List PyData} (h : Rp G v (.tuple ds)) : ∃ a xs, v = .ref a ∧ Tp G a xs ∧ Rps G xs ds := by
  cases h with
  | tup h r => exact ⟨_, _, rfl, h, r⟩

/-! ### both of two things known -/
def uni (A B : Hp) : Hp := fun a => match A a with | some o => some o | none => B a
theorem uni_l (A B : Hp) : Same A (uni A B) := fun a o h => by unfold uni; rw [h]
theorem uni_r {A B C : Hp} (a : Same A C) (b : Same B C) : Same B (uni A B) := fun x o h => by
  unfold uni
  cases q : A x with
  | none => exact h
  | some u => exact (a x u q).symm.trans (b x o h)
theorem uni_i {A B C : Hp} (a : Same A C) (b : Same B C) : Same (uni A B) C := fun x o h => by
  unfold uni at h
  cases q : A x with
  | none => rw [q] at h; exact b x o h
  | some u => rw [q] at h; cases h; exact a x _ q
/-- more was known at the start -/
theorem Gx.more (x : Gx G H G2 H2) (e : Same G G1) (i : Same G1 H) : Gx G1 H (uni G1 G2) H2 ∧ Same G2 (uni G1 G2) := by
  have i2 : Same G1 H2 := i.trans x.h
  refine ⟨⟨uni_l _ _, uni_i i2 x.i, x.h, fun a o h n => ?_⟩, uni_r i2 x.i⟩
  unfold uni at h
  rw [n] at h
  refine x.f a o h ?_
  exact e.free n

/-! ### what an expression gives -/
def EvD (te : TE) (σ : L2.St) (G : Hp) (d : PyData) : Prop := ∀ H, Same G H → ∀ Q : VK, (∀ v G2 H2, Gx G H G2 H2 → Rp G2 v d → Q v H2) → te σ H Q
def EvS (ta : TA) (σ : L2.St) (G : Hp) (ds : List PyData) : Prop := ∀ H, Same G H → ∀ Q : List V → Hp → Prop, (∀ vs G2 H2, Gx G H G2 H2 → Rps G2 vs ds → Q vs H2) → ta σ H Q
def EvB (tt : TT) (σ : L2.St) (G : Hp) (b : Bool) : Prop := ∀ H, Same G H → ∀ Q : Bool → Hp → Prop, (∀ H2, Same H H2 → Q b H2) → tt σ H Q
section
variable {σ : L2.St} {te ta tb tc : TE} {d e f : PyData} {tt tu : TT} {b : Bool} {ts : TA} {ds : List PyData} {v : V}
theorem EvD.up (h : EvD te σ G d) (e : Same G G1) : EvD te σ G1 d := fun H i Q q => h H (e.trans i) Q fun v G2 H2 x r => by
  obtain ⟨y, z⟩ := x.more e i
  exact q v _ H2 y (r.up z)
theorem EvS.up (h : EvS ts σ G ds) (e : Same G G1) : EvS ts σ G1 ds := fun H i Q q => h H (e.trans i) Q fun v G2 H2 x r => by
  obtain ⟨y, z⟩ := x.more e i
  exact q v _ H2 y (r.up z)
theorem EvB.up (h : EvB tt σ G b) (e : Same G G1) : EvB tt σ G1 b := fun H i Q q => h H (e.trans i) Q q
theorem ev_var {i : Nat} (h : σ[i]? = some (some v)) (r : Rp G v d) : EvD (tVar i) σ G d := fun H e Q q => ⟨v, h, q v G H (Gx.refl e) r⟩
theorem ev_c (r : ∀ G, Rp G v d) : EvD (tC v) σ G d := fun H e Q q => q v G H (Gx.refl e) (r G)
theorem ev_int {i : Int} : EvD (tC (.int i)) σ G (.int i) := ev_c fun _ => .int i
theorem ev_str {i : Str} : EvD (tC (.str i)) σ G (.str i) := ev_c fun _ => .str i
theorem ev_bl {i : Bool} : EvD (tC (.bl i)) σ G (.bool i) := ev_c fun _ => .bl i
theorem ev_non : EvD (tC .non) σ G .none := ev_c fun _ => .non
theorem es_nil : EvS tNil σ G [] := fun H e Q q => q [] G H (Gx.refl e) .nil
theorem es_cons (h : EvD te σ G d) (r : EvS ts σ G ds) : EvS (tCons te ts) σ G (d :: ds) := fun H e Q q =>
  h H e _ fun v G2 H2 x rv => (r.up x.g) H2 x.i _ fun vs G3 H3 y rs => q _ G3 H3 (x.trans y) (.cons (rv.up y.g) rs)
theorem ev_tup (h : EvS ts σ G ds) (z : ds.length ≤ 100000) : EvD (tTup ts) σ G (.tuple ds) := fun H e Q q =>
  h H e _ fun vs G2 H2 x r => ⟨by rw [r.len]; exact Nat.le_trans z (by decide), fun p hp => q _ _ _ (x.trans (Gx.new x.i hp)) (.tup (.of upd_same) (r.up (same_new (x.i.free hp))))⟩
theorem ev_lst (h : EvS ts σ G ds) (z : ds.length ≤ 100000) : EvD (tLst ts) σ G (.list ds) := fun H e Q q =>
  h H e _ fun vs G2 H2 x r => ⟨by rw [r.len]; exact Nat.le_trans z (by decide), fun p hp => q _ _ _ (x.trans (Gx.new x.i hp)) (.lst upd_same (r.up (same_new (x.i.free hp))))⟩
/-- an operation on data -/
def OpD (r : R2) (d e f : PyData) : Prop := ∀ G H x y, Same G H → Rp G x d → Rp G y e → ∀ Q : VK, (∀ z G2 H2, Gx G H G2 H2 → Rp G2 z f → Q z H2) → r x y H Q
theorem ev_op {r : R2} (ha : EvD ta σ G d) (hb : EvD tb σ G e) (hr : OpD r d e f) : EvD (tOp r ta tb) σ G f := fun H i Q q =>
  ha H i _ fun x G2 H2 x2 r2 => (hb.up x2.g) H2 x2.i _ fun y G3 H3 x3 r3 => hr G3 H3 x y x3.i (r2.up x3.g) r3 Q fun z G4 H4 x4 r4 => q z G4 H4 ((x2.trans x3).trans x4) r4
def UnD (r : V → Hp → VK → Prop) (d f : PyData) : Prop := ∀ G H x, Same G H → Rp G x d → ∀ Q : VK, (∀ z G2 H2, Gx G H G2 H2 → Rp G2 z f → Q z H2) → r x H Q
theorem ev_un {r : V → Hp → VK → Prop} (ha : EvD ta σ G d) (hr : UnD r d f) : EvD (tUn r ta) σ G f := fun H i Q q =>
  ha H i _ fun x G2 H2 x2 r2 => hr G2 H2 x x2.i r2 Q fun z G4 H4 x4 r4 => q z G4 H4 (x2.trans x4) r4
def CaD (r : List V → Hp → VK → Prop) (ds : List PyData) (f : PyData) : Prop := ∀ G H xs, Same G H → Rps G xs ds → ∀ Q : VK, (∀ z G2 H2, Gx G H G2 H2 → Rp G2 z f → Q z H2) → r xs H Q
theorem ev_cb {r : List V → Hp → VK → Prop} (ha : EvS ts σ G ds) (hr : CaD r ds f) : EvD (tCB r ts) σ G f := fun H i Q q =>
  ha H i _ fun x G2 H2 x2 r2 => hr G2 H2 x x2.i r2 Q fun z G4 H4 x4 r4 => q z G4 H4 (x2.trans x4) r4
/-- a promise on data -/
def SpD (n : Nat) (R : List PyData → PyData → Prop) : Sp := fun vs H Q _ => ∃ G ds f, vs.length = n ∧ Same G H ∧ Rps G vs ds ∧ R ds f ∧ ∀ v G2 H2, Gx G H G2 H2 → Rp G2 v f → Q v H2
theorem SpD.len {n : Nat} {R : List PyData → PyData → Prop} {vs : List V} {H : Hp} {Q : VK} {E : XK} (h : SpD n R vs H Q E) : vs.length = n := by
  obtain ⟨_, _, _, h, _⟩ := h
  exact h
theorem ev_call {n : Nat} {R : List PyData → PyData → Prop} {E : XK} (ha : EvS ts σ G ds) (hr : R ds f) (hn : ds.length = n) : EvD (tCall (SpD n R) [] E ts) σ G f := fun H i Q q =>
  ha H i _ fun xs G2 H2 x2 r2 => ⟨G2, ds, f, by rw [List.append_nil, r2.len, hn], x2.i, by rw [List.append_nil]; exact r2, hr, fun v G3 H3 x3 r3 => q v G3 H3 (x2.trans x3) r3⟩
theorem ev_if {b : Bool} (h : EvB tt σ G b) (h1 : b = true → EvD ta σ G d) (h2 : b = false → EvD tb σ G d) : EvD (tIf tt ta tb) σ G d := fun H i Q q => h H i _ fun H2 s => by
  cases b with
  | true => exact h1 rfl H2 (i.trans s) Q fun v G3 H3 x r => q v G3 H3 (x.pre i s) r
  | false => exact h2 rfl H2 (i.trans s) Q fun v G3 H3 x r => q v G3 H3 (x.pre i s) r
theorem eb_test (h : EvD te σ G (.bool b)) : EvB (tTest te) σ G b := fun H i Q q => h H i _ fun v G2 H2 x r => ⟨b, r.isBool, q H2 x.h⟩
theorem eb_B (h : EvD te σ G (.bool b)) : EvB (tB te) σ G b := fun H i Q q => h H i _ fun v G2 H2 x r => ⟨b, r.isBool, q H2 x.h⟩
theorem eb_and {a : Bool} (h1 : EvB tt σ G a) (h2 : a = true → EvB tu σ G b) : EvB (tAnd tt tu) σ G (a && b) := fun H i Q q => h1 H i _ fun H2 s => by
  cases a with
  | true => exact h2 rfl H2 (i.trans s) Q fun H3 s3 => q H3 (s.trans s3)
  | false => exact q H2 s
theorem eb_or {a : Bool} (h1 : EvB tt σ G a) (h2 : a = false → EvB tu σ G b) : EvB (tOr tt tu) σ G (a || b) := fun H i Q q => h1 H i _ fun H2 s => by
  cases a with
  | true => exact q H2 s
  | false => exact h2 rfl H2 (i.trans s) Q fun H3 s3 => q H3 (s.trans s3)
theorem eb_not {a : Bool} (h1 : EvB tt σ G a) : EvB (tNot tt) σ G (!a) := fun H i Q q => h1 H i _ fun H2 s => q H2 s
theorem eb_is {a : Bool} (h : EvB tt σ G a) (e : a = b) : EvB tt σ G b := e ▸ h
theorem ev_is (h : EvD te σ G d) (e : d = f) : EvD te σ G f := e ▸ h
theorem ev_andV {a : Bool} (h1 : EvD ta σ G (.bool a)) (h2 : a = true → EvD tb σ G (.bool b)) : EvD (tAndV ta tb) σ G (.bool (a && b)) := fun H i Q q => h1 H i _ fun v G2 H2 x r => ⟨a, r.isBool, by
  cases a with
  | true => exact h2 rfl H2 (i.trans x.h) Q fun v G3 H3 y r => q v G3 H3 (y.pre i x.h) r
  | false => exact q (.bl false) G2 H2 x (.bl false)⟩
theorem ev_orV {a : Bool} (h1 : EvD ta σ G (.bool a)) (h2 : a = false → EvD tb σ G (.bool b)) : EvD (tOrV ta tb) σ G (.bool (a || b)) := fun H i Q q => h1 H i _ fun v G2 H2 x r => ⟨a, r.isBool, by
  cases a with
  | true => exact q (.bl true) G2 H2 x (.bl true)
  | false => exact h2 rfl H2 (i.trans x.h) Q fun v G3 H3 y r => q v G3 H3 (y.pre i x.h) r⟩
theorem ev_notV {a : Bool} (h1 : EvD ta σ G (.bool a)) : EvD (tNotV ta) σ G (.bool (!a)) := fun H i Q q => h1 H i _ fun v G2 H2 x r => ⟨a, r.isBool, q _ G2 H2 x (.bl _)⟩
end
end K11
set_option Elab.async false
set_option linter.all false
set_option maxRecDepth 100000
set_option maxHeartbeats 4000000
/-! K11Ev: what is walked, comprehensions, loops. -/
set_option autoImplicit false
namespace K11
open PySem PySem.Spec PyProof.Rows L2 RZ
variable {K : PySem.W.Frag} {G H H1 H2 H3 G1 G2 G3 : Hp} {σ : L2.St} {te ta tb tc : TE} {d e f : PyData} {tt tu : TT} {b : Bool} {ts : TA} {ds : List PyData} {v : V}
/-- an iterator that yields these data -/
structure Wk (J : It) (G : Hp) (ds : List PyData) : Prop where
  go : ∀ i H, Same G H → i < ds.length → J.go i H
  stop : ∀ H, Same G H → J.stop ds.length H
  yld : ∀ i H x H', Same G H → i < ds.length → J.yld i H x H' → ∃ d, ds[i]? = some d ∧ ∃ G2, Gx G H G2 H' ∧ Rp G2 x d
theorem Wk.up {J : It} (w : Wk J G ds) (e : Same G G1) : Wk J G1 ds := by
  refine ⟨fun i H s h => w.go i H (e.trans s) h, fun H s => w.stop H (e.trans s), fun i H x H' s hi y => ?_⟩
  obtain ⟨d, hd, G2, gx, r⟩ := w.yld i H x H' (e.trans s) hi y
  obtain ⟨p, q⟩ := gx.more e s
  exact ⟨d, hd, _, p, r.up q⟩
def EvI (wi : TI) (σ : L2.St) (G : Hp) (ds : List PyData) : Prop := ∀ H, Same G H → ∀ R : It → Hp → Prop, (∀ J G2 H2, Gx G H G2 H2 → Wk J G2 ds → R J H2) → wi σ H R
theorem EvI.up {wi : TI} (h : EvI wi σ G ds) (e : Same G G1) : EvI wi σ G1 ds := fun H i Q q => h H (e.trans i) Q fun v G2 H2 x r => by
  obtain ⟨y, z⟩ := x.more e i
  exact q v _ H2 y (r.up z)

theorem wk_list {a : Addr} {xs : List V} (h : G a = some (.lst xs)) (r : Rps G xs ds) : Wk (Itl K a) G ds := by
  refine ⟨fun i H s hi => ⟨xs, xs[i]'(by rw [r.len]; exact hi), .of (s _ _ h), by simp [r.len, hi]⟩, fun H s => ⟨xs, .of (s _ _ h), by rw [r.len]; exact Nat.le_refl _⟩, fun i H x H' s hi y => ?_⟩
  obtain ⟨e, y⟩ := y
  subst e
  obtain ⟨d, hd, rd⟩ := r.getV (y xs (.of (s _ _ h)))
  exact ⟨d, hd, G, Gx.refl s, rd⟩
theorem wk_tup {a : Addr} {xs : List V} (h : Tp G a xs) (r : Rps G xs ds) : Wk (Itt K a) G ds := by
  refine ⟨fun i H s hi => ⟨xs, xs[i]'(by rw [r.len]; exact hi), (h.up s).sq, by simp [r.len, hi]⟩, fun H s => ⟨xs, (h.up s).sq, by rw [r.len]; exact Nat.le_refl _⟩, fun i H x H' s hi y => ?_⟩
  obtain ⟨e, y⟩ := y
  subst e
  obtain ⟨d, hd, rd⟩ := r.getV (y xs ((h.up s).sq))
  exact ⟨d, hd, G, Gx.refl s, rd⟩
def ivs (lo : Int) (n : Nat) : List Int := (List.range n).map fun (i : Nat) => lo + (i : Int)
theorem ivs_len (lo : Int) (n : Nat) : (ivs lo n).length = n := by unfold ivs; rw [List.length_map, List.length_range]
theorem ivs_get {lo : Int} {n i : Nat} (h : i < n) : (ivs lo n)[i]? = some (lo + (i : Int)) := by
  unfold ivs; rw [List.getElem?_map, List.getElem?_range h]; rfl
theorem wk_rng (lo : Int) (n : Nat) : Wk (Itr lo n) G ((ivs lo n).map .int) := by
  refine ⟨fun i H s hi => ?_, fun H s => ?_, fun i H x H' s hi y => ?_⟩
  · rw [List.length_map, ivs_len] at hi; exact hi
  · rw [List.length_map, ivs_len]; exact Nat.le_refl _
  · rw [List.length_map, ivs_len] at hi
    obtain ⟨e, y⟩ := y
    subst e y
    exact ⟨.int (lo + (i : Int)), by rw [List.getElem?_map, ivs_get hi]; rfl, G, Gx.refl s, .int _⟩
theorem wk_str (x : Str) : Wk (Its x) G (x.cps.toList.map fun c => .str ⟨#[c]⟩) := by
  refine ⟨fun i H s hi => ?_, fun H s => ?_, fun i H v H' s hi y => ?_⟩
  · rw [List.length_map, Array.length_toList] at hi; exact hi
  · rw [List.length_map, Array.length_toList]; exact Nat.le_refl _
  · obtain ⟨e, c, hc, y⟩ := y
    subst e y
    exact ⟨.str ⟨#[c]⟩, by rw [List.getElem?_map, Array.getElem?_toList, hc]; rfl, G, Gx.refl s, .str _⟩
/-- the numbers and the items -/
def enumD (k : Nat) : List PyData → List PyData
  | [] => []
  | d :: ds => .tuple [.int (k : Int), d] :: enumD (k + 1) ds
theorem enumD_len : ∀ (ds : List PyData) (k : Nat), (enumD k ds).length = ds.length
  | [], _ => rfl
  | d :: ds, k => by show (enumD (k + 1) ds).length + 1 = _; rw [enumD_len ds]; rfl
theorem enumD_get : ∀ (ds : List PyData) (k i : Nat) (d : PyData), ds[i]? = some d → (enumD k ds)[i]? = some (.tuple [.int ((k + i : Nat) : Int), d])
  | [], _, _, _, h => by simp at h
  | d :: ds, k, 0, x, h => by
    have e : d = x := by simpa using h
    subst e; rfl
  | d :: ds, k, i + 1, x, h => by
    have q := enumD_get ds (k + 1) i x (by simpa using h)
    show (enumD (k + 1) ds)[i]? = _
    rw [q, show k + 1 + i = k + (i + 1) by omega]
theorem new2 {x y : V} {d e : PyData} {T : Addr} (s : Same G H) (hT : H T = none) (rx : Rp G x d) (ry : Rp G y e) : Rp (upd G T (.tup [x, y])) (.ref T) (.tuple [d, e]) :=
  .tup (.of upd_same) (.cons (rx.up (same_new (s.free hT))) (.cons (ry.up (same_new (s.free hT))) .nil))
theorem wk_enum {a : Addr} {xs : List V} (h : G a = some (.lst xs)) (r : Rps G xs ds) : Wk (Ite K a) G (enumD 0 ds) := by
  refine ⟨fun i H s hi => ?_, fun H s => ?_, fun i H v H' s hi y => ?_⟩
  · rw [enumD_len] at hi
    exact ⟨xs, xs[i]'(by rw [r.len]; exact hi), .of (s _ _ h), by simp [r.len, hi]⟩
  · rw [enumD_len]
    exact ⟨xs, .of (s _ _ h), by rw [r.len]; exact Nat.le_refl _⟩
  · obtain ⟨T, x, rfl, hT, rfl, y⟩ := y
    obtain ⟨d, hd, rd⟩ := r.getV (y xs (.of (s _ _ h)))
    refine ⟨_, enumD_get ds 0 i d hd, _, Gx.new s hT, ?_⟩
    rw [Nat.zero_add]
    exact new2 s hT (.int _) rd
def zipD : List PyData → List PyData → List PyData
  | d :: ds, e :: es => .tuple [d, e] :: zipD ds es
  | _, _ => []
theorem zipD_len : ∀ (ds es : List PyData), (zipD ds es).length = min ds.length es.length
  | [], es => by simp [zipD]
  | d :: ds, [] => by simp [zipD]
  | d :: ds, e :: es => by
    show (zipD ds es).length + 1 = _
    rw [zipD_len ds es, List.length_cons, List.length_cons]; omega
theorem zipD_get : ∀ (ds es : List PyData) (i : Nat) (d e : PyData), ds[i]? = some d → es[i]? = some e → (zipD ds es)[i]? = some (.tuple [d, e])
  | [], _, _, _, _, h, _ => by simp at h
  | d :: ds, [], _, _, _, _, h => by simp at h
  | d :: ds, e :: es, 0, x, y, h, h' => by
    have e1 : d = x := by simpa using h
    have e2 : e = y := by simpa using h'
    subst e1 e2; rfl
  | d :: ds, e :: es, i + 1, x, y, h, h' => zipD_get ds es i x y (by simpa using h) (by simpa using h')
theorem wk_zipL {a c : Addr} {xs ys : List V} {es : List PyData} (h : G a = some (.lst xs)) (r : Rps G xs ds) (h' : G c = some (.lst ys)) (r' : Rps G ys es) : Wk (Itz K a c) G (zipD ds es) := by
  refine ⟨fun i H s hi => ?_, fun H s => ?_, fun i H v H' s hi y => ?_⟩
  · rw [zipD_len] at hi
    exact ⟨xs, ys, xs[i]'(by rw [r.len]; omega), ys[i]'(by rw [r'.len]; omega), .of (s _ _ h), .of (s _ _ h'), List.getElem?_eq_getElem _, List.getElem?_eq_getElem _⟩
  · rw [zipD_len]
    exact ⟨xs, ys, .of (s _ _ h), .of (s _ _ h'), by rw [r.len, r'.len]; omega⟩
  · obtain ⟨T, x, y, rfl, hT, rfl, y1, y2⟩ := y
    obtain ⟨d, hd, rd⟩ := r.getV (y1 xs (.of (s _ _ h)))
    obtain ⟨e, he, re⟩ := r'.getV (y2 ys (.of (s _ _ h')))
    exact ⟨_, zipD_get ds es i d e hd he, _, Gx.new s hT, new2 s hT rd re⟩
theorem wk_zipT {a c : Addr} {xs ys : List V} {es : List PyData} (h : Tp G a xs) (r : Rps G xs ds) (h' : Tp G c ys) (r' : Rps G ys es) : Wk (ItzT K a c) G (zipD ds es) := by
  refine ⟨fun i H s hi => ?_, fun H s => ?_, fun i H v H' s hi y => ?_⟩
  · rw [zipD_len] at hi
    exact ⟨xs, ys, xs[i]'(by rw [r.len]; omega), ys[i]'(by rw [r'.len]; omega), (h.up s).sq, (h'.up s).sq, List.getElem?_eq_getElem _, List.getElem?_eq_getElem _⟩
  · rw [zipD_len]
    exact ⟨xs, ys, (h.up s).sq, (h'.up s).sq, by rw [r.len, r'.len]; omega⟩
  · obtain ⟨T, x, y, rfl, hT, rfl, y1, y2⟩ := y
    obtain ⟨d, hd, rd⟩ := r.getV (y1 xs ((h.up s).sq))
    obtain ⟨e, he, re⟩ := r'.getV (y2 ys ((h'.up s).sq))
    exact ⟨_, zipD_get ds es i d e hd he, _, Gx.new s hT, new2 s hT rd re⟩

/-! ### how they begin -/
theorem ei_list (h : EvD te σ G (.list ds)) : EvI (iList K te) σ G ds := fun H i R q => h H i _ fun v G2 H2 x r => by
  obtain ⟨a, xs, e, g, rs⟩ := r.isList
  exact ⟨a, e, ⟨xs, .of (x.i _ _ g)⟩, q _ G2 H2 x (wk_list g rs)⟩
theorem ei_tup (h : EvD te σ G (.tuple ds)) : EvI (iTup K te) σ G ds := fun H i R q => h H i _ fun v G2 H2 x r => by
  obtain ⟨a, xs, e, g, rs⟩ := r.isTup
  exact ⟨a, e, ⟨xs, (g.up x.i).sq⟩, q _ G2 H2 x (wk_tup g rs)⟩
theorem ei_rng1 {n : Int} (h : EvS ts σ G [.int n]) (h1 : -(2 ^ 62) ≤ n) (h2 : n < 2 ^ 62) : EvI (iRng1 ts) σ G ((ivs 0 n.toNat).map .int) := fun H i R q => h H i _ fun v G2 H2 x r => by
  cases r with
  | cons r1 r2 => cases r2; cases r1; exact ⟨n, rfl, h1, h2, q _ G2 H2 x (wk_rng 0 _)⟩
theorem ei_rng2 {m n : Int} (h : EvS ts σ G [.int m, .int n]) (hb : -(2 ^ 62) ≤ m ∧ m < 2 ^ 62 ∧ -(2 ^ 62) ≤ n ∧ n < 2 ^ 62) : EvI (iRng2 ts) σ G ((ivs m (n - m).toNat).map .int) := fun H i R q => h H i _ fun v G2 H2 x r => by
  cases r with
  | cons r1 r2 => cases r2 with
    | cons r2 r3 => cases r3; cases r1; cases r2; exact ⟨m, n, rfl, hb, q _ G2 H2 x (wk_rng m _)⟩
theorem ei_str {x : Str} (h : EvD te σ G (.str x)) : EvI (iStr te) σ G (x.cps.toList.map fun c => .str ⟨#[c]⟩) := fun H i R q => h H i _ fun v G2 H2 y r => ⟨x, r.isStr, q _ G2 H2 y (wk_str x)⟩
theorem ei_enum (h : EvS ts σ G [.list ds]) : EvI (iEnum K ts) σ G (enumD 0 ds) := fun H i R q => h H i _ fun v G2 H2 x r => by
  cases r with
  | cons r1 r2 =>
    cases r2
    obtain ⟨a, xs, e, g, rs⟩ := r1.isList
    exact ⟨a, xs, by rw [e], .of (x.i _ _ g), q _ G2 H2 x (wk_enum g rs)⟩
theorem ei_zipL {es : List PyData} (h : EvS ts σ G [.list ds, .list es]) : EvI (iZipA K ts) σ G (zipD ds es) := fun H i R q => h H i _ fun v G2 H2 x r => by
  cases r with
  | cons r1 r2 => cases r2 with
    | cons r2 r3 =>
      cases r3
      obtain ⟨a, xs, e, g, rs⟩ := r1.isList
      obtain ⟨a', xs', e', g', rs'⟩ := r2.isList
      exact ⟨a, a', xs, xs', by rw [e, e'], .inl ⟨.of (x.i _ _ g), .of (x.i _ _ g'), q _ G2 H2 x (wk_zipL g rs g' rs')⟩⟩
theorem ei_zipT {es : List PyData} (h : EvS ts σ G [.tuple ds, .tuple es]) : EvI (iZipA K ts) σ G (zipD ds es) := fun H i R q => h H i _ fun v G2 H2 x r => by
  cases r with
  | cons r1 r2 => cases r2 with
    | cons r2 r3 =>
      cases r3
      obtain ⟨a, xs, e, g, rs⟩ := r1.isTup
      obtain ⟨a', xs', e', g', rs'⟩ := r2.isTup
      exact ⟨a, a', xs, xs', by rw [e, e'], .inr ⟨(g.up x.i).sq, (g'.up x.i).sq, q _ G2 H2 x (wk_zipT g rs g' rs')⟩⟩

/-! ### targets -/
/-- the target takes x: the slots are σ2 -/
def Tg (g : TG) (x : V) (σ : L2.St) (G : Hp) (σ2 : L2.St) : Prop := ∀ H, Same G H → ∀ Q : L2.St → Hp → Prop, Q σ2 H → g x σ H Q
def Tgs (g : TGs) (xs : List V) (σ : L2.St) (G : Hp) (σ2 : L2.St) : Prop := ∀ H, Same G H → ∀ Q : L2.St → Hp → Prop, Q σ2 H → g xs σ H Q
theorem tg_name {i : Nat} {x : V} : Tg (gName i) x σ G (σ.set i (some x)) := fun H _ Q q => q
theorem tgs_nil : Tgs gNil [] σ G σ := fun H _ Q q => ⟨rfl, q⟩
theorem tgs_cons {t : TG} {u : TGs} {x : V} {xs : List V} {σ1 σ2 : L2.St} (h1 : Tg t x σ G σ1) (h2 : Tgs u xs σ1 G σ2) : Tgs (gCons t u) (x :: xs) σ G σ2 := fun H s Q q =>
  ⟨x, xs, rfl, h1 H s _ (h2 H s Q q)⟩
theorem tg_tup {n : Nat} {t : TGs} {a : Addr} {xs : List V} {σ2 : L2.St} (h : Tp G a xs) (hn : xs.length = n) (ht : Tgs t xs σ G σ2) : Tg (gTup K n t) (.ref a) σ G σ2 := fun H s Q q =>
  ⟨a, xs, rfl, (h.up s).sq, hn, ht H s Q q⟩

/-! ### a comprehension -/
theorem take_snoc {α : Type} {l : List α} {i : Nat} {x : α} (h : l[i]? = some x) : l.take (i + 1) = l.take i ++ [x] := by
  rw [List.take_add_one, h]; rfl
theorem fm_len {α β : Type} (f : α → Option β) (l : List α) : (l.filterMap f).length ≤ l.length := List.length_filterMap_le f l
/-- the word of a comprehension: what is known behind i turns -/
def Cw (G : Hp) (H1 : Hp) (D : Addr) (ds : List PyData) (f : PyData → Option PyData) (i : Nat) (H : Hp) : Prop :=
  ∃ Gi acc, Gx G H1 Gi H ∧ Gi D = none ∧ H D = some (.lst acc) ∧ Rps Gi acc ((ds.take i).filterMap f)
theorem ev_lc {wi : TI} {g : TG} {vs : List Nat} (f : PyData → Option PyData) (hi : EvI wi σ G ds) (hz : ds.length ≤ 100000)
    (hb : ∀ d ∈ ds, ∀ G2 x, Same G G2 → Rp G2 x d → ∃ σ2, Tg g x (wipe σ vs) G2 σ2 ∧ wipe σ2 vs = wipe σ vs ∧ EvB tt σ2 G2 (f d).isSome ∧ ∀ y, f d = some y → EvD te σ2 G2 y) :
    EvD (tLc wi g tt te vs) σ G (.list (ds.filterMap f)) := fun H0 i0 Q q => hi H0 i0 _ fun J G1 H1 x1 w D hD => by
  have gD : G1 D = none := x1.i.free hD
  refine ⟨fun i m H => i + m = ds.length ∧ Cw G1 H1 D ds f i H, ⟨ds.length, by omega, G1, [], ?_, gD, upd_same, .nil⟩, fun i m H hW => ?_⟩
  · exact Gx.grow x1.i (same_new hD)
  · obtain ⟨em, Gi, acc, gx, nD, hd, rs⟩ := hW
    by_cases hlt : i < ds.length
    · refine .inr ⟨w.go i H (gx.g.trans gx.i) hlt, fun H' => Cw G1 H1 D ds f (i + 1) H', fun H' hN => ⟨m - 1, by omega, by omega, hN⟩, fun x H' hy => ?_⟩
      obtain ⟨d, hdd, G2, gx2, rx⟩ := (w.up gx.g).yld i H x H' gx.i hlt hy
      have mem : d ∈ ds := List.mem_of_getElem? hdd
      obtain ⟨σ2, tg, wp, eb, ee⟩ := hb d mem G2 x ((x1.g.trans gx.g).trans gx2.g) rx
      have n2 : G2 D = none := gx2.out nD hd
      have d2 : H' D = some (.lst acc) := gx2.h _ _ hd
      refine tg H' gx2.i _ ⟨wp, eb H' gx2.i _ fun H3 s3 => ?_⟩
      cases hf : f d with
      | none =>
        show Cw G1 H1 D ds f (i + 1) H3
        refine ⟨G2, acc, (gx.trans gx2).post s3, n2, s3 _ _ d2, ?_⟩
        rw [take_snoc hdd, List.filterMap_append, List.filterMap_cons, hf, List.filterMap_nil, List.append_nil]
        exact rs.up gx2.g
      | some y =>
        show te σ2 H3 _
        refine ee y hf H3 (gx2.i.trans s3) _ fun u G4 H4 gx4 ru => ?_
        have d4 : H4 D = some (.lst acc) := gx4.h _ _ (s3 _ _ d2)
        have n4 : G4 D = none := gx4.out n2 (s3 _ _ d2)
        have z : acc.length ≤ ds.length := by
          rw [rs.len]
          exact Nat.le_trans (fm_len _ _) (by rw [List.length_take]; omega)
        have gx5 : Gx G1 H1 G4 H4 := (gx.trans gx2).trans (gx4.pre gx2.i s3)
        refine ⟨acc, d4, Nat.lt_of_le_of_lt (Nat.le_trans z hz) (by decide), G4, acc ++ [u], ⟨gx5.g, same_mut gx5.i n4, ?_, gx5.f⟩, n4, upd_same, ?_⟩
        · exact fun b o hbo => by
            rw [upd_ne (ne_of_none hbo hD)]; exact gx5.h _ _ hbo
        · rw [take_snoc hdd, List.filterMap_append, List.filterMap_cons, hf, List.filterMap_nil]
          exact (rs.up (gx2.g.trans gx4.g)).snoc ru
    · have ei : i = ds.length := by omega
      subst ei
      refine .inl ⟨w.stop H (gx.g.trans gx.i), ?_⟩
      rw [List.take_length] at rs
      have n2 : G1 D = none := gD
      refine q (.ref D) (upd Gi D (.lst acc)) H (x1.trans ⟨gx.g.trans (same_new nD), fun b o hbo => ?_, gx.h, fun b o hbo nb => ?_⟩) (.lst upd_same (rs.up (same_new nD)))
      · by_cases c : b = D
        · subst c; rw [upd_same] at hbo; cases hbo; exact hd
        · rw [upd_ne c] at hbo; exact gx.i _ _ hbo
      · by_cases c : b = D
        · subst c; exact hD
        · rw [upd_ne c] at hbo; exact gx.f _ _ hbo nb
theorem eb_yes : EvB tYes σ G true := fun H i Q q => q H (Same.refl _)
theorem fm_some {α β : Type} (g : α → β) : ∀ l : List α, l.filterMap (fun a => some (g a)) = l.map g
  | [] => rfl
  | a :: l => by rw [List.filterMap_cons]; show g a :: _ = _; rw [fm_some g l]; rfl
/-- one without a test -/
theorem ev_lcm {wi : TI} {g : TG} {vs : List Nat} (f : PyData → PyData) (hi : EvI wi σ G ds) (hz : ds.length ≤ 100000)
    (hb : ∀ d ∈ ds, ∀ G2 x, Same G G2 → Rp G2 x d → ∃ σ2, Tg g x (wipe σ vs) G2 σ2 ∧ wipe σ2 vs = wipe σ vs ∧ EvD te σ2 G2 (f d)) :
    EvD (tLc wi g tYes te vs) σ G (.list (ds.map f)) := by
  rw [← fm_some]
  refine ev_lc (fun a => some (f a)) hi hz fun d hd G2 x s r => ?_
  obtain ⟨σ2, h1, h2, h3⟩ := hb d hd G2 x s r
  exact ⟨σ2, h1, h2, eb_yes, fun y e => by cases e; exact h3⟩
end K11
set_option Elab.async false
set_option linter.all false
set_option maxRecDepth 100000
set_option maxHeartbeats 4000000
set_option autoImplicit false
/-! K11Op: operations, calls on data. -/
namespace K11
open PySem PySem.Spec PyProof.Rows L2 RZ
variable {K : PySem.W.Frag} {G H H1 H2 H3 G1 G2 G3 : Hp} {σ : L2.St} {te ta tb tc : TE} {d e f : PyData} {tt tu : TT} {b : Bool} {ts : TA} {ds es : List PyData} {v : V}
/-- the scalars -/
def scD : PyData → Option V
  | .none => some .non
  | .bool b => some (.bl b)
  | .int i => some (.int i)
  | .str s => some (.str s)
  | _ => none
theorem Rp.sc {x : V} (r : Rp G v d) (h : scD d = some x) : v = x := by
  cases r <;> first | exact Option.some.inj h | cases h
theorem od_I0 {g : Int → Int → V} {i j : Int} (h : ∀ G, Rp G (g i j) f) : OpD (rI0 g) (.int i) (.int j) f := fun G H x y s rx ry Q q => ⟨i, j, rx.isInt, ry.isInt, q _ G H (Gx.refl s) (h G)⟩
theorem od_I {C : Int → Int → Prop} {g : Int → Int → V} {i j : Int} (hc : C i j) (h : ∀ G, Rp G (g i j) f) : OpD (rI C g) (.int i) (.int j) f := fun G H x y s rx ry Q q => ⟨i, j, rx.isInt, ry.isInt, hc, q _ G H (Gx.refl s) (h G)⟩
theorem od_add {i j : Int} : OpD (rI0 fun i j => .int (i + j)) (.int i) (.int j) (.int (i + j)) := od_I0 fun _ => .int _
theorem od_sub {i j : Int} : OpD (rI0 fun i j => .int (i - j)) (.int i) (.int j) (.int (i - j)) := od_I0 fun _ => .int _
theorem od_lt {i j : Int} : OpD (rI0 fun i j => .bl (decide (i < j))) (.int i) (.int j) (.bool (decide (i < j))) := od_I0 fun _ => .bl _
theorem od_le {i j : Int} : OpD (rI0 fun i j => .bl (decide (i ≤ j))) (.int i) (.int j) (.bool (decide (i ≤ j))) := od_I0 fun _ => .bl _
theorem od_gt {i j : Int} : OpD (rI0 fun i j => .bl (decide (j < i))) (.int i) (.int j) (.bool (decide (j < i))) := od_I0 fun _ => .bl _
theorem od_ge {i j : Int} : OpD (rI0 fun i j => .bl (decide (j ≤ i))) (.int i) (.int j) (.bool (decide (j ≤ i))) := od_I0 fun _ => .bl _
theorem od_pow {i j : Int} (h : CPow i j) : OpD (rI CPow fun i j => .int (i ^ j.toNat)) (.int i) (.int j) (.int (i ^ j.toNat)) := od_I h fun _ => .int _
theorem ud_neg {i : Int} : UnD (rU fun i => .int (-i)) (.int i) (.int (-i)) := fun G H x s r Q q => ⟨i, r.isInt, q _ G H (Gx.refl s) (.int _)⟩
theorem od_eq {x y : V} (hx : scD d = some x) (hy : scD e = some y) (hs : scal x y = true) : OpD rEq d e (.bool (decide (x = y))) := fun G H u w s ru rw_ Q q => by
  rw [ru.sc hx, rw_.sc hy]
  exact ⟨hs, q _ G H (Gx.refl s) (.bl _)⟩
theorem od_ne {x y : V} (hx : scD d = some x) (hy : scD e = some y) (hs : scal x y = true) : OpD rNe d e (.bool (!decide (x = y))) := fun G H u w s ru rw_ Q q => by
  rw [ru.sc hx, rw_.sc hy]
  exact ⟨hs, q _ G H (Gx.refl s) (.bl _)⟩
theorem od_eqD (h1 : SeqAt.shaped d = true) (h2 : SeqAt.shaped e = true) : OpD (rEqD K) d e (.bool (PyData.eqv d e)) := fun G H u w s ru rw_ Q q =>
  ⟨d, e, Rp.dp _ _ (ru.up s), Rp.dp _ _ (rw_.up s), h1, h2, q _ G H (Gx.refl s) (.bl _)⟩
theorem od_neD (h1 : SeqAt.shaped d = true) (h2 : SeqAt.shaped e = true) : OpD (rNeD K) d e (.bool (!PyData.eqv d e)) := fun G H u w s ru rw_ Q q =>
  ⟨d, e, Rp.dp _ _ (ru.up s), Rp.dp _ _ (rw_.up s), h1, h2, q _ G H (Gx.refl s) (.bl _)⟩
theorem od_isN {x : V} (h : ∀ G v, Rp G v d → decide (v = .non) = b) : OpD (fun x y H Q => y = .non ∧ Q (.bl (decide (x = .non))) H) d .none (.bool b) := fun G H u w s ru rw_ Q q =>
  ⟨rw_.isNone, by rw [h G u ru]; exact q _ G H (Gx.refl s) (.bl _)⟩
/-! in -/
theorem flat_strs (ss : List Str) : (ss.map V.str).all flatV = true := by
  rw [List.all_map]; exact List.all_eq_true.mpr fun _ _ => rfl
theorem flat_ints (ss : List Int) : (ss.map V.int).all flatV = true := by
  rw [List.all_map]; exact List.all_eq_true.mpr fun _ _ => rfl
theorem inV_strs (s : Str) (ss : List Str) : inV (.str s) (ss.map V.str) = decide (s ∈ ss) := by
  unfold inV
  rw [List.any_map]
  rw [Bool.eq_iff_iff, List.any_eq_true, decide_eq_true_iff]
  constructor
  · rintro ⟨x, hx, h⟩
    have e : x = s := by simpa [eqV] using h
    exact e ▸ hx
  · exact fun h => ⟨s, h, by simp [eqV]⟩
theorem inV_ints (s : Int) (ss : List Int) : inV (.int s) (ss.map V.int) = decide (s ∈ ss) := by
  unfold inV
  rw [List.any_map]
  rw [Bool.eq_iff_iff, List.any_eq_true, decide_eq_true_iff]
  constructor
  · rintro ⟨x, hx, h⟩
    have e : x = s := by simpa [eqV] using h
    exact e ▸ hx
  · exact fun h => ⟨s, h, by simp [eqV]⟩
theorem od_in {neg : Bool} {xs : List V} {x : V} (hs : ∀ G vs, Rps G vs ds → vs = xs) (hx : scD d = some x) (fx : flatV x = true) (fa : xs.all flatV = true) (hb : (if neg then !inV x xs else inV x xs) = b) (l : PyData) (hl : l = .list ds ∨ l = .tuple ds) :
    OpD (rIn K neg) d l (.bool b) := fun G H u w s ru rw_ Q q => by
  rcases hl with rfl | rfl
  · obtain ⟨a, vs, e, g, r⟩ := rw_.isList
    have ev := hs G vs r
    subst ev
    rw [ru.sc hx]
    exact ⟨a, vs, e, .inl (.of (s _ _ g)), fx, fa, by rw [hb]; exact q _ G H (Gx.refl s) (.bl _)⟩
  · obtain ⟨a, vs, e, g, r⟩ := rw_.isTup
    have ev := hs G vs r
    subst ev
    rw [ru.sc hx]
    exact ⟨a, vs, e, .inr ((g.up s).sq), fx, fa, by rw [hb]; exact q _ G H (Gx.refl s) (.bl _)⟩
theorem od_inStrL {s : Str} {ss : List Str} : OpD (rIn K false) (.str s) (.list (ss.map .str)) (.bool (decide (s ∈ ss))) := od_in (fun _ _ r => r.strs) rfl rfl (flat_strs _) (by exact inV_strs s ss) _ (.inl rfl)
theorem od_inStrT {s : Str} {ss : List Str} : OpD (rIn K false) (.str s) (.tuple (ss.map .str)) (.bool (decide (s ∈ ss))) := od_in (fun _ _ r => r.strs) rfl rfl (flat_strs _) (by exact inV_strs s ss) _ (.inr rfl)
theorem od_inIntL {s : Int} {ss : List Int} : OpD (rIn K false) (.int s) (.list (ss.map .int)) (.bool (decide (s ∈ ss))) := od_in (fun _ _ r => r.ints) rfl rfl (flat_ints _) (by exact inV_ints s ss) _ (.inl rfl)
theorem od_inIntT {s : Int} {ss : List Int} : OpD (rIn K false) (.int s) (.tuple (ss.map .int)) (.bool (decide (s ∈ ss))) := od_in (fun _ _ r => r.ints) rfl rfl (flat_ints _) (by exact inV_ints s ss) _ (.inr rfl)
theorem od_niStrL {s : Str} {ss : List Str} : OpD (rIn K true) (.str s) (.list (ss.map .str)) (.bool (!decide (s ∈ ss))) := od_in (fun _ _ r => r.strs) rfl rfl (flat_strs _) (by exact congrArg Bool.not (inV_strs s ss)) _ (.inl rfl)
theorem od_niStrT {s : Str} {ss : List Str} : OpD (rIn K true) (.str s) (.tuple (ss.map .str)) (.bool (!decide (s ∈ ss))) := od_in (fun _ _ r => r.strs) rfl rfl (flat_strs _) (by exact congrArg Bool.not (inV_strs s ss)) _ (.inr rfl)
theorem od_niIntL {s : Int} {ss : List Int} : OpD (rIn K true) (.int s) (.list (ss.map .int)) (.bool (!decide (s ∈ ss))) := od_in (fun _ _ r => r.ints) rfl rfl (flat_ints _) (by exact congrArg Bool.not (inV_ints s ss)) _ (.inl rfl)
theorem od_niIntT {s : Int} {ss : List Int} : OpD (rIn K true) (.int s) (.tuple (ss.map .int)) (.bool (!decide (s ∈ ss))) := od_in (fun _ _ r => r.ints) rfl rfl (flat_ints _) (by exact congrArg Bool.not (inV_ints s ss)) _ (.inr rfl)
theorem od_sign {c : Nat} {z : Str} : OpD (fun x y H Q => ∃ (c : Nat) (z : Str), x = .str ⟨#[c]⟩ ∧ y = .str z ∧ Q (.bl (decide (c ∈ z.cps.toList))) H) (.str ⟨#[c]⟩) (.str z) (.bool (decide (c ∈ z.cps.toList))) := fun G H u w s ru rw_ Q q =>
  ⟨c, z, ru.isStr, rw_.isStr, q _ G H (Gx.refl s) (.bl _)⟩
/-! items -/
theorem od_ixL {i : Int} {j : Nat} (e : i = (j : Int)) (h : ds[j]? = some d) : OpD (rIxL K) (.list ds) (.int i) d := fun G H u w s ru rw_ Q q => by
  obtain ⟨a, xs, e1, g, r⟩ := ru.isList
  obtain ⟨x, hx, rx⟩ := r.get h
  exact ⟨a, xs, i, x, e1, rw_.isInt, .of (s _ _ g), by rw [e]; exact atI_nat hx, q x G H (Gx.refl s) rx⟩
theorem od_ixT {i : Int} {j : Nat} (e : i = (j : Int)) (h : ds[j]? = some d) : OpD (rIxT K) (.tuple ds) (.int i) d := fun G H u w s ru rw_ Q q => by
  obtain ⟨a, xs, e1, g, r⟩ := ru.isTup
  obtain ⟨x, hx, rx⟩ := r.get h
  exact ⟨a, xs, i, x, e1, rw_.isInt, (g.up s).sq, by rw [e]; exact atI_nat hx, q x G H (Gx.refl s) rx⟩
theorem od_ixS {z : Str} {i : Int} {j c : Nat} (e : i = (j : Int)) (h : z.cps.toList[j]? = some c) (hz : z.length ≤ 100000) : OpD rIxS (.str z) (.int i) (.str ⟨#[c]⟩) := fun G H u w s ru rw_ Q q =>
  ⟨z, i, c, ru.isStr, rw_.isInt, Nat.le_trans hz (by decide), by rw [e]; exact atI_nat h, q _ G H (Gx.refl s) (.str _)⟩
/-! together -/
theorem od_catT (hz : ds.length + es.length ≤ 100000) : OpD (rCatA K) (.tuple ds) (.tuple es) (.tuple (ds ++ es)) := fun G H u w s ru rw_ Q q => by
  obtain ⟨a, xs, e1, g, r⟩ := ru.isTup
  obtain ⟨c, ys, e2, g2, r2⟩ := rw_.isTup
  refine ⟨a, c, xs, ys, e1, e2, (g.up s).sq, (g2.up s).sq, by rw [r.len, r2.len]; exact Nat.le_trans hz (by decide), fun h => ?_, fun _ h => ?_, fun _ _ p hp => ?_⟩
  · subst h
    have e : ds = [] := List.eq_nil_of_length_eq_zero (by rw [← r.len]; rfl)
    subst e
    exact q _ G H (Gx.refl s) (.tup g2 r2)
  · subst h
    have e : es = [] := List.eq_nil_of_length_eq_zero (by rw [← r2.len]; rfl)
    subst e
    rw [List.append_nil] at q
    exact q _ G H (Gx.refl s) (.tup g r)
  · exact q _ _ _ (Gx.new s hp) (.tup (.of upd_same) ((r.app r2).up (same_new (s.free hp))))
theorem od_catL (hz : ds.length + es.length ≤ 100000) : OpD rCat (.list ds) (.list es) (.list (ds ++ es)) := fun G H u w s ru rw_ Q q => by
  obtain ⟨a, xs, e1, g, r⟩ := ru.isList
  obtain ⟨c, ys, e2, g2, r2⟩ := rw_.isList
  exact ⟨a, c, xs, ys, e1, e2, s _ _ g, s _ _ g2, by rw [r.len, r2.len]; exact Nat.le_trans hz (by decide), fun p hp => q _ _ _ (Gx.new s hp) (.lst upd_same ((r.app r2).up (same_new (s.free hp))))⟩
theorem od_addS {x y : Str} (hz : x.length + y.length ≤ 100000) : OpD (fun x y H Q => ∃ i j, x = .str i ∧ y = .str j ∧ i.length + j.length ≤ sizeLine ∧ Q (.str (i ++ j)) H) (.str x) (.str y) (.str (x ++ y)) := fun G H u w s ru rw_ Q q =>
  ⟨x, y, ru.isStr, rw_.isStr, Nat.le_trans hz (by decide), q _ G H (Gx.refl s) (.str _)⟩
/-! slices -/
def EvO (to : TO) (σ : L2.St) (G : Hp) (o : Option Int) : Prop := ∀ H, Same G H → ∀ Q : Option Int → Hp → Prop, (∀ H2, Same H H2 → Q o H2) → to σ H Q
theorem eo_none : EvO tNoPart σ G none := fun H s Q q => q H (Same.refl _)
theorem eo_some {i : Int} (h : EvD te σ G (.int i)) : EvO (tPart te) σ G (some i) := fun H s Q q => h H s _ fun v G2 H2 x r => ⟨i, r.isInt, q H2 x.h⟩
theorem EvO.up {to : TO} {o : Option Int} (h : EvO to σ G o) (e : Same G G1) : EvO to σ G1 o := fun H i Q q => h H (e.trans i) Q q
def SlD (r : V → Option Int → Option Int → Hp → VK → Prop) (d : PyData) (lo hi : Option Int) (f : PyData) : Prop := ∀ G H x, Same G H → Rp G x d → ∀ Q : VK, (∀ z G2 H2, Gx G H G2 H2 → Rp G2 z f → Q z H2) → r x lo hi H Q
theorem ev_sl {r : V → Option Int → Option Int → Hp → VK → Prop} {tl th : TO} {lo hi : Option Int} (h : EvD te σ G d) (h1 : EvO tl σ G lo) (h2 : EvO th σ G hi) (hr : SlD r d lo hi f) : EvD (tSl r te tl th) σ G f := fun H i Q q =>
  h H i _ fun x G2 H2 x2 r2 => (h1.up x2.g) H2 x2.i _ fun H3 s3 => (h2.up x2.g) H3 (x2.i.trans s3) _ fun H4 s4 =>
    hr G2 H4 x ((x2.i.trans s3).trans s4) r2 Q fun z G5 H5 x5 r5 => q z G5 H5 (x2.trans (x5.pre x2.i (s3.trans s4))) r5
def cut {α : Type} (xs : List α) (lo hi : Option Int) : List α := (xs.drop (HT.sIx xs.length 0 lo)).take (HT.sIx xs.length xs.length hi - HT.sIx xs.length 0 lo)
theorem cut_rps {xs : List V} (lo hi : Option Int) (r : Rps G xs ds) : Rps G (cutV xs lo hi) (cut ds lo hi) := by
  unfold cutV cut
  rw [r.len]
  exact Rps.tk _ (Rps.dr _ r)
theorem sd_list {lo hi : Option Int} : SlD (rSlL K) (.list ds) lo hi (.list (cut ds lo hi)) := fun G H x s r Q q => by
  obtain ⟨a, xs, e1, g, r⟩ := r.isList
  exact ⟨a, xs, e1, .of (s _ _ g), fun p hp => q _ _ _ (Gx.new s hp) (.lst upd_same ((cut_rps lo hi r).up (same_new (s.free hp))))⟩
theorem cut_whole {α : Type} {xs : List α} {lo hi : Option Int} (h : HT.sIx xs.length 0 lo = 0 ∧ HT.sIx xs.length xs.length hi = xs.length) : cut xs lo hi = xs := by
  unfold cut
  rw [h.1, h.2, List.drop_zero, Nat.sub_zero, List.take_length]
theorem sd_tup {lo hi : Option Int} : SlD (rSlA K) (.tuple ds) lo hi (.tuple (cut ds lo hi)) := fun G H x s r Q q => by
  obtain ⟨a, xs, e1, g, r⟩ := r.isTup
  refine ⟨a, xs, e1, (g.up s).sq, fun h => ?_, fun h p hp => q _ _ _ (Gx.new s hp) (.tup (.of upd_same) ((cut_rps lo hi r).up (same_new (s.free hp))))⟩
  rw [r.len] at h
  rw [cut_whole h] at q
  exact q _ G H (Gx.refl s) (.tup g r)
theorem sd_str {z : Str} {lo hi : Option Int} (hz : z.length ≤ 100000) : SlD rSlS (.str z) lo hi (.str (cutS z lo hi)) := fun G H x s r Q q =>
  ⟨z, r.isStr, Nat.le_trans hz (by decide), q _ G H (Gx.refl s) (.str _)⟩
theorem cut_to {α : Type} (xs : List α) (k : Nat) : cut xs none (some (k : Int)) = xs.take k := by
  unfold cut
  rw [HT.sIx_none, HT.sIx_nat, List.drop_zero, Nat.sub_zero]
  rw [Nat.min_def]
  split
  · rfl
  · rw [List.take_length, List.take_of_length_le (by omega)]
theorem cut_from {α : Type} (xs : List α) (k : Nat) : cut xs (some (k : Int)) none = xs.drop k := by
  unfold cut
  rw [HT.sIx_none, HT.sIx_nat, Nat.min_def]
  split
  · exact List.take_of_length_le (by rw [List.length_drop]; exact Nat.le_refl _)
  · rw [Nat.sub_self, List.take_zero, List.drop_eq_nil_of_le (by omega)]
/-! calls -/
theorem one_arg {xs : List V} (r : Rps G xs [d]) : ∃ x, xs = [x] ∧ Rp G x d := by
  cases r with
  | cons r1 r2 => cases r2; exact ⟨_, rfl, r1⟩
theorem two_args {xs : List V} (r : Rps G xs [d, e]) : ∃ x y, xs = [x, y] ∧ Rp G x d ∧ Rp G y e := by
  cases r with
  | cons r1 r2 =>
    obtain ⟨y, rfl, ry⟩ := one_arg r2
    exact ⟨_, y, rfl, r1, ry⟩
theorem cd_len {l : PyData} (hl : l = .list ds ∨ l = .tuple ds) : CaD (fun xs H Q => ∃ p ys, xs = [.ref p] ∧ (SqL K H p ys ∨ SqT K H p ys) ∧ Q (.int ys.length) H) [l] (.int (ds.length : Nat)) := fun G H xs s r Q q => by
  obtain ⟨x, rfl, rx⟩ := one_arg r
  rcases hl with rfl | rfl
  · obtain ⟨a, ys, rfl, g, rs⟩ := rx.isList
    exact ⟨a, ys, rfl, .inl (.of (s _ _ g)), by rw [rs.len]; exact q _ G H (Gx.refl s) (.int _)⟩
  · obtain ⟨a, ys, rfl, g, rs⟩ := rx.isTup
    exact ⟨a, ys, rfl, .inr ((g.up s).sq), by rw [rs.len]; exact q _ G H (Gx.refl s) (.int _)⟩
theorem cd_lenL : CaD (fun xs H Q => ∃ p ys, xs = [.ref p] ∧ (SqL K H p ys ∨ SqT K H p ys) ∧ Q (.int ys.length) H) [.list ds] (.int (ds.length : Nat)) := cd_len (.inl rfl)
theorem cd_lenT : CaD (fun xs H Q => ∃ p ys, xs = [.ref p] ∧ (SqL K H p ys ∨ SqT K H p ys) ∧ Q (.int ys.length) H) [.tuple ds] (.int (ds.length : Nat)) := cd_len (.inr rfl)
theorem cd_tuple : CaD (fun xs H Q => ∃ p ys, xs = [.ref p] ∧ ((SqL K H p ys ∧ ∀ l, H l = none → Q (.ref l) (upd H l (.tup ys))) ∨ (SqT K H p ys ∧ Q (.ref p) H))) [.list ds] (.tuple ds) := fun G H xs s r Q q => by
  obtain ⟨x, rfl, rx⟩ := one_arg r
  obtain ⟨a, ys, rfl, g, rs⟩ := rx.isList
  exact ⟨a, ys, rfl, .inl ⟨.of (s _ _ g), fun p hp => q _ _ _ (Gx.new s hp) (.tup (.of upd_same) (rs.up (same_new (s.free hp))))⟩⟩
theorem cd_listT : CaD (fun xs H Q => ∃ p ys, xs = [.ref p] ∧ (SqL K H p ys ∨ SqT K H p ys) ∧ ∀ l, H l = none → Q (.ref l) (upd H l (.lst ys))) [.tuple ds] (.list ds) := fun G H xs s r Q q => by
  obtain ⟨x, rfl, rx⟩ := one_arg r
  obtain ⟨a, ys, rfl, g, rs⟩ := rx.isTup
  exact ⟨a, ys, rfl, .inr ((g.up s).sq), fun p hp => q _ _ _ (Gx.new s hp) (.lst upd_same (rs.up (same_new (s.free hp))))⟩
theorem cd_listL : CaD (fun xs H Q => ∃ p ys, xs = [.ref p] ∧ (SqL K H p ys ∨ SqT K H p ys) ∧ ∀ l, H l = none → Q (.ref l) (upd H l (.lst ys))) [.list ds] (.list ds) := fun G H xs s r Q q => by
  obtain ⟨x, rfl, rx⟩ := one_arg r
  obtain ⟨a, ys, rfl, g, rs⟩ := rx.isList
  exact ⟨a, ys, rfl, .inl (.of (s _ _ g)), fun p hp => q _ _ _ (Gx.new s hp) (.lst upd_same (rs.up (same_new (s.free hp))))⟩
theorem cd_sum {ns : List Int} : CaD (rSum K) [.list (ns.map .int)] (.int ns.sum) := fun G H xs s r Q q => by
  obtain ⟨x, rfl, rx⟩ := one_arg r
  obtain ⟨a, ys, rfl, g, rs⟩ := rx.isList
  have e := rs.ints
  subst e
  exact ⟨a, ns, rfl, .of (s _ _ g), q _ G H (Gx.refl s) (.int _)⟩
theorem cd_all {bs : List Bool} : CaD (rAll K) [.list (bs.map .bool)] (.bool (bs.all id)) := fun G H xs s r Q q => by
  obtain ⟨x, rfl, rx⟩ := one_arg r
  obtain ⟨a, ys, rfl, g, rs⟩ := rx.isList
  have e := rs.bools
  subst e
  exact ⟨a, bs, rfl, .of (s _ _ g), q _ G H (Gx.refl s) (.bl _)⟩
theorem cd_max {ns : List Int} {m : Int} (h0 : ns ≠ []) (hm : ∀ z, z ∈ ns → (∀ y, y ∈ ns → y ≤ z) → z = m) : CaD (rMax K) [.list (ns.map .int)] (.int m) := fun G H xs s r Q q => by
  obtain ⟨x, rfl, rx⟩ := one_arg r
  obtain ⟨a, ys, rfl, g, rs⟩ := rx.isList
  have e := rs.ints
  subst e
  exact ⟨a, ns, rfl, .of (s _ _ g), List.length_pos_iff.mpr h0, fun z hz hy => by rw [hm z hz hy]; exact q _ G H (Gx.refl s) (.int _)⟩
theorem cd_abs {i : Int} : CaD (fun xs H Q => ∃ i, xs = [.int i] ∧ Q (.int (if i < 0 then -i else i)) H) [.int i] (.int (if i < 0 then -i else i)) := fun G H xs s r Q q => by
  obtain ⟨x, rfl, rx⟩ := one_arg r
  cases rx.isInt
  exact ⟨i, rfl, q _ G H (Gx.refl s) (.int _)⟩
theorem cd_intI {i : Int} : CaD (fun xs H Q => (∃ i, xs = [.int i] ∧ Q (.int i) H) ∨ ∃ k, xs = [.bl k] ∧ Q (.int (if k then 1 else 0)) H) [.int i] (.int i) := fun G H xs s r Q q => by
  obtain ⟨x, rfl, rx⟩ := one_arg r
  cases rx.isInt
  exact .inl ⟨i, rfl, q _ G H (Gx.refl s) (.int _)⟩
theorem cd_intB {b : Bool} : CaD (fun xs H Q => (∃ i, xs = [.int i] ∧ Q (.int i) H) ∨ ∃ k, xs = [.bl k] ∧ Q (.int (if k then 1 else 0)) H) [.bool b] (.int (if b then 1 else 0)) := fun G H xs s r Q q => by
  obtain ⟨x, rfl, rx⟩ := one_arg r
  cases rx.isBool
  exact .inr ⟨b, rfl, q _ G H (Gx.refl s) (.int _)⟩
theorem cd_max2 {i j : Int} : CaD (fun xs H Q => ∃ i j, xs = [.int i, .int j] ∧ Q (.int (if j > i then j else i)) H) [.int i, .int j] (.int (if j > i then j else i)) := fun G H xs s r Q q => by
  obtain ⟨x, y, rfl, rx, ry⟩ := two_args r
  cases rx.isInt
  cases ry.isInt
  exact ⟨i, j, rfl, q _ G H (Gx.refl s) (.int _)⟩
/-! isinstance -/
def tyD : PyData → String
  | .none => "NoneType"
  | .bool _ => "bool"
  | .int _ => "int"
  | .str _ => "str"
  | .list _ => "list"
  | .tuple _ => "tuple"
  | .dict _ => "dict"
theorem Rp.ty (r : Rp G v d) (s : Same G H) : TyX K H v (.type (tyD d)) := by
  cases r with
  | non => exact .base .non
  | bl b => exact .base (.bl b)
  | int b => exact .base (.int b)
  | str b => exact .base (.str b)
  | lst h _ => exact .base (.lst (s _ _ h))
  | tup h _ =>
    rcases h with h | ⟨o, h, _⟩
    · exact .base (.tup (s _ _ h))
    · exact .fTuple (s _ _ h)
theorem ev_isi {n : String} (h : EvD te σ G d) (hk : kitB (tyD d) n = some b) : EvD (tCB (rIsi K) (tCons te (tCons (tC (.ty n)) tNil))) σ G (.bool b) := fun H i Q q => h H i _ fun v G2 H2 x r =>
  ⟨v, .ty n, .type (tyD d), .type n, b, rfl, .ty n, r.ty x.i, kit_ty hk, q _ G2 H2 x (.bl _)⟩
theorem kitAny2 {t n m : String} {b c : Bool} (h1 : kitB t n = some b) (h2 : kitB t m = some c) : PySem.W.kitAny K (.type t) [.type n, .type m] = some (b || c) := by
  unfold PySem.W.kitAny
  rw [kit_ty h1]
  cases b with
  | true => rfl
  | false =>
    unfold PySem.W.kitAny
    rw [kit_ty h2]
    cases c <;> rfl
theorem ev_isi2 {n m : String} {c : Bool} (h : EvD te σ G d) (h1 : kitB (tyD d) n = some b) (h2 : kitB (tyD d) m = some c) : EvD (tCB (rIsiT K) (tCons te (tCons (tTup (tCons (tC (.ty n)) (tCons (tC (.ty m)) tNil))) tNil))) σ G (.bool (b || c)) := fun H i Q q => h H i _ fun v G2 H2 x r =>
  ⟨by show 2 ≤ sizeLine; decide, fun p hp => ⟨v, p, [.ty n, .ty m], .type (tyD d), [.type n, .type m], b || c, rfl, upd_same, .cons (.ty n) (.cons (.ty m) .nil), r.ty (x.i.trans (same_new hp)), kitAny2 h1 h2, q _ G2 _ (x.post (same_new hp)) (.bl _)⟩⟩
end K11
set_option Elab.async false
set_option linter.all false
set_option maxRecDepth 100000
set_option maxHeartbeats 4000000
set_option autoImplicit false
/-! K11Rule: rules of the layer that were lacking. -/
namespace K11
open PySem PySem.Spec PyProof.Rows L2 RZ
section
variable {X : Cx}
/-- X(), an own exception class without an __init__ of its own -/
theorem pmk_own0 {C : Addr} {bmB : List Value} {B newId initId : String} {x : Str} {p pos : Pos} (F : ExcBaseFacts B newId initId bmB) (qx : PySem.W.excIn X.K C bmB newId = true)
    (gC : X.mg x = some (.ref C)) (kC : PySem.W.keepIn X.K (.ref C) = true) (r : Raises X (.ref C)) (hg : Gl X x) (hdb : (x == ("__debug__" : Str)) = false := by decide) :
    PMk X (.Call (.Name x p) [] [] pos) (fun _ H Q => Q (.ref C) none H) := by
  intro pins s σ H Q I hQ
  refine wpAny_Call_Name_kw (ld_glob I hg gC ?_ hdb)
  refine PySem.W.callWith_K0 I.kIn kC ?_
  obtain ⟨_, _, _, _, _, _, _, _, _, _, _, _, _, _, _, _, _, hC, hN, hni, T⟩ := exc_obj I.kIn qx
  refine wpAny_call_exc_subT F T hC hN hni (fun h' e hm => ?_) (Nat.zero_le _)
  exact mk_of I hm r hQ (I.hok.gone hm.new)

/-- the signs of a text as values -/
def signs (x : Str) : List V := x.cps.toList.map fun c => V.str ⟨#[c]⟩
theorem signs_rel {x : Str} {acc : Array Value} (h : ItemsOf (SignAt x) acc x.cps.size) : Vals (signs x) acc.toList := by
  obtain ⟨hs, ha⟩ := h
  have key : ∀ (l : List Nat) (us : List Value), us.length = l.length → (∀ (j : Nat) (v : Value), us[j]? = some v → ∃ (c : Nat) (u : Tok), l[j]? = some c ∧ v = Value.str ⟨#[c]⟩ u) → Vals (l.map fun c => V.str ⟨#[c]⟩) us := by
    intro l
    induction l with
    | nil =>
      intro us e _
      cases us with
      | nil => exact .nil
      | cons _ _ => simp at e
    | cons c l ih =>
      intro us e h
      cases us with
      | nil => simp at e
      | cons u us =>
        refine .cons ?_ (ih us (by simpa using e) fun j v hj => ?_)
        · obtain ⟨c', t, h1, h2⟩ := h 0 u rfl
          have e1 : c = c' := by simpa using h1
          subst e1
          exact ⟨t, h2⟩
        · exact h (j + 1) v (by simpa using hj)
  refine key x.cps.toList acc.toList (by simp [hs]) fun j v hj => ?_
  obtain ⟨c, u, h1, h2⟩ := ha j v (by simpa using hj)
  exact ⟨c, u, by simpa using h1, h2⟩
/-- tuple(a text) -/
theorem call_tupS (hc : X.calm = true) : CallR X (.type "tuple") (fun xs H Q => ∃ x : Str, xs = [.str x] ∧ x.length ≤ 100000 ∧ ∀ p, H p = none → Q (.ref p) (upd H p (.tup (signs x)))) := by
  intro pins s σ H xs us Q I r h
  obtain ⟨x, rfl, hz, q⟩ := h
  obtain ⟨u, rfl, t, rfl⟩ := vals1 r
  have z : x.cps.size ≤ sizeLine := Nat.le_trans hz (by decide)
  refine call_tuple_str (I.ok.hd hc) x t (fun h' tk acc k ha => ?_) z
  have I1 : Inv X pins σ H { s with heap := h', toks := tk } := I.kept (t' := tk) k
  have rv := signs_rel ha
  have hl : (signs x).length ≤ sizeLine := by unfold signs; rw [List.length_map, Array.length_toList]; exact z
  exact ⟨.ref h'.objs.size, upd H h'.objs.size (.tup (signs x)), I1.laid (t' := tk) (fun b o e => Heap.get?_push_of_some _ e) (Nat.le_refl _) ⟨hl, acc.toList, rv, by simpa using IsTup.new h' acc⟩, rfl, q _ (I1.hok.fresh (Nat.le_refl _))⟩
/-- list(a text) -/
theorem call_lstS (hc : X.calm = true) : CallR X (.type "list") (fun xs H Q => ∃ x : Str, xs = [.str x] ∧ x.length ≤ 100000 ∧ ∀ p, H p = none → Q (.ref p) (upd H p (.lst (signs x)))) := by
  intro pins s σ H xs us Q I r h
  obtain ⟨x, rfl, hz, q⟩ := h
  obtain ⟨u, rfl, t, rfl⟩ := vals1 r
  have z : x.cps.size ≤ sizeLine := Nat.le_trans hz (by decide)
  refine call_list_str (I.ok.hd hc) x t (fun h' tk acc c k ho ha => ?_) z
  have rv := signs_rel ha
  have hl : (signs x).length ≤ sizeLine := by unfold signs; rw [List.length_map, Array.length_toList]; exact z
  exact ⟨.ref s.heap.objs.size, upd H s.heap.objs.size (.lst (signs x)), I.laid (t' := tk) k (Nat.le_refl _) ⟨hl, acc.toList, c, rv, by simpa using ho⟩, rfl, q _ (I.hok.fresh (Nat.le_refl _))⟩

/-- a value's object, frozen from here on -/
def tFrz (t : TE) : TE := fun σ H Q => t σ H fun v H1 => ∃ d u, v = .ref d ∧ H1 d = some u ∧ Mut (some u) ∧ ∀ od, Q v (upd H1 d (.frz od u))
theorem pe_frz {e : Expr} {t : TE} (h : PE X e t) : PE X e (tFrz t) := by
  refine ⟨fun pins s σ H Q I hw => thn (h.run pins s σ H _ I hw) fun v s1 ⟨x, H1, I1, r, d, u, ex, hd, mu, q⟩ => ?_⟩
  obtain ⟨od, I2⟩ := I1.lock hd mu
  exact ⟨x, _, I2, r, q od⟩

/-- what is walked: a list or a tuple -/
def iSeq (K : PySem.W.Frag) (tl : TE) : TI := fun σ H R => tl σ H fun x H1 => ∃ a, x = .ref a ∧ (((∃ xs, SqL K H1 a xs) ∧ R (Itl K a) H1) ∨ ((∃ xs, SqT K H1 a xs) ∧ R (Itt K a) H1))
theorem pi_seq {tg l : Expr} {tl : TE} (hl : PE X l tl) : PI X tg l (iSeq X.K tl) := by
  refine ⟨fun pins s σ H R I h => thn (hl.run pins s σ H _ I h) fun v s1 ⟨x, H1, I1, r1, a, e, hq⟩ => ?_⟩
  subst e
  cases r1
  rcases hq with ⟨⟨xs, hs⟩, q⟩ | ⟨⟨xs, hs⟩, q⟩
  · obtain ⟨its, rv, p, hz⟩ := I1.list hs
    exact wpAny_pyIter_list p.isList (pi_one (tk := s1.toks) I1 _ (turn_list a _) ⟨_, Heap.get?_push_size _ rfl, rfl, rfl⟩ q)
  · obtain ⟨its, rv, p, hz⟩ := I1.tuple hs
    exact wpAny_pyIter_tuple (show s1.heap.IsTuple a its.toArray from p) (pi_one (tk := s1.toks) I1 _ (turn_tuple a _) ⟨_, Heap.get?_push_size _ rfl, rfl, rfl⟩ q)

/-- t.index(i) of a tuple of ints, the first place -/
theorem flat_at2 {ys : List V} {j : Nat} {z : V} (f : ys.all flatV = true) (h : ys[j]? = some z) : flatV z = true := List.all_eq_true.mp f z (List.mem_of_getElem? h)
def rIndexT (K : PySem.W.Frag) : V → List V → Hp → VK → Prop := fun x xs H Q => ∃ (p : Addr) (ns : List Int) (n : Int) (j : Nat), x = .ref p ∧ xs = [.int n] ∧ SqT K H p (ns.map V.int) ∧ ns[j]? = some n ∧ (∀ m, m < j → ns[m]? ≠ some n) ∧ Q (.int (j : Nat)) H
theorem mt_tup_indexI : MtR X "tuple.index" (rIndexT X.K) := by
  intro pins s σ H x xs v us Q I rx rs h
  obtain ⟨p, ns, n, j, rfl, rfl, hq, hy, hno, q⟩ := h
  cases rx
  obtain ⟨u, rfl, t, rfl⟩ := vals1 rs
  obtain ⟨its, r, ⟨⟨cls, dd, dt, sl⟩, ho, hc, k, hd⟩, hz⟩ := I.tuple hq
  simp only at hc hd
  subst hc hd
  have hl : its.length = ns.length := by rw [← r.length, List.length_map]
  have hj : j < its.toArray.size := by rw [List.size_toArray, hl]; exact (List.getElem?_eq_some_iff.mp hy).1
  have it : ∀ (m : Nat) (hm : m < its.toArray.size) (z : Int), ns[m]? = some z → ∃ t', its.toArray[m] = Value.int z t' := fun m hm z hz => by
    obtain ⟨w, hw, t', hw'⟩ := r.get (i := m) (x := .int z) (by rw [List.getElem?_map, hz]; rfl)
    exact ⟨t', by rw [← hw', ← (List.getElem?_eq_some_iff.mp hw).2]; simp⟩
  refine call_meets PySem.F.slot_tuple_index ⟨_, ho, rfl⟩ PySem.F.entry_tuple_index (PySem.F.args_tuple_index_2 _ _) (TI.tuple_indexAt p its.toArray k dd sl (.int n t) (eqU (.int n)) j hj ?_ ?_)
    ⟨ho, fun w hw => mem_eqAt (x := .int n) ⟨t, rfl⟩ rfl r (flat_ints ns) w (by simpa using hw), ⟨.int (j : Nat), H, I.tok _, ⟨_, rfl⟩, q⟩⟩
  · obtain ⟨t', e⟩ := it j hj n hy
    rw [e]
    exact beq_self_eq_true n
  · intro m hm hmj
    have hm2 : m < ns.length := by rw [List.size_toArray, hl] at hm; exact hm
    obtain ⟨t', e⟩ := it m hm ns[m] (List.getElem?_eq_getElem hm2)
    rw [e]
    refine beq_eq_false_iff_ne.mpr fun z => hno m hmj ?_
    rw [List.getElem?_eq_getElem hm2, z]
end
end K11
set_option Elab.async false
set_option linter.all false
set_option maxRecDepth 100000
set_option maxHeartbeats 4000000
set_option autoImplicit false
/-! K11Rule2: sorted, dict(..), enumerate of a tuple. -/
namespace K11
open PySem PySem.Spec PyProof.Rows L2 RZ PySem.W
section
variable {X : Cx}
/-- the order of data -/
abbrev leD : PyData → PyData → Bool := dataLe false fun d : PyData => d
/-- sorted(x): what is asked and given, x a list or a tuple -/
def rSortD (K : PySem.W.Frag) : List V → Hp → VK → Prop := fun vs H Q => ∃ (a : Addr) (xs : List V) (ds : List PyData) (P : V → PyData → Prop), vs = [.ref a] ∧ (SqL K H a xs ∨ SqT K H a xs) ∧ Paired P xs ds ∧ (∀ x d, P x d → Dp K H x d) ∧
  AllAlike ds ∧ Sortable ds ∧ ds.length ≤ 1000 ∧ (∀ d ∈ ds, d.depth ≤ 8) ∧ ∀ ys p, H p = none → Paired P ys (ds.mergeSort leD) → Q (.ref p) (upd H p (.lst ys))
theorem each_rd {P : V → PyData → Prop} {pins : List (Addr × Obj)} {σ : L2.St} {H : Hp} {s : Shared} (I : Inv X pins σ H s) (hp : ∀ x d, P x d → Dp X.K H x d) : ∀ {xs : List V} {us : List Value} {ds : List PyData}, Paired P xs ds → Vals xs us →
    EachIs (fun u d => ∃ x, RelV x u ∧ P x d) us ds ∧ EachIs (fun u d => ∃ as, Reads s.heap u d as) us ds
  | _, _, _, .nil, .nil => ⟨.nil, .nil⟩
  | _, _, _, .cons h t, .cons r q => by
    obtain ⟨a, b⟩ := each_rd I hp t q
    obtain ⟨as, z⟩ := Dp.reads I _ _ _ (hp _ _ h) r
    exact ⟨.cons ⟨_, r, h⟩ a, .cons ⟨as, z⟩ b⟩
theorem each_back {P : V → PyData → Prop} : ∀ {us : List Value} {ds : List PyData}, EachIs (fun u d => ∃ x, RelV x u ∧ P x d) us ds → ∃ ys, Vals ys us ∧ Paired P ys ds
  | _, _, .nil => ⟨[], .nil, .nil⟩
  | _, _, .cons ⟨x, r, h⟩ t => by
    obtain ⟨ys, a, b⟩ := each_back t
    exact ⟨x :: ys, .cons r a, .cons h b⟩
theorem map_id2 {ds : List PyData} : ds.map (fun d : PyData => d) = ds := by simp
/-- sorted(t), t a tuple -/
theorem sorted_tupD {prog : Program} {w : World} {A : Around} {E : Value → Shared → Prop} {s : Shared} {vs : List Value} {ds : List PyData} {R : Value → PyData → Prop} {l : Addr} {Q : Value → Shared → Prop} (hl : IsTup s.heap l vs.toArray) (e : EachIs R vs ds)
    (er : EachIs (fun v b => ∃ as, Reads s.heap v b as) vs ds) (hal : AllAlike ds) (hk : Sortable ds) (hL : ds.length ≤ 1000) (hu : A.units + 64 < cLine) (hd : ∀ d ∈ ds, d.depth ≤ 8)
    (h : ∀ (h' : Heap) (p : Addr) (out : List Value), (∀ b o, s.heap.get? b = some o → h'.get? b = some o) → s.heap.get? p = none → (∃ n, h'.get? p = some (seqObj "list" out.toArray n)) → out.length = ds.length → EachIs R out (ds.mergeSort leD) → Q (.ref p) { s with heap := h' }) :
    wpAny (model prog w) A (call (.builtin "sorted") [.ref l]) Q E s := by
  obtain ⟨o, ho, hc, n, hdt⟩ := hl
  have hlen : vs.length ≤ sizeLine := by rw [e.length]; exact Nat.le_trans hL (by decide)
  refine Calls.call_function_entry kind_sorted plain_sorted entry_sorted (args_sorted1 _) ?_
  unfold Builtin.«sorted»
  refine wpAny_bind (m := checkCount "sorted" 1 1 _) (wpAny_pure ?_)
  refine wpAny_bind (wpAny_collect_seq l (.inr rfl) ho hc hdt (fun h1 k1 => ?_) (by simpa using hlen))
  refine wpAny_bind (wpAny_newList ?_ (by simpa using hlen))
  have hp : (h1.push (seqObj "list" vs.toArray 0)).get? h1.objs.size = some (seqObj "list" vs.toArray 0) := Heap.get?_push_size _ rfl
  have k2 : ∀ b o, s.heap.get? b = some o → b ≠ h1.objs.size ∧ (h1.push (seqObj "list" vs.toArray 0)).get? b = some o := fun b o q => ⟨Nat.ne_of_lt (Heap.lt_size (k1 b o q)), Heap.get?_push_of_some _ (k1 b o q)⟩
  have er2 : EachIs (fun v b => ∃ as, Reads (sortingHeap (h1.push (seqObj "list" vs.toArray 0)) h1.objs.size vs) v b as) vs ds := er.mono fun _ _ ⟨as, r⟩ => ⟨as, PyProof.Rows.Reads.keeps (fun b o q => sortingHeap_old (k2 b o q).1 (k2 b o q).2) r⟩
  have S : SortsAt prog w A.in1.in1 { s with heap := sortingHeap (h1.push (seqObj "list" vs.toArray 0)) h1.objs.size vs } (dataKind (sortingHeap (h1.push (seqObj "list" vs.toArray 0)) h1.objs.size vs) ds) vs :=
    SortsAt.data (s := { s with heap := sortingHeap (h1.push (seqObj "list" vs.toArray 0)) h1.objs.size vs }) er2 hal hk fun d m => by
      have := hd d m
      show A.units + 1 + 1 + d.depth < cLine
      omega
  have es : (vs.toArray.toList).toArray = vs.toArray := by simp
  rw [es]
  refine wpAny_bind (wpAny_holding (wpAny_call_entry slot_list_sort ⟨_, hp, rfl⟩ entry_list_sort (list_sort_vals hp S (by rw [e.length]; exact Nat.le_trans hL (by decide)) ⟨_, rfl, ?_⟩) (args_list_sort _)))
  refine wpAny_pure ⟨_, rfl, ?_⟩
  refine h _ h1.objs.size _ (fun b o q => ?_) ?_ (PyProof.Rows.sortedHeap_at hp) (by rw [sortVals_length false rfl]; exact e.length) ?_
  · rw [PyProof.Rows.sortedHeap_old (k2 b o q).1 (Heap.lt_size (k2 b o q).2)]; exact (k2 b o q).2
  · cases q : s.heap.get? h1.objs.size with
    | none => rfl
    | some u => exact absurd (Heap.lt_size (k1 _ u q)) (Nat.lt_irrefl _)
  · have z := sortVals_data (h' := sortingHeap (h1.push (seqObj "list" vs.toArray 0)) h1.objs.size vs) (enc := fun d : PyData => d) false e er2 (by rw [map_id2]; exact hal)
    rw [map_id2] at z
    exact z
theorem cr_sortD (hu : X.A.units + 64 < cLine) : CallR X (.builtin "sorted") (rSortD X.K) := by
  intro pins s σ H vs us Q I r h
  obtain ⟨a, xs, ds, P, rfl, hs, hp, hd, hal, hk, hz, hde, q⟩ := h
  obtain ⟨u, rfl, ru⟩ := vals1 r
  cases ru
  have fin : ∀ (h' : Heap) (p : Addr) (out : List Value), (∀ b o, s.heap.get? b = some o → h'.get? b = some o) → s.heap.get? p = none → (∃ n, h'.get? p = some (seqObj "list" out.toArray n)) → out.length = ds.length →
      EachIs (fun u d => ∃ x, RelV x u ∧ P x d) out (ds.mergeSort leD) → EP X pins σ Q (.ref p) { s with heap := h' } := fun h' p out k n ho hl ho2 => by
    obtain ⟨ys, rv, pd⟩ := each_back ho2
    obtain ⟨m, ho⟩ := ho
    have hn : H p = none := I.hok.gone n
    have hlen : ys.length ≤ sizeLine := by rw [rv.length, hl]; exact Nat.le_trans hz (by decide)
    exact ⟨.ref p, upd H p (.lst ys), I.laidN (t' := s.toks) k n hn ⟨hlen, out, m, rv, ho⟩, rfl, q ys p hn pd⟩
  rcases hs with hs | hs
  · obtain ⟨its, rv, hl, _⟩ := I.list hs
    obtain ⟨e, er⟩ := each_rd I hd hp rv
    refine sorted_data (enc := fun d : PyData => d) hl.isList e er (by rw [map_id2]; exact hal) (by rw [map_id2]; exact hk) (Nat.le_trans hz (by decide)) (fun d m => by have := hde d m; omega) fun out ho eo => ?_
    refine fin _ _ out (fun b o q => sortedAll_old q) ?_ (sortedAll_at s.heap its out.toArray) ho eo
    cases q : s.heap.get? (s.heap.objs.size + 1) with
    | none => rfl
    | some u => exact absurd (Heap.lt_size q) (Nat.not_lt.mpr (Nat.le_succ _))
  · obtain ⟨its, rv, hl, _⟩ := I.tuple hs
    obtain ⟨e, er⟩ := each_rd I hd hp rv
    exact sorted_tupD hl e er hal hk hz hu hde fin

/-- dict(t), t a tuple of pairs, known as its very object -/
theorem call_dictT (hcalm : X.calm = true) : CallR X (.type "dict") (fun xs H Q => ∃ (a : Addr) (ps : List Addr) (kvs : List (Key × V)) (o : Obj), xs = [.ref a] ∧ H a = some (.frz o (.tup (ps.map V.ref))) ∧ o.dict = none ∧ Paired (fun p kv => SqT X.K H p [kV kv.1, kv.2]) ps kvs ∧
    ∀ p, H p = none → Q (.ref p) (upd H p (.dK (mergeK [] kvs)))) := by
  intro pins s σ H xs us Q I r q
  obtain ⟨a, ps, kvs, o, rfl, hq, hdo, hp, q⟩ := q
  obtain ⟨u, rfl, rx⟩ := vals1 r
  cases rx
  obtain ⟨ho, hz, its, rv, o', ho', hc, n, hdat⟩ := I.hok _ _ hq
  have eo : o' = o := Option.some.inj (ho'.symm.trans ho)
  subst eo
  have ei := refs_at rv
  subst ei
  rw [List.length_map] at hz
  obtain ⟨prs, rel, hl, hpr⟩ := pairs_of I hp
  -- the pairs, with the keys' own values
  have hT : ∀ j : Nat, ∃ T : Addr, ∀ q, prs[j]? = some q → ps[j]? = some T := fun j => by
    cases e : ps[j]? with
    | none => exact ⟨0, fun q h => by obtain ⟨b, u, e1, _⟩ := hpr j q h; rw [e] at e1; cases e1⟩
    | some T => exact ⟨T, fun _ _ => rfl⟩
  have hK : ∀ j : Nat, ∃ u : Value, ∀ q, prs[j]? = some q → ∀ b, ps[j]? = some b → IsTup s.heap b #[u, q.2] ∧ keyIs q.1 u = true := fun j => by
    cases e : prs[j]? with
    | none => exact ⟨.none, fun q h => nomatch h⟩
    | some q0 =>
      obtain ⟨b, u, e1, e2, e3⟩ := hpr j q0 e
      refine ⟨u, fun q h b' h' => ?_⟩
      cases h
      rw [e1] at h'
      cases h'
      exact ⟨e2, e3⟩
  let ks : List (Value × Value) := (List.range prs.length).map fun j => ((hK j).choose, ((prs[j]?).map (·.2)).getD .none)
  have kl : ks.length = prs.length := by simp [ks]
  have kg : ∀ (j : Nat) q, prs[j]? = some q → ks[j]? = some ((hK j).choose, q.2) := fun j q h => by
    have hj : j < prs.length := (List.getElem?_eq_some_iff.mp h).1
    show (List.map _ (List.range prs.length))[j]? = _
    rw [List.getElem?_map, List.getElem?_range hj]
    have e2 : ((prs[j]?).map (·.2)).getD .none = q.2 := by rw [h]; rfl
    exact congrArg (fun z => some ((hK j).choose, z)) e2
  have P := PySem.PairArg.tuple (prog := X.prog) (w := X.w) a (ps.map Value.ref).toArray (fun j => (hT j).choose) ks
  refine PySem.call_dict_pairs (knd := mixKind X.prog X.w) (kvs := prs) P (I.ok.hd hcalm) ⟨⟨o', n, ho', hc, hdo, hdat⟩, ?_, fun j k v hj => ?_⟩ ⟨by rw [kl], fun i key v hr => ?_⟩ (by rw [kl, hl]; exact hz) fun h' tk hd' k => ?_
  · rw [kl, hl]; simp
  · have hjl : j < prs.length := by rw [← kl]; exact (List.getElem?_eq_some_iff.mp hj).1
    have e0 : prs[j]? = some prs[j] := List.getElem?_eq_getElem hjl
    rw [kg j _ e0] at hj
    cases hj
    have eT := (hT j).choose_spec _ e0
    obtain ⟨t1, t2⟩ := (hK j).choose_spec _ e0 _ eT
    refine ⟨(List.getElem?_toArray).trans ((List.getElem?_map).trans (congrArg (Option.map Value.ref) eT)), .inl ?_⟩
    obtain ⟨o, a1, a2, a3, a4⟩ := t1
    exact ⟨o, a1, a2, a3, a4⟩
  · have hr : ks[i]? = some (key, v) := hr
    have hil : i < prs.length := by rw [← kl]; exact (List.getElem?_eq_some_iff.mp hr).1
    have e0 : prs[i]? = some prs[i] := List.getElem?_eq_getElem hil
    rw [kg i _ e0] at hr
    cases hr
    have eT := (hT i).choose_spec _ e0
    obtain ⟨t1, t2⟩ := (hK i).choose_spec _ e0 _ eT
    exact ⟨prs[i].1, e0, t2⟩
  · have hm : (s.heap.objs.size == sysModules) = false := beq_eq_false_iff_ne.mpr (Nat.ne_of_gt I.big)
    have hlen : (mergeK [] kvs).length ≤ sizeLine := by
      refine Nat.le_trans (length_mergeK kvs []) ?_
      rw [List.length_nil, Nat.zero_add, rel.length, hl]
      exact hz
    exact ⟨.ref s.heap.objs.size, upd H s.heap.objs.size (.dK (mergeK [] kvs)), I.laid (t' := tk) (fun b o e => k b o (fun z => nomatch z) e) (Nat.le_refl _) (show ObjOk X.prog X.w _ _ _ (.dK (mergeK [] kvs)) from ⟨hlen, hm, merged [] prs, KV.merge rel .nil, hd'⟩), rfl, q _ (I.hok.fresh (Nat.le_refl _))⟩
/-- tuple(a list), known as its very object -/
theorem call_tupF : CallR X (.type "tuple") (fun xs H Q => ∃ p ys, xs = [.ref p] ∧ SqL X.K H p ys ∧ ∀ l o, H l = none → o.dict = none → Q (.ref l) (upd H l (.frz o (.tup ys)))) := by
  intro pins s σ H xs us Q I r h
  obtain ⟨p, ys, rfl, hq, q⟩ := h
  obtain ⟨u, rfl, rx⟩ := vals1 r
  cases rx
  obtain ⟨its, rv, pl, hz⟩ := I.list hq
  refine call_tuple_list pl.isList (fun h' kp => ?_) (by rw [List.size_toArray, ← rv.length]; exact hz)
  have I1 : Inv X pins σ H { s with heap := h' } := I.kept (t' := s.toks) kp
  have I2 := I1.laid (a := h'.objs.size) (o := .frz { cls := .type "tuple", data := .seq its.toArray } (.tup ys)) (h' := h'.push { cls := .type "tuple", data := .seq its.toArray }) (t' := s.toks) (fun b o e => Heap.get?_push_of_some _ e) (Nat.le_refl _)
    ⟨Heap.get?_push_size _ rfl, hz, its, rv, IsTup.new _ _⟩
  exact ⟨.ref h'.objs.size, _, I2, rfl, q _ _ (I1.hok.fresh (Nat.le_refl _)) rfl⟩
/-- a tuple's own method, the tuple known as its very object -/
def tTM (r : V → List V → Hp → VK → Prop) (to : TE) (t : TA) : TE := fun σ H Q => to σ H fun x H1 => (∃ a o xs, x = .ref a ∧ H1 a = some (.frz o (.tup xs)) ∧ o.dict = none) ∧ t σ H1 fun vs H2 => r x vs H2 Q
theorem pe_tm {o e : Expr} {es : List Expr} {to : TE} {t : TA} {name : Str} {apos cpos : Pos} {id : String} {r : V → List V → Hp → VK → Prop} (pa : PlainAttrs "tuple") (slot : Slot "tuple" name id) (hty : typeOf (.builtin id) = pure (.type "method_descriptor")) (hm : MtR X id r)
    (ho : PE X o to) (ha : PA X (e :: es) t)
    (hbase : attributeBase o name X.env (eval o X.env) = eval o X.env := by rfl)
    (hfew : ((backTo cpos (starEach (e :: es) X.env)).all (fun x => !x.1) && (backToKw cpos (keywordEach [] X.env)).all (fun x => x.1.isSome)
      && decide ((e :: es).length + ([] : List Keyword).length + (if ([] : List Keyword).isEmpty then 0 else 1) < 30)) = true := by rfl)
    (hline : (apos.endLine == cpos.line) = true := by rfl) (hs : starEach (e :: es) X.env = (false, eval e X.env) :: starEach es X.env := by rfl) (hplain : (backTo cpos (starEach es X.env)).any (·.1) = false := by rfl) :
    PE X (.Call (.Attribute o name apos) (e :: es) [] cpos) (tTM r to t) := by
  refine ⟨fun pins s σ H Q I h => wpAny_Call_method_late hbase hfew hline rfl (thn (ho.run pins s σ H _ I h) fun v s1 ⟨x, H1, I1, r1, ⟨a, ob, xs, ex, hq, hd⟩, q1⟩ => ?_)⟩
  subst ex
  cases r1
  obtain ⟨h0, _, _, _, o', h0', hc, _⟩ := I1.hok _ _ hq
  have eo : o' = ob := Option.some.inj (h0'.symm.trans h0)
  subst eo
  refine ⟨"tuple", id, pa, slot, hty, ⟨o', h0', hc⟩, fun b e => by cases e; exact ⟨o', h0', hd⟩, ?_⟩
  have hA := ha.run cpos pins s1 σ H1 _ I1 q1
  rw [hs] at hA ⊢
  refine Calls.callWith_builtin (by show (false || (backTo cpos (starEach es X.env)).any (·.1)) = false; rw [hplain] <;> rfl) (Calls.evalArgs_plain ?_)
  exact thn hA fun us s2 ⟨vs, H2, I2, r2, q2⟩ => hm pins s2 σ H2 (.ref a) vs _ us Q I2 (show L2.RelV (.ref a) (.ref a) from rfl) r2 q2
end
end K11
set_option Elab.async false
set_option linter.all false
set_option maxRecDepth 100000
set_option maxHeartbeats 4000000
set_option autoImplicit false
/-! K11Rule3: enumerate of a tuple. -/
namespace PySem
open Sem (wp)
open AutoSeq1 (wpAny_loadPart')
theorem k11_enum_newT (l : Addr) (o : Obj) (items : Array Value) (n : Nat) (hc : o.cls = .type "tuple") (hd : o.data = .seq items n) :
    Meets (Builtin.«enumerate.__new__» ⟨[.type "enumerate", .ref l], []⟩) (fun _ R s => s.heap.get? l = some o ∧
      R (.ok (.ret (.ref (s.heap.push { cls := .type "tuple_iterator", data := .fields #[.ref l, .int 0 0] }).objs.size)))
        { s with heap := (s.heap.push { cls := .type "tuple_iterator", data := .fields #[.ref l, .int 0 0] }).push { cls := .type "enumerate", data := .fields #[.none, .bool false, .ref s.heap.objs.size, rawInt 0, .none, .none] } }) :=
  .of_wp fun prog w A R s h => by
    obtain ⟨hp, g, d, tk, os⟩ := s; obtain ⟨hl, h⟩ := h
    have hsub := sub_enumerate
    have hL : Heap.IsTuple (Shared.heap ⟨hp, g, d, tk, os⟩) l items := ⟨_, hl, hc, n, hd⟩
    wp_walk using wpAny_loadPart' hl
    refine wpAny_stack_any fun st => wpAny_pure ?_
    split
    · rename_i c _ _ _ _ _
      cases (c == Value.type "enumerate") <;>
      · wp_walk using wpAny_loadPart' hl, wpAny_pyIter_tuple hL
        exact ⟨_, rfl, h⟩
    · wp_walk using wpAny_loadPart' hl, wpAny_pyIter_tuple hL
      exact ⟨_, rfl, h⟩
theorem k11_call_enumT {prog : Program} {w : World} {A : Around} {E : Value → Shared → Prop} {s : Shared} {l : Addr} {items : Array Value} {Q : Value → Shared → Prop} (hL : s.heap.IsTuple l items)
    (h : ∀ h', IsEnum h' (s.heap.objs.size + 1) s.heap.objs.size 0 .none → h'.IsTupleIter s.heap.objs.size l 0 →
      (∀ b o, s.heap.get? b = some o → h'.get? b = some o) → Q (.ref (s.heap.objs.size + 1)) { s with heap := h' }) :
    wpAny (model prog w) A (call (.type "enumerate") [.ref l]) Q E s := by
  obtain ⟨o, hl, hc, n, hd⟩ := hL
  refine callType_new F.called_enumerate (by decide) (F.typeCall_enumerate_1 _) (F.newCall_enumerate_1 _) (fun obj => F.args_object_init_2 obj _) F.entry_enumerate_new
    (k11_enum_newT l o items n hc hd) ⟨hl, ?_⟩
  have hz : (s.heap.push { cls := .type "tuple_iterator", data := .fields #[.ref l, .int 0 0] }).objs.size = s.heap.objs.size + 1 := Heap.size_push ..
  show _ ∧ _
  rw [hz]
  have he := Heap.get?_push_size (s.heap.push { cls := .type "tuple_iterator", data := .fields #[.ref l, .int 0 0] }) (o := { cls := .type "enumerate", data := .fields #[.none, .bool false, .ref s.heap.objs.size, rawInt 0, .none, .none] }) rfl
  rw [hz] at he
  exact ⟨⟨_, he, rfl⟩, h _ he ⟨_, Heap.get?_push_of_some _ (Heap.get?_push_size _ rfl), rfl, rfl⟩ fun b o x => Heap.get?_push_of_some _ (Heap.get?_push_of_some _ x)⟩
end PySem
namespace K11
open PySem PySem.Spec PyProof.Rows L2 RZ PySem.W
def IteT (K : PySem.W.Frag) (a : Addr) : It :=
  ⟨fun i H => ∃ (xs : List V) (x : V), SqT K H a xs ∧ xs[i]? = some x, fun i H v H' => ∃ T x, v = .ref T ∧ H T = none ∧ H' = upd H T (.tup [.int (i : Nat), x]) ∧ ∀ xs, SqT K H a xs → xs[i]? = some x, fun i H => ∃ xs : List V, SqT K H a xs ∧ xs.length = i⟩
theorem turn_enumT {P : Program} {w : World} {K : PySem.W.Frag} {elts : List Expr} {kk : Nat} {tpos : Pos} (a e it : Addr) :
    Turn P w K (.Tuple elts kk tpos) (IteT K a) [e, it] e (fun i h => (∃ old, IsEnum h e it ((i : Nat) : Int) old) ∧ h.IsTupleIter it a i ∧ e ≠ it ∧ a ≠ it ∧ a ≠ e) where
  mem := by simp
  obj := fun i h st b hb => by
    obtain ⟨⟨old, he⟩, ⟨o, ho, hc, hd⟩, _⟩ := st
    have e' : b = e ∨ b = it := by simpa using hb
    rcases e' with rfl | rfl
    · exact ⟨_, he, fun v q => nomatch q⟩
    · exact ⟨o, ho, fun v q => by rw [hd] at q; cases q⟩
  keep := fun i h h' st k => let ⟨⟨old, he⟩, hi, hne⟩ := st; ⟨⟨old, k e (by simp) _ he⟩, hi.at fun o q => k it (by simp) o q, hne⟩
  item := by
    intro X hP hw hK hc i pins s σ H E I hf st hg
    subst hP hw hK
    obtain ⟨⟨old, he⟩, hit, hne, ha1, ha2⟩ := st
    obtain ⟨xs, x, hq, hx⟩ := hg
    obtain ⟨its, rv, p, hz⟩ := I.tuple hq
    obtain ⟨u, hu, ru⟩ := rv.get hx
    have hel : e < s.heap.objs.size := Heap.lt_size he
    have hil : it < s.heap.objs.size := by obtain ⟨_, q, _⟩ := hit; exact Heap.lt_size q
    have D := Draws.tuple (prog := X.prog) (w := X.w) (A := X.A.in1) (I.ok.hd hc) it a ha1 its.toArray
    have hlt : i < its.toArray.size := by rw [List.size_toArray]; exact (List.getElem?_eq_some_iff.mp hu).1
    refine wpAny_pyNext_enum_itemC D he ⟨hit, p⟩ hlt hne (by simp [hne, ha2.symm]) fun y h' tk hy ho hst hT hsz hk => ?_
    have ey : y = u := by
      have q1 : its[i]? = some y := by simpa using hy
      exact Option.some.inj (q1.symm.trans hu)
    subst ey
    refine ⟨_, rfl, wpAny_letOwnedTupleGo_enum (s := { s with heap := h', toks := tk + 1 }) ho fun h2 he' sb => ?_⟩
    have hT2 : h2.get? s.heap.objs.size = some { cls := .type "tuple", data := .seq #[.int i tk, y] } := (sb.2 _ (Nat.ne_of_gt hel)).trans hT
    have new : ObjOk X.prog X.w (upd H s.heap.objs.size (.tup [.int (i : Nat), x])) h2 s.heap.objs.size (.tup [.int (i : Nat), x]) :=
      ⟨by show 2 ≤ sizeLine; decide, [.int i tk, y], .cons ⟨_, rfl⟩ (.cons ru .nil), ⟨_, hT2, rfl, _, rfl⟩⟩
    have I1 := I.turnedNew (ch := [e, it]) (h' := h2) (t' := tk + 1) (fun b ob hb q => (sb.2 b (fun z => hb (by simp [z]))).trans (hk b ob (fun z => hb (by simp [z])) (fun z => hb (by simp [z])) q)) hf (Nat.le_refl _) new
    refine ⟨.ref s.heap.objs.size, _, I1, rfl, ⟨_, x, rfl, I.hok.fresh (Nat.le_refl _), rfl, fun ys hy => by rw [I.tuple_inj hy hq]; exact hx⟩, ⟨⟨y, ?_⟩, hst.1.at fun o q => (sb.2 it (Ne.symm hne)).trans q, hne, ha1, ha2⟩, fun b hb => ?_⟩
    · rw [show ((i + 1 : Nat) : Int) = (i : Int) + 1 by omega]; exact he'
    · have hb' : b < s.heap.objs.size := by
        have e' : b = e ∨ b = it := by simpa using hb
        rcases e' with rfl | rfl <;> assumption
      rw [upd_ne (Nat.ne_of_lt hb')]
      exact (hf b hb).1
  done := by
    intro X hP hw hK hc i pins s σ H E I hf st hg
    subst hP hw hK
    obtain ⟨⟨old, he⟩, hit, hne, ha1, ha2⟩ := st
    obtain ⟨xs, hq, hx⟩ := hg
    obtain ⟨its, rv, p, hz⟩ := I.tuple hq
    obtain ⟨f0, f1, f2, f3, f4, f5⟩ := hf it (by simp)
    have D := Draws.tuple (prog := X.prog) (w := X.w) (A := X.A.in1) (I.ok.hd hc) it a ha1 its.toArray
    have ei : its.toArray.size = i := by rw [List.size_toArray, ← rv.length, hx]
    refine wpAny_pyNext_enum_endD D he ⟨by rw [ei]; exact hit, p⟩ fun h' eb => ⟨rfl, I.turned (t' := s.toks) (fun b o hb q => eb b o hb q) f0 f1 f3 f4 f5⟩
  self := fun A i s Q E st h => let ⟨⟨_, he⟩, _⟩ := st; wpAny_pyIter_enum he h
/-- what enumerate(t) walks -/
def iEnumT (K : PySem.W.Frag) (ta : TA) : TI := fun σ H R => ta σ H fun vs H1 => ∃ a xs, vs = [.ref a] ∧ SqT K H1 a xs ∧ R (IteT K a) H1
theorem pi_enumT {X : Cx} {e : Expr} {ta : TA} {p pos tpos : Pos} {elts : List Expr} {kk : Nat} (hg : Gl X "enumerate") (hm : X.mg "enumerate" = none) (ha : PA X [e] ta) (hs : starEach [e] X.env = [(false, eval e X.env)] := by rfl) :
    PI X (.Tuple elts kk tpos) (.Call (.Name "enumerate" p) [e] [] pos) (iEnumT X.K ta) := by
  refine ⟨fun pins s σ H R I h => ?_⟩
  refine Call_ (ld_blt I hg hm boot_enumerate (PyProof.Rows.callWith_type1 (thn (ha.run pos pins s σ H _ I h) fun us s1 ⟨vs, H1, I1, r1, a, xs, ex, hq, q⟩ => ?_) hs rfl))
  subst ex
  obtain ⟨u, rfl, ru⟩ := vals1 r1
  cases ru
  obtain ⟨its, rv, p', hz⟩ := I1.tuple hq
  have hal : a < s1.heap.objs.size := by obtain ⟨_, z, _⟩ := p'; exact Heap.lt_size z
  refine k11_call_enumT (show s1.heap.IsTuple a its.toArray from p') fun h' he hit hk => wpAny_pyIter_enum he ?_
  have I2 : Inv X pins σ H1 { s1 with heap := h' } := I1.kept (t' := s1.toks) hk
  refine ⟨s1.heap.objs.size + 1, [s1.heap.objs.size + 1, s1.heap.objs.size], _, _, H1, rfl, I2, turn_enumT a (s1.heap.objs.size + 1) s1.heap.objs.size,
    ⟨⟨.none, he⟩, hit, Nat.succ_ne_self _, Nat.ne_of_lt hal, Nat.ne_of_lt (Nat.lt_succ_of_lt hal)⟩, fun b hb => ?_, q⟩
  have hle : s1.heap.objs.size ≤ b := by
    have e' : b = s1.heap.objs.size + 1 ∨ b = s1.heap.objs.size := by simpa using hb
    rcases e' with rfl | rfl
    · exact Nat.le_succ _
    · exact Nat.le_refl _
  exact I1.fpOk hle (I1.hok.fresh hle)
variable {K : PySem.W.Frag} {G H : Hp} {σ : L2.St} {ts : TA} {ds : List PyData}
theorem wk_enumT {a : Addr} {xs : List V} (h : Tp G a xs) (r : Rps G xs ds) : Wk (IteT K a) G (enumD 0 ds) := by
  refine ⟨fun i H s hi => ?_, fun H s => ?_, fun i H v H' s hi y => ?_⟩
  · rw [enumD_len] at hi
    exact ⟨xs, xs[i]'(by rw [r.len]; exact hi), (h.up s).sq, by simp [r.len, hi]⟩
  · rw [enumD_len]
    exact ⟨xs, (h.up s).sq, r.len⟩
  · obtain ⟨T, x, rfl, hT, rfl, y⟩ := y
    obtain ⟨d, hd, rd⟩ := r.getV (y xs (h.up s).sq)
    refine ⟨_, enumD_get ds 0 i d hd, _, Gx.new s hT, ?_⟩
    rw [Nat.zero_add]
    exact new2 s hT (.int _) rd
theorem ei_enumT (h : EvS ts σ G [.tuple ds]) : EvI (iEnumT K ts) σ G (enumD 0 ds) := fun H i R q => h H i _ fun v G2 H2 x r => by
  cases r with
  | cons r1 r2 =>
    cases r2
    obtain ⟨a, xs, e, g, rs⟩ := r1.isTup
    exact ⟨a, xs, by rw [e], (g.up x.i).sq, q _ G2 H2 x (wk_enumT g rs)⟩
theorem ei_seqL {te : TE} (h : EvD te σ G (.list ds)) : EvI (iSeq K te) σ G ds := fun H i R q => h H i _ fun v G2 H2 x r => by
  obtain ⟨a, xs, e, g, rs⟩ := r.isList
  exact ⟨a, e, .inl ⟨⟨xs, .of (x.i _ _ g)⟩, q _ G2 H2 x (wk_list g rs)⟩⟩
theorem ei_seqT {te : TE} (h : EvD te σ G (.tuple ds)) : EvI (iSeq K te) σ G ds := fun H i R q => h H i _ fun v G2 H2 x r => by
  obtain ⟨a, xs, e, g, rs⟩ := r.isTup
  exact ⟨a, e, .inr ⟨⟨xs, (g.up x.i).sq⟩, q _ G2 H2 x (wk_tup g rs)⟩⟩
end K11
set_option Elab.async false
set_option linter.all false
set_option maxRecDepth 100000
set_option maxHeartbeats 4000000
set_option autoImplicit false
/-! K11Zip: list(zip(a, b)): every tuple that is given out is held. -/
namespace PySem
open Sem (wp)
section
variable {prog : Program} {w : World} {A : Around} {E : Value → Shared → Prop} {s : Shared} {z TI TO i1 i2 : Addr} {fp1 fp2 : List Addr} {n1 n2 i : Nat} {P1 P2 : Nat → Value → Prop} {St1 St2 : Nat → Heap → Prop}
theorem k11_held_item {T : Addr} {f : Bool} {oT : Obj} {Q : Value → Shared → Prop} (S : ZipSep2 z TI TO i1 i2 fp1 fp2) (D1 : Draws prog w A i1 fp1 n1 P1 St1) (D2 : Draws prog w A i2 fp2 n2 P2 St2)
    (hz : IsZipHeld s.heap z TI TO T f) (hT : s.heap.get? T = some oT) (hTI : IsTupOf2 s.heap TI (.ref i1) (.ref i2)) (st1 : St1 i s.heap) (st2 : St2 i s.heap) (l1 : i < n1) (l2 : i < n2)
    (hQ : ∀ x1 x2 h' tk, P1 i x1 → P2 i x2 → IsZipHeld h' z TI TO T true → St1 (i + 1) h' → St2 (i + 1) h' → IsTupOf2 h' s.heap.objs.size x1 x2 → h'.objs.size = s.heap.objs.size + 1 →
      (∀ c o, c ≠ z → c ≠ i1 → c ≠ i2 → s.heap.get? c = some o → h'.get? c = some o) → Q (.ref s.heap.objs.size) { s with heap := h', toks := tk }) :
    wpAny (model prog w) A (Builtin.«zip.__next__» ⟨[.ref z], []⟩) (fun fin s' => ∃ v, fin = .done (.ret v) ∧ Q v s') E s := by
  obtain ⟨hp, g, d, tk0, os⟩ := s
  show wpAny _ _ (field (.ref z) 2 >>= _) _ _ _
  refine wpAny_bind (wpAny_field hz rfl (x := .bool false) rfl ?_)
  show wpAny _ _ (field (.ref z) 3 >>= _) _ _ _
  refine wpAny_bind (wpAny_field hz rfl (x := .ref TI) rfl (wpAny_bind (wpAny_seqItems hTI rfl ?_)))
  show wpAny _ _ (Builtin.SmallTypes.ownedTupleIsFree (.ref z) >>= _) _ _ _
  refine wpAny_bind (wpAny_tupleHeld_zip hz hT fun g1 z1 s1 => ?_)
  replace s1 : Heap.SameBut z hp g1 := s1
  simp only [Bool.false_eq_true, if_false]
  refine wpAny_bind ?_
  rw [← Array.forIn_toList]
  simp only [List.forIn_cons, List.forIn_nil]
  refine wpAny_bind (wpAny_bind (wpAny_holding ?_))
  show wpAny _ _ (Builtin.SmallTypes.nextOf (.ref i1) >>= _) _ _ ⟨g1, g, d, tk0, os⟩
  refine wpAny_bind (D1.item i _ _ _ l1 (D1.over st1 s1 S.zf1) fun x1 g2 tk1 p1 n1' s2 => wpAny_pure (wpAny_pure ?_))
  replace s2 : Heap.SameBut i1 g1 g2 := s2
  refine wpAny_bind (wpAny_bind (wpAny_holding ?_))
  show wpAny _ _ (Builtin.SmallTypes.nextOf (.ref i2) >>= _) _ _ ⟨g2, g, d, tk1, os⟩
  refine wpAny_bind (D2.item i _ _ _ l2 (D2.over (D2.over st2 s1 S.zf2) s2 S.sep1_2) fun x2 g3 tk2 p2 n2' s3 => wpAny_pure (wpAny_pure (wpAny_pure ?_)))
  replace s3 : Heap.SameBut i2 g2 g3 := s3
  show wpAny _ _ (newTuple [x1, x2] >>= _) _ _ _
  refine wpAny_bind (wpAny_newTuple (wpAny_pure ⟨_, rfl, ?_⟩))
  have hsz : g3.objs.size = hp.objs.size := by rw [s3.1, s2.1, s1.1]
  show Q (.ref g3.objs.size) _
  have e1 : (g3.push { cls := .type "tuple", data := .seq #[x1, x2] }).get? g3.objs.size = some { cls := .type "tuple", data := .seq #[x1, x2] } := Heap.get?_push_size _ rfl
  have e2 : (g3.push { cls := .type "tuple", data := .seq #[x1, x2] }).objs.size = g3.objs.size + 1 := Heap.size_push ..
  rw [hsz] at e1 e2 ⊢
  have zz : IsZipHeld g3 z TI TO T true := s3.extBut _ _ S.zi2 (s2.extBut _ _ S.zi1 z1)
  exact hQ x1 x2 _ tk2 p1 p2 (Heap.get?_push_of_some _ zz) (D1.frame _ _ _ (D1.over n1' s3 S.sep2_1) fun b _ o e => Heap.get?_push_of_some _ e) (D2.frame _ _ _ n2' fun b _ o e => Heap.get?_push_of_some _ e) e1 e2
    fun c o c1 c2 c3 e => Heap.get?_push_of_some _ (s3.extBut _ _ c3 (s2.extBut _ _ c2 (s1.extBut _ _ c1 e)))
theorem k11_held_end {T : Addr} {f : Bool} {oT : Obj} {Q : Fin → Shared → Prop} (S : ZipSep2 z TI TO i1 i2 fp1 fp2) (D1 : Draws prog w A i1 fp1 n1 P1 St1)
    (hz : IsZipHeld s.heap z TI TO T f) (hT : s.heap.get? T = some oT) (hTI : IsTupOf2 s.heap TI (.ref i1) (.ref i2)) (st1 : St1 n1 s.heap)
    (hE : ∀ h' e, (∀ c o, c ≠ z → c ≠ i1 → s.heap.get? c = some o → h'.get? c = some o) → (∃ o, h'.get? e = some o ∧ o.cls = .type "StopIteration") → E (.ref e) { s with heap := h' }) :
    wpAny (model prog w) A (Builtin.«zip.__next__» ⟨[.ref z], []⟩) Q E s := by
  show wpAny _ _ (field (.ref z) 2 >>= _) _ _ _
  refine wpAny_bind (wpAny_field hz rfl (x := .bool false) rfl ?_)
  show wpAny _ _ (field (.ref z) 3 >>= _) _ _ _
  refine wpAny_bind (wpAny_field hz rfl (x := .ref TI) rfl (wpAny_bind (wpAny_seqItems hTI rfl ?_)))
  show wpAny _ _ (Builtin.SmallTypes.ownedTupleIsFree (.ref z) >>= _) _ _ _
  refine wpAny_bind (wpAny_tupleHeld_zip hz hT fun g1 z1 s1 => ?_)
  simp only [Bool.false_eq_true, if_false]
  refine wpAny_bind ?_
  rw [← Array.forIn_toList]
  simp only [List.forIn_cons, List.forIn_nil]
  refine wpAny_bind (wpAny_bind (wpAny_holding ?_))
  show wpAny _ _ (Builtin.SmallTypes.nextOf (.ref i1) >>= _) _ _ _
  exact wpAny_bind (D1.done { s with heap := g1 } _ _ (D1.over st1 s1 S.zf1) fun g2 e s2 he => hE g2 e (fun c o c1 c2 x => s2 _ _ c2 (s1.extBut _ _ c1 x)) he)
/-- a zip of which every tuple given out is held: behind i turns; T's lie above lo -/
def ZSt (z TI TO i1 i2 lo : Addr) (St1 St2 : Nat → Heap → Prop) (i : Nat) (h : Heap) : Prop :=
  IsTupOf2 h TI (.ref i1) (.ref i2) ∧ St1 i h ∧ St2 i h ∧ ((i = 0 ∧ IsZip h z TI TO .none ∧ ∃ a1 a2, IsTupOf2 h TO a1 a2) ∨ ∃ T f oT, IsZipHeld h z TI TO T f ∧ h.get? T = some oT ∧ lo < T)
theorem k11_next {lo : Addr} {Q : Option Value → Shared → Prop} (S : ZipSep2 z TI TO i1 i2 fp1 fp2) (D1 : Draws prog w A.in1 i1 fp1 n1 P1 St1) (D2 : Draws prog w A.in1 i2 fp2 n2 P2 St2)
    (hlo : z ≤ lo ∧ i1 ≤ lo ∧ i2 ≤ lo ∧ TI ≤ lo ∧ TO ≤ lo) (hs : lo < s.heap.objs.size) (st : ZSt z TI TO i1 i2 lo St1 St2 i s.heap) (l1 : i < n1) (l2 : i < n2)
    (hQ : ∀ x1 x2 h' tk, P1 i x1 → P2 i x2 → ZSt z TI TO i1 i2 lo St1 St2 (i + 1) h' → IsTupOf2 h' s.heap.objs.size x1 x2 → h'.objs.size = s.heap.objs.size + 1 →
      (∀ c o, c ≠ z → c ≠ TO → c ≠ i1 → c ≠ i2 → s.heap.get? c = some o → h'.get? c = some o) → Q (some (.ref s.heap.objs.size)) { s with heap := h', toks := tk }) :
    wpAny (model prog w) A (pyNext (.ref z)) Q E s := by
  obtain ⟨hTI, st1, st2, h | ⟨T, f, oT, hz, hT, hl⟩⟩ := st
  · obtain ⟨rfl, hz, a1, a2, hTO⟩ := h
    refine wpAny_pyNext_zipD2_item S D1 D2 hz hTI hTO st1 st2 l1 l2 fun x1 x2 h' tk p1 p2 b1 b2 d1 d2 b5 b6 b7 => hQ x1 x2 h' tk p1 p2 ⟨b7 _ _ S.TIz S.TITO S.TIi1 S.TIi2 hTI, d1, d2, .inr ⟨s.heap.objs.size, false, _, b1, b5, hs⟩⟩ b5 b6 b7
  · have hTy : s.TypeIs (.ref z) "zip" := ⟨_, hz, rfl⟩
    unfold pyNext
    refine wpAny_bind (wpAny_attempt (wpAny_callSpecial?_slot (name := Str.ofString "__next__") hTy F.slot_zip_next
      (wpAny_call_entry F.slot_zip_next hTy F.entry_zip_next
        (k11_held_item S D1 D2 hz hT hTI st1 st2 l1 l2 fun x1 x2 h' tk p1 p2 b1 d1 d2 b5 b6 b7 => wpAny_pure (hQ x1 x2 h' tk p1 p2 ⟨b7 _ _ S.TIz S.TIi1 S.TIi2 hTI, d1, d2, .inr ⟨T, true, oT, b1, b7 _ _ ?_ ?_ ?_ hT, hl⟩⟩ b5 b6 fun c o c1 _ c3 c4 e => b7 c o c1 c3 c4 e)) (F.args_zip_next_1 _))))
    · exact Nat.ne_of_gt (Nat.lt_of_le_of_lt hlo.1 hl)
    · exact Nat.ne_of_gt (Nat.lt_of_le_of_lt hlo.2.1 hl)
    · exact Nat.ne_of_gt (Nat.lt_of_le_of_lt hlo.2.2.1 hl)
theorem k11_stop {lo : Addr} {Q : Option Value → Shared → Prop} (S : ZipSep2 z TI TO i1 i2 fp1 fp2) (D1 : Draws prog w A.in1 i1 fp1 n1 P1 St1) (D2 : Draws prog w A.in1 i2 fp2 n2 P2 St2)
    (hn : n1 ≤ n2) (st : ZSt z TI TO i1 i2 lo St1 St2 n1 s.heap)
    (hQ : ∀ h' tk, (∀ c o, c ≠ z → c ≠ TO → c ≠ i1 → c ≠ i2 → s.heap.get? c = some o → h'.get? c = some o) → Q none { s with heap := h', toks := tk }) :
    wpAny (model prog w) A (pyNext (.ref z)) Q E s := by
  obtain ⟨hTI, st1, st2, h | ⟨T, f, oT, hz, hT, hl⟩⟩ := st
  · obtain ⟨e0, hz, a1, a2, hTO⟩ := h
    exact wpAny_pyNext_zipD2_end S D1 D2 hz hTI hTO st1 st2 (Nat.le_refl _) hn (.inl rfl) hQ
  · have hTy : s.TypeIs (.ref z) "zip" := ⟨_, hz, rfl⟩
    unfold pyNext
    refine wpAny_bind (wpAny_attempt (wpAny_callSpecial?_slot (name := Str.ofString "__next__") hTy F.slot_zip_next
      (wpAny_call_entry F.slot_zip_next hTy F.entry_zip_next (k11_held_end S D1 hz hT hTI st1 fun h' e hk he => ?_) (F.args_zip_next_1 _))))
    obtain ⟨o, ho, hc⟩ := he
    refine wpAny_bind (wpAny_isInstance (T := "StopIteration") (b := true) ⟨o, ho, hc⟩ isSubtype_stop ?_)
    exact wpAny_pure (hQ h' s.toks fun c o c1 _ c3 _ e => hk c o c1 c3 e)
end

theorem k11_zip_len : typeLookup (.type "zip") "__len__" = pure none := am_miss_of_fast (by decide +kernel)
theorem k11_zip_hint : typeLookup (.type "zip") "__length_hint__" = pure none := am_miss_of_fast (by decide +kernel)
/-- the addresses as hold the pairs, as tuples; they lie above S -/
structure ZPr (P1 P2 : Nat → Value → Prop) (S : Addr) (h : Heap) (as : List Addr) : Prop where
  above : ∀ a ∈ as, S < a
  pairs : ∀ (j : Nat) (a : Addr), as[j]? = some a → ∃ x y, P1 j x ∧ P2 j y ∧ IsTupOf2 h a x y
section
variable {prog : Program} {w : World} {A : Around} {E : Value → Shared → Prop} {s : Shared} {z TI TO i1 i2 : Addr} {fp1 fp2 : List Addr} {n1 n2 : Nat} {P1 P2 : Nat → Value → Prop} {St1 St2 : Nat → Heap → Prop}
/-- all but the list's cell and the iterators' stands -/
def Kp (S z TO i1 i2 : Addr) (h h' : Heap) : Prop := ∀ b o, b ≠ S → b ≠ z → b ≠ TO → b ≠ i1 → b ≠ i2 → h.get? b = some o → h'.get? b = some o
theorem k11_loop {S : Addr} {R : Result → Shared → Prop} (Z : ZipSep2 z TI TO i1 i2 fp1 fp2) (D1 : Draws prog w A.in1.in1 i1 fp1 n1 P1 St1) (D2 : Draws prog w A.in1.in1 i2 fp2 n2 P2 St2) (hn : n1 ≤ n2) (hz : n1 ≤ 100000)
    (hlt : z < S ∧ i1 < S ∧ i2 < S ∧ TI < S ∧ TO < S) (hf1 : S ∉ fp1) (hf2 : S ∉ fp2) (res : Value) {h0 : Heap}
    (hR : ∀ h' tk acc c as, Kp S z TO i1 i2 h0 h' → h'.get? S = some { cls := .type "list", dict := none, data := .seq acc c, slots := #[] } → as.length = n1 → ZPr P1 P2 S h' as → acc.toList = as.map Value.ref → R (.ok (.ret res)) { s with heap := h', toks := tk }) :
    ∀ (k i : Nat) (h : Heap) (tk c : Nat) (acc : Array Value) (as : List Addr), n1 - i = k → i ≤ n1 → ZSt z TI TO i1 i2 S St1 St2 i h → Kp S z TO i1 i2 h0 h →
      h.get? S = some { cls := .type "list", dict := none, data := .seq acc c, slots := #[] } → acc.toList = as.map Value.ref → as.length = i → ZPr P1 P2 S h as →
      codeAny (model prog w) A (.builtin "list.extend.loop" ⟨[.ref S, .ref z, res], []⟩) R { s with heap := h, toks := tk } := by
  obtain ⟨zS, i1S, i2S, TIS, TOS⟩ := hlt
  have hlo : z ≤ S ∧ i1 ≤ S ∧ i2 ≤ S ∧ TI ≤ S ∧ TO ≤ S := ⟨Nat.le_of_lt zS, Nat.le_of_lt i1S, Nat.le_of_lt i2S, Nat.le_of_lt TIS, Nat.le_of_lt TOS⟩
  have far : ∀ a, S < a → a ≠ S ∧ a ≠ z ∧ a ≠ TO ∧ a ≠ i1 ∧ a ≠ i2 := fun a h => ⟨Nat.ne_of_gt h, Nat.ne_of_gt (Nat.lt_trans zS h), Nat.ne_of_gt (Nat.lt_trans TOS h), Nat.ne_of_gt (Nat.lt_trans i1S h), Nat.ne_of_gt (Nat.lt_trans i2S h)⟩
  intro k
  induction k with
  | zero =>
    intro i h tk c acc as hk hi st kp hS hacc hal pr
    have ei : i = n1 := by omega
    subst ei
    refine codeAny_builtin PySem.F.entry_extend_loop ?_
    rw [Around.under_plainId PySem.F.plain_extend_loop _]
    show wpAny _ A.in1 (pyNext (.ref z) >>= _) _ _ _
    refine wpAny_bind (k11_stop (s := { s with heap := h, toks := tk }) (A := A.in1) Z D1 D2 hn st fun h' tk' he => wpAny_pure ?_)
    refine hR h' tk' acc c as (fun b o c0 c1 c2 c3 c4 e => he b o c1 c2 c3 c4 (kp b o c0 c1 c2 c3 c4 e)) (he S _ (Nat.ne_of_gt zS) (Nat.ne_of_gt TOS) (Nat.ne_of_gt i1S) (Nat.ne_of_gt i2S) hS) hal ⟨pr.above, fun j a hj => ?_⟩ hacc
    obtain ⟨x, y, p1, p2, e⟩ := pr.pairs j a hj
    obtain ⟨c0, c1, c2, c3, c4⟩ := far a (pr.above a (List.mem_of_getElem? hj))
    exact ⟨x, y, p1, p2, he a _ c1 c2 c3 c4 e⟩
  | succ k ih =>
    intro i h tk c acc as hk hi st kp hS hacc hal pr
    have hl : i < n1 := by omega
    have hsz : acc.size = i := by rw [← Array.length_toList, hacc, List.length_map, hal]
    have hSl : S < h.objs.size := Heap.lt_size hS
    refine codeAny_builtin PySem.F.entry_extend_loop ?_
    rw [Around.under_plainId PySem.F.plain_extend_loop _]
    show wpAny _ A.in1 (pyNext (.ref z) >>= _) _ _ _
    refine wpAny_bind (k11_next (s := { s with heap := h, toks := tk }) (A := A.in1) Z D1 D2 hlo hSl st hl (Nat.lt_of_lt_of_le hl hn) fun x1 x2 h' tk' p1 p2 st' ht hz' he => ?_)
    dsimp only at ht hz' he ⊢
    have hS' := he S _ (Nat.ne_of_gt zS) (Nat.ne_of_gt TOS) (Nat.ne_of_gt i1S) (Nat.ne_of_gt i2S) hS
    have up : ∀ b o, b ≠ S → h'.get? b = some o → (h'.update S (Obj.mapSeq (·.push (Value.ref h.objs.size)))).get? b = some o := fun b o hb e => (Heap.get?_update_other _ _ (Ne.symm hb)).trans e
    have sz : (acc.push (Value.ref h.objs.size)).size ≤ 100000 := by rw [Array.size_push, hsz]; omega
    have line : 100001 ≤ sizeLine := by decide
    show wpAny _ A.in1 (updateSeq S (·.push (Value.ref h.objs.size)) >>= _) _ _ _
    refine wpAny_bind ?_
    refine wpAny_updateSeq hS' rfl (wpAny_pure ⟨plainId_quiet PySem.F.plain_extend_loop _, ih (i + 1) _ tk' _ (acc.push (Value.ref h.objs.size)) (as ++ [h.objs.size]) (by omega) hl ?_
      (fun b o c0 c1 c2 c3 c4 e => up b o c0 (he b o c1 c2 c3 c4 (kp b o c0 c1 c2 c3 c4 e))) (Heap.get?_update_self _ hS' rfl) (by rw [Array.toList_push, hacc, List.map_append]; rfl) (by rw [List.length_append, hal]; rfl) ⟨fun a ha => ?_, fun j a hj => ?_⟩⟩) (by rw [hsz]; omega) (by show (acc.push (Value.ref h.objs.size)).size ≤ sizeLine + 1; omega)
    · obtain ⟨t1, s1, s2, t2⟩ := st'
      refine ⟨up _ _ (Nat.ne_of_lt TIS) t1, D1.frame _ _ _ s1 fun b hb o e => up b o (fun q => hf1 (q ▸ hb)) e, D2.frame _ _ _ s2 fun b hb o e => up b o (fun q => hf2 (q ▸ hb)) e, ?_⟩
      rcases t2 with ⟨e0, e1, a1, a2, e2⟩ | ⟨T, f, oT, e1, e2, e3⟩
      · exact .inl ⟨e0, up _ _ (Nat.ne_of_lt zS) e1, a1, a2, up _ _ (Nat.ne_of_lt TOS) e2⟩
      · exact .inr ⟨T, f, oT, up _ _ (Nat.ne_of_lt zS) e1, up _ _ (Nat.ne_of_gt e3) e2, e3⟩
    · rcases List.mem_append.mp ha with ha | ha
      · exact pr.above a ha
      · rw [List.mem_singleton.mp ha]; exact hSl
    · by_cases hj2 : j < as.length
      · rw [List.getElem?_append_left hj2] at hj
        obtain ⟨x, y, q1, q2, e⟩ := pr.pairs j a hj
        obtain ⟨c0, c1, c2, c3, c4⟩ := far a (pr.above a (List.mem_of_getElem? hj))
        exact ⟨x, y, q1, q2, up a _ c0 (he a _ c1 c2 c3 c4 e)⟩
      · rw [List.getElem?_append_right (by omega)] at hj
        have ej : j = as.length := by
          have q := (List.getElem?_eq_some_iff.mp hj).1
          simp at q
          omega
        subst ej
        simp at hj
        subst hj
        exact ⟨x1, x2, by rw [hal]; exact p1, by rw [hal]; exact p2, up _ _ (Nat.ne_of_gt hSl) ht⟩
theorem k11_extend {S : Addr} {R : Result → Shared → Prop} (Z : ZipSep2 z TI TO i1 i2 fp1 fp2) (D1 : Draws prog w A.in1.in1 i1 fp1 n1 P1 St1) (D2 : Draws prog w A.in1.in1 i2 fp2 n2 P2 St2) (hn : n1 ≤ n2) (hz : n1 ≤ 100000)
    (hlt : z < S ∧ i1 < S ∧ i2 < S ∧ TI < S ∧ TO < S) (hf1 : S ∉ fp1) (hf2 : S ∉ fp2) (res : Value) (c0 : Nat) (hS : s.heap.get? S = some { cls := .type "list", data := .seq #[] c0 }) (st : ZSt z TI TO i1 i2 S St1 St2 0 s.heap) (hzz : IsZip s.heap z TI TO .none)
    (hR : ∀ h' tk acc c as, Kp S z TO i1 i2 s.heap h' → h'.get? S = some { cls := .type "list", dict := none, data := .seq acc c, slots := #[] } → as.length = n1 → ZPr P1 P2 S h' as → acc.toList = as.map Value.ref → R (.ok (.ret res)) { s with heap := h', toks := tk }) :
    wpAny (model prog w) A.in1 (Builtin.List.listExtendWith (.ref S) (.ref z) res)
      (fun fin s' => match fin with | .done f => R (.ok f) s' | .again c' => c'.quiet = true ∧ codeAny (model prog w) A c' R s') (fun e s' => R (.error e) s') s := by
  have hT : ∀ tk, Shared.TypeIs { s with toks := tk } (.ref z) "zip" := fun _ => ⟨_, hzz, rfl⟩
  unfold Builtin.List.listExtendWith
  refine wpAny_bind (wpAny_typeOf (T := "zip") ⟨_, hzz, rfl⟩ ?_)
  have q1 : Builtin.List.listSameRef (.ref S) (.ref z) = false := by simp [Builtin.List.listSameRef, Nat.ne_of_gt hlt.1]
  have q2 : (Value.type "zip" == Value.type "list") = false := by decide
  have q3 : (Value.type "zip" == Value.type "tuple") = false := by decide
  simp only [q1, q2, q3, Bool.or_false, Bool.false_eq_true, if_false]
  refine wpAny_bind (wpAny_pyIter_zip hzz ?_)
  refine wpAny_bind (wpAny_holding ?_)
  unfold Builtin.List.listLengthHint
  refine wpAny_bind (wpAny_specialOf (T := "zip") ⟨_, hzz, rfl⟩ k11_zip_len ?_)
  show wpAny _ A.in1 (specialOf (Value.ref z) (Str.ofString "__length_hint__") >>= _) _ _ _
  refine wpAny_bind (wpAny_specialOf (T := "zip") ⟨_, hzz, rfl⟩ k11_zip_hint (wpAny_pure ?_))
  show wpAny _ A.in1 (rule "list.extend.makes-room" >>= fun _ => Builtin.List.listTouch (.ref S) >>= fun _ =>
    again (.builtin "list.extend.loop" ⟨[.ref S, .ref z, res], []⟩)) _ _ _
  refine wpAny_bind (wpAny_rule (wpAny_bind ?_))
  show wpAny _ A.in1 (updateSeq S (·.push .none) >>= fun _ => updateSeq S (·.pop)) _ _ _
  refine wpAny_bind (wpAny_updateSeq hS rfl ?_)
  have h2 := Heap.get?_update_self (Obj.mapSeq (·.push Value.none)) hS rfl
  refine wpAny_updateSeq h2 rfl ?_
  have h3 := Heap.get?_update_self (Obj.mapSeq (·.pop)) h2 rfl
  have oth : ∀ b o, b ≠ S → s.heap.get? b = some o → ((s.heap.update S (Obj.mapSeq (·.push Value.none))).update S (Obj.mapSeq (·.pop))).get? b = some o :=
    fun b o hb e => (Heap.get?_update_other _ _ (Ne.symm hb)).trans ((Heap.get?_update_other _ _ (Ne.symm hb)).trans e)
  refine wpAny_pure ⟨plainId_quiet F.plain_extend_loop _, k11_loop (s := s) Z D1 D2 hn hz hlt hf1 hf2 res hR n1 0 _ s.toks _ #[] [] (Nat.sub_zero _) (Nat.zero_le _) ?_ (fun b o c0 _ _ _ _ e => oth b o c0 e) h3 rfl rfl ⟨fun _ h => (nomatch h), fun j a hj => by simp at hj⟩⟩
  obtain ⟨t1, s1, s2, t2⟩ := st
  refine ⟨oth _ _ (Nat.ne_of_lt hlt.2.2.2.1) t1, D1.frame _ _ _ s1 fun b hb o e => oth b o (fun q => hf1 (q ▸ hb)) e, D2.frame _ _ _ s2 fun b hb o e => oth b o (fun q => hf2 (q ▸ hb)) e, ?_⟩
  rcases t2 with ⟨e0, e1, a1, a2, e2⟩ | ⟨T, f, oT, e1, e2, e3⟩
  · exact .inl ⟨e0, oth _ _ (Nat.ne_of_lt hlt.1) e1, a1, a2, oth _ _ (Nat.ne_of_lt hlt.2.2.2.2) e2⟩
  · exact .inr ⟨T, f, oT, oth _ _ (Nat.ne_of_lt hlt.1) e1, oth _ _ (Nat.ne_of_gt e3) e2, e3⟩
/-- list(z), z a zip that has given nothing out -/
theorem k11_list_zip {Q : Value → Shared → Prop} (Z : ZipSep2 z TI TO i1 i2 fp1 fp2) (D1 : Draws prog w A.in1.in1.in1 i1 fp1 n1 P1 St1) (D2 : Draws prog w A.in1.in1.in1 i2 fp2 n2 P2 St2) (hn : n1 ≤ n2) (hz : n1 ≤ 100000)
    (hf1 : ∀ b ∈ fp1, b < s.heap.objs.size) (hf2 : ∀ b ∈ fp2, b < s.heap.objs.size) (hTI : IsTupOf2 s.heap TI (.ref i1) (.ref i2)) (a1 a2 : Value) (hTO : IsTupOf2 s.heap TO a1 a2) (st1 : St1 0 s.heap) (st2 : St2 0 s.heap) (hzz : IsZip s.heap z TI TO .none)
    (hQ : ∀ h' tk acc c as, (∀ b o, b ≠ z → b ≠ TO → b ≠ i1 → b ≠ i2 → s.heap.get? b = some o → h'.get? b = some o) → h'.get? s.heap.objs.size = some { cls := .type "list", dict := none, data := .seq acc c, slots := #[] } → as.length = n1 → ZPr P1 P2 s.heap.objs.size h' as →
      acc.toList = as.map Value.ref → Q (.ref s.heap.objs.size) { s with heap := h', toks := tk }) :
    wpAny (model prog w) A (call (.type "list") [.ref z]) Q E s := by
  refine callType_codes (Q₁ := fun obj s1 => obj = .ref s.heap.objs.size ∧ s1 = { s with heap := s.heap.push { cls := .type "list", data := .seq #[] } }) F.called_list (F.typeCall_list_1 _) F.entry_list_init
    (code_list_new _ ⟨rfl, rfl⟩) fun obj s1 e => ?_
  obtain ⟨rfl, rfl⟩ := e
  have kp : ∀ b o, s.heap.get? b = some o → (s.heap.push { cls := .type "list", data := .seq #[] }).get? b = some o := fun b o e => Heap.get?_push_of_some _ e
  have hS : (s.heap.push { cls := .type "list", data := .seq #[] }).get? s.heap.objs.size = some { cls := .type "list", data := .seq #[] } := Heap.get?_push_size _ rfl
  refine ⟨⟨_, hS, rfl⟩, F.args_list_init_2 _ _, ?_⟩
  show wpAny _ _ (do let old ← Builtin.List.listItems (.ref s.heap.objs.size); Builtin.List.listUpdate (.ref s.heap.objs.size) (fun _ => #[]); letGo old.toList.reverse; Builtin.List.listExtendWith (.ref s.heap.objs.size) (.ref z) .none) _ _ _
  refine wpAny_bind ?_
  unfold Builtin.List.listItems
  refine wpAny_bind (wpAny_seqItems hS rfl (wpAny_pure ?_))
  show wpAny _ _ (updateSeq s.heap.objs.size (fun _ => #[]) >>= fun _ => letGo (#[] : Array Value).toList.reverse >>= fun _ => Builtin.List.listExtendWith (.ref s.heap.objs.size) (.ref z) .none) _ _ _
  refine wpAny_bind (wpAny_updateSeq hS rfl ?_)
  have hS2 := Heap.get?_update_self (Obj.mapSeq (fun _ => (#[] : Array Value))) hS rfl
  have oth : ∀ b o, s.heap.get? b = some o → ((s.heap.push { cls := .type "list", data := .seq #[] }).update s.heap.objs.size (Obj.mapSeq (fun _ => (#[] : Array Value)))).get? b = some o :=
    fun b o e => (Heap.get?_update_other _ _ (Nat.ne_of_gt (Heap.lt_size e))).trans (kp b o e)
  refine wpAny_bind (wpAny_letGo ?_)
  have i1l : i1 < s.heap.objs.size := hf1 _ Z.mem1
  have i2l : i2 < s.heap.objs.size := hf2 _ Z.mem2
  refine k11_extend (s := { s with heap := (s.heap.push { cls := .type "list", data := .seq #[] }).update s.heap.objs.size (Obj.mapSeq (fun _ => (#[] : Array Value))) }) Z D1 D2 hn hz ⟨Heap.lt_size hzz, i1l, i2l, Heap.lt_size hTI, Heap.lt_size hTO⟩ (fun m => Nat.lt_irrefl _ (hf1 _ m)) (fun m => Nat.lt_irrefl _ (hf2 _ m)) .none _ hS2
    ⟨oth _ _ hTI, D1.frame _ _ _ st1 fun b _ o e => oth b o e, D2.frame _ _ _ st2 fun b _ o e => oth b o e, .inl ⟨rfl, oth _ _ hzz, a1, a2, oth _ _ hTO⟩⟩ (oth _ _ hzz) fun h' tk acc c as k e1 e2 e3 e4 => ?_
  exact ⟨rfl, hQ h' tk acc c as (fun b o c1 c2 c3 c4 e => k b o (Nat.ne_of_lt (Heap.lt_size e)) c1 c2 c3 c4 (oth b o e)) e1 e2 e3 e4⟩
end
end PySem

namespace K11
open PySem PySem.Spec PyProof.Rows L2 RZ PySem.W
/-- several new objects at once -/
theorem inv_many {X : Cx} {pins : List (Addr × Obj)} {σ : L2.St} {H H' : Hp} {s : Shared} {h' : Heap} {t' : Nat} (I : Inv X pins σ H s) (k : ∀ b o, s.heap.get? b = some o → h'.get? b = some o) (sm : Same H H')
    (new : ∀ a o, H' a = some o → H a = some o ∨ (s.heap.get? a = none ∧ ObjOk X.prog X.w H' h' a o)) : Inv X pins σ H' { s with heap := h', toks := t' } := by
  refine I.un ⟨fun b u q _ _ _ => k b u q, fun b u q _ _ _ => ⟨u.slots, k b u q⟩, fun b u q n _ => ?_, fun b u q _ => ⟨u, k b u q⟩, fun b xs q => sm _ _ q, fun b u xs q => sm _ _ q, fun b ps q => ⟨#[], by rw [sm _ _ q]; simp⟩⟩ fun a o e => ?_
  · cases q2 : H' b with
    | none => rfl
    | some o =>
      rcases new b o q2 with e | ⟨e, _⟩
      · rw [n] at e; cases e
      · rw [q] at e; cases e
  · rcases new a o e with q | ⟨_, q⟩
    · exact (I.hok a o q).stay (fun c v _ z => k c v z) (fun c z => sm _ _ z) fun c xs z => sm _ _ z
    · exact q
/-- what list(zip(xs, t)) gives: a list at S of new pairs -/
def PrAt (H' : Hp) (xs ys : List V) (as : List Addr) : Prop := as.length = xs.length ∧ ∀ (j : Nat) (a : Addr), as[j]? = some a → ∃ x y, xs[j]? = some x ∧ ys[j]? = some y ∧ H' a = some (.tup [x, y])
def tLZ (K : PySem.W.Frag) (ta : TA) : TE := fun σ H Q => ta σ H fun vs H1 => ∃ a b xs ys, vs = [.ref a, .ref b] ∧ SqL K H1 a xs ∧ SqT K H1 b ys ∧ xs.length ≤ ys.length ∧ xs.length ≤ 100000 ∧
  ∀ S as H', Same H1 H' → H1 S = none → H' S = some (.lst (as.map V.ref)) → (∀ c ∈ as, H1 c = none) → PrAt H' xs ys as → Q (.ref S) H'
theorem vals_refs : ∀ as : List Addr, Vals (as.map V.ref) (as.map Value.ref)
  | [] => .nil
  | a :: as => .cons rfl (vals_refs as)
section
variable {X : Cx}
open Classical in
theorem pe_lz {e e2 : Expr} {ta : TA} {p p2 pos pos2 : Pos} (hc : X.calm = true) (hg : Gl X "zip") (hm : X.mg "zip" = none) (hg2 : Gl X "list") (hm2 : X.mg "list" = none) (ha : PA X [e, e2] ta)
    (hs : starEach [e, e2] X.env = (false, eval e X.env) :: starEach [e2] X.env := by rfl) (hpl : (backTo pos2 (starEach [e2] X.env)).any (·.1) = false := by rfl)
    (hs2 : starEach [Expr.Call (.Name "zip" p2) [e, e2] [] pos2] X.env = (false, eval (Expr.Call (.Name "zip" p2) [e, e2] [] pos2) X.env) :: starEach [] X.env := by rfl) :
    PE X (.Call (.Name "list" p) [.Call (.Name "zip" p2) [e, e2] [] pos2] [] pos) (tLZ X.K ta) := by
  refine ⟨fun pins s σ H Q I h => ?_⟩
  refine Call_ (ld_blt I hg2 hm2 boot_list (PyProof.Rows.callWith_type1 (args_cons ?_ hs2) hs2))
  refine Call_ (ld_blt I hg hm PyProof.Rows.boot_zip (PyProof.Rows.callWith_type1 (thn (ha.run pos2 pins s σ H _ I h) fun us s1 ⟨vs, H1, I1, r1, a, b, xs, ys, ex, hx, hy, hl, hz, q⟩ => ?_) hs hpl))
  subst ex
  obtain ⟨u1, u2, rfl, ra, rb⟩ := vals2 r1
  cases ra
  cases rb
  obtain ⟨its, rv, pa, _⟩ := I1.list hx
  obtain ⟨its2, rv2, pb, _⟩ := I1.tuple hy
  have la : a < s1.heap.objs.size := pa.lt
  have lb : b < s1.heap.objs.size := by obtain ⟨_, z, _⟩ := pb; exact Heap.lt_size z
  refine zip_begins2 (begins_list a its.toArray) (begins_tuple b its2.toArray) pa.isList pb fun h2 hzz hTI hTO e1 e2' hsz k2 => args_nil ?_
  have hA := I1.ok.hd hc
  have D1 := Draws.list (prog := X.prog) (w := X.w) (A := X.A.in1.in1.in1) hA s1.heap.objs.size a (Nat.ne_of_lt la) its.toArray
  have D2 := Draws.tuple (prog := X.prog) (w := X.w) (A := X.A.in1.in1.in1) hA (s1.heap.objs.size + 1) b (Nat.ne_of_lt (Nat.lt_succ_of_lt lb)) its2.toArray
  have Z : ZipSep2 (s1.heap.objs.size + 4) (s1.heap.objs.size + 2) (s1.heap.objs.size + 3) s1.heap.objs.size (s1.heap.objs.size + 1) [s1.heap.objs.size, a] [s1.heap.objs.size + 1, b] :=
    zip_sep2 (fun c hc => by rw [List.mem_singleton.mp hc]; exact la) (fun c hc => by rw [List.mem_singleton.mp hc]; exact lb)
  refine PySem.k11_list_zip (s := { s1 with heap := h2 }) Z D1 D2 (by rw [List.size_toArray, List.size_toArray, ← rv.length, ← rv2.length]; exact hl) (by rw [List.size_toArray, ← rv.length]; exact hz) ?_ ?_ hTI .none .none hTO
    ⟨⟨_, e1, rfl, rfl⟩, pa.isList.at fun o e => k2 _ _ e⟩ ⟨⟨_, e2', rfl, rfl⟩, Heap.IsTuple.at pb fun o e => k2 _ _ e⟩ hzz fun h3 tk acc c as k3 hS ha3 pr hacc => ?_
  · intro c hc
    show c < h2.objs.size
    rw [hsz]
    rcases List.mem_cons.mp hc with rfl | hc
    · exact Nat.lt_add_of_pos_right (by decide)
    · rw [List.mem_singleton.mp hc]; exact Nat.lt_add_right _ la
  · intro c hc
    show c < h2.objs.size
    rw [hsz]
    rcases List.mem_cons.mp hc with rfl | hc
    · exact Nat.add_lt_add_left (by decide) _
    · rw [List.mem_singleton.mp hc]; exact Nat.lt_add_right _ lb
  · have al : as.length = xs.length := by rw [ha3, List.size_toArray, ← rv.length]
    have kk : ∀ b o, s1.heap.get? b = some o → h3.get? b = some o := fun b o e => by
      have l := Heap.lt_size e
      exact k3 b o (Nat.ne_of_lt (Nat.lt_add_right _ l)) (Nat.ne_of_lt (Nat.lt_add_right _ l)) (Nat.ne_of_lt l) (Nat.ne_of_lt (Nat.lt_succ_of_lt l)) (k2 b o e)
    have far : ∀ c, s1.heap.objs.size ≤ c → s1.heap.get? c = none := fun c hc => by
      cases e : s1.heap.get? c with
      | none => rfl
      | some o => exact absurd (Heap.lt_size e) (Nat.not_lt.mpr hc)
    have hSN : s1.heap.objs.size ≤ h2.objs.size := by rw [hsz]; exact Nat.le_add_right _ _
    have farA : ∀ c ∈ as, s1.heap.get? c = none := fun c hc => far c (Nat.le_trans hSN (Nat.le_of_lt (pr.above c hc)))
    have neS : ∀ c ∈ as, c ≠ h2.objs.size := fun c hc => Nat.ne_of_gt (pr.above c hc)
    -- the item at j, by values
    have item : ∀ (j : Nat) (c : Addr), as[j]? = some c → ∃ x y u v, xs[j]? = some x ∧ ys[j]? = some y ∧ RelV x u ∧ RelV y v ∧ h3.get? c = some { cls := .type "tuple", data := .seq #[u, v] } := fun j c hj => by
      have jl : j < xs.length := by rw [← al]; exact (List.getElem?_eq_some_iff.mp hj).1
      obtain ⟨u, v, p1, p2, e⟩ := pr.pairs j c hj
      have ex : xs[j]? = some xs[j] := List.getElem?_eq_getElem jl
      have ey : ys[j]? = some (ys[j]'(Nat.lt_of_lt_of_le jl hl)) := List.getElem?_eq_getElem _
      obtain ⟨u', q1, r1⟩ := rv.get ex
      obtain ⟨v', q2, r2⟩ := rv2.get ey
      have e1 : u' = u := Option.some.inj (q1.symm.trans (by simpa using p1))
      have e2 : v' = v := Option.some.inj (q2.symm.trans (by simpa using p2))
      subst e1 e2
      exact ⟨_, _, u', v', ex, ey, r1, r2, e⟩
    let H' : Hp := fun c => if c = h2.objs.size then some (.lst (as.map V.ref)) else if hc : ∃ j : Nat, as[j]? = some c then some (.tup [xs.getD hc.choose .non, ys.getD hc.choose .non]) else H1 c
    have hS' : H' h2.objs.size = some (.lst (as.map V.ref)) := if_pos rfl
    have hA' : ∀ (j : Nat) (c : Addr), as[j]? = some c → ∃ x y u v, xs[j]? = some x ∧ ys[j]? = some y ∧ RelV x u ∧ RelV y v ∧ h3.get? c = some { cls := .type "tuple", data := .seq #[u, v] } ∧ H' c = some (.tup [x, y]) := fun j c hj => by
      obtain ⟨x, y, u, v, e1, e2, r1, r2, e3⟩ := item j c hj
      have hc : ∃ j : Nat, as[j]? = some c := ⟨j, hj⟩
      obtain ⟨x', y', u', v', f1, f2, t1, t2, f3⟩ := item hc.choose c hc.choose_spec
      have eo := Option.some.inj (e3.symm.trans f3)
      simp only [Obj.mk.injEq, Data.seq.injEq, true_and, and_true] at eo
      have eu : u = u' ∧ v = v' := by
        have := congrArg Array.toList eo
        simpa using this
      obtain ⟨rfl, rfl⟩ := eu
      have ex : x = x' := r1.inj t1
      have ey : y = y' := r2.inj t2
      subst ex ey
      refine ⟨x, y, u, v, e1, e2, r1, r2, e3, ?_⟩
      show (if c = h2.objs.size then _ else if hc : ∃ j : Nat, as[j]? = some c then some (HO.tup [xs.getD hc.choose .non, ys.getD hc.choose .non]) else H1 c) = _
      rw [if_neg (neS c (List.mem_of_getElem? hj)), dif_pos hc]
      rw [List.getD_eq_getElem?_getD, List.getD_eq_getElem?_getD, f1, f2]
      rfl
    have old : ∀ c o, H1 c = some o → H' c = H1 c := fun c o e => by
      have n1 : c ≠ h2.objs.size := fun z => by
        have q := I1.hok.gone (far h2.objs.size hSN)
        rw [z, q] at e; cases e
      have n2 : ¬ ∃ j : Nat, as[j]? = some c := fun ⟨j, hj⟩ => by
        have q := I1.hok.gone (farA c (List.mem_of_getElem? hj))
        rw [q] at e; cases e
      show (if c = h2.objs.size then _ else if hc : ∃ j : Nat, as[j]? = some c then some (HO.tup [xs.getD hc.choose .non, ys.getD hc.choose .non]) else H1 c) = _
      rw [if_neg n1, dif_neg n2]
    have I3 : Inv X pins σ H' { s1 with heap := h3, toks := tk } := by
      refine inv_many I1 kk (fun c o e => (old c o e).trans e) fun c o e => ?_
      by_cases n1 : c = h2.objs.size
      · subst n1
        rw [hS'] at e
        cases e
        exact .inr ⟨far _ hSN, by rw [List.length_map, al]; exact Nat.le_trans hz (by decide), as.map Value.ref, c, vals_refs as, by rw [← hacc]; simpa using hS⟩
      · by_cases n2 : ∃ j : Nat, as[j]? = some c
        · obtain ⟨j, hj⟩ := n2
          obtain ⟨x, y, u, v, e1, e2, r1, r2, e3, e4⟩ := hA' j c hj
          rw [e4] at e
          cases e
          exact .inr ⟨farA c (List.mem_of_getElem? hj), by show 2 ≤ sizeLine; decide, [u, v], .cons r1 (.cons r2 .nil), ⟨_, e3, rfl, _, rfl⟩⟩
        · left
          have e5 : H' c = H1 c := by
            show (if c = h2.objs.size then _ else if hc : ∃ j : Nat, as[j]? = some c then some (HO.tup [xs.getD hc.choose .non, ys.getD hc.choose .non]) else H1 c) = _
            rw [if_neg n1, dif_neg n2]
          rw [e5] at e; exact e
    exact ⟨.ref h2.objs.size, H', I3, rfl, q h2.objs.size as H' (fun c o e => (old c o e).trans e) (I1.hok.gone (far _ hSN)) hS' (fun c hc => I1.hok.gone (farA c hc)) ⟨al, fun j c hj => by
      obtain ⟨x, y, u, v, e1, e2, _, _, _, e4⟩ := hA' j c hj
      exact ⟨x, y, e1, e2, e4⟩⟩⟩
end
end K11
set_option Elab.async false
set_option linter.all false
set_option maxRecDepth 100000
set_option maxHeartbeats 4000000
set_option autoImplicit false
/-! K11Dat: tuples known whole, dicts, sorted, as data. -/
namespace K11
open PySem PySem.Spec PyProof.Rows L2 RZ PySem.W
variable {K : PySem.W.Frag} {G H H1 H2 H3 G1 G2 G3 : Hp} {σ : L2.St} {te ta tb tc td ty : TE} {d e f : PyData} {tt tu : TT} {b : Bool} {ts : TA} {ds es : List PyData} {v : V}
/-- a tuple known whole -/
def PlT (G : Hp) (v : V) : Prop := ∃ a o xs, v = .ref a ∧ G a = some (.frz o (.tup xs)) ∧ o.dict = none
theorem PlT.up (h : PlT G v) (s : Same G G2) : PlT G2 v := by
  obtain ⟨a, o, xs, e, h, z⟩ := h
  exact ⟨a, o, xs, e, s _ _ h, z⟩
def EvT (te : TE) (σ : L2.St) (G : Hp) (d : PyData) : Prop := ∀ H, Same G H → ∀ Q : VK, (∀ v G2 H2, Gx G H G2 H2 → Rp G2 v d → PlT G2 v → Q v H2) → te σ H Q
theorem EvT.toD (h : EvT te σ G d) : EvD te σ G d := fun H i Q q => h H i Q fun v G2 H2 x r _ => q v G2 H2 x r
def SpT (n : Nat) (R : List PyData → PyData → Prop) : Sp := fun vs H Q _ => ∃ G ds f, vs.length = n ∧ Same G H ∧ Rps G vs ds ∧ R ds f ∧ ∀ v G2 H2, Gx G H G2 H2 → Rp G2 v f → PlT G2 v → Q v H2
theorem SpT.len {n : Nat} {R : List PyData → PyData → Prop} {vs : List V} {H : Hp} {Q : VK} {E : XK} (h : SpT n R vs H Q E) : vs.length = n := by
  obtain ⟨_, _, _, h, _⟩ := h
  exact h
theorem ev_callT {n : Nat} {R : List PyData → PyData → Prop} {E : XK} (ha : EvS ts σ G ds) (hr : R ds f) (hn : ds.length = n) : EvT (tCall (SpT n R) [] E ts) σ G f := fun H i Q q =>
  ha H i _ fun xs G2 H2 x2 r2 => ⟨G2, ds, f, by rw [List.append_nil, r2.len, hn], x2.i, by rw [List.append_nil]; exact r2, hr, fun v G3 H3 x3 r3 p3 => q v G3 H3 (x2.trans x3) r3 p3⟩
theorem ev_tupF (h : EvD te σ G (.list ds)) : EvT (tCB (fun xs H Q => ∃ p ys, xs = [.ref p] ∧ SqL K H p ys ∧ ∀ l o, H l = none → o.dict = none → Q (.ref l) (upd H l (.frz o (.tup ys)))) (tCons te tNil)) σ G (.tuple ds) := fun H i Q q => h H i _ fun v G2 H2 x r => by
  obtain ⟨a, ys, e, g, rs⟩ := r.isList
  refine ⟨a, ys, by rw [e], .of (x.i _ _ g), fun l o hl ho => ?_⟩
  have x3 := Gx.new (o := .frz o (.tup ys)) x.i hl
  exact q _ _ _ (x.trans x3) (.tup (.inr ⟨o, upd_same, ho⟩) (rs.up x3.g)) ⟨l, o, ys, rfl, upd_same, ho⟩

/-! ### texts to tuples and lists -/
def signsD (x : Str) : List PyData := x.cps.toList.map fun c => PyData.str ⟨#[c]⟩
theorem rps_signs (x : Str) : Rps G (signs x) (signsD x) := by
  unfold signs signsD
  induction x.cps.toList with
  | nil => exact .nil
  | cons c l ih => exact .cons (.str _) ih
theorem cd_tupS {x : Str} (hz : x.length ≤ 100000) : CaD (fun xs H Q => ∃ x : Str, xs = [.str x] ∧ x.length ≤ 100000 ∧ ∀ p, H p = none → Q (.ref p) (upd H p (.tup (signs x)))) [.str x] (.tuple (signsD x)) := fun G H xs s r Q q => by
  obtain ⟨v, rfl, rv⟩ := one_arg r
  cases rv.isStr
  exact ⟨x, rfl, hz, fun p hp => q _ _ _ (Gx.new s hp) (.tup (.of upd_same) (rps_signs x))⟩
theorem cd_lstS {x : Str} (hz : x.length ≤ 100000) : CaD (fun xs H Q => ∃ x : Str, xs = [.str x] ∧ x.length ≤ 100000 ∧ ∀ p, H p = none → Q (.ref p) (upd H p (.lst (signs x)))) [.str x] (.list (signsD x)) := fun G H xs s r Q q => by
  obtain ⟨v, rfl, rv⟩ := one_arg r
  cases rv.isStr
  exact ⟨x, rfl, hz, fun p hp => q _ _ _ (Gx.new s hp) (.lst upd_same (rps_signs x))⟩

/-! ### sorted -/
theorem rps_paired : ∀ {xs : List V} {ds : List PyData}, Rps G xs ds → Paired (Rp G) xs ds
  | _, _, .nil => .nil
  | _, _, .cons h r => .cons h (rps_paired r)
theorem paired_rps : ∀ {xs : List V} {ds : List PyData}, Paired (Rp G) xs ds → Rps G xs ds
  | _, _, .nil => .nil
  | _, _, .cons h r => .cons h (paired_rps r)
theorem cd_sort {l : PyData} (hl : l = .list ds ∨ l = .tuple ds) (h1 : AllAlike ds) (h2 : Sortable ds) (h3 : ds.length ≤ 1000) (h4 : ∀ d ∈ ds, d.depth ≤ 8) : CaD (rSortD K) [l] (.list (ds.mergeSort leD)) := fun G H xs s r Q q => by
  obtain ⟨v, rfl, rv⟩ := one_arg r
  have fin : ∀ (a : Addr) (ys : List V), Rps G ys ds → (SqL K H a ys ∨ SqT K H a ys) → rSortD K [.ref a] H Q := fun a ys rs hs =>
    ⟨a, ys, ds, Rp G, rfl, hs, rps_paired rs, fun x d h => Rp.dp _ _ (h.up s), h1, h2, h3, h4, fun zs p hp pz => q _ _ _ (Gx.new s hp) (.lst upd_same ((paired_rps pz).up (same_new (s.free hp))))⟩
  rcases hl with rfl | rfl
  · obtain ⟨a, ys, rfl, g, rs⟩ := rv.isList
    exact fin a ys rs (.inl (.of (s _ _ g)))
  · obtain ⟨a, ys, rfl, g, rs⟩ := rv.isTup
    exact fin a ys rs (.inr (g.up s).sq)

/-! ### dicts -/
def kD : Key → PyData
  | .inl i => .int i
  | .inr s => .str s
theorem rp_kD {k : Key} (r : Rp G v (kD k)) : v = kV k := by
  cases k with
  | inl i => exact r.isInt
  | inr s => exact r.isStr
theorem rp_ofK (k : Key) : Rp G (kV k) (kD k) := by
  cases k with
  | inl i => exact .int i
  | inr s => exact .str s
abbrev Ents := List (Key × PyData)
/-- the entries, as data -/
def DkR (G : Hp) (kvs : List (Key × V)) (en : Ents) : Prop := Paired (fun p q => p.1 = q.1 ∧ Rp G p.2 q.2) kvs en
theorem DkR.up : ∀ {kvs : List (Key × V)} {en : Ents}, DkR G kvs en → Same G G2 → DkR G2 kvs en
  | _, _, .nil, _ => .nil
  | _, _, .cons h r, s => .cons ⟨h.1, h.2.up s⟩ (DkR.up r s)
def look (en : Ents) (k : Key) : Option PyData := (en.find? fun e => decide (e.1 = k)).map (·.2)
theorem DkR.look : ∀ {kvs : List (Key × V)} {en : Ents}, DkR G kvs en → ∀ k, (K11.look en k = none ∧ valV kvs k = none) ∨ ∃ d v, K11.look en k = some d ∧ valV kvs k = some v ∧ Rp G v d
  | _, _, .nil, k => .inl ⟨rfl, rfl⟩
  | p :: kvs, q :: en, .cons h r, k => by
    by_cases e : p.1 = k
    · right
      refine ⟨q.2, p.2, ?_, valV_pos e, h.2⟩
      unfold K11.look
      rw [List.find?_cons, show decide (q.1 = k) = true from decide_eq_true (h.1 ▸ e)]
      rfl
    · have z : K11.look (q :: en) k = K11.look en k := by
        unfold K11.look
        rw [List.find?_cons, show decide (q.1 = k) = false from decide_eq_false (h.1 ▸ e)]
      rw [z, valV_neg e]
      exact DkR.look r k
theorem DkR.snoc {kvs : List (Key × V)} {en : Ents} {k : Key} (h : DkR G kvs en) (r : Rp G v d) : DkR G (kvs ++ [(k, v)]) (en ++ [(k, d)]) := by
  induction h with
  | nil => exact .cons ⟨rfl, r⟩ .nil
  | cons a b ih => exact .cons a ih
theorem DkR.len {kvs : List (Key × V)} {en : Ents} (h : DkR G kvs en) : kvs.length = en.length := Paired.length h
/-- the dict at p -/
def DkAt (G : Hp) (p : Addr) (en : Ents) : Prop := ∃ kvs, G p = some (.dK kvs) ∧ DkR G kvs en
theorem DkAt.up {p : Addr} {en : Ents} (h : DkAt G p en) (s : Same G G2) : DkAt G2 p en := by
  obtain ⟨kvs, a, b⟩ := h
  exact ⟨kvs, s _ _ a, b.up s⟩
def EvK (te : TE) (σ : L2.St) (G : Hp) (en : Ents) : Prop := ∀ H, Same G H → ∀ Q : VK, (∀ p G2 H2, Gx G H G2 H2 → DkAt G2 p en → Q (.ref p) H2) → te σ H Q
theorem ek_var {i : Nat} {p : Addr} {en : Ents} (h : σ[i]? = some (some (.ref p))) (r : DkAt G p en) : EvK (tVar i) σ G en := fun H e Q q => ⟨_, h, q p G H (Gx.refl e) r⟩
theorem ev_dget {en : Ents} {k : Key} (h : EvK td σ G en) (hk : EvD ty σ G (kD k)) (hl : look en k = some d) : EvD (tDGet td ty) σ G d := fun H i Q q => h H i _ fun p G2 H2 x rd =>
  (hk.up x.g) H2 x.i _ fun y G3 H3 x3 ry => by
    obtain ⟨kvs, a, r⟩ := rd.up x3.g
    rcases r.look k with ⟨z, _⟩ | ⟨d', v, z1, z2, rv⟩
    · rw [hl] at z; cases z
    · rw [hl] at z1; cases z1
      refine ⟨p, v, rfl, ?_, q v G3 H3 (x.trans x3) rv⟩
      rw [rp_kD ry, ← z2]
      exact DGet.k (x3.i _ _ a)
theorem ev_dget1 {en : Ents} {k : Key} (h : EvK td σ G en) (hk : EvD ty σ G (kD k)) : EvD (tDGet1 td ty) σ G ((look en k).getD .none) := fun H i Q q => h H i _ fun p G2 H2 x rd => by
  obtain ⟨kvs0, a0, _⟩ := id rd
  refine ⟨p, rfl, .inl ⟨kvs0, .of (x.i _ _ a0)⟩, (hk.up x.g) H2 x.i _ fun y G3 H3 x3 ry => ?_⟩
  obtain ⟨kvs, a, r⟩ := rd.up x3.g
  refine ⟨valV kvs k, by rw [rp_kD ry]; exact DGet.k (x3.i _ _ a), ?_⟩
  rcases r.look k with ⟨z1, z2⟩ | ⟨d', v, z1, z2, rv⟩
  · rw [z2]; refine q .non G3 H3 (x.trans x3) ?_; rw [z1]; exact .non
  · rw [z2]; refine q v G3 H3 (x.trans x3) ?_; rw [z1]; exact rv
theorem ev_dget2 {en : Ents} {k : Key} {tx : TE} (h : EvK td σ G en) (hk : EvD ty σ G (kD k)) (hx : EvD tx σ G e) : EvD (tDGet2 td ty tx) σ G ((look en k).getD e) := fun H i Q q => h H i _ fun p G2 H2 x rd => by
  obtain ⟨kvs0, a0, _⟩ := id rd
  refine ⟨p, rfl, .inl ⟨kvs0, .of (x.i _ _ a0)⟩, (hk.up x.g) H2 x.i _ fun y G3 H3 x3 ry => ((hx.up x.g).up x3.g) H3 x3.i _ fun w G4 H4 x4 rw_ => ?_⟩
  obtain ⟨kvs, a, r⟩ := rd.up (x3.g.trans x4.g)
  refine ⟨valV kvs k, by rw [rp_kD ry]; exact DGet.k (x4.i _ _ a), ?_⟩
  rcases r.look k with ⟨z1, z2⟩ | ⟨d', v, z1, z2, rv⟩
  · rw [z2]; refine q w G4 H4 ((x.trans x3).trans x4) ?_; rw [z1]; exact rw_
  · rw [z2]; refine q v G4 H4 ((x.trans x3).trans x4) ?_; rw [z1]; exact rv
/-- pairs that make a dict, no key twice -/
def pairD (e : Key × PyData) : PyData := .tuple [kD e.1, e.2]
theorem merge_nd : ∀ (kvs acc : List (Key × V)), ((acc ++ kvs).map (·.1)).Nodup → mergeK acc kvs = acc ++ kvs
  | [], acc, _ => by rw [List.append_nil]; rfl
  | p :: r, acc, h => by
    have e : acc ++ p :: r = (acc ++ [p]) ++ r := by simp
    show mergeK (putK acc p.1 p.2) r = _
    have hn : valV acc p.1 = none := by
      cases q : valV acc p.1 with
      | none => rfl
      | some v =>
        have m := valV_in q
        rw [List.map_append, List.map_cons] at h
        have := (List.nodup_append.mp h).2.2 _ m p.1 (List.mem_cons_self ..)
        exact absurd rfl this
    rw [putK_new _ hn, e]
    exact merge_nd r (acc ++ [p]) (by rw [← e]; exact h)
theorem pairs_at : ∀ {en : Ents} {xs : List V}, Rps G xs (en.map pairD) → ∃ (ps : List Addr) (kvs : List (Key × V)), xs = ps.map V.ref ∧ Paired (fun p kv => Tp G p [kV kv.1, kv.2]) ps kvs ∧ DkR G kvs en
  | [], _, .nil => ⟨[], [], rfl, .nil, .nil⟩
  | e :: en, _, .cons h r => by
    obtain ⟨ps, kvs, e1, e2, e3⟩ := pairs_at r
    obtain ⟨a, xs, ev, g, rs⟩ := Rp.isTup (show Rp _ _ (.tuple [kD e.1, e.2]) from h)
    obtain ⟨x, y, rfl, rx, ry⟩ := two_args rs
    refine ⟨a :: ps, (e.1, y) :: kvs, by rw [ev, e1]; rfl, .cons ?_ e2, .cons ⟨rfl, ry⟩ e3⟩
    rw [rp_kD rx] at g
    exact g
theorem dkr_keys {kvs : List (Key × V)} {en : Ents} (h : DkR G kvs en) : kvs.map (·.1) = en.map (·.1) := by
  induction h with
  | nil => rfl
  | cons a b ih => rw [List.map_cons, List.map_cons, ih, a.1]
theorem paired_imp {α β : Type} {R S : α → β → Prop} (f : ∀ a b, R a b → S a b) : ∀ {as : List α} {bs : List β}, Paired R as bs → Paired S as bs
  | _, _, .nil => .nil
  | _, _, .cons h r => .cons (f _ _ h) (paired_imp f r)
theorem ek_dictT {en : Ents} (h : EvT te σ G (.tuple (en.map pairD))) (nd : (en.map (·.1)).Nodup) : EvK (tCB (fun xs H Q => ∃ (a : Addr) (ps : List Addr) (kvs : List (Key × V)) (o : Obj), xs = [.ref a] ∧ H a = some (.frz o (.tup (ps.map V.ref))) ∧ o.dict = none ∧ Paired (fun p kv => SqT K H p [kV kv.1, kv.2]) ps kvs ∧
    ∀ p, H p = none → Q (.ref p) (upd H p (.dK (mergeK [] kvs)))) (tCons te tNil)) σ G en := fun H i Q q => h H i _ fun v G2 H2 x r pl => by
  obtain ⟨a, xs, e, g, rs⟩ := r.isTup
  obtain ⟨a', o, xs', e', g', ho⟩ := pl
  rw [e] at e'
  cases e'
  have ex : xs' = xs := by
    rcases g with g | ⟨o2, g, _⟩
    · rw [g'] at g; cases g
    · rw [g'] at g; cases g; rfl
  subst ex
  obtain ⟨ps, kvs, rfl, hp, hd⟩ := pairs_at rs
  refine ⟨a, ps, kvs, o, by rw [e], x.i _ _ g', ho, paired_imp (fun p kv t => (t.up x.i).sq) hp, fun p hpn => ?_⟩
  rw [merge_nd kvs [] (by rw [List.nil_append, dkr_keys hd]; exact nd), List.nil_append]
  exact q p _ _ (x.trans (Gx.new x.i hpn)) ⟨kvs, upd_same, hd.up (same_new (x.i.free hpn))⟩
theorem ek_dictL {en : Ents} (h : EvD te σ G (.list (en.map pairD))) (nd : (en.map (·.1)).Nodup) : EvK (tCB (fun xs H Q => ∃ (a : Addr) (ps : List Addr) (kvs : List (Key × V)), xs = [.ref a] ∧ SqL K H a (ps.map V.ref) ∧ Paired (fun p kv => SqT K H p [kV kv.1, kv.2]) ps kvs ∧
    ∀ p, H p = none → Q (.ref p) (upd H p (.dK (mergeK [] kvs)))) (tCons te tNil)) σ G en := fun H i Q q => h H i _ fun v G2 H2 x r => by
  obtain ⟨a, xs, e, g, rs⟩ := r.isList
  obtain ⟨ps, kvs, rfl, hp, hd⟩ := pairs_at rs
  refine ⟨a, ps, kvs, by rw [e], .of (x.i _ _ g), paired_imp (fun p kv t => (t.up x.i).sq) hp, fun p hpn => ?_⟩
  rw [merge_nd kvs [] (by rw [List.nil_append, dkr_keys hd]; exact nd), List.nil_append]
  exact q p _ _ (x.trans (Gx.new x.i hpn)) ⟨kvs, upd_same, hd.up (same_new (x.i.free hpn))⟩
/-- list(zip(xs, t)) -/
theorem ev_lz (h : EvS ts σ G [.list ds, .tuple es]) (hl : ds.length = es.length) (hz : ds.length ≤ 100000) : EvD (tLZ K ts) σ G (.list (zipD ds es)) := fun H i Q q => h H i _ fun v G2 H2 x r => by
  obtain ⟨u, w, rfl, ru, rw_⟩ := two_args r
  obtain ⟨a, xs, rfl, g, rs⟩ := ru.isList
  obtain ⟨c, ys, rfl, g', rs'⟩ := rw_.isTup
  refine ⟨a, c, xs, ys, rfl, .of (x.i _ _ g), (g'.up x.i).sq, by rw [rs.len, rs'.len, hl]; exact Nat.le_refl _, by rw [rs.len]; exact hz, fun S as H' sm hS hS' hn pr => ?_⟩
  classical
  let G' : Hp := fun b => if b = S ∨ b ∈ as then H' b else G2 b
  have nS : G2 S = none := x.i.free hS
  have nA : ∀ b ∈ as, G2 b = none := fun b hb => x.i.free (hn b hb)
  have g1 : Same G2 G' := fun b o e => by
    have z : ¬ (b = S ∨ b ∈ as) := fun z => by
      rcases z with rfl | z
      · rw [nS] at e; cases e
      · rw [nA b z] at e; cases e
    show (if b = S ∨ b ∈ as then H' b else G2 b) = _
    rw [if_neg z]; exact e
  have g2 : Same G' H' := fun b o e => by
    by_cases z : b = S ∨ b ∈ as
    · have e : (if b = S ∨ b ∈ as then H' b else G2 b) = some o := e
      rw [if_pos z] at e; exact e
    · have e : (if b = S ∨ b ∈ as then H' b else G2 b) = some o := e
      rw [if_neg z] at e; exact sm _ _ (x.i _ _ e)
  have x2 : Gx G2 H2 G' H' := ⟨g1, g2, sm, fun b o e n => by
    by_cases z : b = S ∨ b ∈ as
    · rcases z with rfl | z
      · exact hS
      · exact hn b z
    · have e : (if b = S ∨ b ∈ as then H' b else G2 b) = some o := e
      rw [if_neg z, n] at e; cases e⟩
  have hSG : G' S = some (.lst (as.map V.ref)) := by
    show (if S = S ∨ S ∈ as then H' S else G2 S) = _
    rw [if_pos (.inl rfl)]; exact hS'
  refine q (.ref S) G' H' (x.trans x2) (.lst hSG ?_)
  obtain ⟨hal, hpr⟩ := pr
  have hall : ∀ b ∈ as, G' b = H' b := fun b hb => if_pos (.inr hb)
  have key : ∀ (as : List Addr) (ds es : List PyData) (xs ys : List V), Rps G' xs ds → Rps G' ys es → as.length = xs.length → ds.length = es.length →
      (∀ (j : Nat) (a : Addr), as[j]? = some a → ∃ x y, xs[j]? = some x ∧ ys[j]? = some y ∧ G' a = some (.tup [x, y])) → Rps G' (as.map V.ref) (zipD ds es) := by
    intro as
    induction as with
    | nil =>
      intro ds es xs ys r1 r2 e1 e2 _
      have e3 : ds = [] := List.eq_nil_of_length_eq_zero (by rw [← r1.len, ← e1]; rfl)
      subst e3
      cases es with
      | nil => exact .nil
      | cons _ _ => exact .nil
    | cons a as ih =>
      intro ds es xs ys r1 r2 e1 e2 hh
      cases r1 with
      | nil => simp at e1
      | cons a1 b1 =>
        cases r2 with
        | nil => simp at e2
        | cons a2 b2 =>
          obtain ⟨x, y, h1, h2, h3⟩ := hh 0 a rfl
          cases (Option.some.inj h1)
          cases (Option.some.inj h2)
          refine .cons (.tup (.of h3) (.cons a1 (.cons a2 .nil))) (ih _ _ _ _ b1 b2 (by simpa using e1) (by simpa using e2) fun j b hj => ?_)
          exact hh (j + 1) b (by simpa using hj)
  exact key as ds es xs ys (rs.up g1) (rs'.up g1) hal hl fun j b hj => by
    obtain ⟨x, y, h1, h2, h3⟩ := hpr j b hj
    exact ⟨x, y, h1, h2, by rw [hall b (List.mem_of_getElem? hj)]; exact h3⟩

/-! ### a dict (or other thing that data never speak of) that may change later, read now -/
def del (G : Hp) (p : Addr) : Hp := fun b => if b = p then none else G b
theorem del_ne {p b : Addr} (h : b ≠ p) : del G p b = G b := if_neg h
theorem del_same {p : Addr} : del G p p = none := if_pos rfl
mutual
theorem Rp.del {p : Addr} {kvs : List (Key × V)} (h : G p = some (.dK kvs)) : ∀ (d : PyData) (v : V), Rp G v d → Rp (K11.del G p) v d
  | .none, _, .non => .non
  | .bool _, _, .bl b => .bl b
  | .int _, _, .int i => .int i
  | .str _, _, .str x => .str x
  | .list ds, _, .lst g r => .lst ((del_ne (fun z => by rw [z, h] at g; cases g)).trans g) (Rps.del h ds _ r)
  | .tuple ds, _, .tup g r => .tup (by
      rcases g with g | ⟨o, g, ho⟩
      · exact .inl ((del_ne (fun z => by rw [z, h] at g; cases g)).trans g)
      · exact .inr ⟨o, (del_ne (fun z => by rw [z, h] at g; cases g)).trans g, ho⟩) (Rps.del h ds _ r)
theorem Rps.del {p : Addr} {kvs : List (Key × V)} (h : G p = some (.dK kvs)) : ∀ (ds : List PyData) (vs : List V), Rps G vs ds → Rps (K11.del G p) vs ds
  | [], _, .nil => .nil
  | d :: ds, _, .cons a r => .cons (Rp.del h d _ a) (Rps.del h ds _ r)
end
theorem Gx.lent {p : Addr} {o : HO} (x : Gx (upd G p o) H G2 H2) (hp : G p = none) (hH : H p = some o) : Gx G H (K11.del G2 p) H2 := by
  refine ⟨fun b u e => ?_, fun b u e => ?_, x.h, fun b u e n => ?_⟩
  · have z : b ≠ p := ne_of_none e hp
    rw [del_ne z]
    exact x.g _ _ (by rw [upd_ne z]; exact e)
  · by_cases z : b = p
    · subst z; rw [del_same] at e; cases e
    · rw [del_ne z] at e; exact x.i _ _ e
  · by_cases z : b = p
    · subst z; rw [del_same] at e; cases e
    · rw [del_ne z] at e
      exact x.f b u e (by rw [upd_ne z]; exact n)
theorem EvD.lend {p : Addr} {kvs : List (Key × V)} (h : EvD te σ (upd G p (.dK kvs)) d) (hp : G p = none) : ∀ H, Same G H → H p = some (.dK kvs) → ∀ Q : VK, (∀ v G2 H2, Gx G H G2 H2 → G2 p = none → H2 p = some (.dK kvs) → Rp G2 v d → Q v H2) → te σ H Q := fun H s hH Q q => by
  refine h H (fun b u e => ?_) Q fun v G2 H2 x r => ?_
  · by_cases z : b = p
    · subst z; rw [upd_same] at e; cases e; exact hH
    · rw [upd_ne z] at e; exact s _ _ e
  · exact q v _ H2 (x.lent hp hH) del_same (x.h _ _ hH) (Rp.del (x.g _ _ upd_same) _ _ r)
end K11
set_option Elab.async false
set_option linter.all false
set_option maxRecDepth 100000
set_option maxHeartbeats 4000000
set_option autoImplicit false
/-! K11Mir: the mirror: what the defs compute, over plain lists. -/
namespace K11
open PySem PySem.Spec PyProof.Rows L2 RZ PySem.W
abbrev Row := Str × List Str × Bool
structure Blk where
  rows : List Row
  live : List Str
def Blk.names (b : Blk) : List Str := b.rows.map (·.1)
def dStrs (ss : List Str) : List PyData := ss.map .str
def dRow (r : Row) : PyData := .tuple [.str r.1, .tuple (dStrs r.2.1), .bool r.2.2]
def dBlk (b : Blk) : PyData := .tuple [.tuple (b.rows.map dRow), .tuple (dStrs b.live)]
abbrev Lat := List (Str × Int)
def dLatP (p : Str × Int) : PyData := .tuple [.str p.1, .int p.2]
def dLat (l : Lat) : PyData := .tuple (l.map dLatP)
/-- data of depth n at most, no dicts, no long sequences -/
def okD : Nat → PyData → Bool
  | _, .dict _ => false
  | 0, .list _ => false
  | 0, .tuple _ => false
  | n + 1, .list xs => decide (xs.length ≤ 100000) && xs.all (okD n)
  | n + 1, .tuple xs => decide (xs.length ≤ 100000) && xs.all (okD n)
  | _, _ => true
/-- tuples for lists -/
def tupN : Nat → PyData → PyData
  | n + 1, .list xs => .tuple (xs.map (tupN n))
  | n + 1, .tuple xs => .tuple (xs.map (tupN n))
  | _, d => d
/-- lists for tuples -/
def lisN : Nat → PyData → PyData
  | n + 1, .list xs => .list (xs.map (lisN n))
  | n + 1, .tuple xs => .list (xs.map (lisN n))
  | _, d => d
def isSeqD : PyData → Bool
  | .list _ => true
  | .tuple _ => true
  | _ => false
def letters : Str := "abcdefghijklmnopqrstuvwxyz"
def isNameB (s : Str) : Bool := decide (1 ≤ s.length ∧ s.length ≤ 8) && s.cps.toList.all fun c => decide (c ∈ letters.cps.toList)
def leS (a b : Str) : Bool := decide (a.cps.toList ≤ b.cps.toList)
def ins (x : Str) : List Str → List Str
  | [] => [x]
  | y :: r => if leS x y then x :: y :: r else y :: ins x r
def msort : List Str → List Str
  | [] => []
  | x :: r => ins x (msort r)
/-- what a row reads, and whether it is slow -/
def rowOf (b : Blk) (n : Str) : List Str × Bool := ((b.rows.find? fun r => decide (r.1 = n)).map (·.2)).getD ([], false)
def readL (b : Blk) (o : List Str) : Nat → List Str → List Bool
  | _, [] => []
  | i, n :: r => ((rowOf b n).1.map fun w => decide (w ∈ o.take i)) ++ readL b o (i + 1) r
def isOrderB (b : Blk) (o : List Str) : Bool := o.all isNameB && (decide (msort o = b.names) && (readL b o 0 o).all id)
/-- the greatest of t and some -/
def maxL (t : Int) (xs : List Int) : Int := xs.foldl max t
/-- names, their ticks of issue and of coming -/
abbrev Tk := List (Str × Int × Int)
def tkLook (f : Tk) (n : Str) : Int × Int := ((f.find? fun e => decide (e.1 = n)).map (·.2)).getD (0, 0)
def latOf (l : Lat) (n : Str) : Int := ((l.find? fun e => decide (e.1 = n)).map (·.2)).getD 0
def tick1 (b : Blk) (f : Tk) (t : Int) (n : Str) : Int := maxL (t + 1) ((rowOf b n).1.map fun w => (tkLook f w).2)
def lag (b : Blk) (l : Lat) (n : Str) : Int := if (rowOf b n).2 then latOf l n else 1
def tkGo (b : Blk) (l : Lat) : List Str → Tk → Int → Tk
  | [], f, _ => f
  | n :: r, f, t => tkGo b l r (f ++ [(n, tick1 b f t n, tick1 b f t n + lag b l n)]) (tick1 b f t n)
def tkOf (b : Blk) (l : Lat) (o : List Str) : Tk := tkGo b l o [] (-1)
def spots (b : Blk) (l : Lat) (o : List Str) : List Int := (tkOf b l o).map (·.2.1)
def stret : List Int → List (Int × Int)
  | x :: y :: r => if y > x + 1 then (x + 1, y - x - 1) :: stret (y :: r) else stret (y :: r)
  | _ => []
def dPI (p : Int × Int) : PyData := .tuple [.int p.1, .int p.2]
def idxOf (k : Int) (ns : List Int) : Option Nat := ns.findIdx? fun n => decide (n = k)
def issuedD (o : List Str) (ns : List Int) (k : Int) : PyData :=
  match idxOf k ns with
  | some j => match o[j]? with
    | some s => .str s
    | none => .none
  | none => .none
/-- the block that a datum tells -/
structure BlkD (d : PyData) (b : Blk) : Prop where
  ok : okD 12 d = true
  is : tupN 12 d = dBlk b
  nd : b.names.Nodup
  nl : b.rows.length ≤ 100
  rl : ∀ r ∈ b.rows, r.2.1.length ≤ 100
  nm : ∀ r ∈ b.rows, isNameB r.1 = true
structure ArgD (d t l : PyData) (b : Blk) (o : List Str) (lat : Lat) : Prop where
  blk : BlkD d b
  ord : t = .list (dStrs o) ∨ t = .tuple (dStrs o)
  ol : o.length ≤ 1000
  os : ∀ s ∈ o, s.length ≤ 1000
  lok : okD 12 l = true
  lis : tupN 12 l = dLat lat
  lnd : (lat.map (·.1)).Nodup
  lsl : ∀ r ∈ b.rows, r.2.2 = true → r.1 ∈ lat.map (·.1)
def wide : Blk := ⟨[("a", [], true), ("b", [], true), ("u", ["a"], false), ("v", ["b"], false)], ["u", "v"]⟩
theorem t1 : isOrderB wide ["a", "u", "b", "v"] = true := by decide +kernel
theorem t2 : isOrderB wide ["u", "a", "b", "v"] = false := by decide +kernel
theorem t3 : (spots wide [("a", 3), ("b", 5)] ["a", "u", "b", "v"]) = [0, 3, 4, 9] := by decide +kernel
theorem t4 : stret [0, 3, 4, 9] = [(1, 2), (5, 4)] := by decide +kernel
end K11
set_option Elab.async false
set_option linter.all false
set_option maxRecDepth 100000
set_option maxHeartbeats 4000000
set_option autoImplicit false
/-! K11Dat2: chains, comprehensions with two fors, comprehensions of dicts, loops. -/
namespace K11
open PySem PySem.Spec PyProof.Rows L2 RZ PySem.W
variable {K : PySem.W.Frag} {G H H1 H2 H3 G1 G2 G3 : Hp} {σ : L2.St} {te ta tb tc td ty : TE} {d e f : PyData} {tt tu : TT} {b : Bool} {ts : TA} {ds es : List PyData} {v : V}
theorem ev_chain {g h : Int → Int → Bool} {i j k : Int} (ha : EvD ta σ G (.int i)) (hb : EvD tb σ G (.int j)) (hc : EvD tc σ G (.int k)) :
    EvD (tChain (rI0 fun i j => .bl (g i j)) (rI0 fun i j => .bl (h i j)) ta tb tc) σ G (.bool (g i j && h j k)) := fun H s Q q =>
  ha H s _ fun x G1 H1 x1 r1 => (hb.up x1.g) H1 x1.i _ fun y G2 H2 x2 r2 => ⟨i, j, r1.isInt, r2.isInt, g i j, rfl, by
    cases c : g i j with
    | true =>
      rw [if_pos rfl]
      refine (hc.up (x1.g.trans x2.g)) H2 x2.i _ fun z G3 H3 x3 r3 => ⟨j, k, r2.isInt, r3.isInt, ?_⟩
      rw [c, Bool.true_and] at q
      exact q _ G3 H3 ((x1.trans x2).trans x3) (.bl _)
    | false =>
      rw [if_neg (by simp)]
      rw [c, Bool.false_and] at q
      exact q _ G2 H2 (x1.trans x2) (.bl _)⟩
theorem cd_lenS {z : Str} (hz : z.length ≤ 100000) : CaD (fun xs H Q => ∃ z, xs = [.str z] ∧ z.length ≤ sizeLine ∧ Q (.int z.length) H) [.str z] (.int (z.length : Nat)) := fun G H xs s r Q q => by
  obtain ⟨v, rfl, rv⟩ := one_arg r
  cases rv.isStr
  exact ⟨z, rfl, Nat.le_trans hz (by decide), q _ G H (Gx.refl s) (.int _)⟩
theorem od_mul {i j : Int} (h : CMul i j) : OpD (rI CMul fun i j => .int (i * j)) (.int i) (.int j) (.int (i * j)) := od_I h fun _ => .int _
theorem od_modN {i j : Int} (h : j ≠ 0) : OpD (rI (fun _ j => j ≠ 0) fun i j => .int (i.fmod j)) (.int i) (.int j) (.int (i.fmod j)) := od_I h fun _ => .int _
theorem od_fdivN {i j : Int} (h : CDivN i j) : OpD (rI CDivN fun i j => .int (i.fdiv j)) (.int i) (.int j) (.int (i.fdiv j)) := od_I h fun _ => .int _

/-! ### two fors -/
/-- the list that grows at D, with all else -/
def Acc (G1 H1 : Hp) (D : Addr) (out : List PyData) (H : Hp) : Prop := ∃ Gi acc, Gx G1 H1 Gi H ∧ Gi D = none ∧ H D = some (.lst acc) ∧ Rps Gi acc out
theorem Acc.app {D : Addr} {out : List PyData} {acc : List V} {u : V} (hD : H1 D = none) (x : Gx G1 H1 G2 H) (n : G2 D = none) (hd : H D = some (.lst acc)) (r : Rps G2 acc out) (ru : Rp G2 u d) : Acc G1 H1 D (out ++ [d]) (upd H D (.lst (acc ++ [u]))) :=
  ⟨G2, acc ++ [u], ⟨x.g, same_mut x.i n, fun b o hbo => by rw [upd_ne (ne_of_none hbo hD)]; exact x.h _ _ hbo, x.f⟩, n, upd_same, r.snoc ru⟩
theorem Acc.fin {D : Addr} {out : List PyData} (hD : H1 D = none) (gD : G1 D = none) (h : Acc G1 H1 D out H) : ∃ G2, Gx G1 H1 G2 H ∧ Rp G2 (.ref D) (.list out) := by
  obtain ⟨Gi, acc, gx, nD, hd, rs⟩ := h
  refine ⟨upd Gi D (.lst acc), ⟨gx.g.trans (same_new nD), fun b o hbo => ?_, gx.h, fun b o hbo nb => ?_⟩, .lst upd_same (rs.up (same_new nD))⟩
  · by_cases c : b = D
    · subst c; rw [upd_same] at hbo; cases hbo; exact hd
    · rw [upd_ne c] at hbo; exact gx.i _ _ hbo
  · by_cases c : b = D
    · subst c; exact hD
    · rw [upd_ne c] at hbo; exact gx.f _ _ hbo nb
theorem fm_take {α β : Type} (f : α → List β) {l : List α} {i : Nat} {a : α} (h : l[i]? = some a) : (l.take (i + 1)).flatMap f = (l.take i).flatMap f ++ f a := by
  rw [take_snoc h, List.flatMap_append]; simp
theorem fm_take_le {α β : Type} (f : α → List β) (l : List α) (i : Nat) : ((l.take i).flatMap f).length ≤ (l.flatMap f).length := by
  conv => rhs; rw [← List.take_append_drop i l, List.flatMap_append, List.length_append]
  omega
theorem at_map {α : Type} {D : α → PyData} {as : List α} {i : Nat} {d : PyData} (h : (as.map D)[i]? = some d) : ∃ a, as[i]? = some a ∧ d = D a := by
  rw [List.getElem?_map] at h
  cases q : as[i]? with
  | none => rw [q] at h; cases h
  | some a => rw [q] at h; exact ⟨a, rfl, (Option.some.inj h).symm⟩
theorem ev_lcA {α : Type} {wi : TI} {g : TG} {vs : List Nat} {as : List α} (D : α → PyData) (p : α → Bool) (f : α → PyData) (hi : EvI wi σ G (as.map D)) (hz : as.length ≤ 100000)
    (hb : ∀ a ∈ as, ∀ G2 x, Same G G2 → Rp G2 x (D a) → ∃ σ2, Tg g x (wipe σ vs) G2 σ2 ∧ wipe σ2 vs = wipe σ vs ∧ EvB tt σ2 G2 (p a) ∧ (p a = true → EvD te σ2 G2 (f a))) :
    EvD (tLc wi g tt te vs) σ G (.list ((as.filter p).map f)) := fun H0 i0 Q q => hi H0 i0 _ fun J G1 H1 x1 w C hC => by
  have gD : G1 C = none := x1.i.free hC
  let F : List α → List PyData := fun l => (l.filter p).map f
  have fS : ∀ {i : Nat} {a : α}, as[i]? = some a → F (as.take (i + 1)) = F (as.take i) ++ (if p a then [f a] else []) := fun {i a} h => by
    show (List.filter p (as.take (i + 1))).map f = _
    rw [take_snoc h, List.filter_append, List.map_append]
    congr 1
    cases c : p a <;> simp [List.filter, c]
  refine ⟨fun i m H => i + m = as.length ∧ Acc G1 H1 C (F (as.take i)) H, ⟨as.length, by omega, G1, [], Gx.grow x1.i (same_new hC), gD, upd_same, .nil⟩, fun i m H hW => ?_⟩
  obtain ⟨em, Gi, acc, gx, nD, hd, rs⟩ := hW
  by_cases hlt : i < as.length
  · have hlt' : i < (as.map D).length := by rw [List.length_map]; exact hlt
    refine .inr ⟨w.go i H (gx.g.trans gx.i) hlt', fun H' => Acc G1 H1 C (F (as.take (i + 1))) H', fun H' hN => ⟨m - 1, by omega, by omega, hN⟩, fun x H' hy => ?_⟩
    obtain ⟨d, hdd, G2, gx2, rx⟩ := (w.up gx.g).yld i H x H' gx.i hlt' hy
    obtain ⟨a, ha, rfl⟩ := at_map hdd
    obtain ⟨σ2, tg, wp, eb, ee⟩ := hb a (List.mem_of_getElem? ha) G2 x ((x1.g.trans gx.g).trans gx2.g) rx
    have n2 : G2 C = none := gx2.out nD hd
    have d2 : H' C = some (.lst acc) := gx2.h _ _ hd
    refine tg H' gx2.i _ ⟨wp, eb H' gx2.i _ fun H3 s3 => ?_⟩
    rw [fS ha]
    cases c : p a with
    | false =>
      rw [if_neg (by simp), if_neg (by simp), List.append_nil]
      exact ⟨G2, acc, (gx.trans gx2).post s3, n2, s3 _ _ d2, rs.up gx2.g⟩
    | true =>
      rw [if_pos rfl, if_pos rfl]
      refine ee c H3 (gx2.i.trans s3) _ fun u G4 H4 gx4 ru => ?_
      have d4 : H4 C = some (.lst acc) := gx4.h _ _ (s3 _ _ d2)
      have n4 : G4 C = none := gx4.out n2 (s3 _ _ d2)
      have z : acc.length ≤ as.length := by
        rw [rs.len, List.length_map]
        exact Nat.le_trans (List.length_filter_le ..) (by rw [List.length_take]; omega)
      exact ⟨acc, d4, Nat.lt_of_le_of_lt (Nat.le_trans z hz) (by decide), Acc.app hC ((gx.trans gx2).trans (gx4.pre gx2.i s3)) n4 d4 (rs.up (gx2.g.trans gx4.g)) ru⟩
  · have ei : i = as.length := by omega
    subst ei
    rw [List.take_length] at rs
    obtain ⟨G2, a, r⟩ := Acc.fin (H := H) hC gD ⟨Gi, acc, gx, nD, hd, rs⟩
    have e : (as.map D).length = as.length := List.length_map ..
    exact .inl ⟨e ▸ w.stop H (gx.g.trans gx.i), q (.ref C) G2 H (x1.trans a) r⟩
/-- one without a test -/
theorem ev_lcB {α : Type} {wi : TI} {g : TG} {vs : List Nat} {as : List α} (D : α → PyData) (f : α → PyData) (hi : EvI wi σ G (as.map D)) (hz : as.length ≤ 100000)
    (hb : ∀ a ∈ as, ∀ G2 x, Same G G2 → Rp G2 x (D a) → ∃ σ2, Tg g x (wipe σ vs) G2 σ2 ∧ wipe σ2 vs = wipe σ vs ∧ EvD te σ2 G2 (f a)) :
    EvD (tLc wi g tYes te vs) σ G (.list (as.map f)) := by
  have := ev_lcA (tt := tYes) (te := te) (vs := vs) (g := g) D (fun _ => true) f hi hz fun a ha G2 x s r => by
    obtain ⟨σ2, h1, h2, h3⟩ := hb a ha G2 x s r
    exact ⟨σ2, h1, h2, eb_yes, fun _ => h3⟩
  rw [List.filter_eq_self.mpr (fun _ _ => rfl)] at this
  exact this
theorem ev_lc2 {α β : Type} {wi wi1 : TI} {g g1 : TG} {tt tt1 : TT} {vs vs1 : List Nat} {ds : List α} (D0 : α → PyData) (E0 : β → PyData) (inn : α → List β) (h : α → β → PyData) (hi : EvI wi σ G (ds.map D0)) (hz : (ds.flatMap inn).length ≤ 100000)
    (hb : ∀ d ∈ ds, ∀ G2 x, Same G G2 → Rp G2 x (D0 d) → ∃ σ2, Tg g x (wipe σ vs) G2 σ2 ∧ wipe σ2 vs = wipe σ vs ∧ EvB tt σ2 G2 true ∧ EvI wi1 σ2 G2 ((inn d).map E0) ∧
      ∀ e ∈ inn d, ∀ G3 y, Same G2 G3 → Rp G3 y (E0 e) → ∃ σ3, Tg g1 y (wipe σ2 vs1) G3 σ3 ∧ wipe σ3 vs1 = wipe σ2 vs1 ∧ EvB tt1 σ3 G3 true ∧ EvD te σ3 G3 (h d e)) :
    EvD (tLc2 wi g tt wi1 g1 tt1 te vs vs1) σ G (.list (ds.flatMap fun d => (inn d).map (h d))) := fun H0 i0 Q q => hi H0 i0 _ fun J G1 H1 x1 w D hD => by
  have gD : G1 D = none := x1.i.free hD
  let F : α → List PyData := fun d => (inn d).map (h d)
  have hzF : (ds.flatMap F).length ≤ 100000 := by
    rw [List.length_flatMap]; rw [List.length_flatMap] at hz
    refine Nat.le_trans (Nat.le_of_eq ?_) hz
    congr 1
    exact List.map_congr_left fun d _ => List.length_map ..
  refine ⟨fun i m H => i + m = ds.length ∧ Acc G1 H1 D ((ds.take i).flatMap F) H, ⟨ds.length, by omega, G1, [], Gx.grow x1.i (same_new hD), gD, upd_same, .nil⟩, fun i m H hW => ?_⟩
  obtain ⟨em, Gi, acc, gx, nD, hd, rs⟩ := hW
  by_cases hlt : i < ds.length
  · refine .inr ⟨w.go i H (gx.g.trans gx.i) (by rw [List.length_map]; exact hlt), fun H' => Acc G1 H1 D ((ds.take (i + 1)).flatMap F) H', fun H' hN => ⟨m - 1, by omega, by omega, hN⟩, fun x H' hy => ?_⟩
    obtain ⟨dd, hdd0, G2, gx2, rx⟩ := (w.up gx.g).yld i H x H' gx.i (by rw [List.length_map]; exact hlt) hy
    obtain ⟨d, hdd, rfl⟩ := at_map hdd0
    have mem : d ∈ ds := List.mem_of_getElem? hdd
    obtain ⟨σ2, tg, wp, eb, ei, ee⟩ := hb d mem G2 x ((x1.g.trans gx.g).trans gx2.g) rx
    have n2 : G2 D = none := gx2.out nD hd
    have d2 : H' D = some (.lst acc) := gx2.h _ _ hd
    refine tg H' gx2.i _ ⟨wp, eb H' gx2.i _ fun H3 s3 => ?_⟩
    rw [if_pos rfl]
    refine ei H3 (gx2.i.trans s3) _ fun J1 G4 H4 x4 w1 => ?_
    have d4 : H4 D = some (.lst acc) := x4.h _ _ (s3 _ _ d2)
    have n4 : G4 D = none := x4.out n2 (s3 _ _ d2)
    have gx4 : Gx G1 H1 G4 H4 := (gx.trans gx2).trans (x4.pre gx2.i s3)
    refine ⟨fun j k H => j + k = (inn d).length ∧ ∃ Gj accj, Gx G1 H1 Gj H ∧ Same G4 Gj ∧ Gj D = none ∧ H D = some (.lst accj) ∧ Rps Gj accj ((ds.take i).flatMap F ++ ((inn d).take j).map (h d)), ⟨(inn d).length, by omega, G4, acc, gx4, Same.refl _, n4, d4, by
      rw [List.take_zero, List.map_nil, List.append_nil]; exact rs.up (gx2.g.trans x4.g)⟩, fun j k H5 hW5 => ?_⟩
    obtain ⟨ek, Gj, accj, gxj, sj, nj, hdj, rsj⟩ := hW5
    by_cases hlj : j < (inn d).length
    · refine .inr ⟨w1.go j H5 (sj.trans gxj.i) (by rw [List.length_map]; exact hlj), fun H' => ∃ Gj accj, Gx G1 H1 Gj H' ∧ Same G4 Gj ∧ Gj D = none ∧ H' D = some (.lst accj) ∧ Rps Gj accj ((ds.take i).flatMap F ++ ((inn d).take (j + 1)).map (h d)), fun H' hN => ⟨k - 1, by omega, by omega, hN⟩, fun y H6 hy6 => ?_⟩
      obtain ⟨ee0, hee0, G6, gx6, ry⟩ := (w1.up sj).yld j H5 y H6 gxj.i (by rw [List.length_map]; exact hlj) hy6
      obtain ⟨e, hee, rfl⟩ := at_map hee0
      obtain ⟨σ3, tg3, wp3, eb3, ee3⟩ := ee e (List.mem_of_getElem? hee) G6 y ((x4.g.trans sj).trans gx6.g) ry
      have n6 : G6 D = none := gx6.out nj hdj
      have d6 : H6 D = some (.lst accj) := gx6.h _ _ hdj
      refine tg3 H6 gx6.i _ ⟨wp3, eb3 H6 gx6.i _ fun H7 s7 => ?_⟩
      rw [if_pos rfl]
      refine ee3 H7 (gx6.i.trans s7) _ fun u G8 H8 x8 ru => ?_
      have d8 : H8 D = some (.lst accj) := x8.h _ _ (s7 _ _ d6)
      have n8 : G8 D = none := x8.out n6 (s7 _ _ d6)
      have gx8 : Gx G1 H1 G8 H8 := (gxj.trans gx6).trans (x8.pre gx6.i s7)
      have hlen : accj.length < sizeLine := by
        rw [rsj.len, List.length_append, List.length_map, List.length_take]
        have z1 : ((ds.take (i + 1)).flatMap F).length ≤ (ds.flatMap F).length := fm_take_le F ds (i + 1)
        rw [fm_take F hdd, List.length_append] at z1
        have z2 : (F d).length = (inn d).length := List.length_map ..
        have z3 : (100000 : Nat) < sizeLine := by decide
        omega
      obtain ⟨Gk, acck, a1, a2, a3, a4⟩ := Acc.app hD gx8 n8 d8 (rsj.up (gx6.g.trans x8.g)) ru
      refine ⟨accj, d8, hlen, G8, accj ++ [u], ?_, (sj.trans gx6.g).trans x8.g, n8, upd_same, ?_⟩
      · exact ⟨gx8.g, same_mut gx8.i n8, fun b o hbo => by rw [upd_ne (ne_of_none hbo hD)]; exact gx8.h _ _ hbo, gx8.f⟩
      · rw [take_snoc hee, List.map_append, ← List.append_assoc]
        exact (rsj.up (gx6.g.trans x8.g)).snoc ru
    · have ej : j = (inn d).length := by omega
      subst ej
      have le : ((inn d).map E0).length = (inn d).length := List.length_map ..
      refine .inl ⟨le ▸ w1.stop H5 (sj.trans gxj.i), Gj, accj, gxj, nj, hdj, ?_⟩
      rw [fm_take F hdd]
      rw [List.take_length] at rsj
      exact rsj
  · have ei : i = ds.length := by omega
    subst ei
    rw [List.take_length] at rs
    obtain ⟨G2, a, r⟩ := Acc.fin (H := H) hD gD ⟨Gi, acc, gx, nD, hd, rs⟩
    have le : (ds.map D0).length = ds.length := List.length_map ..
    exact .inl ⟨le ▸ w.stop H (gx.g.trans gx.i), q (.ref D) G2 H (x1.trans a) r⟩

/-! ### a dict by a comprehension -/
theorem putK_new' {kvs : List (Key × V)} {k : Key} {v : V} (h : k ∉ kvs.map (·.1)) : putK kvs k v = kvs ++ [(k, v)] := by
  refine putK_new _ ?_
  cases q : valV kvs k with
  | none => rfl
  | some u => exact absurd (valV_in q) h
theorem ek_dc {α : Type} {ds : List α} {wi : TI} {g : TG} {tk tv : TE} {vs : List Nat} (D0 : α → PyData) (fk : α → Key) (fv : α → PyData) (hi : EvI wi σ G (ds.map D0)) (hz : ds.length ≤ 100000) (nd : (ds.map fk).Nodup)
    (hb : ∀ d ∈ ds, ∀ G2 x, Same G G2 → Rp G2 x (D0 d) → ∃ σ2, Tg g x (wipe σ vs) G2 σ2 ∧ wipe σ2 vs = wipe σ vs ∧ EvB tt σ2 G2 true ∧ EvD tk σ2 G2 (kD (fk d)) ∧ EvD tv σ2 G2 (fv d)) :
    EvK (tDc wi g tt tk tv vs) σ G (ds.map fun d => (fk d, fv d)) := fun H0 i0 Q q => hi H0 i0 _ fun J G1 H1 x1 w D hD => by
  have gD : G1 D = none := x1.i.free hD
  let F : α → Key × PyData := fun d => (fk d, fv d)
  refine ⟨fun i m H => i + m = ds.length ∧ ∃ Gi kvs, Gx G1 H1 Gi H ∧ Gi D = none ∧ H D = some (.dK kvs) ∧ DkR Gi kvs ((ds.take i).map F), ⟨ds.length, by omega, G1, [], Gx.grow x1.i (same_new hD), gD, upd_same, .nil⟩, fun i m H hW => ?_⟩
  obtain ⟨em, Gi, kvs, gx, nD, hd, rs⟩ := hW
  by_cases hlt : i < ds.length
  · refine .inr ⟨w.go i H (gx.g.trans gx.i) (by rw [List.length_map]; exact hlt), fun H' => ∃ Gi kvs, Gx G1 H1 Gi H' ∧ Gi D = none ∧ H' D = some (.dK kvs) ∧ DkR Gi kvs ((ds.take (i + 1)).map F), fun H' hN => ⟨m - 1, by omega, by omega, hN⟩, fun x H' hy => ?_⟩
    obtain ⟨dd, hdd0, G2, gx2, rx⟩ := (w.up gx.g).yld i H x H' gx.i (by rw [List.length_map]; exact hlt) hy
    obtain ⟨d, hdd, rfl⟩ := at_map hdd0
    obtain ⟨σ2, tg, wp, eb, ek, ev⟩ := hb d (List.mem_of_getElem? hdd) G2 x ((x1.g.trans gx.g).trans gx2.g) rx
    have n2 : G2 D = none := gx2.out nD hd
    have d2 : H' D = some (.dK kvs) := gx2.h _ _ hd
    refine tg H' gx2.i _ ⟨wp, eb H' gx2.i _ fun H3 s3 => ?_⟩
    rw [if_pos rfl]
    refine ek H3 (gx2.i.trans s3) _ fun y G4 H4 x4 ry => (ev.up x4.g) H4 x4.i _ fun z G5 H5 x5 rz => ?_
    have d5 : H5 D = some (.dK kvs) := x5.h _ _ (x4.h _ _ (s3 _ _ d2))
    have n4 : G4 D = none := x4.out n2 (s3 _ _ d2)
    have n5 : G5 D = none := x5.out n4 (x4.h _ _ (s3 _ _ d2))
    have gx5 : Gx G1 H1 G5 H5 := ((gx.trans gx2).trans (x4.pre gx2.i s3)).trans x5
    have nk : fk d ∉ kvs.map (·.1) := by
      rw [dkr_keys rs, List.map_map]
      intro c
      obtain ⟨d', hm, e⟩ := List.mem_map.mp c
      obtain ⟨j, hj⟩ := List.mem_iff_getElem?.mp hm
      have hji : j < i := by
        have := (List.getElem?_eq_some_iff.mp hj).1
        rw [List.length_take] at this; omega
      rw [List.getElem?_take_of_lt hji] at hj
      have a1 : (ds.map fk)[j]? = some (fk d) := by rw [List.getElem?_map, hj]; exact congrArg some e
      have a2 : (ds.map fk)[i]? = some (fk d) := by rw [List.getElem?_map, hdd]; rfl
      have := (List.getElem?_inj (by rw [List.length_map]; omega) nd).mp (a1.trans a2.symm)
      omega
    refine ⟨kvs, fk d, rp_kD ry, d5, ?_, G5, kvs ++ [(fk d, z)], ?_, n5, by rw [putK_new' nk]; exact upd_same, ?_⟩
    · rw [rs.len, List.length_map, List.length_take]
      have z3 : (100000 : Nat) < sizeLine := by decide
      omega
    · exact ⟨gx5.g, same_mut gx5.i n5, fun b o hbo => by rw [upd_ne (ne_of_none hbo hD)]; exact gx5.h _ _ hbo, gx5.f⟩
    · rw [take_snoc hdd, List.map_append]
      exact (rs.up ((gx2.g.trans x4.g).trans x5.g)).snoc rz
  · have ei : i = ds.length := by omega
    subst ei
    rw [List.take_length] at rs
    have le : (ds.map D0).length = ds.length := List.length_map ..
    refine .inl ⟨le ▸ w.stop H (gx.g.trans gx.i), q D (upd Gi D (.dK kvs)) H (x1.trans ⟨gx.g.trans (same_new nD), fun b o hbo => ?_, gx.h, fun b o hbo nb => ?_⟩) ⟨kvs, upd_same, rs.up (same_new nD)⟩⟩
    · by_cases c : b = D
      · subst c; rw [upd_same] at hbo; cases hbo; exact hd
      · rw [upd_ne c] at hbo; exact gx.i _ _ hbo
    · by_cases c : b = D
      · subst c; exact hD
      · rw [upd_ne c] at hbo; exact gx.f _ _ hbo nb

/-! ### loops -/
/-- a loop over data: Iv i σ G H, G known, from the i-th turn on -/
theorem for_ind {α : Type} {ds : List α} (D0 : α → PyData) {wi : TI} {g : TG} {tb : TS} {D : Ends} (hi : EvI wi σ G (ds.map D0)) (Iv : Nat → L2.St → Hp → Hp → Prop) (h : Same G H)
    (h0 : ∀ G2 H2, Gx G H G2 H2 → Iv 0 σ G2 H2)
    (hs : ∀ G1, Same G G1 → ∀ i d, ds[i]? = some d → ∀ σ' G2 H2, Same G1 G2 → Same G2 H2 → Iv i σ' G2 H2 → ∀ x G3 H3, Gx G2 H2 G3 H3 → Rp G3 x (D0 d) →
      g x σ' H3 fun σ2 H4 => tb { D with nx := fun σ3 H5 => ∃ G5, Same G1 G5 ∧ Same G5 H5 ∧ Iv (i + 1) σ3 G5 H5, ct := fun σ3 H5 => ∃ G5, Same G1 G5 ∧ Same G5 H5 ∧ Iv (i + 1) σ3 G5 H5, bk := D.nx } σ2 H4)
    (he : ∀ σ' G2 H2, Same G G2 → Same G2 H2 → Iv ds.length σ' G2 H2 → D.nx σ' H2) : tFor wi g tb D σ H := hi H h _ fun J G1 H1 x1 w => by
  refine ⟨fun i m σ' H' => i + m = ds.length ∧ ∃ G5, Same G1 G5 ∧ Same G5 H' ∧ Iv i σ' G5 H', ⟨ds.length, by omega, G1, Same.refl _, x1.i, h0 G1 H1 x1⟩, fun i m σ' H' hW => ?_⟩
  obtain ⟨em, G5, s5, i5, iv⟩ := hW
  by_cases hlt : i < ds.length
  · refine .inr ⟨w.go i H' (s5.trans i5) (by rw [List.length_map]; exact hlt), fun σ3 H5 => ∃ G5, Same G1 G5 ∧ Same G5 H5 ∧ Iv (i + 1) σ3 G5 H5, fun σ3 H5 hN => ⟨m - 1, by omega, by omega, hN⟩, fun x H6 hy => ?_⟩
    obtain ⟨dd, hdd0, G6, gx6, rx⟩ := (w.up s5).yld i H' x H6 i5 (by rw [List.length_map]; exact hlt) hy
    obtain ⟨d, hdd, rfl⟩ := at_map hdd0
    exact hs G1 x1.g i d hdd σ' G5 H' s5 i5 iv x G6 H6 gx6 rx
  · have ei : i = ds.length := by omega
    subst ei
    have le : (ds.map D0).length = ds.length := List.length_map ..
    exact .inl ⟨le ▸ w.stop H' (s5.trans i5), he σ' G5 H' (x1.g.trans s5) i5 iv⟩
end K11
set_option Elab.async false
set_option linter.all false
set_option maxRecDepth 100000
set_option maxHeartbeats 4000000
set_option autoImplicit false
/-! K11Srt: sorted texts and rows, equal data. -/
namespace K11
open PySem PySem.Spec PyProof.Rows L2 RZ PySem.W
theorem str_ext {a b : Str} (h : a.cps.toList = b.cps.toList) : a = b := by
  cases a with | mk x => cases b with | mk y => exact congrArg Str.mk (Array.toList_inj.mp h)
theorem leS_total (a b : Str) : (leS a b || leS b a) = true := by
  unfold leS
  rw [Bool.or_eq_true, decide_eq_true_eq, decide_eq_true_eq]
  exact List.le_total ..
theorem leS_trans (a b c : Str) (h1 : leS a b = true) (h2 : leS b c = true) : leS a c = true := by
  unfold leS at *
  rw [decide_eq_true_eq] at *
  exact List.le_trans h1 h2
theorem leS_anti {a b : Str} (h1 : leS a b = true) (h2 : leS b a = true) : a = b := by
  unfold leS at *
  rw [decide_eq_true_eq] at *
  exact str_ext (List.le_antisymm h1 h2)
theorem leS_false {a b : Str} (h : leS a b ≠ true) : leS b a = true := by
  have := leS_total a b
  rw [Bool.or_eq_true] at this
  rcases this with h2 | h2
  · exact absurd h2 h
  · exact h2
theorem ins_perm (x : Str) : ∀ l, (ins x l).Perm (x :: l)
  | [] => .refl _
  | y :: r => by
    unfold ins
    by_cases c : leS x y = true
    · rw [if_pos c]
    · rw [if_neg c]
      exact ((ins_perm x r).cons y).trans (.swap ..)
theorem ins_sorted (x : Str) : ∀ l, l.Pairwise (fun a b => leS a b = true) → (ins x l).Pairwise (fun a b => leS a b = true)
  | [], _ => by unfold ins; exact List.pairwise_singleton ..
  | y :: r, h => by
    unfold ins
    by_cases c : leS x y = true
    · rw [if_pos c]
      refine List.pairwise_cons.mpr ⟨fun z hz => ?_, h⟩
      rcases List.mem_cons.mp hz with rfl | hz
      · exact c
      · exact leS_trans _ _ _ c ((List.pairwise_cons.mp h).1 z hz)
    · rw [if_neg c]
      refine List.pairwise_cons.mpr ⟨fun z hz => ?_, ins_sorted x r (List.pairwise_cons.mp h).2⟩
      rcases List.mem_cons.mp ((ins_perm x r).subset hz) with rfl | hz
      · exact leS_false c
      · exact (List.pairwise_cons.mp h).1 z hz
theorem msort_perm : ∀ l, (msort l).Perm l
  | [] => .refl _
  | x :: r => (ins_perm x (msort r)).trans ((msort_perm r).cons x)
theorem msort_sorted : ∀ l, (msort l).Pairwise (fun a b => leS a b = true)
  | [] => .nil
  | x :: r => ins_sorted x _ (msort_sorted r)
theorem sorted_uniq {l r : List Str} (hl : l.Pairwise (fun a b => leS a b = true)) (hr : r.Pairwise (fun a b => leS a b = true)) (p : l.Perm r) : l = r :=
  List.Perm.eq_of_pairwise (le := fun a b => leS a b = true) (fun _ _ _ _ h1 h2 => leS_anti h1 h2) hl hr p
theorem mergeSort_msort (l : List Str) : l.mergeSort leS = msort l :=
  sorted_uniq (List.pairwise_mergeSort leS_trans leS_total l) (msort_sorted l) ((List.mergeSort_perm l leS).trans (msort_perm l).symm)
theorem leD_str (a b : Str) : leD (.str a) (.str b) = leS a b := by
  show (!dataLt (.str b) (.str a)) = _
  rw [dataLt_str, not_lt_str]; rfl
theorem sort_strs (l : List Str) : (dStrs l).mergeSort leD = dStrs (msort l) := by
  rw [← mergeSort_msort]
  exact (List.map_mergeSort (r := leS) (s := leD) (f := PyData.str) fun a _ b _ => (leD_str a b).symm).symm
theorem alike_strs (l : List Str) : AllAlike (dStrs l) := AllAlike.of fun b b' => by simp [alike]
theorem sortable_strs (l : List Str) : Sortable (dStrs l) := Sortable.others fun b => ⟨by simp, by simp⟩
theorem depth_strs : ∀ l : List Str, PyData.depthAll (dStrs l) = 0
  | [] => by simp [dStrs, PyData.depthAll]
  | x :: r => by
    show PyData.depthAll (.str x :: dStrs r) = 0
    rw [PyData.depthAll, depth_strs r]; simp [PyData.depth]
theorem depth_str0 {l : List Str} : ∀ d ∈ dStrs l, d.depth ≤ 8 := fun d hd => by
  obtain ⟨s, _, rfl⟩ := List.mem_map.mp hd
  simp [PyData.depth]
/-- sorted of texts -/
theorem cd_sortS {K : PySem.W.Frag} {l : PyData} {ss : List Str} (hl : l = .list (dStrs ss) ∨ l = .tuple (dStrs ss)) (h : ss.length ≤ 1000) : CaD (rSortD K) [l] (.list (dStrs (msort ss))) := by
  rw [← sort_strs]
  exact cd_sort hl (alike_strs _) (sortable_strs _) (by unfold dStrs; rw [List.length_map]; exact h) depth_str0
theorem eqvAll_strs : ∀ a b : List Str, PyData.eqvAll (dStrs a) (dStrs b) = decide (a = b)
  | [], [] => by simp [dStrs, PyData.eqvAll]
  | [], y :: b => by simp [dStrs, PyData.eqvAll]
  | x :: a, [] => by simp [dStrs, PyData.eqvAll]
  | x :: a, y :: b => by
    show PyData.eqvAll (.str x :: dStrs a) (.str y :: dStrs b) = _
    rw [PyData.eqvAll, eqvAll_strs a b, PyData.eqv]
    by_cases e : x = y
    · subst e; simp
    · have : (x == y) = false := by simpa using e
      rw [this]; simp [e]
theorem eqv_tstrs (a b : List Str) : PyData.eqv (.tuple (dStrs a)) (.tuple (dStrs b)) = decide (a = b) := by rw [PyData.eqv, eqvAll_strs]
theorem eqv_lstrs (a b : List Str) : PyData.eqv (.list (dStrs a)) (.list (dStrs b)) = decide (a = b) := by rw [PyData.eqv, eqvAll_strs]
theorem canLay_strs : ∀ l : List Str, (∀ s ∈ l, PySem.PyData.canLay0 (.str s) = true) → PyData.canLayAll0 (dStrs l) = true
  | [], _ => by simp [dStrs, PyData.canLayAll0]
  | x :: r, h => by
    show PyData.canLayAll0 (.str x :: dStrs r) = true
    rw [PyData.canLayAll0, h x (List.mem_cons_self ..), canLay_strs r fun s hs => h s (List.mem_cons_of_mem _ hs)]; rfl
theorem name_lay {s : Str} (h : isNameB s = true) : PyData.canLay0 (.str s) = true := by
  rw [PyData.canLay0]
  unfold isNameB at h
  rw [Bool.and_eq_true] at h
  unfold PySem.PyData.strOk
  rw [← Array.all_toList]
  refine List.all_eq_true.mpr fun c hc => ?_
  have m : c ∈ letters.cps.toList := of_decide_eq_true (List.all_eq_true.mp h.2 c hc)
  have a : ∀ c ∈ letters.cps.toList, decide (c < 0x110000) = true := by decide +kernel
  exact a c m
theorem name_len {s : Str} (h : isNameB s = true) : 1 ≤ s.length ∧ s.length ≤ 8 := by
  unfold isNameB at h
  rw [Bool.and_eq_true] at h
  exact of_decide_eq_true h.1
theorem shaped_tstrs {l : List Str} (h : ∀ s ∈ l, isNameB s = true) : SeqAt.shaped (.tuple (dStrs l)) = true := by
  unfold SeqAt.shaped
  rw [PyData.canLay0, canLay_strs l fun s hs => name_lay (h s hs), PyData.depth, depth_strs]; rfl
theorem shaped_lstrs {l : List Str} (h : ∀ s ∈ l, isNameB s = true) : SeqAt.shaped (.list (dStrs l)) = true := by
  unfold SeqAt.shaped
  rw [PyData.canLay0, canLay_strs l fun s hs => name_lay (h s hs), PyData.depth, depth_strs]; rfl
theorem okD_str (n : Nat) (s : Str) : okD n (.str s) = true := by cases n <;> rfl
theorem okD_strs (n : Nat) (l : List Str) : (dStrs l).all (okD n) = true := List.all_eq_true.mpr fun d hd => by
  obtain ⟨s, _, rfl⟩ := List.mem_map.mp hd
  exact okD_str n s
theorem tupN_str (n : Nat) (s : Str) : tupN n (.str s) = .str s := by cases n <;> rfl
theorem tupN_strs (n : Nat) (l : List Str) : (dStrs l).map (tupN n) = dStrs l := by
  unfold dStrs
  rw [List.map_map]
  exact List.map_congr_left fun s _ => tupN_str n s
theorem strs_len (l : List Str) : (dStrs l).length = l.length := List.length_map ..
/-- enumerate, told by places -/
theorem enumD_zip {α : Type} (D : α → PyData) : ∀ (l : List α) (k : Nat), enumD k (l.map D) = (l.zipIdx k).map fun p => .tuple [.int (p.2 : Nat), D p.1]
  | [], _ => rfl
  | x :: r, k => by
    show _ :: enumD (k + 1) (r.map D) = _
    rw [enumD_zip D r (k + 1)]; rfl
end K11
set_option Elab.async false
set_option linter.all false
set_option maxRecDepth 100000
set_option maxHeartbeats 4000000
set_option autoImplicit false
/-! K11Prog: the package's defs. -/
namespace K11
open PySem PySem.Spec PyProof.Rows L2 RZ
def top (i : Nat) : Stmt := PySem.Challenge.pw_anylatency_k11_whole_ticks_without_an_is.main.body.getD i (.Pass ⟨0, 0, 0, 0⟩)
/-- the built-ins' names are not taken; the module's two constants -/
structure Mg (mg : Str → Option Value) (tL tN : Tok) : Prop where
  len : mg "len" = none
  abs_ : mg "abs" = none
  sum_ : mg "sum" = none
  max_ : mg "max" = none
  all_ : mg "all" = none
  sorted : mg "sorted" = none
  isinstance : mg "isinstance" = none
  int_ : mg "int" = none
  str_ : mg "str" = none
  bool_ : mg "bool" = none
  list_ : mg "list" = none
  tuple_ : mg "tuple" = none
  dict_ : mg "dict" = none
  range : mg "range" = none
  zip : mg "zip" = none
  enumerate : mg "enumerate" = none
  letters : mg "LETTERS" = some (.str "abcdefghijklmnopqrstuvwxyz" tL)
  longest : mg "LONGEST" = some (.int 8 tN)
/-- a def that can be called by its name -/
structure Cal (P : Program) (w : World) (K : PySem.W.Frag) (mg : Str → Option Value) (base : Heap) (CX : CXT) (k : Nat) (x : Str) (ps : List Str) (sp : Sp) where
  f : Addr
  fd : FuncData
  ok : FnOk P w K mg base CX k f fd ps sp
  b : Binds K fd ps []
  kp : PySem.W.keepIn K (.ref f) = true
  m : mg x = some (.ref f)
variable {P : Program} {w : World} {K : PySem.W.Frag} {mg : Str → Option Value} {base : Heap} {f : Addr} {fd : FuncData} {tL tN : Tok}

/-- as SpD, a tuple is known whole -/
def SpF (n : Nat) (R : List PyData → PyData → Prop) : Sp := fun vs H Q _ => ∃ G ds f, vs.length = n ∧ Same G H ∧ Rps G vs ds ∧ R ds f ∧ ∀ v G2 H2, Gx G H G2 H2 → Rp G2 v f → (∀ xs, f = .tuple xs → PlT G2 v) → Q v H2
theorem SpF.len {n : Nat} {R : List PyData → PyData → Prop} {vs : List V} {H : Hp} {Q : VK} {E : XK} (h : SpF n R vs H Q E) : vs.length = n := by
  obtain ⟨_, _, _, h, _⟩ := h
  exact h
def EvF (te : TE) (σ : L2.St) (G : Hp) (d : PyData) : Prop := ∀ H, Same G H → ∀ Q : VK, (∀ v G2 H2, Gx G H G2 H2 → Rp G2 v d → (∀ xs, d = .tuple xs → PlT G2 v) → Q v H2) → te σ H Q
section
variable {σ : L2.St} {te ta tb : TE} {ts : TA} {G : Hp} {ds : List PyData} {d f : PyData} {tt : TT}
theorem EvF.toD (h : EvF te σ G d) : EvD te σ G d := fun H i Q q => h H i Q fun v G2 H2 x r _ => q v G2 H2 x r
theorem EvF.toT {xs : List PyData} (h : EvF te σ G (.tuple xs)) : EvT te σ G (.tuple xs) := fun H i Q q => h H i Q fun v G2 H2 x r p => q v G2 H2 x r (p _ rfl)
theorem EvT.toF (h : EvT te σ G d) : EvF te σ G d := fun H i Q q => h H i Q fun v G2 H2 x r p => q v G2 H2 x r (fun _ _ => p)
theorem EvD.toF (h : EvD te σ G d) (n : ∀ xs, d ≠ .tuple xs) : EvF te σ G d := fun H i Q q => h H i Q fun v G2 H2 x r => q v G2 H2 x r (fun xs e => absurd e (n xs))
theorem EvF.is (h : EvF te σ G d) (e : d = f) : EvF te σ G f := e ▸ h
theorem ev_callF {n : Nat} {R : List PyData → PyData → Prop} {E : XK} (ha : EvS ts σ G ds) (hr : R ds f) (hn : ds.length = n) : EvF (tCall (SpF n R) [] E ts) σ G f := fun H i Q q =>
  ha H i _ fun xs G2 H2 x2 r2 => ⟨G2, ds, f, by rw [List.append_nil, r2.len, hn], x2.i, by rw [List.append_nil]; exact r2, hr, fun v G3 H3 x3 r3 p3 => q v G3 H3 (x2.trans x3) r3 p3⟩
theorem ef_if {b : Bool} (h : EvB tt σ G b) (h1 : b = true → EvF ta σ G d) (h2 : b = false → EvF tb σ G d) : EvF (tIf tt ta tb) σ G d := fun H i Q q => h H i _ fun H2 s => by
  cases b with
  | true => exact h1 rfl H2 (i.trans s) Q fun v G3 H3 x r => q v G3 H3 (x.pre i s) r
  | false => exact h2 rfl H2 (i.trans s) Q fun v G3 H3 x r => q v G3 H3 (x.pre i s) r
end
theorem ev_isiS {σ : L2.St} {te : TE} {G : Hp} {d : PyData} (h : EvD te σ G d) : EvD (tCB (rIsiT K) (tCons te (tCons (tTup (tCons (tC (.ty "list")) (tCons (tC (.ty "tuple")) tNil))) tNil))) σ G (.bool (isSeqD d)) := by
  cases d with
  | list xs => exact ev_isi2 (b := true) (c := false) h (show kitB "list" "list" = some true by decide +kernel) (show kitB "list" "tuple" = some false by decide +kernel)
  | tuple xs => exact ev_isi2 (b := false) (c := true) h (show kitB "tuple" "list" = some false by decide +kernel) (show kitB "tuple" "tuple" = some true by decide +kernel)
  | none => exact ev_isi2 (b := false) (c := false) h (show kitB "NoneType" "list" = some false by decide +kernel) (show kitB "NoneType" "tuple" = some false by decide +kernel)
  | bool b => exact ev_isi2 (b := false) (c := false) h (show kitB "bool" "list" = some false by decide +kernel) (show kitB "bool" "tuple" = some false by decide +kernel)
  | int b => exact ev_isi2 (b := false) (c := false) h (show kitB "int" "list" = some false by decide +kernel) (show kitB "int" "tuple" = some false by decide +kernel)
  | str b => exact ev_isi2 (b := false) (c := false) h (show kitB "str" "list" = some false by decide +kernel) (show kitB "str" "tuple" = some false by decide +kernel)
  | dict b => exact ev_isi2 (b := false) (c := false) h (show kitB "dict" "list" = some false by decide +kernel) (show kitB "dict" "tuple" = some false by decide +kernel)

/-! ### is_name -/
abbrev s_is_name : Stmt := top 5
abbrev N_is_name : List Str := ["value", "letter"]
theorem sc_is_name : FnScope N_is_name ["value"] (defScope s_is_name) := ⟨rfl, rfl, rfl, by decide +kernel, rfl, by decide +kernel, by decide +kernel⟩
def RName (ds : List PyData) (r : PyData) : Prop := ∃ s : Str, ds = [.str s] ∧ s.length ≤ 100000 ∧ r = .bool (isNameB s)
theorem all_map_bool {α : Type} (g : α → Bool) (l : List α) : (l.map g).all id = l.all g := by rw [List.all_map]; rfl
theorem ok_is_name (F : Fun K "is_name" "is_name" s_is_name f fd) (M : Mg mg tL tN) : FnOk P w K mg base CX0 1 f fd ["value"] (SpD 1 RName) := by
  refine F.ok sc_is_name (fun vs H Q E h => h.len) (fun cdv A outer s H vs Q E hr h => ?_)
  obtain ⟨G, ds, r, hn, i, rs, ⟨x, rfl, hx, rfl⟩, q⟩ := h
  obtain ⟨v, rfl, rv⟩ := one_arg rs
  cases rv.isStr
  refine ⟨_, (pss_cons (ps_if (PW.pt (pw_or (pt_not (pt_val (pe_callB call_isi (by rfl) M.isinstance (by decide +kernel) (pa_cons (pv 0) (pa_cons (pe_bltn (v := .ty "str") (by rfl) M.str_ (by decide +kernel) rfl) pa_nil))))) (pw_or1 (pt_not (pt_chain op_le op_le pe_int (pe_callB call_len_str (by rfl) M.len (by decide +kernel) (pa_cons (pv 0) pa_nil)) (pe_glob (v := .int 8) rfl M.longest ⟨_, rfl⟩)))))) (pss_one (ps_ret pe_bl)) pss_nil)
    (pss_one (ps_ret (pe_callB (cr_all rfl) (by rfl) M.all_ (by decide +kernel) (pa_cons (pe_lc (own := [("letter", 1)]) (g := gName 1) (tt := tYes) rfl sc_is_name.nd (pi_str (pv 0)) (blkOk_by (N := N_is_name) (sc := defScope s_is_name) (by decide +kernel)) (fun _ _ _ _ _ => (pg_name (i := 1) sc_is_name.nd rfl (.inl rfl))) (fun _ _ _ _ _ => pts_nil) (fun _ _ _ _ _ => (pe_cmpR op_in_sign (pv 1) (pe_glob (v := .str "abcdefghijklmnopqrstuvwxyz") rfl M.letters ⟨_, rfl⟩) rfl))) pa_nil))))), ?_⟩
  have ev : ∀ G', EvD (tVar 0) (L2.start N_is_name [V.str x]) G' (.str x) := fun G' => ev_var rfl (.str x)
  refine (eb_or (a := false) (b := !decide (1 ≤ x.length ∧ x.length ≤ 8)) (eb_not (eb_B (ev_isi (n := "str") (b := true) (ev G) (show kitB "str" "str" = some true by decide +kernel)))) (fun _ => eb_not (eb_test (ev_is (ev_chain ev_int (ev_cb (es_cons (ev G) es_nil) (cd_lenS hx)) ev_int) ?_)))) H i _ (fun H2 s2 => ?_)
  · congr 1
    rw [← Bool.decide_and]
    refine decide_eq_decide.mpr ⟨fun h => ?_, fun h => ?_⟩ <;> omega
  · unfold isNameB at q
    cases c : decide (1 ≤ x.length ∧ x.length ≤ 8) with
    | false =>
      rw [c, Bool.false_and] at q
      exact q _ G H2 (Gx.grow i s2) (.bl _)
    | true =>
      rw [c, Bool.true_and] at q
      refine ev_cb (es_cons (ev_is (ev_lcB (fun c : Nat => PyData.str ⟨#[c]⟩) (fun c => .bool (decide (c ∈ letters.cps.toList))) (ei_str (ev G)) (by rw [Array.length_toList]; exact hx) fun c _ G2 y s r => ?_) (congrArg PyData.list (List.map_map (f := fun c => decide (c ∈ letters.cps.toList)) (g := PyData.bool) (l := x.cps.toList)).symm)) es_nil) cd_all H2 (i.trans s2) _ fun v G2 H3 x3 r => q v G2 H3 (x3.pre i s2) ?_
      · cases r.isStr
        exact ⟨_, tg_name, rfl, ev_op (ev_var rfl (.str _)) ev_str od_sign⟩
      · rw [← all_map_bool]; exact r

/-! ### tupled -/
abbrev s_tupled : Stmt := top 6
abbrev N_tupled : List Str := ["value", "part"]
theorem sc_tupled : FnScope N_tupled ["value"] (defScope s_tupled) := ⟨rfl, rfl, rfl, by decide +kernel, rfl, by decide +kernel, by decide +kernel⟩
def RTup (n : Nat) (ds : List PyData) (r : PyData) : Prop := ∃ d m, n = m + 1 ∧ ds = [d] ∧ okD m d = true ∧ r = tupN m d
theorem ok_tupled {n : Nat} (F : Fun K "tupled" "tupled" s_tupled f fd) (M : Mg mg tL tN) (c_tupled : Cal P w K mg base CX0 n "tupled" ["value"] (SpF 1 (RTup n))) : FnOk P w K mg base CX0 (n + 1) f fd ["value"] (SpF 1 (RTup (n + 1))) := by
  refine F.ok sc_tupled (fun vs H Q E h => h.len) (fun cdv A outer s H vs Q E hr h => ?_)
  obtain ⟨G, ds, r, hn, i, rs, ⟨d, m, hm, rfl, hx, rfl⟩, q⟩ := h
  cases hm
  obtain ⟨v, rfl, rv⟩ := one_arg rs
  refine ⟨_, (pss_one (ps_ret (pe_ifExp (pt_val (pe_callB call_isiT (by rfl) M.isinstance (by decide +kernel) (pa_cons (pv 0) (pa_cons (pe_tup (pa_cons (pe_bltn (v := .ty "list") (by rfl) M.list_ (by decide +kernel) rfl) (pa_cons (pe_bltn (v := .ty "tuple") (by rfl) M.tuple_ (by decide +kernel) rfl) pa_nil))) pa_nil)))) (pe_callTy call_tupF (by rfl) M.tuple_ (by decide +kernel) (pa_cons (pe_lc (own := [("part", 1)]) (g := gName 1) (tt := tYes) rfl sc_tupled.nd (pi_seq (pv 0)) (blkOk_by (N := N_tupled) (sc := defScope s_tupled) (by decide +kernel)) (fun _ _ _ _ _ => (pg_name (i := 1) sc_tupled.nd rfl (.inl rfl))) (fun _ _ _ _ _ => pts_nil) (fun _ _ _ _ _ => (pe_call c_tupled.ok hr (by rfl) c_tupled.m c_tupled.kp c_tupled.b .nil pass0 (pa_cons (pv 1) pa_nil)))) pa_nil)) (pv 0)))), ?_⟩
  have ev : EvD (tVar 0) (L2.start N_tupled [v]) G d := ev_var rfl rv
  refine (ef_if (eb_test (ev_isiS ev)) (fun h => ?_) (fun h => ?_) : EvF _ _ _ _) H i _ q
  · have part : ∃ xs m', n = m' + 1 ∧ xs.length ≤ 100000 ∧ xs.all (okD m') = true ∧ EvI (iSeq K (tVar 0)) (L2.start N_tupled [v]) G xs ∧ tupN n d = .tuple (xs.map (tupN m')) := by
      cases d with
      | list xs =>
        cases n with
        | zero => cases hx
        | succ m' =>
          have hx : (decide (xs.length ≤ 100000) && xs.all (okD m')) = true := hx
          rw [Bool.and_eq_true, decide_eq_true_eq] at hx
          exact ⟨xs, m', rfl, hx.1, hx.2, ei_seqL ev, rfl⟩
      | tuple xs =>
        cases n with
        | zero => cases hx
        | succ m' =>
          have hx : (decide (xs.length ≤ 100000) && xs.all (okD m')) = true := hx
          rw [Bool.and_eq_true, decide_eq_true_eq] at hx
          exact ⟨xs, m', rfl, hx.1, hx.2, ei_seqT ev, rfl⟩
      | _ => cases h
    obtain ⟨xs, m', e, hl, ha, hi, ez⟩ := part
    rw [ez]
    exact (ev_tupF (ev_lcm (tupN m') hi hl fun d hd G2 y s r => ⟨_, tg_name, rfl, (ev_callF (es_cons (ev_var rfl r) es_nil) ⟨d, m', e, rfl, List.all_eq_true.mp ha d hd, rfl⟩ rfl).toD⟩)).toF
  · have e : tupN n d = d := by cases d <;> first | (cases n <;> rfl) | cases h
    rw [e]
    exact ev.toF fun xs e => by subst e; cases h
end K11
set_option Elab.async false
set_option linter.all false
set_option maxRecDepth 100000
set_option maxHeartbeats 4000000
set_option autoImplicit false
/-! K11Prog2: tables, names, orders. -/
namespace K11
open PySem PySem.Spec PyProof.Rows L2 RZ
variable {P : Program} {w : World} {K : PySem.W.Frag} {mg : Str → Option Value} {base : Heap} {f : Addr} {fd : FuncData} {tL tN : Tok}
variable {σ : L2.St} {te ta tb : TE} {ts : TA} {G H : Hp} {ds : List PyData} {d e : PyData} {tt : TT}
/-! targets -/
theorem tg2 {i j : Nat} {x : V} (r : Rp G x (.tuple [d, e])) : ∃ u v, Rp G u d ∧ Rp G v e ∧ Tg (gTup K 2 (gCons (gName i) (gCons (gName j) gNil))) x σ G ((σ.set i (some u)).set j (some v)) := by
  obtain ⟨a, xs, rfl, h, rs⟩ := r.isTup
  obtain ⟨u, v, rfl, ru, rv⟩ := two_args rs
  exact ⟨u, v, ru, rv, tg_tup h rfl (tgs_cons tg_name (tgs_cons tg_name tgs_nil))⟩
theorem tg3 {i j k : Nat} {x : V} {f : PyData} (r : Rp G x (.tuple [d, e, f])) : ∃ u v w, Rp G u d ∧ Rp G v e ∧ Rp G w f ∧ Tg (gTup K 3 (gCons (gName i) (gCons (gName j) (gCons (gName k) gNil)))) x σ G (((σ.set i (some u)).set j (some v)).set k (some w)) := by
  obtain ⟨a, xs, rfl, h, rs⟩ := r.isTup
  cases rs with
  | cons h1 t1 => cases t1 with
    | cons h2 t2 => cases t2 with
      | cons h3 t3 => cases t3 with
        | nil => exact ⟨_, _, _, h1, h2, h3, tg_tup h rfl (tgs_cons tg_name (tgs_cons tg_name (tgs_cons tg_name tgs_nil)))⟩
/-! promises on dicts -/
def SpK (n : Nat) (R : List PyData → Ents → Prop) : Sp := fun vs H Q _ => ∃ G ds en, vs.length = n ∧ Same G H ∧ Rps G vs ds ∧ R ds en ∧ ∀ p G2 H2, Gx G H G2 H2 → DkAt G2 p en → Q (.ref p) H2
theorem SpK.len {n : Nat} {R : List PyData → Ents → Prop} {vs : List V} {H : Hp} {Q : VK} {E : XK} (h : SpK n R vs H Q E) : vs.length = n := by
  obtain ⟨_, _, _, h, _⟩ := h
  exact h
theorem ek_call {n : Nat} {R : List PyData → Ents → Prop} {E : XK} {en : Ents} (ha : EvS ts σ G ds) (hr : R ds en) (hn : ds.length = n) : EvK (tCall (SpK n R) [] E ts) σ G en := fun H i Q q =>
  ha H i _ fun xs G2 H2 x2 r2 => ⟨G2, ds, en, by rw [List.append_nil, r2.len, hn], x2.i, by rw [List.append_nil]; exact r2, hr, fun v G3 H3 x3 r3 => q v G3 H3 (x2.trans x3) r3⟩
abbrev SpTup : Sp := SpF 1 (RTup 13)
theorem ev_tupB {b : Blk} {E : XK} (h : EvD te σ G d) (B : BlkD d b) : EvF (tCall SpTup [] E (tCons te tNil)) σ G (dBlk b) :=
  ev_callF (R := RTup 13) (es_cons h es_nil) ⟨d, 12, rfl, rfl, B.ok, B.is.symm⟩ rfl
theorem ev_rows {b : Blk} {E : XK} (h : EvD te σ G d) (B : BlkD d b) : EvD (tOp (rIxT K) (tCall SpTup [] E (tCons te tNil)) (tC (.int 0))) σ G (.tuple (b.rows.map dRow)) :=
  ev_op (ev_tupB h B).toD ev_int (od_ixT (j := 0) rfl rfl)

/-! ### table_of -/
abbrev s_table_of : Stmt := top 8
abbrev N_table_of : List Str := ["block", "name", "reads", "slow"]
theorem sc_table_of : FnScope N_table_of ["block"] (defScope s_table_of) := ⟨rfl, rfl, rfl, by decide +kernel, rfl, by decide +kernel, by decide +kernel⟩
def tabE (b : Blk) : Ents := b.rows.map fun r => (.inr r.1, .tuple [.tuple (dStrs r.2.1), .bool r.2.2])
def RTab (ds : List PyData) (en : Ents) : Prop := ∃ d b, ds = [d] ∧ BlkD d b ∧ en = tabE b
theorem inr_nodup {ss : List Str} (h : ss.Nodup) : (ss.map (Sum.inr : Str → Key)).Nodup := by
  refine List.pairwise_map.mpr (h.imp fun {a b} n e => n (Sum.inr.inj e))
theorem ok_table_of (F : Fun K "table_of" "table_of" s_table_of f fd) (M : Mg mg tL tN) (c_tupled : Cal P w K mg base CX0 13 "tupled" ["value"] SpTup) : FnOk P w K mg base CX0 21 f fd ["block"] (SpK 1 RTab) := by
  refine F.ok sc_table_of (fun vs H Q E h => h.len) (fun cdv A outer s H vs Q E hr h => ?_)
  obtain ⟨G, ds, en, hn, i, rs, ⟨d, b, rfl, B, rfl⟩, q⟩ := h
  obtain ⟨v, rfl, rv⟩ := one_arg rs
  refine ⟨_, (pss_one (ps_ret (pe_dc (own := [("name", 1), ("reads", 2), ("slow", 3)]) (g := gTup K 3 (gCons (gName 1) (gCons (gName 2) (gCons (gName 3) gNil)))) (tt := tYes) rfl sc_table_of.nd (pi_tup (pe_ix ix_tup (pe_call c_tupled.ok (hr.mono (by decide)) (by rfl) c_tupled.m c_tupled.kp c_tupled.b .nil pass0 (pa_cons (pv 0) pa_nil)) pe_int (fun _ _ => rfl))) (blkOk_by (N := N_table_of) (sc := defScope s_table_of) (by decide +kernel)) (fun _ _ _ _ _ => (pg_tup rfl (pgs_cons (pg_name (i := 1) sc_table_of.nd rfl (.inl rfl)) (pgs_cons (pg_name (i := 2) sc_table_of.nd rfl (.inl rfl)) (pgs_cons (pg_name (i := 3) sc_table_of.nd rfl (.inl rfl)) pgs_nil))))) (fun _ _ _ _ _ => pts_nil) (fun _ _ _ _ _ => (pv 1)) (fun _ _ _ _ _ => (pe_tup (pa_cons (pv 2) (pa_cons (pv 3) pa_nil))))))), ?_⟩
  refine ek_dc (ds := b.rows) dRow (fun r => (.inr r.1 : Key)) (fun r => .tuple [.tuple (dStrs r.2.1), .bool r.2.2]) (ei_tup (ev_rows (ev_var rfl rv) B)) (Nat.le_trans B.nl (by decide)) ?_ (fun r _ G2 x s rx => ?_) H i _ q
  · have := inr_nodup B.nd
    unfold Blk.names at this
    rw [List.map_map] at this
    exact this
  · obtain ⟨u, v, z, ru, rv, rz, tg⟩ := tg3 (K := K) rx
    exact ⟨_, tg, rfl, eb_yes, ev_var rfl ru, ev_tup (es_cons (ev_var rfl rv) (es_cons (ev_var rfl rz) es_nil)) (show 2 ≤ 100000 by decide)⟩

/-! ### names_in -/
abbrev s_names_in : Stmt := top 9
abbrev N_names_in : List Str := ["block", "row"]
theorem sc_names_in : FnScope N_names_in ["block"] (defScope s_names_in) := ⟨rfl, rfl, rfl, by decide +kernel, rfl, by decide +kernel, by decide +kernel⟩
def RNms (ds : List PyData) (r : PyData) : Prop := ∃ d b, ds = [d] ∧ BlkD d b ∧ r = .tuple (dStrs b.names)
theorem ok_names_in (F : Fun K "names_in" "names_in" s_names_in f fd) (M : Mg mg tL tN) (c_tupled : Cal P w K mg base CX0 13 "tupled" ["value"] SpTup) : FnOk P w K mg base CX0 21 f fd ["block"] (SpD 1 RNms) := by
  refine F.ok sc_names_in (fun vs H Q E h => h.len) (fun cdv A outer s H vs Q E hr h => ?_)
  obtain ⟨G, ds, en, hn, i, rs, ⟨d, b, rfl, B, rfl⟩, q⟩ := h
  obtain ⟨v, rfl, rv⟩ := one_arg rs
  refine ⟨_, (pss_one (ps_ret (pe_callTy call_tuple_of (by rfl) M.tuple_ (by decide +kernel) (pa_cons (pe_lc (own := [("row", 1)]) (g := gName 1) (tt := tYes) rfl sc_names_in.nd (pi_tup (pe_ix ix_tup (pe_call c_tupled.ok (hr.mono (by decide)) (by rfl) c_tupled.m c_tupled.kp c_tupled.b .nil pass0 (pa_cons (pv 0) pa_nil)) pe_int (fun _ _ => rfl))) (blkOk_by (N := N_names_in) (sc := defScope s_names_in) (by decide +kernel)) (fun _ _ _ _ _ => (pg_name (i := 1) sc_names_in.nd rfl (.inl rfl))) (fun _ _ _ _ _ => pts_nil) (fun _ _ _ _ _ => (pe_ix (r := (rIxT K)) ix_tup (pv 1) pe_int (fun _ _ => rfl)))) pa_nil)))), ?_⟩
  have e : dStrs b.names = b.rows.map fun r => PyData.str r.1 := by unfold dStrs Blk.names; rw [List.map_map]; rfl
  rw [e] at q
  refine ev_cb (es_cons (ev_lcB dRow (fun r => .str r.1) (ei_tup (ev_rows (ev_var rfl rv) B)) (Nat.le_trans B.nl (by decide)) fun r _ G2 x s rx => ⟨_, tg_name, rfl, ev_op (ev_var rfl rx) ev_int (od_ixT (j := 0) rfl rfl)⟩) es_nil) cd_tuple H i _ q

/-! ### is_order -/
abbrev s_is_order : Stmt := top 10
abbrev N_is_order : List Str := ["block", "thing", "name", "table", "place", "own"]
theorem sc_is_order : FnScope N_is_order ["block", "thing"] (defScope s_is_order) := ⟨rfl, rfl, rfl, by decide +kernel, rfl, by decide +kernel, by decide +kernel⟩
theorem row_mem {b : Blk} {n : Str} (h : n ∈ b.names) : ∃ r ∈ b.rows, r.1 = n ∧ b.rows.find? (fun r => decide (r.1 = n)) = some r := by
  obtain ⟨r, hr, e⟩ := List.mem_map.mp h
  cases q : b.rows.find? (fun r => decide (r.1 = n)) with
  | none => exact absurd (decide_eq_true e) (List.find?_eq_none.mp q r hr)
  | some r' => exact ⟨r', List.mem_of_find?_eq_some q, of_decide_eq_true (p := r'.1 = n) (List.find?_some (p := fun r : Row => decide (r.1 = n)) q), rfl⟩
theorem rowOf_mem {b : Blk} {n : Str} (h : n ∈ b.names) : (n, rowOf b n) ∈ b.rows := by
  obtain ⟨r, hr, e, q⟩ := row_mem h
  have z : rowOf b n = r.2 := by unfold rowOf; rw [q]; rfl
  rw [z, ← e]; exact hr
theorem look_tab {b : Blk} {n : Str} (h : n ∈ b.names) : look (tabE b) (.inr n) = some (.tuple [.tuple (dStrs (rowOf b n).1), .bool (rowOf b n).2]) := by
  obtain ⟨r, hr, e, q⟩ := row_mem h
  have z : rowOf b n = r.2 := by unfold rowOf; rw [q]; rfl
  rw [z]
  unfold look tabE
  rw [List.find?_map]
  have e2 : ((fun e : Key × PyData => decide (e.1 = Sum.inr n)) ∘ fun r : Row => ((.inr r.1 : Key), PyData.tuple [.tuple (dStrs r.2.1), .bool r.2.2])) = fun r : Row => decide (r.1 = n) := by
    funext r
    show decide ((Sum.inr r.1 : Key) = Sum.inr n) = decide (r.1 = n)
    exact decide_eq_decide.mpr ⟨fun e => Sum.inr.inj e, fun e => congrArg _ e⟩
  rw [e2, q]; rfl
def ROrd (ds : List PyData) (r : PyData) : Prop := ∃ d b o, ds = [d, .tuple (dStrs o)] ∧ BlkD d b ∧ o.length ≤ 1000 ∧ (∀ s ∈ o, s.length ≤ 1000) ∧ r = .bool (isOrderB b o)
theorem readL_zip (b : Blk) (o : List Str) : ∀ (r : List Str) (k : Nat), readL b o k r = (r.zipIdx k).flatMap fun p => (rowOf b p.1).1.map fun w => decide (w ∈ o.take p.2)
  | [], _ => rfl
  | n :: r, k => by
    show _ ++ readL b o (k + 1) r = _
    rw [readL_zip b o r (k + 1)]; rfl
theorem sum_le_mul {l : List Nat} {m : Nat} (h : ∀ x ∈ l, x ≤ m) : l.sum ≤ l.length * m := by
  induction l with
  | nil => simp
  | cons a l ih =>
    rw [List.sum_cons, List.length_cons, Nat.add_mul, Nat.one_mul, Nat.add_comm]
    exact Nat.add_le_add (ih fun x hx => h x (List.mem_cons_of_mem _ hx)) (h a (List.mem_cons_self ..))
theorem ok_is_order (F : Fun K "is_order" "is_order" s_is_order f fd) (M : Mg mg tL tN) (c_is_name : Cal P w K mg base CX0 1 "is_name" ["value"] (SpD 1 RName)) (c_names_in : Cal P w K mg base CX0 21 "names_in" ["block"] (SpD 1 RNms)) (c_table_of : Cal P w K mg base CX0 21 "table_of" ["block"] (SpK 1 RTab)) :
    FnOk P w K mg base CX0 22 f fd ["block", "thing"] (SpD 2 ROrd) := by
  refine F.ok sc_is_order (fun vs H Q E h => h.len) (fun cdv A outer s H vs Q E hr h => ?_)
  obtain ⟨G, ds, en, hn, i, rs, ⟨d, b, o, rfl, B, ol, os, rfl⟩, q⟩ := h
  obtain ⟨v, u, rfl, rv, ru⟩ := two_args rs
  refine ⟨_, (pss_cons (ps_if (PW.pt (pw_or (pt_not (pt_val (pe_callB call_isi (by rfl) M.isinstance (by decide +kernel) (pa_cons (pv 1) (pa_cons (pe_bltn (v := .ty "tuple") (by rfl) M.tuple_ (by decide +kernel) rfl) pa_nil))))) (pw_or1 (pt_not (pt_val (pe_callB (cr_all rfl) (by rfl) M.all_ (by decide +kernel) (pa_cons (pe_lc (own := [("name", 2)]) (g := gName 2) (tt := tYes) rfl sc_is_order.nd (pi_tup (pv 1)) (blkOk_by (N := N_is_order) (sc := defScope s_is_order) (by decide +kernel)) (fun _ _ _ _ _ => (pg_name (i := 2) sc_is_order.nd rfl (.inl rfl))) (fun _ _ _ _ _ => pts_nil) (fun _ _ _ _ _ => (pe_call c_is_name.ok (hr.mono (by decide)) (by rfl) c_is_name.m c_is_name.kp c_is_name.b .nil pass0 (pa_cons (pv 2) pa_nil)))) pa_nil))))))) (pss_one (ps_ret pe_bl)) pss_nil)
    (pss_cons (ps_if (pt_cmpR (op_neD hr.units) (pe_callTy call_tuple_of (by rfl) M.tuple_ (by decide +kernel) (pa_cons (pe_callB (cr_sortD hr.units) (by rfl) M.sorted (by decide +kernel) (pa_cons (pv 1) pa_nil)) pa_nil)) (pe_call c_names_in.ok (hr.mono (by decide)) (by rfl) c_names_in.m c_names_in.kp c_names_in.b .nil pass0 (pa_cons (pv 0) pa_nil)) (nomark _)) (pss_one (ps_ret pe_bl)) pss_nil)
    (pss_cons (ps_set (i := 3) sc_is_order.nd rfl (.inr rfl) (pe_call c_table_of.ok (hr.mono (by decide)) (by rfl) c_table_of.m c_table_of.kp c_table_of.b .nil pass0 (pa_cons (pv 0) pa_nil)))
    (pss_one (ps_ret (pe_callB (cr_all rfl) (by rfl) M.all_ (by decide +kernel) (pa_cons (pe_lc2 (own := [("place", 4), ("name", 2), ("own", 5)]) (g := gTup K 2 (gCons (gName 4) (gCons (gName 2) gNil))) (tt := tYes) (wi1 := iTup K _) (g1 := gName 5) (tt1 := tYes) (vs1 := [5]) rfl sc_is_order.nd (pi_enumT (by rfl) M.enumerate (pa_cons (pv 1) pa_nil)) (blkOk_by (N := N_is_order) (sc := defScope s_is_order) (by decide +kernel)) (by decide) (fun _ _ _ _ _ => (pg_tup rfl (pgs_cons (pg_name (i := 4) sc_is_order.nd rfl (.inl rfl)) (pgs_cons (pg_name (i := 2) sc_is_order.nd rfl (.inl rfl)) pgs_nil)))) (fun _ _ _ _ _ => pts_nil) (fun _ _ _ _ _ => (pi_tup (pe_ix (r := (rIxT K)) ix_tup (pe_dget (hu_of hr) (pv 3) (pv 2) (fun _ _ => rfl)) pe_int (fun _ _ => rfl)))) (fun _ _ _ _ _ => (pg_name (i := 5) sc_is_order.nd rfl (.inl rfl))) (fun _ _ _ _ _ => pts_nil) (fun _ _ _ _ _ => (pe_cmpR (r := (rIn K false)) op_in_seq (pv 5) (pe_slice (r := (rSlA K)) sl_tupA (pv 1) po_none (po_some (pv 4))) rfl))) pa_nil))))))), ?_⟩
  have o5 : (dStrs o).length ≤ 100000 := by rw [strs_len]; omega
  have e0 : ∀ {G'}, Same G G' → EvD (tVar 0) (L2.start N_is_order [v, u]) G' d := fun s => ev_var rfl (rv.up s)
  have e1 : ∀ {G'}, Same G G' → EvD (tVar 1) (L2.start N_is_order [v, u]) G' (.tuple (dStrs o)) := fun s => ev_var rfl (ru.up s)
  refine (eb_or (a := false) (b := !o.all isNameB) (eb_not (eb_B (ev_isi (n := "tuple") (b := true) (e1 (Same.refl _)) (show kitB "tuple" "tuple" = some true by decide +kernel)))) (fun _ => eb_not (eb_test (ev_cb (es_cons (ev_is (ev_lcB PyData.str (fun s => .bool (isNameB s)) (ei_tup (e1 (Same.refl _))) (Nat.le_trans ol (by decide)) fun s hs G2 y sm r => ?_) (congrArg PyData.list (List.map_map (f := isNameB) (g := PyData.bool) (l := o)).symm)) es_nil) (by rw [← all_map_bool]; exact cd_all))))) H i _ (fun H2 s2 => ?_)
  · cases r.isStr
    exact ⟨_, tg_name, rfl, ev_call (es_cons (ev_var rfl (.str s)) es_nil) ⟨s, rfl, Nat.le_trans (os s hs) (by decide), rfl⟩ rfl⟩
  · unfold isOrderB at q
    cases c : o.all isNameB with
    | false => rw [c, Bool.false_and] at q; exact q _ G H2 (Gx.grow i s2) (.bl _)
    | true =>
      rw [c, Bool.true_and] at q
      have nm : ∀ s ∈ o, isNameB s = true := List.all_eq_true.mp c
      have nb : ∀ s ∈ b.names, isNameB s = true := fun s hs => by
        obtain ⟨r, hr, rfl⟩ := List.mem_map.mp hs
        exact B.nm r hr
      refine eb_test (ev_op (f := .bool (!decide (msort o = b.names))) (ev_cb (es_cons (ev_cb (es_cons (e1 (Same.refl _)) es_nil) (cd_sortS (.inr rfl) ol)) es_nil) cd_tuple) (ev_call (es_cons (e0 (Same.refl _)) es_nil) ⟨d, b, rfl, B, rfl⟩ rfl) ?_) H2 (i.trans s2) _ (fun H3 s3 => ?_)
      · rw [← eqv_tstrs]
        exact od_neD (shaped_tstrs fun s hs => nm s ((msort_perm o).subset hs)) (shaped_tstrs nb)
      · by_cases e : msort o = b.names
        · rw [decide_eq_true e, Bool.true_and] at q
          rw [decide_eq_true e]
          have nin : ∀ s ∈ o, s ∈ b.names := fun s hs => e ▸ (msort_perm o).symm.subset hs
          refine ek_call (es_cons (e0 (Same.refl _)) es_nil) ⟨d, b, rfl, B, rfl⟩ rfl H3 ((i.trans s2).trans s3) _ fun p G4 H4 x4 rd => ?_
          have eo : EvD (tVar 1) ((L2.start N_is_order [v, u]).set 3 (some (.ref p))) G4 (.tuple (dStrs o)) := ev_var rfl (ru.up x4.g)
          refine tg_name (G := G4) H4 x4.i _ ?_
          dsimp only [tRet]
          have ol2 : o.length ≤ 100 := by
            have := congrArg List.length e
            rw [(msort_perm o).length_eq] at this
            rw [this]; unfold Blk.names; rw [List.length_map]; exact B.nl
          have eall : (o.zipIdx.flatMap fun p => ((rowOf b p.1).1.map fun w => PyData.bool (decide (w ∈ o.take p.2)))) = (readL b o 0 o).map .bool := by
            rw [readL_zip, List.map_flatMap]
            congr 1
            funext p
            rw [List.map_map]; rfl
          refine ev_cb (es_cons (ev_is (ev_lc2 (ds := o.zipIdx) (fun p : Str × Nat => .tuple [.int (p.2 : Nat), .str p.1]) PyData.str (fun p => (rowOf b p.1).1) (fun p w => .bool (decide (w ∈ o.take p.2))) (hi := ?_) (hz := ?_) fun p hp G5 x s5 rx => ?_) (congrArg PyData.list eall)) es_nil) cd_all H4 x4.i _ fun v G5 H5 x5 r5 => q v G5 H5 ((Gx.pre x4 i (s2.trans s3)).trans x5) r5
          · rw [← enumD_zip]
            exact ei_enumT (es_cons eo es_nil)
          · rw [List.length_flatMap]
            refine Nat.le_trans (sum_le_mul (m := 100) fun x hx => ?_) ?_
            · obtain ⟨p, hp, rfl⟩ := List.mem_map.mp hx
              exact B.rl _ (rowOf_mem (nin _ (List.fst_mem_of_mem_zipIdx hp)))
            · rw [List.length_map, List.length_zipIdx]; omega
          · obtain ⟨y, z, ry, rz, tg⟩ := tg2 (K := K) rx
            cases ry.isInt
            cases rz.isStr
            refine ⟨_, tg, rfl, eb_yes, ei_tup (ev_op (ev_dget (ek_var rfl (rd.up s5)) (k := .inr p.1) (ev_var rfl (.str p.1)) (look_tab (nin _ (List.fst_mem_of_mem_zipIdx hp)))) ev_int (od_ixT (j := 0) rfl rfl)), fun w hw G6 y s6 ry => ?_⟩
            cases ry.isStr
            refine ⟨_, tg_name, rfl, eb_yes, ev_op (ev_var rfl (.str w)) (ev_sl (ev_var rfl (ru.up ((x4.g.trans s5).trans s6))) eo_none (eo_some (ev_var rfl (.int (p.2 : Nat)))) sd_tup) ?_⟩
            rw [cut_to, dStrs, ← List.map_take]
            exact od_inStrT
        · rw [decide_eq_false e, Bool.false_and] at q
          rw [decide_eq_false e]
          exact q _ G H3 (Gx.grow i (s2.trans s3)) (.bl _)
end K11
set_option Elab.async false
set_option linter.all false
set_option maxRecDepth 100000
set_option maxHeartbeats 4000000
set_option autoImplicit false
/-! K11Prog3: check_order, ticks_of. -/
namespace K11
open PySem PySem.Spec PyProof.Rows L2 RZ
variable {P : Program} {w : World} {K : PySem.W.Frag} {mg : Str → Option Value} {base : Heap} {f : Addr} {fd : FuncData} {tL tN : Tok}
variable {σ : L2.St} {te ta tb : TE} {ts : TA} {G H : Hp} {ds es : List PyData} {d e : PyData} {tt : TT}
/-- the class of the wrong orders -/
structure No (K : PySem.W.Frag) (mg : Str → Option Value) (C : Addr) : Prop where
  xN : PySem.W.excIn K C [Value.type "ValueError", Value.type "Exception", Value.type "BaseException", Value.type "object"] "ValueError.__new__" = true
  gN : mg "NoOrder" = some (.ref C)
  kN : PySem.W.keepIn K (.ref C) = true
  bN : PySem.W.subIn K (.ref C) (.type "BaseException") = some true
  tN : PySem.W.typeIn K (.ref C) = some (.type "type")
  eN : PySem.W.exmOne K (.ref C) (.ref C) = some true
  cN : L2.ExcC K C
  vN : PySem.W.kitOne K (.ref C) (.type "ValueError") = some true
  mV : mg "ValueError" = none
/-- a promise with a class that may be raised -/
def SpX (C : Addr) (n : Nat) (R : List PyData → Option PyData → Prop) : Sp := fun vs H Q E => ∃ G ds f, vs.length = n ∧ Same G H ∧ Rps G vs ds ∧ R ds f ∧
  (∀ d, f = some d → ∀ v G2 H2, Gx G H G2 H2 → Rp G2 v d → (∀ xs, d = .tuple xs → PlT G2 v) → Q v H2) ∧ (f = none → ∀ H2, Same H H2 → E (.ref C) none H2)
theorem SpX.len {C : Addr} {n : Nat} {R : List PyData → Option PyData → Prop} {vs : List V} {H : Hp} {Q : VK} {E : XK} (h : SpX C n R vs H Q E) : vs.length = n := by
  obtain ⟨_, _, _, h, _⟩ := h
  exact h
theorem ex_call {C : Addr} {n : Nat} {R : List PyData → Option PyData → Prop} {E : XK} {f : Option PyData} (ha : EvS ts σ G ds) (hr : R ds f) (hn : ds.length = n) (H : Hp) (i : Same G H) (Q : VK)
    (q1 : ∀ d, f = some d → ∀ v G2 H2, Gx G H G2 H2 → Rp G2 v d → (∀ xs, d = .tuple xs → PlT G2 v) → Q v H2) (q2 : f = none → ∀ H2, Same H H2 → E (.ref C) none H2) : tCall (SpX C n R) [] E ts σ H Q :=
  ha H i _ fun xs G2 H2 x2 r2 => ⟨G2, ds, f, by rw [List.append_nil, r2.len, hn], x2.i, by rw [List.append_nil]; exact r2, hr, fun d e v G3 H3 x3 r3 p3 => q1 d e v G3 H3 (x2.trans x3) r3 p3, fun e H3 s => q2 e H3 (x2.h.trans s)⟩
theorem ev_callX {C : Addr} {n : Nat} {R : List PyData → Option PyData → Prop} {E : XK} (ha : EvS ts σ G ds) (hr : R ds (some d)) (hn : ds.length = n) : EvF (tCall (SpX C n R) [] E ts) σ G d := fun H i Q q =>
  ex_call ha hr hn H i Q (fun d' e v G2 H2 x r p => by cases e; exact q v G2 H2 x r p) (fun e => by cases e)
theorem es_star (h : EvD te σ G (.list es)) (r : EvS ts σ G ds) : EvS (StX.tStar K te ts) σ G (es ++ ds) := fun H i Q q => h H i _ fun v G2 H2 x rv => by
  obtain ⟨a, xs, rfl, g, rs⟩ := rv.isList
  exact ⟨a, xs, rfl, .inr (.of (x.i _ _ g)), (r.up x.g) H2 x.i _ fun ys G3 H3 y rs' => q _ G3 H3 (x.trans y) ((rs.up y.g).app rs')⟩

/-! ### orders -/
structure OrdB (b : Blk) (o : List Str) : Prop where
  nin : ∀ s ∈ o, s ∈ b.names
  nd : o.Nodup
  rd : ∀ i n, o[i]? = some n → ∀ w ∈ (rowOf b n).1, w ∈ o.take i
  len : o.length = b.rows.length
  nm : ∀ s ∈ o, isNameB s = true
theorem readL_all (b : Blk) (o : List Str) : ∀ (r : List Str) (k : Nat), (readL b o k r).all id = true → ∀ i n, r[i]? = some n → ∀ w ∈ (rowOf b n).1, w ∈ o.take (k + i)
  | [], _, _, _, _, h => by simp at h
  | n :: r, k, h, 0, m, e => fun w hw => by
    have h : (((rowOf b n).1.map fun w => decide (w ∈ o.take k)) ++ readL b o (k + 1) r).all id = true := h
    rw [List.all_append, Bool.and_eq_true] at h
    simp at e; subst e
    have := List.all_eq_true.mp h.1 _ (List.mem_map.mpr ⟨w, hw, rfl⟩)
    exact of_decide_eq_true this
  | n :: r, k, h, i + 1, m, e => fun w hw => by
    have h : (((rowOf b n).1.map fun w => decide (w ∈ o.take k)) ++ readL b o (k + 1) r).all id = true := h
    rw [List.all_append, Bool.and_eq_true] at h
    have := readL_all b o r (k + 1) h.2 i m (by simpa using e) w hw
    rw [show k + (i + 1) = k + 1 + i by omega]; exact this
theorem OrdB.of {b : Blk} {o : List Str} (nd : b.names.Nodup) (h : isOrderB b o = true) : OrdB b o := by
  unfold isOrderB at h
  rw [Bool.and_eq_true, Bool.and_eq_true, decide_eq_true_eq] at h
  obtain ⟨h1, h2, h3⟩ := h
  refine ⟨fun s hs => h2 ▸ (msort_perm o).symm.subset hs, (msort_perm o).nodup (h2 ▸ nd), fun i n e w hw => ?_, ?_, List.all_eq_true.mp h1⟩
  · have := readL_all b o o 0 h3 i n e w hw
    rw [Nat.zero_add] at this; exact this
  · rw [← (msort_perm o).length_eq, h2]; unfold Blk.names; rw [List.length_map]

/-! ### check_order -/
abbrev s_check_order : Stmt := top 11
abbrev N_check_order : List Str := ["block", "order"]
theorem sc_check_order : FnScope N_check_order ["block", "order"] (defScope s_check_order) := ⟨rfl, rfl, rfl, by decide +kernel, rfl, by decide +kernel, by decide +kernel⟩
def RChk (ds : List PyData) (f : Option PyData) : Prop := ∃ d t b o, ds = [d, t] ∧ BlkD d b ∧ (t = .list (dStrs o) ∨ t = .tuple (dStrs o)) ∧ o.length ≤ 1000 ∧ (∀ s ∈ o, s.length ≤ 1000) ∧ f = if isOrderB b o then some .none else none
theorem ev_tupO {t : PyData} {o : List Str} {E : XK} (h : EvD te σ G t) (ht : t = .list (dStrs o) ∨ t = .tuple (dStrs o)) (ol : o.length ≤ 1000) : EvF (tCall SpTup [] E (tCons te tNil)) σ G (.tuple (dStrs o)) := by
  have hz : decide ((dStrs o).length ≤ 100000) = true := by rw [strs_len]; exact decide_eq_true (by omega)
  refine ev_callF (R := RTup 13) (es_cons h es_nil) ⟨t, 12, rfl, rfl, ?_, ?_⟩ rfl
  · rcases ht with rfl | rfl <;> (show (decide ((dStrs o).length ≤ 100000) && (dStrs o).all (okD 11)) = true; rw [hz, okD_strs]; rfl)
  · rcases ht with rfl | rfl <;> (show _ = PyData.tuple ((dStrs o).map (tupN 11)); rw [tupN_strs])
theorem ok_check_order {C : Addr} (F : Fun K "check_order" "check_order" s_check_order f fd) (M : Mg mg tL tN) (N : No K mg C) (c_tupled : Cal P w K mg base CX0 13 "tupled" ["value"] SpTup) (c_is_order : Cal P w K mg base CX0 22 "is_order" ["block", "thing"] (SpD 2 ROrd)) :
    FnOk P w K mg base (L2.CX P w) 23 f fd ["block", "order"] (SpX C 2 RChk) := by
  refine F.okX sc_check_order (fun vs H Q E h => h.len) (fun cdv A outer s H vs Q E hr h => ?_)
  obtain ⟨G, ds, en, hn, i, rs, ⟨d, t, b, o, rfl, B, ht, ol, os, rfl⟩, q, q2⟩ := h
  obtain ⟨v, u, rfl, rv, ru⟩ := two_args rs
  refine ⟨_, (pss_one (ps_if (pt_not (pt_val (pe_call c_is_order.ok (hr.mono (by decide)) (by rfl) c_is_order.m c_is_order.kp c_is_order.b .nil pass0 (pa_cons (pv 0) (pa_cons (pe_call c_tupled.ok (hr.mono (by decide)) (by rfl) c_tupled.m c_tupled.kp c_tupled.b .nil pass0 (pa_cons (pv 1) pa_nil)) pa_nil))))) (pss_one (ps_raise rfl (takes_of rfl rfl rfl rfl) (pmk_own0 PySem.F.excBase_ValueError N.xN N.gN N.kN (raises_own N.bN N.tN) rfl))) pss_nil)), ?_⟩
  refine eb_not (eb_test (ev_call (es_cons (ev_var rfl rv) (es_cons (ev_tupO (ev_var rfl ru) ht ol).toD es_nil)) ⟨d, b, o, rfl, B, ol, os, rfl⟩ rfl)) H i _ fun H2 s2 => ?_
  cases c : isOrderB b o with
  | true =>
    rw [if_neg (by simp)]
    exact q .none (by rw [c]; rfl) .non G H2 (Gx.grow i s2) .non (fun xs e => by cases e)
  | false =>
    rw [if_pos (show (!false) = true from rfl)]
    exact q2 (by rw [c]; rfl) H2 s2

/-! ### ticks_of -/
abbrev s_ticks_of : Stmt := top 13
abbrev N_ticks_of : List Str := ["block", "order", "latencies", "table", "known", "found", "tick", "name", "reads", "slow", "own"]
theorem sc_ticks_of : FnScope N_ticks_of ["block", "order", "latencies"] (defScope s_ticks_of) := ⟨rfl, rfl, rfl, by decide +kernel, rfl, by decide +kernel, by decide +kernel⟩
def tkE (f : Tk) : Ents := f.map fun e => (.inr e.1, .tuple [.int e.2.1, .int e.2.2])
def latE (l : Lat) : Ents := l.map fun p => (.inr p.1, .int p.2)
def RTks (ds : List PyData) (en : Ents) : Prop := ∃ d t l b o lat, ds = [d, t, l] ∧ ArgD d t l b o lat ∧ isOrderB b o = true ∧ en = tkE (tkOf b lat o)
/-- a new dict, not yet told as known -/
def SpM (n : Nat) (R : List PyData → Ents → Prop) : Sp := fun vs H Q _ => ∃ G ds en, vs.length = n ∧ Same G H ∧ Rps G vs ds ∧ R ds en ∧ ∀ p kvs G2 H2, Gx G H G2 H2 → H p = none → G2 p = none → H2 p = some (.dK kvs) → DkR G2 kvs en → Q (.ref p) H2
theorem SpM.len {n : Nat} {R : List PyData → Ents → Prop} {vs : List V} {H : Hp} {Q : VK} {E : XK} (h : SpM n R vs H Q E) : vs.length = n := by
  obtain ⟨_, _, _, h, _⟩ := h
  exact h
def tkStep (b : Blk) (l : Lat) (s : Tk × Int) (n : Str) : Tk × Int := (s.1 ++ [(n, tick1 b s.1 s.2 n, tick1 b s.1 s.2 n + lag b l n)], tick1 b s.1 s.2 n)
def tkSt (b : Blk) (l : Lat) (o : List Str) : Tk × Int := o.foldl (tkStep b l) ([], -1)
theorem tkGo_st (b : Blk) (l : Lat) : ∀ (o : List Str) (f : Tk) (t : Int), tkGo b l o f t = (o.foldl (tkStep b l) (f, t)).1
  | [], _, _ => rfl
  | n :: r, f, t => by
    show tkGo b l r _ _ = _
    rw [tkGo_st b l r]; rfl
theorem tkOf_st (b : Blk) (l : Lat) (o : List Str) : tkOf b l o = (tkSt b l o).1 := tkGo_st b l o [] (-1)
theorem tkSt_snoc (b : Blk) (l : Lat) {o : List Str} {i : Nat} {n : Str} (h : o[i]? = some n) : tkSt b l (o.take (i + 1)) = tkStep b l (tkSt b l (o.take i)) n := by
  unfold tkSt
  rw [take_snoc h, List.foldl_append]; rfl
theorem tkSt_names (b : Blk) (l : Lat) : ∀ (o : List Str) (s : Tk × Int), ((o.foldl (tkStep b l) s).1).map (·.1) = s.1.map (·.1) ++ o
  | [], s => by simp
  | n :: r, s => by
    show ((r.foldl (tkStep b l) (tkStep b l s n)).1).map (·.1) = _
    rw [tkSt_names b l r]
    unfold tkStep
    simp
theorem tk_names (b : Blk) (l : Lat) (o : List Str) : ((tkSt b l o).1).map (·.1) = o := by
  unfold tkSt
  rw [tkSt_names]; rfl
theorem look_map {α : Type} (k : α → Str) (g : α → PyData) (l : List α) (n : Str) : look (l.map fun e => ((.inr (k e) : Key), g e)) (.inr n) = (l.find? fun e => decide (k e = n)).map g := by
  unfold look
  rw [List.find?_map]
  have e2 : ((fun e : Key × PyData => decide (e.1 = Sum.inr n)) ∘ fun e : α => ((.inr (k e) : Key), g e)) = fun e : α => decide (k e = n) := by
    funext r
    show decide ((Sum.inr (k r) : Key) = Sum.inr n) = decide (k r = n)
    exact decide_eq_decide.mpr ⟨fun e => Sum.inr.inj e, fun e => congrArg _ e⟩
  rw [e2, Option.map_map]; rfl
theorem find_mem {α : Type} (k : α → Str) {l : List α} {n : Str} (h : n ∈ l.map k) : ∃ e ∈ l, k e = n ∧ (l.find? fun e => decide (k e = n)) = some e := by
  obtain ⟨r, hr, e⟩ := List.mem_map.mp h
  cases q : l.find? (fun e => decide (k e = n)) with
  | none => exact absurd (decide_eq_true e) (List.find?_eq_none.mp q r hr)
  | some r' => exact ⟨r', List.mem_of_find?_eq_some q, of_decide_eq_true (p := k r' = n) (List.find?_some (p := fun e => decide (k e = n)) q), rfl⟩
theorem look_tk {f : Tk} {n : Str} (h : n ∈ f.map (·.1)) : look (tkE f) (.inr n) = some (.tuple [.int (tkLook f n).1, .int (tkLook f n).2]) := by
  obtain ⟨e, he, en, q⟩ := find_mem (fun e : Str × Int × Int => e.1) h
  unfold tkE
  rw [look_map (fun e : Str × Int × Int => e.1) (fun e => .tuple [.int e.2.1, .int e.2.2])]
  have : tkLook f n = e.2 := by unfold tkLook; rw [q]; rfl
  rw [q, this]; rfl
theorem look_lat {l : Lat} {n : Str} (h : n ∈ l.map (·.1)) : look (latE l) (.inr n) = some (.int (latOf l n)) := by
  obtain ⟨e, he, en, q⟩ := find_mem (fun e : Str × Int => e.1) h
  unfold latE
  rw [look_map (fun e : Str × Int => e.1) (fun e => .int e.2)]
  have : latOf l n = e.2 := by unfold latOf; rw [q]; rfl
  rw [q, this]; rfl
theorem maxL_ge : ∀ (xs : List Int) (t : Int), t ≤ maxL t xs ∧ ∀ x ∈ xs, x ≤ maxL t xs
  | [], t => ⟨Int.le_refl _, fun x h => by cases h⟩
  | y :: r, t => by
    obtain ⟨h1, h2⟩ := maxL_ge r (max t y)
    have e : maxL t (y :: r) = maxL (max t y) r := rfl
    rw [e]
    refine ⟨by omega, fun x hx => ?_⟩
    rcases List.mem_cons.mp hx with rfl | hx
    · omega
    · exact h2 x hx
theorem maxL_mem : ∀ (xs : List Int) (t : Int), maxL t xs ∈ t :: xs
  | [], t => List.mem_cons_self ..
  | y :: r, t => by
    have e : maxL t (y :: r) = maxL (max t y) r := rfl
    rw [e]
    rcases List.mem_cons.mp (maxL_mem r (max t y)) with h | h
    · rw [h]
      rcases Int.le_total t y with c | c
      · rw [Int.max_eq_right c]; exact List.mem_cons_of_mem _ (List.mem_cons_self ..)
      · rw [Int.max_eq_left c]; exact List.mem_cons_self ..
    · exact List.mem_cons_of_mem _ (List.mem_cons_of_mem _ h)
theorem maxL_only {xs : List Int} {t : Int} : ∀ z, z ∈ t :: xs → (∀ y, y ∈ t :: xs → y ≤ z) → z = maxL t xs := fun z hz h => by
  obtain ⟨h1, h2⟩ := maxL_ge xs t
  have := h _ (maxL_mem xs t)
  rcases List.mem_cons.mp hz with rfl | hz
  · omega
  · have := h2 z hz; omega
theorem ok_ticks_of (F : Fun K "ticks_of" "ticks_of" s_ticks_of f fd) (M : Mg mg tL tN) (c_tupled : Cal P w K mg base CX0 13 "tupled" ["value"] SpTup) (c_table_of : Cal P w K mg base CX0 21 "table_of" ["block"] (SpK 1 RTab)) :
    FnOk P w K mg base CX0 22 f fd ["block", "order", "latencies"] (SpM 3 RTks) := by
  refine F.ok sc_ticks_of (fun vs H Q E h => h.len) (fun cdv A outer s H vs Q E hr h => ?_)
  obtain ⟨G, ds, en, hn, i, rs, ⟨d, t, l, b, o, lat, rfl, AD, hord, rfl⟩, q⟩ := h
  obtain ⟨v0, v1, v2, rfl, r0, r1, r2⟩ : ∃ v0 v1 v2, vs = [v0, v1, v2] ∧ Rp G v0 d ∧ Rp G v1 t ∧ Rp G v2 l := by
    cases rs with
    | cons h1 t1 => cases t1 with
      | cons h2 t2 => cases t2 with
        | cons h3 t3 => cases t3 with
          | nil => exact ⟨_, _, _, rfl, h1, h2, h3⟩
  refine ⟨_, (pss_cons (ps_asg (pe_tup (pa_cons (pe_call c_table_of.ok (hr.mono (by decide)) (by rfl) c_table_of.m c_table_of.kp c_table_of.b .nil pass0 (pa_cons (pv 0) pa_nil)) (pa_cons (pe_callTy (call_dictT rfl) (by rfl) M.dict_ (by decide +kernel) (pa_cons (pe_call c_tupled.ok (hr.mono (by decide)) (by rfl) c_tupled.m c_tupled.kp c_tupled.b .nil pass0 (pa_cons (pv 2) pa_nil)) pa_nil)) (pa_cons pe_dnewK (pa_cons (pe_un un_neg pe_int) pa_nil))))) (pg_tup rfl (pgs_cons (pg_name (i := 3) sc_ticks_of.nd rfl (.inl rfl)) (pgs_cons (pg_name (i := 4) sc_ticks_of.nd rfl (.inl rfl)) (pgs_cons (pg_name (i := 5) sc_ticks_of.nd rfl (.inr rfl)) (pgs_cons (pg_name (i := 6) sc_ticks_of.nd rfl (.inl rfl)) pgs_nil))))))
    (pss_cons (ps_for PassesOwn.never rfl (pi_seq (pv 1)) (pg_name (i := 7) sc_ticks_of.nd rfl (.inl rfl)) (pss_cons (ps_asg (pe_dget (hu_of hr) (pv 3) (pv 7) (fun _ _ => rfl)) (pg_tup rfl (pgs_cons (pg_name (i := 8) sc_ticks_of.nd rfl (.inl rfl)) (pgs_cons (pg_name (i := 9) sc_ticks_of.nd rfl (.inl rfl)) pgs_nil))))
    (pss_cons (ps_set (i := 6) sc_ticks_of.nd rfl (.inl rfl) (pe_callB (cr_max rfl) (by rfl) M.max_ (by decide +kernel) (pa_cons (pe_lst (pa_cons (pe_op op_add (pv 6) pe_int) (StX.pa_star (pe_lc (own := [("own", 10)]) (g := gName 10) (tt := tYes) rfl sc_ticks_of.nd (pi_tup (pv 8)) (blkOk_by (N := N_ticks_of) (sc := defScope s_ticks_of) (by decide +kernel)) (fun _ _ _ _ _ => (pg_name (i := 10) sc_ticks_of.nd rfl (.inl rfl))) (fun _ _ _ _ _ => pts_nil) (fun _ _ _ _ _ => (pe_ix (r := (rIxT K)) ix_tup (pe_dget (hu_of hr) (pv 5) (pv 10) (fun _ _ => rfl)) pe_int (fun _ _ => rfl)))) pa_nil))) pa_nil)))
    (pss_one (ps_dput (hu_of hr) (pv 5) (pv 7) (pe_tup (pa_cons (pv 6) (pa_cons (pe_op op_add (pv 6) (pe_ifExp (pt_val (pv 9)) (pe_dget (hu_of hr) (pv 4) (pv 7) (fun _ _ => rfl)) pe_int)) pa_nil))) rfl)))))
    (pss_one (ps_ret (pv 5))))), ?_⟩
  have O := OrdB.of AD.blk.nd hord
  refine ek_call (R := RTab) (es_cons (ev_var rfl r0) es_nil) ⟨d, b, rfl, AD.blk, rfl⟩ rfl H i _ fun pT G1 H1 x1 rT => ?_
  have lt : dLat lat = .tuple ((latE lat).map pairD) := by unfold dLat latE; rw [List.map_map]; rfl
  have lk : ((latE lat).map (·.1)).Nodup := by
    have := inr_nodup AD.lnd
    unfold latE
    rw [List.map_map] at this ⊢; exact this
  refine ek_dictT (EvF.toT (ev_callF (R := RTup 13) (es_cons (ev_var rfl (r2.up x1.g)) es_nil) ⟨l, 12, rfl, rfl, AD.lok, (lt.symm.trans AD.lis.symm)⟩ rfl)) lk H1 x1.i _ fun pK G2 H2 x2 rK pF hF => ?_
  have x3 : Gx G H G2 H2 := x1.trans x2
  have gF : G2 pF = none := x2.i.free hF
  have hF0 : H pF = none := x3.h.free hF
  have s3 : Same G2 (upd H2 pF (.dK [])) := same_mut x2.i gF
  refine ⟨1, rfl, show (4 : Nat) ≤ sizeLine by decide, fun pT4 h4 => ⟨pT4, _, rfl, .inl (.inl upd_same), rfl, ?_⟩⟩
  refine tgs_cons tg_name (tgs_cons tg_name (tgs_cons tg_name (tgs_cons tg_name tgs_nil))) (G := G2) _ (s3.trans (same_new h4)) _ ?_
  have hFT : pF ≠ pT4 := fun e => by rw [← e, upd_same] at h4; cases h4
  have sHb : Same H (upd (upd H2 pF (.dK [])) pT4 (.tup [.ref pT, .ref pK, .ref pF, .int (-1)])) := fun a u e => by
    have n1 : a ≠ pF := ne_of_none e hF0
    have n2 : a ≠ pT4 := fun z => by subst z; rw [upd_ne n1, x3.h _ _ e] at h4; cases h4
    rw [upd_ne n2, upd_ne n1]; exact x3.h _ _ e
  let Iv : Nat → L2.St → Hp → Hp → Prop := fun i σ G' H' => ∃ x7 x8 x9 x10 kvs, σ = [some v0, some v1, some v2, some (.ref pT), some (.ref pK), some (.ref pF), some (.int (tkSt b lat (o.take i)).2), x7, x8, x9, x10] ∧
    Gx G H G' H' ∧ Same G2 G' ∧ G' pF = none ∧ H' pF = some (.dK kvs) ∧ DkR G' kvs (tkE (tkSt b lat (o.take i)).1)
  have hi : EvI (iSeq K (tVar 1)) [some v0, some v1, some v2, some (.ref pT), some (.ref pK), some (.ref pF), some (.int (-1)), none, none, none, none] G2 (o.map PyData.str) := by
    rcases AD.ord with e | e
    · exact ei_seqL (ev_var rfl (e ▸ r1.up x3.g))
    · exact ei_seqT (ev_var rfl (e ▸ r1.up x3.g))
  refine for_ind (G := G2) PyData.str hi Iv (s3.trans (same_new h4)) (fun G4 H4 x4 => ?_) (fun Gs sGs j n hj σ' G4 H4 s4 i4 iv x G5 H5 x5 rx => ?_) (fun σ' G4 H4 s4 i4 iv => ?_)
  · have f4 : H4 pF = some (.dK []) := x4.h _ _ (by rw [upd_ne hFT]; exact upd_same)
    refine ⟨none, none, none, none, [], rfl, ⟨x3.g.trans x4.g, x4.i, sHb.trans x4.h, fun a u e n => ?_⟩, x4.g, x4.out gF (by rw [upd_ne hFT]; exact upd_same), f4, .nil⟩
    cases z : G2 a with
    | none => exact sHb.free (x4.f a u e z)
    | some u2 => exact x3.f a u2 z n
  · obtain ⟨x7, x8, x9, x10, kvs, rfl, xx, g4, n4, f4, rk⟩ := iv
    cases rx.isStr
    refine tg_name (G := G5) H5 x5.i _ ?_
    have hn : n ∈ b.names := O.nin n (List.mem_of_getElem? hj)
    have hrow := rowOf_mem hn
    refine ev_dget (k := .inr n) (ek_var rfl (rT.up (x2.g.trans (g4.trans x5.g)))) (ev_var rfl (.str n)) (look_tab hn) H5 x5.i _ fun vr G6 H6 x6 r6 => ?_
    obtain ⟨u1, u2, ru1, ru2, tg⟩ := tg2 (K := K) (i := 8) (j := 9) r6
    refine tg H6 x6.i _ ?_
    cases ru2.isBool
    have n5 : G5 pF = none := x5.out n4 f4
    have f5 : H5 pF = some (.dK kvs) := x5.h _ _ f4
    have n6 : G6 pF = none := x6.out n5 f5
    have f6 : H6 pF = some (.dK kvs) := x6.h _ _ f5
    have rk6 := rk.up (x5.g.trans x6.g)
    have nk : (tkSt b lat (o.take j)).1.map (·.1) = o.take j := tk_names b lat (o.take j)
    dsimp only [tSeq, tAsg]
    refine EvD.lend (d := .int (tick1 b (tkSt b lat (o.take j)).1 (tkSt b lat (o.take j)).2 n)) ?_ n6 H6 x6.i f6 _ fun v7 G7 H7 x7' n7 f7 r7 => ?_
    · have s6 : Same G6 (upd G6 pF (.dK kvs)) := same_new n6
      refine ev_cb (es_cons (ev_is (ev_lst (es_cons (ev_op (ev_var rfl (.int _)) ev_int od_add) (es_star (ev_lcB PyData.str (fun w => .int (tkLook (tkSt b lat (o.take j)).1 w).2) (ei_tup (ev_var rfl (ru1.up s6))) (Nat.le_trans (AD.blk.rl _ hrow) (by decide)) fun w hw G8 y s8 ry => ?_) es_nil)) ?_) (congrArg PyData.list (?_ : _ = (((tkSt b lat (o.take j)).2 + 1) :: (rowOf b n).1.map fun w => (tkLook (tkSt b lat (o.take j)).1 w).2).map PyData.int))) es_nil) (cd_max (by simp) maxL_only)
      · cases ry.isStr
        exact ⟨_, tg_name, rfl, ev_op (ev_dget (k := .inr w) (ek_var rfl ⟨kvs, s8 _ _ upd_same, rk6.up (s6.trans s8)⟩) (ev_var rfl (.str w)) (look_tk (by rw [nk]; exact O.rd j n hj w hw))) ev_int (od_ixT (j := 1) rfl rfl)⟩
      · have : (rowOf b n).1.length ≤ 100 := AD.blk.rl _ hrow
        simp only [List.length_cons, List.length_append, List.length_map, List.length_nil]
        omega
      · rw [List.append_nil, List.map_cons, List.map_map]; rfl
    · cases r7.isInt
      refine tg_name (G := G7) H7 x7'.i _ ?_
      refine ev_tup (es_cons (ev_var rfl (.int _)) (es_cons (ev_op (ev_var rfl (.int _)) (ev_if (d := .int (lag b lat n)) (eb_test (ev_var rfl (.bl (rowOf b n).2))) (fun c => ?_) (fun c => ?_)) od_add) es_nil)) (show 2 ≤ 100000 by decide) H7 x7'.i _ fun v8 G8 H8 x8' r8 => ?_
      · have e : lag b lat n = latOf lat n := if_pos c
        rw [e]
        exact ev_dget (k := .inr n) (ek_var rfl (rK.up (g4.trans (x5.g.trans (x6.g.trans x7'.g))))) (ev_var rfl (.str n)) (look_lat (AD.lsl _ hrow c))
      · have e : lag b lat n = 1 := if_neg (by rw [c]; simp)
        rw [e]
        exact ev_int
      · have n8 : G8 pF = none := x8'.out n7 f7
        have f8 : H8 pF = some (.dK kvs) := x8'.h _ _ f7
        have rk8 := rk6.up (x7'.g.trans x8'.g)
        have nin : (.inr n : Key) ∉ kvs.map (·.1) := by
          rw [dkr_keys rk8]
          unfold tkE
          rw [List.map_map]
          intro c
          obtain ⟨e, he, ee⟩ := List.mem_map.mp c
          have : n ∈ o.take j := by rw [← nk]; exact List.mem_map.mpr ⟨e, he, Sum.inr.inj ee⟩
          obtain ⟨k, hk⟩ := List.mem_iff_getElem?.mp this
          have kj : k < j := by
            have := (List.getElem?_eq_some_iff.mp hk).1
            rw [List.length_take] at this; omega
          rw [List.getElem?_take_of_lt kj] at hk
          have jl : j < o.length := (List.getElem?_eq_some_iff.mp hj).1
          have := (List.getElem?_inj (by omega) O.nd).mp (hk.trans hj.symm)
          omega
        have hlen : kvs.length < sizeLine := by
          rw [rk8.len]
          have : (tkE (tkSt b lat (o.take j)).1).length = (o.take j).length := by
            unfold tkE
            rw [List.length_map, ← congrArg List.length nk, List.length_map]
          rw [this, List.length_take]
          have := AD.ol
          have z3 : (100000 : Nat) < sizeLine := by decide
          omega
        refine ⟨.ref pF, rfl, .str n, rfl, pF, _, rfl, DPut.k (k := .inr n) f8 hlen, G8, s4.trans (x5.g.trans (x6.g.trans (x7'.g.trans x8'.g))), same_mut x8'.i n8, ?_⟩
        have y := (((xx.trans x5).trans x6).trans x7').trans x8'
        refine ⟨some (.str n), some u1, some (.bl (rowOf b n).2), x10, _, ?_, ⟨y.g, same_mut y.i n8, fun a u e => by rw [upd_ne (ne_of_none e hF0)]; exact y.h _ _ e, y.f⟩, g4.trans (x5.g.trans (x6.g.trans (x7'.g.trans x8'.g))), n8, upd_same, ?_⟩
        · rw [tkSt_snoc b lat hj]; rfl
        · rw [putK_new' nin, tkSt_snoc b lat hj]
          have := rk8.snoc (k := .inr n) r8
          unfold tkStep tkE
          rw [List.map_append]
          exact this
  · obtain ⟨x7, x8, x9, x10, kvs, rfl, xx, g4, n4, f4, rk⟩ := iv
    rw [List.take_length, ← tkOf_st] at rk
    exact ⟨_, rfl, q pF kvs G4 H4 xx hF0 n4 f4 rk⟩
end K11
set_option Elab.async false
set_option linter.all false
set_option maxRecDepth 100000
set_option maxHeartbeats 4000000
set_option autoImplicit false
/-! K11Prog4: issue_ticks, idle_stretches, how_many_idle, issued_at. -/
namespace K11
open PySem PySem.Spec PyProof.Rows L2 RZ
variable {P : Program} {w : World} {K : PySem.W.Frag} {mg : Str → Option Value} {base : Heap} {f : Addr} {fd : FuncData} {tL tN : Tok}
variable {σ : L2.St} {te ta tb : TE} {ts : TA} {G H G2 H2 : Hp} {ds es : List PyData} {d e : PyData} {tt : TT}
/-! ### the values of a dict -/
theorem dkr_get {kvs : List (Key × V)} {en : Ents} (h : DkR G kvs en) {i : Nat} {k : Key} {x : V} (e : kvs[i]? = some (k, x)) : ∃ d, (en.map (·.2))[i]? = some d ∧ Rp G x d := by
  induction h generalizing i with
  | nil => simp at e
  | @cons a b c d' h1 t ih =>
    cases i with
    | zero => simp at e; subst e; exact ⟨_, by simp, h1.2⟩
    | succ i =>
      obtain ⟨d, h2, h3⟩ := ih (by simpa using e)
      exact ⟨d, by simpa using h2, h3⟩
theorem wk_vals {p : Addr} {o : Obj} {kvs : List (Key × V)} {en : Ents} (h : G p = some (.frz o (.dK kvs))) (r : DkR G kvs en) : Wk (Itd p o kvs) G (en.map (·.2)) := by
  have l : (en.map (·.2)).length = kvs.length := by rw [List.length_map, r.len]
  refine ⟨fun i H s hi => ⟨s _ _ h, l ▸ hi⟩, fun H s => ⟨s _ _ h, by rw [l]; exact Nat.le_refl _⟩, fun i H x H' s hi y => ?_⟩
  obtain ⟨rfl, k, hk⟩ := y
  obtain ⟨d, hd, rd⟩ := dkr_get r hk
  exact ⟨d, hd, G, Gx.refl s, rd⟩
theorem ei_vals {n : Nat} {R : List PyData → Ents → Prop} {E : XK} {en : Ents} (ha : EvS ts σ G ds) (hr : R ds en) (hn : ds.length = n) : EvI (iVals (tFrz (tCall (SpM n R) [] E ts))) σ G (en.map (·.2)) := fun H i Q q =>
  ha H i _ fun xs G1 H1 x1 r1 => ⟨G1, ds, en, by rw [List.append_nil, r1.len, hn], x1.i, by rw [List.append_nil]; exact r1, hr, fun p kvs G2 H2 x2 hp gp h2 rk => ⟨p, .dK kvs, rfl, h2, trivial, fun od => ⟨p, od, kvs, rfl, upd_same, by
    have x := x1.trans x2
    have hp0 : H p = none := x1.h.free hp
    refine q _ (upd G2 p (.frz od (.dK kvs))) _ ⟨x.g.trans (same_new gp), same_upd2 x.i gp, fun a u e => by rw [upd_ne (ne_of_none e hp0)]; exact x.h _ _ e, fun a u e n => ?_⟩ (wk_vals upd_same (rk.up (same_new gp)))
    by_cases c : a = p
    · subst c; exact hp0
    · rw [upd_ne c] at e; exact x.f a u e n⟩⟩⟩
theorem et_var {i : Nat} {v : V} (h : σ[i]? = some (some v)) (r : Rp G v d) (p : PlT G v) : EvT (tVar i) σ G d := fun H e Q q => ⟨v, h, q v G H (Gx.refl e) r p⟩
theorem three_args {vs : List V} {a b c : PyData} (rs : Rps G vs [a, b, c]) : ∃ v0 v1 v2, vs = [v0, v1, v2] ∧ Rp G v0 a ∧ Rp G v1 b ∧ Rp G v2 c := by
  cases rs with
  | cons h1 t1 => cases t1 with
    | cons h2 t2 => cases t2 with
      | cons h3 t3 => cases t3 with
        | nil => exact ⟨_, _, _, rfl, h1, h2, h3⟩

/-! ### issue_ticks -/
abbrev s_issue_ticks : Stmt := top 14
abbrev N_issue_ticks : List Str := ["block", "order", "latencies", "own"]
theorem sc_issue_ticks : FnScope N_issue_ticks ["block", "order", "latencies"] (defScope s_issue_ticks) := ⟨rfl, rfl, rfl, by decide +kernel, rfl, by decide +kernel, by decide +kernel⟩
def dInts (ns : List Int) : PyData := .tuple (ns.map .int)
def RIss (ds : List PyData) (f : Option PyData) : Prop := ∃ d t l b o lat, ds = [d, t, l] ∧ ArgD d t l b o lat ∧ f = if isOrderB b o then some (dInts (spots b lat o)) else none
theorem ok_issue_ticks {C : Addr} (F : Fun K "issue_ticks" "issue_ticks" s_issue_ticks f fd) (M : Mg mg tL tN) (c_check_order : Cal P w K mg base (L2.CX P w) 23 "check_order" ["block", "order"] (SpX C 2 RChk)) (c_ticks_of : Cal P w K mg base CX0 22 "ticks_of" ["block", "order", "latencies"] (SpM 3 RTks)) :
    FnOk P w K mg base (L2.CX P w) 24 f fd ["block", "order", "latencies"] (SpX C 3 RIss) := by
  refine F.okX sc_issue_ticks (fun vs H Q E h => h.len) (fun cdv A outer s H vs Q E hr h => ?_)
  obtain ⟨G, ds, en, hn, i, rs, ⟨d, t, l, b, o, lat, rfl, AD, rfl⟩, q, q2⟩ := h
  obtain ⟨v0, v1, v2, rfl, r0, r1, r2⟩ := three_args rs
  refine ⟨_, (pss_cons (ps_expr (pe_call c_check_order.ok (hr.mono (by decide)) (by rfl) c_check_order.m c_check_order.kp c_check_order.b .nil (passes_call (takes_of rfl rfl rfl rfl) (fun _ _ _ _ h => h)) (pa_cons (pv 0) (pa_cons (pv 1) pa_nil))))
    (pss_one (ps_ret (pe_callTy call_tupF (by rfl) M.tuple_ (by decide +kernel) (pa_cons (pe_lc (own := [("own", 3)]) (g := gName 3) (tt := tYes) rfl sc_issue_ticks.nd (pi_values (pe_frz (pe_call c_ticks_of.ok (hr.mono (by decide)) (by rfl) c_ticks_of.m c_ticks_of.kp c_ticks_of.b .nil pass0 (pa_cons (pv 0) (pa_cons (pv 1) (pa_cons (pv 2) pa_nil)))))) (blkOk_by (N := N_issue_ticks) (sc := defScope s_issue_ticks) (by decide +kernel)) (fun _ _ _ _ _ => (pg_name (i := 3) sc_issue_ticks.nd rfl (.inl rfl))) (fun _ _ _ _ _ => pts_nil) (fun _ _ _ _ _ => (pe_ix (r := (rIxT K)) ix_tup (pv 3) pe_int (fun _ _ => rfl)))) pa_nil))))), ?_⟩
  refine ex_call (R := RChk) (es_cons (ev_var rfl r0) (es_cons (ev_var rfl r1) es_nil)) ⟨d, t, b, o, rfl, AD.blk, AD.ord, AD.ol, AD.os, rfl⟩ rfl H i _ (fun d' e v G1 H1 x1 r p => ?_) (fun e => ?_)
  · by_cases c : isOrderB b o = true
    · rw [if_pos c] at q
      dsimp only [tRet]
      refine EvT.toF (ev_tupF (ev_is (f := .list (List.map PyData.int (spots b lat o))) (ev_lcB (as := tkOf b lat o) (fun e : Str × Int × Int => .tuple [.int e.2.1, .int e.2.2]) (fun e => .int e.2.1) ?_ ?_ fun e he G3 y s3 ry => ⟨_, tg_name, rfl, ev_op (ev_var rfl ry) ev_int (od_ixT (j := 0) rfl rfl)⟩) (congrArg PyData.list ?_))) H1 x1.i _ fun v' G2 H2 x2 r2' p2 => q (dInts (spots b lat o)) rfl v' G2 H2 (x1.trans x2) r2' p2
      · have := ei_vals (R := RTks) (E := E0) (es_cons (ev_var (σ := L2.start N_issue_ticks [v0, v1, v2]) (i := 0) rfl (r0.up x1.g)) (es_cons (ev_var (i := 1) rfl (r1.up x1.g)) (es_cons (ev_var (i := 2) rfl (r2.up x1.g)) es_nil))) ⟨d, t, l, b, o, lat, rfl, AD, c, rfl⟩ rfl
        unfold tkE at this
        rw [List.map_map] at this
        exact this
      · rw [← List.length_map (f := fun e : Str × Int × Int => e.1), tkOf_st, tk_names]
        exact Nat.le_trans AD.ol (by decide)
      · unfold spots; rw [List.map_map]; rfl
    · rw [if_neg c] at e; cases e
  · by_cases c : isOrderB b o = true
    · rw [if_pos c] at e; cases e
    · exact q2 (if_neg c)

/-! ### idle_stretches -/
abbrev s_idle_stretches : Stmt := top 15
abbrev N_idle_stretches : List Str := ["block", "order", "latencies", "ticks", "one", "other"]
theorem sc_idle_stretches : FnScope N_idle_stretches ["block", "order", "latencies"] (defScope s_idle_stretches) := ⟨rfl, rfl, rfl, by decide +kernel, rfl, by decide +kernel, by decide +kernel⟩
def RIdl (ds : List PyData) (f : Option PyData) : Prop := ∃ d t l b o lat, ds = [d, t, l] ∧ ArgD d t l b o lat ∧ f = if isOrderB b o then some (.tuple ((stret (spots b lat o)).map dPI)) else none
theorem zipD_zip : ∀ ns ms : List Int, zipD (ns.map .int) (ms.map .int) = (ns.zip ms).map dPI
  | [], _ => by cases ‹List Int› <;> rfl
  | _ :: _, [] => rfl
  | n :: ns, m :: ms => by
    show _ :: zipD (ns.map .int) (ms.map .int) = _
    rw [zipD_zip ns ms]; rfl
theorem stret_zip : ∀ ns : List Int, stret ns = ((ns.zip (ns.drop 1)).filter fun p => decide (p.1 + 1 < p.2)).map fun p => (p.1 + 1, p.2 - p.1 - 1)
  | [] => rfl
  | [x] => rfl
  | x :: y :: r => by
    have ih := stret_zip (y :: r)
    have e : (x :: y :: r).zip ((x :: y :: r).drop 1) = (x, y) :: (y :: r).zip ((y :: r).drop 1) := rfl
    rw [e, List.filter_cons]
    unfold stret
    by_cases c : y > x + 1
    · rw [if_pos c, if_pos (decide_eq_true c), ih]; rfl
    · rw [if_neg c, if_neg (by simpa using c), ih]
theorem ok_idle_stretches {C : Addr} (F : Fun K "idle_stretches" "idle_stretches" s_idle_stretches f fd) (M : Mg mg tL tN) (c_issue_ticks : Cal P w K mg base (L2.CX P w) 24 "issue_ticks" ["block", "order", "latencies"] (SpX C 3 RIss)) :
    FnOk P w K mg base (L2.CX P w) 25 f fd ["block", "order", "latencies"] (SpX C 3 RIdl) := by
  refine F.okX sc_idle_stretches (fun vs H Q E h => h.len) (fun cdv A outer s H vs Q E hr h => ?_)
  obtain ⟨G, ds, en, hn, i, rs, ⟨d, t, l, b, o, lat, rfl, AD, rfl⟩, q, q2⟩ := h
  obtain ⟨v0, v1, v2, rfl, r0, r1, r2⟩ := three_args rs
  refine ⟨_, (pss_cons (ps_set (i := 3) sc_idle_stretches.nd rfl (.inl rfl) (pe_call c_issue_ticks.ok (hr.mono (by decide)) (by rfl) c_issue_ticks.m c_issue_ticks.kp c_issue_ticks.b .nil (passes_call (takes_of rfl rfl rfl rfl) (fun _ _ _ _ h => h)) (pa_cons (pv 0) (pa_cons (pv 1) (pa_cons (pv 2) pa_nil)))))
    (pss_one (ps_ret (pe_callTy call_tupF (by rfl) M.tuple_ (by decide +kernel) (pa_cons (pe_lc (own := [("one", 4), ("other", 5)]) (g := gTup K 2 (gCons (gName 4) (gCons (gName 5) gNil))) (tt := _) rfl sc_idle_stretches.nd (RZ.pi_zipA (by rfl) M.zip (pa_cons (pv 3) (pa_cons (pe_slice sl_tupA (pv 3) (po_some pe_int) po_none) pa_nil))) (blkOk_by (N := N_idle_stretches) (sc := defScope s_idle_stretches) (by decide +kernel)) (fun _ _ _ _ _ => (pg_tup rfl (pgs_cons (pg_name (i := 4) sc_idle_stretches.nd rfl (.inl rfl)) (pgs_cons (pg_name (i := 5) sc_idle_stretches.nd rfl (.inl rfl)) pgs_nil)))) (fun _ _ _ _ _ => (pts_one (pt_cmpR op_gt (pv 5) (pe_op op_add (pv 4) pe_int) (nomark _)))) (fun _ _ _ _ _ => (pe_tup (pa_cons (pe_op op_add (pv 4) pe_int) (pa_cons (pe_op op_sub (pe_op op_sub (pv 5) (pv 4)) pe_int) pa_nil))))) pa_nil))))), ?_⟩
  refine ex_call (R := RIss) (es_cons (ev_var rfl r0) (es_cons (ev_var rfl r1) (es_cons (ev_var rfl r2) es_nil))) ⟨d, t, l, b, o, lat, rfl, AD, rfl⟩ rfl H i _ (fun d' e v G1 H1 x1 r p => ?_) (fun e => ?_)
  · by_cases c : isOrderB b o = true
    · rw [if_pos c] at q e
      cases e
      refine tg_name (G := G1) H1 x1.i _ ?_
      have z100 : (spots b lat o).length ≤ 1000 := by
        unfold spots
        rw [List.length_map, ← List.length_map (f := fun e : Str × Int × Int => e.1), tkOf_st, tk_names]; exact AD.ol
      have et : ∀ {G'}, Same G1 G' → EvD (tVar 3) ((L2.start N_idle_stretches [v0, v1, v2]).set 3 (some v)) G' (dInts (spots b lat o)) := fun s => ev_var rfl (r.up s)
      have ez : (dInts (spots b lat o)) = .tuple ((spots b lat o).map .int) := rfl
      dsimp only [tRet]
      refine ev_tupF (ev_is (f := .list ((stret (spots b lat o)).map dPI)) (ev_lcA (as := (spots b lat o).zip ((spots b lat o).drop 1)) dPI (fun p => decide (p.1 + 1 < p.2)) (fun p => dPI (p.1 + 1, p.2 - p.1 - 1)) ?_ ?_ fun p hp G3 y s3 ry => ?_) (congrArg PyData.list ?_)) H1 x1.i _ ?_
      · rw [← zipD_zip]
        refine ei_zipT (es_cons (et (Same.refl _)) (es_cons (ev_is (ev_sl (et (Same.refl _)) (eo_some (i := ((1 : Nat) : Int)) ev_int) eo_none sd_tup) ?_) es_nil))
        rw [cut_from, List.map_drop]
      · rw [List.length_zip]; omega
      · obtain ⟨u1, u2, ru1, ru2, tg⟩ := tg2 (K := K) ry
        cases ru1.isInt
        cases ru2.isInt
        exact ⟨_, tg, rfl, eb_test (ev_op (ev_var rfl (.int _)) (ev_op (ev_var rfl (.int _)) ev_int od_add) od_gt), fun _ => ev_tup (es_cons (ev_op (ev_var rfl (.int _)) ev_int od_add) (es_cons (ev_op (ev_op (ev_var rfl (.int _)) (ev_var rfl (.int _)) od_sub) ev_int od_sub) es_nil)) (show 2 ≤ 100000 by decide)⟩
      · rw [stret_zip, List.map_map]; rfl
      · exact fun v' G2 H2 x2 r2' p2 => q _ rfl v' G2 H2 (x1.trans x2) r2' fun _ _ => p2
    · rw [if_neg c] at e; cases e
  · by_cases c : isOrderB b o = true
    · rw [if_pos c] at e; cases e
    · exact q2 (if_neg c)

/-! ### how_many_idle -/
abbrev s_how_many_idle : Stmt := top 16
abbrev N_how_many_idle : List Str := ["block", "order", "latencies", "first", "many"]
theorem sc_how_many_idle : FnScope N_how_many_idle ["block", "order", "latencies"] (defScope s_how_many_idle) := ⟨rfl, rfl, rfl, by decide +kernel, rfl, by decide +kernel, by decide +kernel⟩
def manyIdle (b : Blk) (lat : Lat) (o : List Str) : Int := ((stret (spots b lat o)).map (·.2)).sum
def RHow (ds : List PyData) (f : Option PyData) : Prop := ∃ d t l b o lat, ds = [d, t, l] ∧ ArgD d t l b o lat ∧ f = if isOrderB b o then some (.int (manyIdle b lat o)) else none
theorem stret_len : ∀ ns : List Int, (stret ns).length ≤ ns.length
  | [] => Nat.le_refl _
  | [x] => Nat.zero_le _
  | x :: y :: r => by
    have ih := stret_len (y :: r)
    unfold stret
    by_cases c : y > x + 1
    · rw [if_pos c]; simp only [List.length_cons] at *; omega
    · rw [if_neg c]; simp only [List.length_cons] at *; omega
theorem spots_len (b : Blk) (lat : Lat) (o : List Str) : (spots b lat o).length = o.length := by
  unfold spots
  rw [List.length_map, ← List.length_map (f := fun e : Str × Int × Int => e.1), tkOf_st, tk_names]
theorem ok_how_many_idle {C : Addr} (F : Fun K "how_many_idle" "how_many_idle" s_how_many_idle f fd) (M : Mg mg tL tN) (c_idle_stretches : Cal P w K mg base (L2.CX P w) 25 "idle_stretches" ["block", "order", "latencies"] (SpX C 3 RIdl)) :
    FnOk P w K mg base (L2.CX P w) 26 f fd ["block", "order", "latencies"] (SpX C 3 RHow) := by
  refine F.okX sc_how_many_idle (fun vs H Q E h => h.len) (fun cdv A outer s H vs Q E hr h => ?_)
  obtain ⟨G, ds, en, hn, i, rs, ⟨d, t, l, b, o, lat, rfl, AD, rfl⟩, q, q2⟩ := h
  obtain ⟨v0, v1, v2, rfl, r0, r1, r2⟩ := three_args rs
  refine ⟨_, (pss_one (ps_ret (pe_callB (cr_sum rfl) (by rfl) M.sum_ (by decide +kernel) (pa_cons (pe_lc (own := [("first", 3), ("many", 4)]) (g := gTup K 2 (gCons (gName 3) (gCons (gName 4) gNil))) (tt := tYes) rfl sc_how_many_idle.nd (pi_tup (pe_call c_idle_stretches.ok (hr.mono (by decide)) (by rfl) c_idle_stretches.m c_idle_stretches.kp c_idle_stretches.b .nil (passes_call (takes_of rfl rfl rfl rfl) (fun _ _ _ _ h => h)) (pa_cons (pv 0) (pa_cons (pv 1) (pa_cons (pv 2) pa_nil))))) (blkOk_by (N := N_how_many_idle) (sc := defScope s_how_many_idle) (by decide +kernel)) (fun _ _ _ _ _ => (pg_tup rfl (pgs_cons (pg_name (i := 3) sc_how_many_idle.nd rfl (.inl rfl)) (pgs_cons (pg_name (i := 4) sc_how_many_idle.nd rfl (.inl rfl)) pgs_nil)))) (fun _ _ _ _ _ => pts_nil) (fun _ _ _ _ _ => (pv 4))) pa_nil)))), ?_⟩
  by_cases c : isOrderB b o = true
  · rw [if_pos c] at q
    refine ev_cb (es_cons (ev_is (ev_lcB (as := stret (spots b lat o)) dPI (fun p => .int p.2) (ei_tup (EvF.toD (ev_callX (R := RIdl) (es_cons (ev_var rfl r0) (es_cons (ev_var rfl r1) (es_cons (ev_var rfl r2) es_nil))) ⟨d, t, l, b, o, lat, rfl, AD, (if_pos c).symm⟩ rfl))) ?_ fun p hp G3 y s3 ry => ?_) (congrArg PyData.list (List.map_map (f := fun p : Int × Int => p.2) (g := PyData.int) (l := stret (spots b lat o))).symm)) es_nil) cd_sum H i _ fun v' G2 H2 x2 r2' => q _ rfl v' G2 H2 x2 r2' (fun xs e => by cases e)
    · exact Nat.le_trans (stret_len _) (by rw [spots_len]; exact Nat.le_trans AD.ol (by decide))
    · obtain ⟨u1, u2, ru1, ru2, tg⟩ := tg2 (K := K) ry
      exact ⟨_, tg, rfl, ev_var rfl ru2⟩
  · rw [if_neg c] at q2
    exact ex_call (R := RIdl) (es_cons (ev_var rfl r0) (es_cons (ev_var rfl r1) (es_cons (ev_var rfl r2) es_nil))) ⟨d, t, l, b, o, lat, rfl, AD, (if_neg c).symm⟩ rfl H i _ (fun d' e => by cases e) (fun e => q2 rfl)

/-! ### issued_at -/
abbrev s_issued_at : Stmt := top 17
abbrev N_issued_at : List Str := ["block", "order", "latencies", "tick", "ticks"]
theorem sc_issued_at : FnScope N_issued_at ["block", "order", "latencies", "tick"] (defScope s_issued_at) := ⟨rfl, rfl, rfl, by decide +kernel, rfl, by decide +kernel, by decide +kernel⟩
def RAt (ds : List PyData) (f : Option PyData) : Prop := ∃ d t l k b o lat, ds = [d, t, l, .int k] ∧ ArgD d t l b o lat ∧ f = if isOrderB b o then some (issuedD o (spots b lat o) k) else none
theorem four_args {vs : List V} {a b c e : PyData} (rs : Rps G vs [a, b, c, e]) : ∃ v0 v1 v2 v3, vs = [v0, v1, v2, v3] ∧ Rp G v0 a ∧ Rp G v1 b ∧ Rp G v2 c ∧ Rp G v3 e := by
  cases rs with
  | cons h1 t1 =>
    obtain ⟨v1, v2, v3, rfl, h2, h3, h4⟩ := three_args t1
    exact ⟨_, v1, v2, v3, rfl, h1, h2, h3, h4⟩
theorem ev_tix {to tk : TE} {ns : List Int} {k : Int} {j : Nat} (h : EvT to σ G (dInts ns)) (hk : EvD tk σ G (.int k)) (e : ns[j]? = some k) (f : ∀ m, m < j → ns[m]? ≠ some k) : EvD (tTM (rIndexT K) to (tCons tk tNil)) σ G (.int (j : Nat)) := fun H i Q q => h H i _ fun v G2 H2 x r p => by
  obtain ⟨a, ob, xs, rfl, g, ho⟩ := p
  refine ⟨⟨a, ob, xs, rfl, x.i _ _ g, ho⟩, es_cons (hk.up x.g) es_nil H2 x.i _ fun vs G3 H3 x3 r3 => ?_⟩
  obtain ⟨u, rfl, ru⟩ := one_arg r3
  cases ru.isInt
  obtain ⟨a', ys, ea, ga, rs⟩ := (r.up x3.g).isTup
  cases ea
  rw [rs.ints] at ga
  exact ⟨a, ns, k, j, rfl, rfl, (ga.up x3.i).sq, e, f, q _ G3 H3 (x.trans x3) (.int _)⟩
theorem idx_some {k : Int} {ns : List Int} (h : k ∈ ns) : ∃ j, idxOf k ns = some j ∧ ns[j]? = some k ∧ ∀ m, m < j → ns[m]? ≠ some k := by
  unfold idxOf
  cases q : ns.findIdx? (fun n => decide (n = k)) with
  | none =>
    have := List.findIdx?_eq_none_iff.mp q k h
    simp at this
  | some j =>
    obtain ⟨hj, h1, h2⟩ := List.findIdx?_eq_some_iff_getElem.mp q
    refine ⟨j, rfl, by rw [List.getElem?_eq_getElem hj]; exact congrArg some (of_decide_eq_true h1), fun m hm e => ?_⟩
    have := h2 m hm
    have hml : m < ns.length := Nat.lt_trans hm hj
    rw [List.getElem?_eq_getElem hml] at e
    simp [Option.some.inj e] at this
theorem idx_none {k : Int} {ns : List Int} (h : k ∉ ns) : idxOf k ns = none := by
  unfold idxOf
  refine List.findIdx?_eq_none_iff.mpr fun x hx => ?_
  exact decide_eq_false fun e => h (e ▸ hx)
theorem ok_issued_at {C : Addr} (F : Fun K "issued_at" "issued_at" s_issued_at f fd) (M : Mg mg tL tN) (c_issue_ticks : Cal P w K mg base (L2.CX P w) 24 "issue_ticks" ["block", "order", "latencies"] (SpX C 3 RIss)) (c_tupled : Cal P w K mg base CX0 13 "tupled" ["value"] SpTup) :
    FnOk P w K mg base (L2.CX P w) 25 f fd ["block", "order", "latencies", "tick"] (SpX C 4 RAt) := by
  refine F.okX sc_issued_at (fun vs H Q E h => h.len) (fun cdv A outer s H vs Q E hr h => ?_)
  obtain ⟨G, ds, en, hn, i, rs, ⟨d, t, l, k, b, o, lat, rfl, AD, rfl⟩, q, q2⟩ := h
  obtain ⟨v0, v1, v2, v3, rfl, r0, r1, r2, r3⟩ := four_args rs
  cases r3.isInt
  refine ⟨_, (pss_cons (ps_set (i := 4) sc_issued_at.nd rfl (.inl rfl) (pe_call c_issue_ticks.ok (hr.mono (by decide)) (by rfl) c_issue_ticks.m c_issue_ticks.kp c_issue_ticks.b .nil (passes_call (takes_of rfl rfl rfl rfl) (fun _ _ _ _ h => h)) (pa_cons (pv 0) (pa_cons (pv 1) (pa_cons (pv 2) pa_nil)))))
    (pss_one (ps_ret (pe_ifExp (pt_cmpR op_in_seq (pv 3) (pv 4) rfl) (pe_ix ix_tup (pe_call c_tupled.ok (hr.mono (by decide)) (by rfl) c_tupled.m c_tupled.kp c_tupled.b .nil pass0 (pa_cons (pv 1) pa_nil)) (pe_tm PySem.F.plainAttrs_tuple PySem.F.slot_tuple_index PySem.F.type_tuple_index mt_tup_indexI (pv 4) (pa_cons (pv 3) pa_nil)) (fun _ _ => rfl)) pe_non)))), ?_⟩
  refine ex_call (R := RIss) (es_cons (ev_var rfl r0) (es_cons (ev_var rfl r1) (es_cons (ev_var rfl r2) es_nil))) ⟨d, t, l, b, o, lat, rfl, AD, rfl⟩ rfl H i _ (fun d' e v G1 H1 x1 r p => ?_) (fun e => ?_)
  · by_cases c : isOrderB b o = true
    · rw [if_pos c] at q e
      cases e
      refine tg_name (G := G1) H1 x1.i _ ?_
      dsimp only [tRet]
      have pl := p _ rfl
      refine (ev_if (d := issuedD o (spots b lat o) k) (b := decide (k ∈ spots b lat o)) (eb_test (ev_op (ev_var rfl (.int k)) (ev_var rfl r) od_inIntT)) (fun c => ?_) (fun c => ?_)) H1 x1.i _ fun v' G2 H2 x2 r2' => q _ rfl v' G2 H2 (x1.trans x2) r2' (fun xs e => ?_)
      · obtain ⟨j, e1, e2, e3⟩ := idx_some (of_decide_eq_true c)
        have jl : j < o.length := by
          have := (List.getElem?_eq_some_iff.mp e2).1
          rw [spots_len] at this; exact this
        have e4 : issuedD o (spots b lat o) k = .str o[j] := by
          unfold issuedD
          rw [e1]
          show (match o[j]? with | some s => PyData.str s | none => PyData.none) = _
          rw [List.getElem?_eq_getElem jl]
        rw [e4]
        exact ev_op (ev_tupO (ev_var rfl (r1.up x1.g)) AD.ord AD.ol).toD (ev_tix (ns := spots b lat o) (et_var rfl r pl) (ev_var rfl (.int k)) e2 e3) (od_ixT rfl (by unfold dStrs; rw [List.getElem?_map, List.getElem?_eq_getElem jl]; rfl))
      · have e4 : issuedD o (spots b lat o) k = .none := by
          unfold issuedD
          rw [idx_none (of_decide_eq_false c)]
        rw [e4]
        exact ev_non
      · unfold issuedD at e
        split at e
        · split at e <;> cases e
        · cases e
    · rw [if_neg c] at e; cases e
  · by_cases c : isOrderB b o = true
    · rw [if_pos c] at e; cases e
    · exact q2 (if_neg c)
end K11
set_option Elab.async false
set_option linter.all false
set_option maxRecDepth 100000
set_option maxHeartbeats 4000000
set_option autoImplicit false
/-! K11Law1: the urn; take, of, mixed. -/
namespace K11
open PySem PySem.Spec PyProof.Rows L2 RZ
variable {P : Program} {w : World} {K : PySem.W.Frag} {mg : Str → Option Value} {base : Heap} {f : Addr} {fd : FuncData} {tL tN : Tok}
section
variable {σ : L2.St} {te ta tb : TE} {ts : TA} {G H G2 H2 G3 H3 H4 : Hp} {ds es : List PyData} {d e : PyData} {tt : TT} {u : Addr} {m n : Int}
/-! ### whole numbers, in a heap that stays -/
def EvZ (te : TE) (σ : L2.St) (H : Hp) (z : Int) : Prop := ∀ Q : VK, Q (.int z) H → te σ H Q
theorem ez_var {i : Nat} {z : Int} (h : σ[i]? = some (some (.int z))) : EvZ (tVar i) σ H z := fun Q q => ⟨_, h, q⟩
theorem ez_c {z : Int} : EvZ (tC (.int z)) σ H z := fun Q q => q
theorem ez_op {C : Int → Int → Prop} {g : Int → Int → Int} {i j : Int} (ha : EvZ ta σ H i) (hb : EvZ tb σ H j) (hc : C i j) : EvZ (tOp (rI C fun i j => .int (g i j)) ta tb) σ H (g i j) := fun Q q => ha _ (hb _ ⟨i, j, rfl, rfl, hc, q⟩)
theorem ez_op0 {g : Int → Int → Int} {i j : Int} (ha : EvZ ta σ H i) (hb : EvZ tb σ H j) : EvZ (tOp (rI0 fun i j => .int (g i j)) ta tb) σ H (g i j) := fun Q q => ha _ (hb _ ⟨i, j, rfl, rfl, q⟩)
theorem ez_int {i : Int} (ha : EvZ ta σ H i) : EvZ (tCB (fun xs H Q => (∃ i, xs = [.int i] ∧ Q (.int i) H) ∨ ∃ k, xs = [.bl k] ∧ Q (.int (if k then 1 else 0)) H) (tCons ta tNil)) σ H i := fun Q q => ha _ (.inl ⟨i, rfl, q⟩)
theorem ez_at {p : Addr} {i : Nat} {xs : List V} {j : Nat} {z : Int} (h : σ[i]? = some (some (.ref p))) (hp : H p = some (.lst xs)) (hj : xs[j]? = some (.int z)) : EvZ (tOp (rIxL K) (tVar i) (tC (.int (j : Nat)))) σ H z := fun Q q =>
  ⟨_, h, p, xs, (j : Nat), _, rfl, rfl, .of hp, atI_nat hj, q⟩

def EvTz (tt : TT) (σ : L2.St) (H : Hp) (b : Bool) : Prop := ∀ Q : Bool → Hp → Prop, Q b H → tt σ H Q
theorem et_cmp0 {g : Int → Int → Bool} {i j : Int} (ha : EvZ ta σ H i) (hb : EvZ tb σ H j) : EvTz (tTest (tOp (rI0 fun i j => .bl (g i j)) ta tb)) σ H (g i j) := fun Q q => ha _ (hb _ ⟨i, j, rfl, rfl, _, rfl, q⟩)

/-! ### the urn -/
/-- three numbers at u; the last is n at most -/
def Ur (H : Hp) (u : Addr) (n : Int) : Prop := ∃ a b c : Int, H u = some (.lst [.int a, .int b, .int c]) ∧ 0 ≤ b ∧ b < 2 ^ 62 ∧ 0 ≤ c ∧ c ≤ n
theorem Ur.le (h : Ur H u n) (l : n ≤ m) : Ur H u m := by
  obtain ⟨a, b, c, h1, h2, h3, h4, h5⟩ := h
  exact ⟨a, b, c, h1, h2, h3, h4, Int.le_trans h5 l⟩
theorem Ur.at (h : Ur H u n) : ∃ o, H u = some o := by
  obtain ⟨a, b, c, h1, _⟩ := h
  exact ⟨_, h1⟩
theorem Ur.eq (h : Ur H u n) (e : H2 u = H u) : Ur H2 u n := by
  obtain ⟨a, b, c, h1, h2⟩ := h
  exact ⟨a, b, c, e.trans h1, h2⟩
/-- all stands but u -/
structure Gu (u : Addr) (G H G2 H2 : Hp) : Prop where
  g : Same G G2
  i : Same G2 H2
  h : ∀ a o, a ≠ u → H a = some o → H2 a = some o
  f : ∀ a o, G2 a = some o → G a = none → H a = none
  n : G u = none
  k : (∃ o, H u = some o) → ∃ o, H2 u = some o
theorem Gu.n2 (a : Gu u G H G2 H2) (h : ∃ o, H u = some o) : G2 u = none := by
  cases q : G2 u with
  | none => rfl
  | some o =>
    obtain ⟨o', e⟩ := h
    have := a.f u o q a.n
    rw [e] at this; cases this
theorem Gu.refl (e : Same G H) (n : G u = none) : Gu u G H G H := ⟨Same.refl _, e, fun _ _ _ h => h, fun a o h1 h2 => (by rw [h2] at h1; cases h1), n, fun h => h⟩
theorem Gu.of (x : Gx G H G2 H2) (n : G u = none) : Gu u G H G2 H2 := ⟨x.g, x.i, fun a o _ h => x.h a o h, x.f, n, fun ⟨o, e⟩ => ⟨o, x.h _ _ e⟩⟩
theorem Gu.trans (a : Gu u G H G2 H2) (b : Gu u G2 H2 G3 H3) : Gu u G H G3 H3 := by
  refine ⟨a.g.trans b.g, b.i, fun x o n h => b.h x o n (a.h x o n h), fun x o h1 h2 => ?_, a.n, fun h => b.k (a.k h)⟩
  cases q : G2 x with
  | none =>
    have n := b.f x o h1 q
    cases z : H x with
    | none => rfl
    | some o' =>
      by_cases c : x = u
      · subst c
        obtain ⟨o2, e2⟩ := a.k ⟨o', z⟩
        rw [n] at e2; cases e2
      · rw [a.h x o' c z] at n; cases n
  | some o' => exact a.f x o' q h2
theorem Gu.pre (a : Gu u G H2 G2 H3) (i : Same G H) (s : Same H H2) : Gu u G H G2 H3 :=
  ⟨a.g, a.i, fun b o n h => a.h b o n (s b o h), fun b o h1 h2 => s.free (a.f b o h1 h2), a.n, fun ⟨o, e⟩ => a.k ⟨o, s _ _ e⟩⟩
/-- the urn itself changed -/
theorem Gu.set {o : HO} (i : Same G H) (n : G u = none) (h : ∃ o, H u = some o) : Gu u G H G (upd H u o) :=
  ⟨Same.refl _, same_mut i n, fun a o' c e => by rw [upd_ne c]; exact e, fun a o h1 h2 => (by rw [h2] at h1; cases h1), n, fun _ => ⟨_, upd_same⟩⟩
/-- what isn't known may change -/
theorem Gu.mut {p : Addr} {o : HO} (x : Gu u G H G2 H2) (hp : H p = none) (gp : G2 p = none) (hu : ∃ o, H u = some o) : Gu u G H G2 (upd H2 p o) :=
  ⟨x.g, same_mut x.i gp, fun a o' c e => by rw [upd_ne (ne_of_none e hp)]; exact x.h _ _ c e, x.f, x.n, fun h => by
    obtain ⟨o1, e1⟩ := hu
    obtain ⟨o2, e2⟩ := x.k h
    exact ⟨o2, by rw [upd_ne (ne_of_none e1 hp)]; exact e2⟩⟩
/-- a promise with the urn: R n ds d, m draws at most -/
def SpU (fz : Bool) (k : Nat) (m B : Int) (R : List PyData → PyData → Prop) (Pre : List PyData → Prop) : Sp := fun vs H Q _ => ∃ u rest G ds n, vs = .ref u :: rest ∧ rest.length = k ∧ Same G H ∧ G u = none ∧ Ur H u n ∧ n ≤ B ∧ Rps G rest ds ∧ Pre ds ∧
  ∀ d v G2 H2, R ds d → Gu u G H G2 H2 → Ur H2 u (n + m) → Rp G2 v d → (fz = true → PlT G2 v) → Q v H2
theorem SpU.len {fz : Bool} {k : Nat} {m B : Int} {R : List PyData → PyData → Prop} {Pre : List PyData → Prop} {vs : List V} {H : Hp} {Q : VK} {E : XK} (h : SpU fz k m B R Pre vs H Q E) : vs.length = k + 1 := by
  obtain ⟨u, rest, _, _, _, rfl, h, _⟩ := h
  rw [List.length_cons, h]
/-- a call with the urn in slot i, the other arguments as they come -/
theorem eu_callR {B : Int} {fz : Bool} {k : Nat} {R : List PyData → PyData → Prop} {Pre : List PyData → Prop} {E : XK} {i : Nat} (hu : σ[i]? = some (some (.ref u))) (ha : ∀ Q : List V → Hp → Prop, (∀ vs G2 H2, Gx G H G2 H2 → Rps G2 vs ds → Q vs H2) → ts σ H Q) (hp : Pre ds) (hk : ds.length = k) (iH : Same G H) (gu : G u = none) (un : Ur H u n) (hn : n ≤ B) (Q : VK)
    (q : ∀ d v G2 H2, R ds d → Gu u G H G2 H2 → Ur H2 u (n + m) → Rp G2 v d → (fz = true → PlT G2 v) → Q v H2) : tCall (SpU fz k m B R Pre) [] E (tCons (tVar i) ts) σ H Q :=
  ⟨_, hu, ha _ fun vs G1 H1 x1 r1 => ⟨u, vs, G1, ds, n, by rw [List.append_nil], by rw [r1.len, hk], x1.i, x1.out gu un.at.choose_spec, un.eq (by rw [un.at.choose_spec]; exact x1.h _ _ un.at.choose_spec), hn, r1, hp, fun d v G2 H2 hr x2 u2 r2 p2 => q d v G2 H2 hr ((Gu.of x1 gu).trans x2) u2 r2 p2⟩⟩
theorem eu_call {B : Int} {fz : Bool} {k : Nat} {R : List PyData → PyData → Prop} {Pre : List PyData → Prop} {E : XK} {i : Nat} (hu : σ[i]? = some (some (.ref u))) (ha : EvS ts σ G ds) (hp : Pre ds) (hk : ds.length = k) (iH : Same G H) (gu : G u = none) (un : Ur H u n) (hn : n ≤ B) (Q : VK)
    (q : ∀ d v G2 H2, R ds d → Gu u G H G2 H2 → Ur H2 u (n + m) → Rp G2 v d → (fz = true → PlT G2 v) → Q v H2) : tCall (SpU fz k m B R Pre) [] E (tCons (tVar i) ts) σ H Q :=
  eu_callR hu (fun Q q => ha H iH Q q) hp hk iH gu un hn Q q
end

theorem Gu.pub {u : Addr} {G H G2 H2 : Hp} {p : Addr} {o : HO} (x : Gu u G H G2 H2) (hp : H p = none) (gp : G2 p = none) (h2 : H2 p = some o) : Gu u G H (upd G2 p o) H2 :=
  ⟨x.g.trans (same_new gp), fun b o' hbo => by
    by_cases c : b = p
    · subst c; rw [upd_same] at hbo; cases hbo; exact h2
    · rw [upd_ne c] at hbo; exact x.i _ _ hbo, x.h, fun b o' hbo nb => by
    by_cases c : b = p
    · subst c; exact hp
    · rw [upd_ne c] at hbo; exact x.f _ _ hbo nb, x.n, x.k⟩
theorem seqIx {k n : Nat} (h : k < n) : seqIndex? (k : Int) n = some k := by
  unfold seqIndex?
  have h1 : ¬ ((k : Int) < 0) := by omega
  simp only [h1, if_false]
  have h2 : (decide (0 ≤ (k : Int)) && decide ((k : Int) < (n : Int))) = true := by
    rw [Bool.and_eq_true, decide_eq_true_eq, decide_eq_true_eq]; omega
  rw [if_pos h2]; rfl

/-! ### take -/
abbrev s_law_take : Stmt := top 20
abbrev N_law_take : List Str := ["_law_urn", "_law_low_so", "_law_drawn", "_law_once", "_law_far", "_law_twice"]
theorem sc_law_take : FnScope N_law_take ["_law_urn", "_law_low_so"] (defScope s_law_take) := ⟨rfl, rfl, rfl, by decide +kernel, rfl, by decide +kernel, by decide +kernel⟩
def RTake (ds : List PyData) (d : PyData) : Prop := ∃ low r : Int, ds = [.int low] ∧ 0 ≤ r ∧ r < low ∧ d = .int r
def PTake (ds : List PyData) : Prop := ∃ low : Int, ds = [.int low] ∧ 0 < low ∧ low ≤ 100000
theorem fmod_in {a b : Int} (h : 0 < b) : 0 ≤ a.fmod b ∧ a.fmod b < b := ⟨Int.fmod_nonneg_of_pos a h, Int.fmod_lt_of_pos a h⟩
abbrev SpTake : Sp := SpU false 1 1 9000000 RTake PTake
theorem ok_law_take (F : Fun K "_law_take" "_law_take" s_law_take f fd) (M : Mg mg tL tN) : FnOk P w K mg base CX0 1 f fd ["_law_urn", "_law_low_so"] SpTake := by
  refine F.ok sc_law_take (fun vs H Q E h => h.len) (fun cdv A outer s H vs Q E hr h => ?_)
  obtain ⟨u, rest, G, ds, n, rfl, hk, i, gu, ⟨a, b, c, hu, b0, b1, c0, cn⟩, hn, rs, ⟨low, rfl, l0, l1⟩, q⟩ := h
  obtain ⟨v, rfl, rv⟩ := one_arg rs
  cases rv.isInt
  refine ⟨_, (pss_cons (ps_if (pt_cmpR op_gt (pe_ix ix_list (pv 0) pe_int (fun _ _ => rfl)) pe_int (nomark _)) (pss_cons (ps_set (i := 2) sc_law_take.nd rfl (.inl rfl) (pe_op op_modN (pe_callTy call_int1 (by rfl) M.int_ (by decide +kernel) (pa_cons (pe_ix ix_list (pv 0) pe_int (fun _ _ => rfl)) pa_nil)) (pv 1)))
    (pss_cons (ps_asg (pe_op op_fdivN (pe_ix ix_list (pv 0) pe_int (fun _ _ => rfl)) (pv 1)) (pg_sub (pv 0) pe_int set_list))
    (pss_one (ps_ret (pv 2))))) pss_nil)
    (pss_cons (ps_asg (pe_op op_add (pe_ix ix_list (pv 0) pe_int (fun _ _ => rfl)) pe_int) (pg_sub (pv 0) pe_int set_list))
    (pss_cons (ps_set (i := 3) sc_law_take.nd rfl (.inl rfl) (pe_op op_modN (pe_callTy call_int1 (by rfl) M.int_ (by decide +kernel) (pa_cons (pe_op op_mul (pe_op op_add (pe_ix ix_list (pv 0) pe_int (fun _ _ => rfl)) (pe_op op_mul pe_int (pe_ix ix_list (pv 0) pe_int (fun _ _ => rfl)))) (pe_op op_add pe_int (pe_ix ix_list (pv 0) pe_int (fun _ _ => rfl)))) pa_nil)) pe_int))
    (pss_cons (ps_set (i := 4) sc_law_take.nd rfl (.inl rfl) (pe_op op_add (pe_op op_modN (pe_callTy call_int1 (by rfl) M.int_ (by decide +kernel) (pa_cons (pv 3) pa_nil)) pe_int) pe_int))
    (pss_cons (ps_set (i := 5) sc_law_take.nd rfl (.inl rfl) (pe_op op_modN (pe_callTy call_int1 (by rfl) M.int_ (by decide +kernel) (pa_cons (pe_op op_mul (pe_op op_add (pe_op op_add (pv 3) (pe_ix ix_list (pv 0) pe_int (fun _ _ => rfl))) (pe_op op_fdivN (pe_ix ix_list (pv 0) pe_int (fun _ _ => rfl)) pe_int)) (pv 4)) pa_nil)) pe_int))
    (pss_one (ps_ret (pe_op op_modN (pe_callTy call_int1 (by rfl) M.int_ (by decide +kernel) (pa_cons (pe_op op_fdivN (pe_op op_modN (pe_callTy call_int1 (by rfl) M.int_ (by decide +kernel) (pa_cons (pe_op op_add (pe_op op_mul (pv 5) pe_int) (pv 3)) pa_nil)) pe_int) pe_int) pa_nil)) (pv 1))))))))), ?_⟩
  dsimp only [tSeq, tIfS]
  have st0 : ∀ (σ' : L2.St), σ'[0]? = some (some (.ref u)) → ∀ j z, [V.int a, .int b, .int c][j]? = some (.int z) → EvZ (tOp (rIxL K) (tVar 0) (tC (.int (j : Nat)))) σ' H z := fun σ' h j z e => ez_at h hu e
  refine et_cmp0 (i := a) (j := 0) (st0 _ rfl 0 a rfl) ez_c _ ?_
  by_cases ha : 0 < a
  · rw [decide_eq_true ha, if_pos rfl]
    dsimp only [tSeq, tAsg]
    refine ez_op (ez_int (st0 _ rfl 0 a rfl)) (ez_var (z := low) rfl) (show low ≠ 0 by omega) _ ?_
    refine tg_name (G := G) H i _ ?_
    dsimp only [tSeq, tAsg]
    refine ez_op (ez_at (j := 0) rfl hu rfl) (ez_var (z := low) rfl) (show CDivN a low from ⟨by omega, by omega⟩) _ ?_
    refine ⟨_, rfl, u, _, _, 0, rfl, rfl, hu, rfl, ?_⟩
    refine ⟨_, rfl, ?_⟩
    obtain ⟨f0, f1⟩ := fmod_in (a := a) l0
    exact q _ _ G _ ⟨low, a.fmod low, rfl, f0, f1, rfl⟩ (Gu.set i gu ⟨_, hu⟩) ⟨_, b, c, upd_same, b0, b1, c0, by omega⟩ (.int _) (fun e => by cases e)
  · rw [decide_eq_false ha, if_neg (by simp)]
    dsimp only [tSeq, tAsg, tNext]
    refine ez_op0 (st0 _ rfl 2 c rfl) ez_c _ ?_
    refine ⟨_, rfl, u, _, _, 2, rfl, rfl, hu, rfl, ?_⟩
    have hu2 : (upd H u (.lst [.int a, .int b, .int (c + 1)])) u = some (.lst [.int a, .int b, .int (c + 1)]) := upd_same
    have st1 : ∀ (σ' : L2.St), σ'[0]? = some (some (.ref u)) → ∀ j z, [V.int a, .int b, .int (c + 1)][j]? = some (.int z) → EvZ (tOp (rIxL K) (tVar 0) (tC (.int (j : Nat)))) σ' (upd H u (.lst [.int a, .int b, .int (c + 1)])) z := fun σ' h j z e => ez_at h hu2 e
    have i2 : Same G (upd H u (.lst [.int a, .int b, .int (c + 1)])) := same_mut i gu
    show tAsg _ _ _ _ (upd H u (.lst [.int a, .int b, .int (c + 1)]))
    dsimp only [tSeq, tAsg]
    refine ez_op (ez_int (ez_op (ez_op0 (st1 _ rfl 1 b rfl) (ez_op ez_c (st1 _ rfl 2 (c + 1) rfl) (.inl (by omega)))) (ez_op0 ez_c (st1 _ rfl 2 (c + 1) rfl)) (.inl (by omega)))) ez_c (by show (2147483647 : Int) ≠ 0; decide) _ ?_
    obtain ⟨o0, o1⟩ := fmod_in (a := (b + 48271 * (c + 1)) * (39373 + (c + 1))) (b := 2147483647) (by decide)
    generalize ((b + 48271 * (c + 1)) * (39373 + (c + 1))).fmod 2147483647 = once at *
    refine tg_name (G := G) _ i2 _ ?_
    dsimp only [tSeq, tAsg]
    refine ez_op0 (ez_op (ez_int (ez_var rfl)) ez_c (by show (40009 : Int) ≠ 0; decide)) ez_c _ ?_
    generalize once.fmod 40009 + 7 = far at *
    refine tg_name (G := G) _ i2 _ ?_
    dsimp only [tSeq, tAsg]
    have d1 : 0 ≤ b.fdiv 1000003 ∧ b.fdiv 1000003 ≤ b := by
      rw [Int.fdiv_eq_ediv_of_nonneg _ (by decide)]
      exact ⟨Int.ediv_nonneg b0 (by decide), Int.ediv_le_self _ b0⟩
    refine ez_op (ez_int (ez_op (ez_op0 (ez_op0 (ez_var rfl) (st1 _ rfl 2 (c + 1) rfl)) (ez_op (st1 _ rfl 1 b rfl) ez_c (show CDivN b 1000003 from ⟨by decide, by decide⟩))) (ez_var rfl) (.inl (by omega)))) ez_c (by show (2147483629 : Int) ≠ 0; decide) _ ?_
    obtain ⟨t0, t1⟩ := fmod_in (a := (once + (c + 1) + b.fdiv 1000003) * far) (b := 2147483629) (by decide)
    generalize ((once + (c + 1) + b.fdiv 1000003) * far).fmod 2147483629 = twice at *
    refine tg_name (G := G) _ i2 _ ?_
    dsimp only [tRet]
    refine ez_op (ez_int (ez_op (ez_op (ez_int (ez_op0 (ez_op (ez_var rfl) ez_c (.inl (by omega))) (ez_var rfl))) ez_c (by show (2147483587 : Int) ≠ 0; decide)) ez_c (show CDivN _ 64 from ⟨by decide, by decide⟩))) (ez_var (z := low) rfl) (show low ≠ 0 by omega) _ ?_
    generalize ((twice * 48271 + once).fmod 2147483587).fdiv 64 = last
    obtain ⟨f0, f1⟩ := fmod_in (a := last) l0
    exact q _ _ G _ ⟨low, last.fmod low, rfl, f0, f1, rfl⟩ (Gu.set i gu ⟨_, hu⟩) ⟨a, b, c + 1, upd_same, b0, b1, by omega, by omega⟩ (.int _) (fun e => by cases e)

/-! ### of -/
abbrev s_law_of : Stmt := top 22
abbrev N_law_of : List Str := ["_law_urn", "_law_some_so"]
theorem sc_law_of : FnScope N_law_of ["_law_urn", "_law_some_so"] (defScope s_law_of) := ⟨rfl, rfl, rfl, by decide +kernel, rfl, by decide +kernel, by decide +kernel⟩
def ROf (ds : List PyData) (d : PyData) : Prop := ∃ es, ds = [.list es] ∧ d ∈ es
def POf (ds : List PyData) : Prop := ∃ es, ds = [.list es] ∧ es ≠ [] ∧ es.length ≤ 100000
abbrev SpOf : Sp := SpU false 1 1 8000000 ROf POf
theorem ok_law_of (F : Fun K "_law_of" "_law_of" s_law_of f fd) (M : Mg mg tL tN) (c_law_take : Cal P w K mg base CX0 1 "_law_take" ["_law_urn", "_law_low_so"] SpTake) : FnOk P w K mg base CX0 2 f fd ["_law_urn", "_law_some_so"] SpOf := by
  refine F.ok sc_law_of (fun vs H Q E h => h.len) (fun cdv A outer s H vs Q E hr h => ?_)
  obtain ⟨u, rest, G, ds, n, rfl, hk, i, gu, un, hn, rs, ⟨es, rfl, e0, e1⟩, q⟩ := h
  obtain ⟨v, rfl, rv⟩ := one_arg rs
  refine ⟨_, (pss_one (ps_ret (pe_ix ix_list (pv 1) (pe_call c_law_take.ok (hr.mono (by decide)) (by rfl) c_law_take.m c_law_take.kp c_law_take.b .nil pass0 (pa_cons (pv 0) (pa_cons (pe_callB call_len_seq (by rfl) M.len (by decide +kernel) (pa_cons (pv 1) pa_nil)) pa_nil))) (fun _ _ => rfl)))), ?_⟩
  have el : 0 < es.length := List.length_pos_iff.mpr e0
  refine ⟨v, rfl, ?_⟩
  refine eu_call (R := RTake) (Pre := PTake) rfl (es_cons (ev_cb (es_cons (ev_var rfl rv) es_nil) cd_lenL) es_nil) ⟨es.length, rfl, by omega, by omega⟩ rfl i gu un (by omega) _ fun d v2 G2 H2 hd x2 u2 r2 _ => ?_
  obtain ⟨low, r, e, h0, h1, rfl⟩ := hd
  cases e
  cases r2.isInt
  obtain ⟨a, xs, rfl, g, rl⟩ := rv.isList
  have hj : r.toNat < es.length := by omega
  obtain ⟨z, hz, rz⟩ := rl.get (List.getElem?_eq_getElem hj)
  refine ⟨a, xs, r, z, rfl, rfl, .of (x2.i _ _ (x2.g _ _ g)), ?_, q _ z G2 H2 ⟨es, rfl, List.getElem_mem hj⟩ x2 u2 (rz.up x2.g) (fun e => by cases e)⟩
  have := atI_nat hz
  rw [show ((r.toNat : Nat) : Int) = r by omega] at this
  exact this

/-! ### mixed -/
theorem erase_map {α β : Type} (f : α → β) : ∀ (l : List α) (k : Nat), (l.map f).eraseIdx k = (l.eraseIdx k).map f
  | [], k => by simp
  | a :: l, 0 => by simp
  | a :: l, k + 1 => by simp [erase_map f l k]
theorem erase_perm {α : Type} : ∀ (l : List α) (k : Nat) (h : k < l.length), (l[k] :: l.eraseIdx k).Perm l
  | [], k, h => by simp at h
  | a :: l, 0, h => by simp
  | a :: l, k + 1, h => by
    have ih := erase_perm l k (by simpa using h)
    simp only [List.getElem_cons_succ, List.eraseIdx_cons_succ]
    exact (List.Perm.swap a _ _).trans (ih.cons a)
abbrev s_law_mixed : Stmt := top 25
abbrev N_law_mixed : List Str := ["_law_urn", "_law_pool", "_law_rest_so", "_law_found", "_law_turn"]
theorem sc_law_mixed : FnScope N_law_mixed ["_law_urn", "_law_pool"] (defScope s_law_mixed) := ⟨rfl, rfl, rfl, by decide +kernel, rfl, by decide +kernel, by decide +kernel⟩
def RMix (ds : List PyData) (d : PyData) : Prop := ∃ ss ps, ds = [.list (dStrs ss)] ∧ ps.Perm ss ∧ d = .list (dStrs ps)
def PMix (ds : List PyData) : Prop := ∃ ss, ds = [.list (dStrs ss)] ∧ ss.length ≤ 6
abbrev SpMix : Sp := SpU false 1 6 8000000 RMix PMix
theorem ok_law_mixed (F : Fun K "_law_mixed" "_law_mixed" s_law_mixed f fd) (M : Mg mg tL tN) (c_law_take : Cal P w K mg base CX0 1 "_law_take" ["_law_urn", "_law_low_so"] SpTake) : FnOk P w K mg base CX0 2 f fd ["_law_urn", "_law_pool"] SpMix := by
  refine F.ok sc_law_mixed (fun vs H Q E h => h.len) (fun cdv A outer s H vs Q E hr h => ?_)
  obtain ⟨u, rest, G, ds, n, rfl, hk, i, gu, un, hn, rs, ⟨ss, rfl, sl⟩, q⟩ := h
  obtain ⟨v, rfl, rv⟩ := one_arg rs
  refine ⟨_, (pss_cons (ps_par (i := 2) (j := 3) rfl sc_law_mixed.nd rfl rfl (by decide) rfl rfl (pa_cons (pe_callTy call_list_of (by rfl) M.list_ (by decide +kernel) (pa_cons (pv 1) pa_nil)) (pa_cons (pe_lst pa_nil) pa_nil)) rfl)
    (pss_cons (ps_for PassesOwn.never rfl (pi_range1 (by rfl) M.range (pa_cons (pe_callB call_len_seq (by rfl) M.len (by decide +kernel) (pa_cons (pv 1) pa_nil)) pa_nil)) (pg_name (i := 4) sc_law_mixed.nd rfl (.inl rfl)) (pss_one (ps_expr (pe_bm PySem.F.plainAttrs_list PySem.F.slot_list_append PySem.F.type_list_append mt_append (pv 3) (pa_cons (pe_bm PySem.F.plainAttrs_list PySem.F.slot_list_pop PySem.F.type_list_pop mt_popAt (pv 2) (pa_cons (pe_call c_law_take.ok (hr.mono (by decide)) (by rfl) c_law_take.m c_law_take.kp c_law_take.b .nil pass0 (pa_cons (pv 0) (pa_cons (pe_callB call_len_seq (by rfl) M.len (by decide +kernel) (pa_cons (pv 2) pa_nil)) pa_nil))) pa_nil)) pa_nil)))))
    (pss_one (ps_ret (pv 3))))), ?_⟩
  obtain ⟨a, xs, rfl, g, rl⟩ := rv.isList
  have ex := rl.strs
  subst ex
  refine ⟨_, rfl, a, _, rfl, .inl (.of (i _ _ g)), fun pR hR => ⟨show 0 ≤ sizeLine by decide, fun pF hF => ⟨_, _, rfl, ?_⟩⟩⟩
  have hF0 : H pF = none := by
    cases z : H pF with
    | none => rfl
    | some o =>
      by_cases c : pF = pR
      · subst c; rw [upd_same] at hF; cases hF
      · rw [upd_ne c, z] at hF; cases hF
  have pRF : pR ≠ pF := fun e => by rw [← e, upd_same] at hF; cases hF
  have uR : u ≠ pR := fun e => by rw [e] at un; obtain ⟨o, e2⟩ := un.at; rw [hR] at e2; cases e2
  have uF : u ≠ pF := fun e => by rw [e] at un; obtain ⟨o, e2⟩ := un.at; rw [hF0] at e2; cases e2
  let Iv : Nat → L2.St → Hp → Hp → Prop := fun j σ G' H' => ∃ (x4 : Option V) (rs fs : List Str), σ = [some (.ref u), some (.ref a), some (.ref pR), some (.ref pF), x4] ∧ Gu u G H G' H' ∧ G' pR = none ∧ G' pF = none ∧
    H' pR = some (.lst (rs.map V.str)) ∧ H' pF = some (.lst (fs.map V.str)) ∧ (fs ++ rs).Perm ss ∧ fs.length = j ∧ Ur H' u (n + j)
  have i2 : Same G (upd (upd H pR (.lst (ss.map V.str))) pF (.lst [])) := (same_mut i (i.free hR)).trans (same_new hF)
  dsimp only [tSeq]
  have aR : a ≠ pR := ne_of_none (i _ _ g) hR
  have aF : a ≠ pF := ne_of_none (i _ _ g) hF0
  have x0 : Gu u G H G (upd (upd H pR (.lst (ss.map V.str))) pF (.lst [])) :=
    ((Gu.refl i gu).mut hR (i.free hR) un.at).mut hF0 (i.free hF0) un.at
  have u0 : Ur (upd (upd H pR (.lst (ss.map V.str))) pF (.lst [])) u n := un.eq (by rw [upd_ne uF, upd_ne uR])
  refine for_ind (ds := ivs 0 ss.length) PyData.int ?_ Iv i2 (fun G4 H4 x4 => ?_) (fun Gs sGs j z hj σ' G4 H4 s4 i4 iv x G5 H5 x5 rx => ?_) (fun σ' G4 H4 s4 i4 iv => ?_)
  · have := ei_rng1 (σ := ((List.set (L2.start N_law_mixed [V.ref u, V.ref a]) 2 (some (V.ref pR))).set 3 (some (V.ref pF)))) (G := G) (n := ((dStrs ss).length : Nat)) (es_cons (ev_cb (es_cons (ev_var (i := 1) rfl rv) es_nil) (cd_lenL (K := K))) es_nil) (by omega) (by rw [strs_len]; omega)
    rw [Int.toNat_natCast, strs_len] at this
    exact this
  · refine ⟨none, ss, [], rfl, x0.trans (Gu.of x4 gu), x4.out (i.free hR) (by rw [upd_ne pRF]; exact upd_same), x4.out (i.free hF0) upd_same, x4.h _ _ (by rw [upd_ne pRF]; exact upd_same), x4.h _ _ upd_same, .refl _, rfl, ?_⟩
    obtain ⟨o, ho⟩ := u0.at
    exact (u0.eq (by rw [ho]; exact x4.h _ _ ho)).le (by omega)
  · obtain ⟨x4', rs', fs, rfl, xx, n1, n2, h1, h2, hp, hl, hu⟩ := iv
    have jl : j < ss.length := by
      have := (List.getElem?_eq_some_iff.mp hj).1
      rw [ivs_len] at this; exact this
    have rl' : 0 < rs'.length := by
      have := hp.length_eq
      rw [List.length_append] at this; omega
    refine tg_name (G := G5) H5 x5.i _ ?_
    dsimp only [tDrop]
    have m1 : G5 pR = none := x5.out n1 h1
    have m2 : G5 pF = none := x5.out n2 h2
    have k1 : H5 pR = some (.lst (rs'.map V.str)) := x5.h _ _ h1
    have k2 : H5 pF = some (.lst (fs.map V.str)) := x5.h _ _ h2
    have u5 : Ur H5 u (n + j) := by
      obtain ⟨o, ho⟩ := hu.at
      exact hu.eq (by rw [ho]; exact x5.h _ _ ho)
    have gu5 : G5 u = none := x5.out (xx.n2 un.at) hu.at.choose_spec
    have y5 := xx.trans (Gu.of x5 (xx.n2 un.at))
    refine ⟨_, rfl, .inl ⟨rfl, _, .of k2⟩, ?_⟩
    refine ⟨_, rfl, .inl ⟨rfl, _, .of k1⟩, ?_⟩
    refine eu_callR (R := RTake) (Pre := PTake) (ds := [.int (rs'.length : Nat)]) (G := G5) rfl (fun Q q => ⟨_, rfl, pR, _, rfl, .inl (.of k1), q _ G5 H5 (Gx.refl x5.i) (.cons (by rw [List.length_map]; exact .int _) .nil)⟩) ⟨_, rfl, by omega, ?_⟩ rfl x5.i gu5 u5 (by omega) _ fun d v2 G6 H6 hd x6 u6 r6 _ => ?_
    · have := hp.length_eq
      rw [List.length_append] at this; omega
    · obtain ⟨low, r, e, r0, r1, rfl⟩ := hd
      cases e
      cases r6.isInt
      have l1 : H6 pR = some (.lst (rs'.map V.str)) := x6.h _ _ uR.symm k1
      have l2 : H6 pF = some (.lst (fs.map V.str)) := x6.h _ _ uF.symm k2
      have hlt : r.toNat < rs'.length := by omega
      have er : ((r.toNat : Nat) : Int) = r := by omega
      have hk' : (rs'.map V.str)[r.toNat]? = some (.str rs'[r.toNat]) := by rw [List.getElem?_map, List.getElem?_eq_getElem hlt]; rfl
      have rs6 : rs'.length ≤ 6 := by
        have := hp.length_eq
        rw [List.length_append] at this; omega
      refine ⟨pR, _, r, r.toNat, _, rfl, rfl, l1, by omega, by omega, by rw [← er, List.length_map]; exact seqIx hlt, hk', ?_⟩
      refine ⟨pF, fs.map V.str, _, rfl, rfl, by rw [upd_ne pRF.symm]; exact l2, ?_, ?_⟩
      · have := hp.length_eq
        rw [List.length_append] at this
        have z3 : (100000 : Nat) < sizeLine := by decide
        rw [List.length_map]; omega
      · have g6R : G6 pR = none := by
          cases z : G6 pR with
          | none => rfl
          | some o => have := x6.f _ _ z m1; rw [k1] at this; cases this
        have g6F : G6 pF = none := by
          cases z : G6 pF with
          | none => rfl
          | some o => have := x6.f _ _ z m2; rw [k2] at this; cases this
        have y6 := y5.trans x6
        have y7 := (y6.mut (o := .lst ((rs'.map V.str).eraseIdx r.toNat)) hR g6R un.at).mut (o := .lst (fs.map V.str ++ [.str rs'[r.toNat]])) hF0 g6F un.at
        refine ⟨G6, s4.trans (x5.g.trans x6.g), y7.i, _, rs'.eraseIdx r.toNat, fs ++ [rs'[r.toNat]], rfl, y7, g6R, g6F, ?_, ?_, ?_, ?_, ?_⟩
        · rw [upd_ne pRF, upd_same, erase_map]
        · rw [upd_same, List.map_append]; rfl
        · rw [List.append_assoc]
          refine .trans (.append_left fs ?_) hp
          exact (erase_perm _ _ hlt)
        · rw [List.length_append, hl]; rfl
        · exact (u6.eq (by rw [upd_ne uF, upd_ne uR])).le (by omega)
  · obtain ⟨x4', rs', fs, rfl, xx, n1, n2, h1, h2, hp, hl, hu⟩ := iv
    rw [ivs_len] at hl hu
    have re : rs' = [] := by
      have := hp.length_eq
      rw [List.length_append, hl] at this
      exact List.eq_nil_of_length_eq_zero (by omega)
    subst re
    rw [List.append_nil] at hp
    exact ⟨_, rfl, q _ _ (upd G4 pF (.lst (fs.map V.str))) H4 ⟨ss, fs, rfl, hp, rfl⟩ (xx.pub hF0 n2 h2) (hu.le (by omega)) (.lst upd_same (Rps.ofStrs fs)) (fun e => by cases e)⟩
end K11
set_option Elab.async false
set_option linter.all false
set_option maxRecDepth 100000
set_option maxHeartbeats 4000000
set_option autoImplicit false
/-! K11Law2: comprehensions that draw; tags, names, under. -/
namespace K11
open PySem PySem.Spec PyProof.Rows L2 RZ
variable {P : Program} {w : World} {K : PySem.W.Frag} {mg : Str → Option Value} {base : Heap} {f : Addr} {fd : FuncData} {tL tN : Tok}
section
variable {σ : L2.St} {te ta tb : TE} {ts : TA} {G H G1 H1 G2 H2 G3 H3 H4 : Hp} {ds es : List PyData} {d e : PyData} {tt : TT} {u : Addr} {m n : Int}
/-- pairs that stand in S, place by place -/
inductive All2 {α β : Type} (S : α → β → Prop) : List α → List β → Prop
  | nil : All2 S [] []
  | snoc {as : List α} {bs : List β} {a : α} {b : β} : All2 S as bs → S a b → All2 S (as ++ [a]) (bs ++ [b])
theorem All2.len {α β : Type} {S : α → β → Prop} {as : List α} {bs : List β} (h : All2 S as bs) : as.length = bs.length := by
  induction h with
  | nil => rfl
  | snoc _ _ ih => rw [List.length_append, List.length_append, ih]; rfl
theorem All2.mem {α β : Type} {S : α → β → Prop} {as : List α} {bs : List β} (h : All2 S as bs) : ∀ b ∈ bs, ∃ a ∈ as, S a b := by
  induction h with
  | nil => intro b hb; cases hb
  | snoc _ hs ih =>
    intro b hb
    rcases List.mem_append.mp hb with hb | hb
    · obtain ⟨a, ha, h⟩ := ih b hb
      exact ⟨a, List.mem_append_left _ ha, h⟩
    · have := List.mem_singleton.mp hb
      subst this
      exact ⟨_, List.mem_append_right _ (List.mem_singleton.mpr rfl), hs⟩
def LcRest (J : It) (g : TG) (tt : TT) (te : TE) (vs : List Nat) (σ : L2.St) (H1 : Hp) (Q : VK) : Prop := ∀ D, H1 D = none → ∃ W : Nat → Nat → Hp → Prop, (∃ m, W 0 m (upd H1 D (.lst []))) ∧ ∀ i m H, W i m H →
      (J.stop i H ∧ Q (.ref D) H) ∨ (J.go i H ∧ ∃ Nx : Hp → Prop, (∀ H', Nx H' → ∃ m', m' < m ∧ W (i + 1) m' H') ∧ ∀ x H', J.yld i H x H' → g x (wipe σ vs) H' fun σ2 H2 => wipe σ2 vs = wipe σ vs ∧ tt σ2 H2 fun b H3 =>
        if b = true then te σ2 H3 fun y H4 => ∃ acc, H4 D = some (.lst acc) ∧ acc.length < sizeLine ∧ Nx (upd H4 D (.lst (acc ++ [y]))) else Nx H3)
theorem tlc_of {wi : TI} {g : TG} {vs : List Nat} {Q : VK} (C : It → Hp → Prop) (h : ∀ R : It → Hp → Prop, (∀ J H1, C J H1 → R J H1) → wi σ H R) (k : ∀ J H1, C J H1 → LcRest J g tt te vs σ H1 Q) : tLc wi g tt te vs σ H Q := h _ k
/-- a list made while the urn is drawn from -/
theorem lcU {α : Type} {J : It} {g : TG} {vs : List Nat} {as : List α} (D : α → PyData) (S : α → Option PyData → Prop) (w : Wk J G1 (as.map D)) (i1 : Same G1 H1) (gu : G1 u = none) (un : Ur H1 u n) (hm : 0 ≤ m) (hz : as.length ≤ 100000) {N : Int} (hN : n + m * as.length ≤ N)
    (hb : ∀ a ∈ as, ∀ G2 H2 x n', Same G1 G2 → Same G2 H2 → G2 u = none → Ur H2 u n' → n' + m ≤ N → Rp G2 x (D a) → ∃ σ2, Tg g x (wipe σ vs) G2 σ2 ∧ wipe σ2 vs = wipe σ vs ∧
      ∀ (Q1 : Hp → Prop) (Q2 : VK), (∀ G3 H3, S a none → Gu u G2 H2 G3 H3 → Ur H3 u (n' + m) → Q1 H3) → (∀ y v G3 H3, S a (some y) → Gu u G2 H2 G3 H3 → Ur H3 u (n' + m) → Rp G3 v y → Q2 v H3) → tt σ2 H2 fun b H3 => if b = true then te σ2 H3 Q2 else Q1 H3)
    (Q : VK) (q : ∀ ys v G2 H2, All2 S as ys → Gu u G1 H1 G2 H2 → Ur H2 u (n + m * as.length) → Rp G2 v (.list (ys.filterMap id)) → Q v H2) :
    LcRest J g tt te vs σ H1 Q := fun C hC => by
  have gC : G1 C = none := i1.free hC
  have uC : u ≠ C := fun e => by rw [e] at un; obtain ⟨o, e2⟩ := un.at; rw [hC] at e2; cases e2
  let Iv : Nat → Hp → Prop := fun i H => ∃ G' acc ys, Gu u G1 H1 G' H ∧ G' C = none ∧ H C = some (.lst acc) ∧ All2 S (as.take i) ys ∧ Rps G' acc (ys.filterMap id) ∧ Ur H u (n + m * i)
  refine ⟨fun i k H => i + k = as.length ∧ Iv i H, ⟨as.length, by omega, G1, [], [], (Gu.refl i1 gu).mut hC gC un.at, gC, upd_same, .nil, .nil, (un.eq (upd_ne uC)).le (by simp)⟩, fun i k H hW => ?_⟩
  obtain ⟨ek, G', acc, ys, gx, nD, hd, al, rs, hu⟩ := hW
  have yl : acc.length ≤ as.length := by
    rw [rs.len]
    refine Nat.le_trans (List.length_filterMap_le ..) ?_
    rw [← al.len, List.length_take]; omega
  by_cases hlt : i < as.length
  · have hlt' : i < (as.map D).length := by rw [List.length_map]; exact hlt
    refine .inr ⟨w.go i H (gx.g.trans gx.i) hlt', Iv (i + 1), fun H' hN => ⟨k - 1, by omega, by omega, hN⟩, fun x H' hy => ?_⟩
    obtain ⟨d, hdd, G2, gx2, rx⟩ := (w.up gx.g).yld i H x H' gx.i hlt' hy
    obtain ⟨a, ha, rfl⟩ := at_map hdd
    have gu' : G' u = none := gx.n2 un.at
    have hu2 : Ur H' u (n + m * i) := hu.eq (by obtain ⟨o, ho⟩ := hu.at; rw [ho]; exact gx2.h _ _ ho)
    have n2 : G2 C = none := gx2.out nD hd
    have d2 : H' C = some (.lst acc) := gx2.h _ _ hd
    have gu2 : G2 u = none := by
      obtain ⟨o, ho⟩ := hu.at
      exact gx2.out gu' ho
    have eN : n + m * i + m ≤ N := by
      have h1 : m * ((i : Int) + 1) ≤ m * as.length := Int.mul_le_mul_of_nonneg_left (by omega) hm
      rw [Int.mul_add, Int.mul_one] at h1
      omega
    have em : n + m * ((i + 1 : Nat) : Int) = n + m * i + m := by push_cast; rw [Int.mul_add, Int.mul_one]; omega
    obtain ⟨σ2, tg, wp, hh⟩ := hb a (List.mem_of_getElem? ha) G2 H' x _ (gx.g.trans gx2.g) gx2.i gu2 hu2 eN rx
    have y2 : Gu u G1 H1 G2 H' := gx.trans (Gu.of gx2 gu')
    refine tg H' gx2.i _ ⟨wp, hh _ _ (fun G3 H3 hs gx3 hu3 => ?_) fun y v G3 H3 hs gx3 hu3 rv => ?_⟩
    · have n3 : G3 C = none := by
        cases z : G3 C with
        | none => rfl
        | some o => have := gx3.f _ _ z n2; rw [d2] at this; cases this
      refine ⟨G3, acc, ys ++ [none], y2.trans gx3, n3, gx3.h _ _ uC.symm d2, ?_, ?_, em ▸ hu3⟩
      · rw [take_snoc ha]; exact .snoc al hs
      · rw [List.filterMap_append]; simp; exact rs.up (gx2.g.trans gx3.g)
    · have n3 : G3 C = none := by
        cases z : G3 C with
        | none => rfl
        | some o => have := gx3.f _ _ z n2; rw [d2] at this; cases this
      refine ⟨acc, gx3.h _ _ uC.symm d2, Nat.lt_of_le_of_lt (Nat.le_trans yl hz) (by decide), G3, acc ++ [v], ys ++ [some y], (y2.trans gx3).mut hC n3 un.at, n3, upd_same, ?_, ?_, em ▸ hu3.eq (upd_ne uC)⟩
      · rw [take_snoc ha]; exact .snoc al hs
      · rw [List.filterMap_append]; exact (rs.up (gx2.g.trans gx3.g)).snoc rv
  · have ei : i = as.length := by omega
    subst ei
    rw [List.take_length] at al
    have le : (as.map D).length = as.length := List.length_map ..
    exact .inl ⟨le ▸ w.stop H (gx.g.trans gx.i), q ys (.ref C) (upd G' C (.lst acc)) H al (gx.pub hC nD hd) hu (.lst upd_same (rs.up (same_new nD)))⟩
end
def rJn (K : PySem.W.Frag) : V → List V → Hp → VK → Prop := fun x xs H Q => ∃ a p, ∃ ys : List Str, x = .str a ∧ xs = [.ref p] ∧ (SqL K H p (ys.map V.str) ∨ SqT K H p (ys.map V.str)) ∧ (ys.map (·.length)).sum + ys.length * a.length ≤ 16777216 ∧ Q (.str (Txt.join a ys)) H
theorem pe_jn {X : Cx} {o e : Expr} {to te : TE} {apos pos : Pos} (hK : X.K = K) (ho : PE X o to) (he : PE X e te) (hs : starEach [e] X.env = [(false, eval e X.env)] := by rfl) (hbase : attributeBase o "join" X.env (eval o X.env) = eval o X.env := by rfl) (hline : (apos.endLine == pos.line) = true := by rfl) :
    PE X (.Call (.Attribute o "join" apos) [e] [] pos) (tM1 (rJn K) to te) := by
  subst hK
  exact pe_join ho he hs hbase hline
theorem ev_jn {σ : L2.St} {G : Hp} {to te : TE} {a : Str} {ys : List Str} (h1 : EvD to σ G (.str a)) (h2 : EvD te σ G (.list (dStrs ys))) (hz : (ys.map (·.length)).sum + ys.length * a.length ≤ 100000) : EvD (tM1 (rJn K) to te) σ G (.str (Txt.join a ys)) := fun H i Q q =>
  h1 H i _ fun v G2 H2 x r => ⟨⟨a, r.isStr⟩, (h2.up x.g) H2 x.i _ fun v2 G3 H3 x3 r3 => by
    obtain ⟨p, xs, rfl, g, rs⟩ := r3.isList
    rw [rs.strs] at g
    exact ⟨a, p, ys, r.isStr, rfl, .inl (.of (x3.i _ _ g)), Nat.le_trans hz (by decide), q _ G3 H3 (x.trans x3) (.str _)⟩⟩
/-! ### words -/
def mk (L : List Nat) : Str := ⟨L.toArray⟩
theorem mk_len (L : List Nat) : (mk L).length = L.length := List.size_toArray
theorem mk_list (L : List Nat) : (mk L).cps.toList = L := rfl
theorem mk_inj {L M : List Nat} (h : mk L = mk M) : L = M := by
  have := congrArg (fun s : Str => s.cps.toList) h
  exact this
theorem mk_add (L M : List Nat) : mk L ++ mk M = mk (L ++ M) := str_ext (by show (L.toArray ++ M.toArray).toList = (L ++ M).toArray.toList; simp)
def abc : List Nat := letters.cps.toList
theorem name_mk {L : List Nat} (h1 : 1 ≤ L.length) (h2 : L.length ≤ 8) (h : ∀ c ∈ L, c ∈ abc) : isNameB (mk L) = true := by
  unfold isNameB
  rw [mk_len, Bool.and_eq_true, decide_eq_true_eq]
  exact ⟨⟨h1, h2⟩, List.all_eq_true.mpr fun c hc => decide_eq_true (h c hc)⟩

def sg (c : Nat) : Str := ⟨#[c]⟩
theorem join0 : ∀ L : List Nat, Txt.join "" (L.map sg) = mk L := fun L => by
  show Builtin.Str.glued "" (L.map sg) = _
  rw [StrLaws.glued_eq_join]
  induction L with
  | nil => rfl
  | cons c L ih =>
    cases L with
    | nil => rfl
    | cons c' L =>
      show sg c ++ "" ++ Str.join "" ((c' :: L).map sg) = _
      rw [ih]
      exact str_ext (by show ((#[c] ++ #[]) ++ (c' :: L).toArray).toList = _; simp [mk])
theorem sg_sum (L : List Nat) : ((L.map sg).map (·.length)).sum = L.length := by
  induction L with
  | nil => rfl
  | cons c L ih => rw [List.map_cons, List.map_cons, List.sum_cons, ih, List.length_cons]; show 1 + _ = _; omega
theorem cut_mk_to (S : List Nat) (k : Nat) : cutS (mk S) none (some (k : Int)) = mk (S.take k) := by
  rw [← cut_to]
  unfold cutS cut
  rw [mk_len, mk_list]; rfl
theorem cut_mk_from (S : List Nat) (k : Nat) : cutS (mk S) (some (k : Int)) none = mk (S.drop k) := by
  rw [← cut_from]
  unfold cutS cut
  rw [mk_len, mk_list]; rfl
def letA (i : Int) : Nat := abc.getD i.toNat 0
theorem letA_at {i : Int} (h0 : 0 ≤ i) (h1 : i < 26) : letters.cps.toList[i.toNat]? = some (letA i) ∧ letA i ∈ abc := by
  have h : i.toNat < abc.length := by
    have : abc.length = 26 := by decide +kernel
    omega
  have e : letA i = abc[i.toNat] := by unfold letA; rw [List.getD_eq_getElem?_getD, List.getElem?_eq_getElem h]; rfl
  rw [e]
  exact ⟨List.getElem?_eq_getElem h, List.getElem_mem h⟩
/-- the eight signs of a row -/
def rowC (first by_ : Int) : List Nat := (ivs 0 8).map fun k => letA ((first + by_ * k).fmod 26)
theorem rowC_ok : ∀ f : Fin 26, ∀ b ∈ [(1 : Int), 3, 7, 11, 25], (rowC (f.val : Int) b).Nodup := by decide +kernel
theorem rowC_nd {f b : Int} (h0 : 0 ≤ f) (h1 : f < 26) (hb : b ∈ [(1 : Int), 3, 7, 11, 25]) : (rowC f b).Nodup := by
  have := rowC_ok ⟨f.toNat, by omega⟩ b hb
  rw [show ((f.toNat : Nat) : Int) = f by omega] at this
  exact this
theorem rowC_len (f b : Int) : (rowC f b).length = 8 := by unfold rowC; rw [List.length_map, ivs_len]
theorem rowC_abc (f b : Int) : ∀ c ∈ rowC f b, c ∈ abc := fun c hc => by
  obtain ⟨k, _, rfl⟩ := List.mem_map.mp hc
  obtain ⟨h0, h1⟩ := fmod_in (a := f + b * k) (b := 26) (by decide)
  exact (letA_at h0 h1).2
theorem ivs_mem {n : Nat} {k : Int} (h : k ∈ ivs 0 n) : 0 ≤ k ∧ k < n := by
  unfold ivs at h
  obtain ⟨j, hj, rfl⟩ := List.mem_map.mp h
  have := List.mem_range.mp hj
  omega
theorem ivs_nd (n : Nat) : (ivs 0 n).Nodup := by
  unfold ivs
  refine List.pairwise_map.mpr (List.nodup_range.imp fun {a b} h e => h (by omega))
/-- the tags of a row, one sign more each time -/
def tagsA (cs : List Nat) (many : Nat) : List Str := (ivs 0 many).map fun k => mk (cs.take (k + 1).toNat)
/-- the tags about a stem -/
def tagsB (S : List Nat) (a : Nat) (cs : List Nat) (many : Nat) : List Str := (ivs 0 many).map fun k => mk (S.take a ++ [cs.getD k.toNat 0] ++ S.drop a)
structure TagsOk (many : Nat) (ts : List Str) : Prop where
  len : ts.length = many
  nd : ts.Nodup
  nm : ∀ s ∈ ts, isNameB s = true
theorem tagsA_ok {cs : List Nat} {many : Nat} (hl : cs.length = 8) (ha : ∀ c ∈ cs, c ∈ abc) (hm : many ≤ 6) : TagsOk many (tagsA cs many) := by
  refine ⟨by unfold tagsA; rw [List.length_map, ivs_len], ?_, fun s hs => ?_⟩
  · unfold tagsA
    refine List.pairwise_map.mpr (List.Pairwise.imp_of_mem (fun {a b} h1 h2 n e => n ?_) (ivs_nd many))
    have := congrArg List.length (mk_inj e)
    rw [List.length_take, List.length_take, hl] at this
    have := ivs_mem h1
    have := ivs_mem h2
    omega
  · obtain ⟨k, hk, rfl⟩ := List.mem_map.mp hs
    have := ivs_mem hk
    exact name_mk (by rw [List.length_take, hl]; omega) (by rw [List.length_take, hl]; omega) fun c hc => ha c (List.mem_of_mem_take hc)
theorem tagsB_ok {S cs : List Nat} {many a : Nat} (hl : cs.length = 8) (nd : cs.Nodup) (ha : ∀ c ∈ cs, c ∈ abc) (hS : S.length ≤ 7) (hSa : ∀ c ∈ S, c ∈ abc) (hm : many ≤ 6) (hat : a ≤ S.length) : TagsOk many (tagsB S a cs many) := by
  have g : ∀ k : Int, 0 ≤ k → k < many → ∃ h : k.toNat < cs.length, cs.getD k.toNat 0 = cs[k.toNat] := fun k h0 h1 => by
    have h : k.toNat < cs.length := by omega
    exact ⟨h, by rw [List.getD_eq_getElem?_getD, List.getElem?_eq_getElem h]; rfl⟩
  refine ⟨by unfold tagsB; rw [List.length_map, ivs_len], ?_, fun s hs => ?_⟩
  · unfold tagsB
    refine List.pairwise_map.mpr (List.Pairwise.imp_of_mem (fun {x y} h1 h2 n e => n ?_) (ivs_nd many))
    have e2 := mk_inj e
    rw [List.append_assoc, List.append_assoc] at e2
    have e3 := List.append_cancel_left e2
    have e4 := (List.cons.inj e3).1
    obtain ⟨x0, x1⟩ := ivs_mem h1
    obtain ⟨y0, y1⟩ := ivs_mem h2
    obtain ⟨hx, ex⟩ := g x x0 x1
    obtain ⟨hy, ey⟩ := g y y0 y1
    rw [ex, ey] at e4
    have := (List.getElem_inj nd).mp e4
    omega
  · obtain ⟨k, hk, rfl⟩ := List.mem_map.mp hs
    obtain ⟨k0, k1⟩ := ivs_mem hk
    obtain ⟨hx, ex⟩ := g k k0 k1
    rw [ex]
    refine name_mk ?_ ?_ fun c hc => ?_
    · rw [List.length_append, List.length_append, List.length_singleton]; omega
    · rw [List.length_append, List.length_append, List.length_take, List.length_drop, List.length_singleton]; omega
    · rcases List.mem_append.mp hc with hc | hc
      · rcases List.mem_append.mp hc with hc | hc
        · exact hSa c (List.mem_of_mem_take hc)
        · have := List.mem_singleton.mp hc
          subst this
          exact ha _ (List.getElem_mem hx)
      · exact hSa c (List.mem_of_mem_drop hc)
theorem all2_signs {as : List Int} {ys : List (Option PyData)} (h : All2 (fun _ o => ∃ c ∈ abc, o = some (.str (sg c))) as ys) : ∃ S : List Nat, S.length = as.length ∧ (∀ c ∈ S, c ∈ abc) ∧ ys.filterMap id = dStrs (S.map sg) := by
  induction h with
  | nil => exact ⟨[], rfl, fun c hc => (by cases hc), rfl⟩
  | snoc _ hs ih =>
    obtain ⟨S, h1, h2, h3⟩ := ih
    obtain ⟨c, hc, rfl⟩ := hs
    refine ⟨S ++ [c], by rw [List.length_append, List.length_append, h1]; rfl, fun c' hc' => ?_, ?_⟩
    · rcases List.mem_append.mp hc' with h | h
      · exact h2 c' h
      · rw [List.mem_singleton.mp h]; exact hc
    · rw [List.filterMap_append, h3]; unfold dStrs; simp

/-! ### tags -/
theorem ev_is_i {σ : L2.St} {G : Hp} {wi : TI} {ds es : List PyData} (h : EvI wi σ G ds) (e : ds = es) : EvI wi σ G es := e ▸ h
abbrev s_law_tags : Stmt := top 26
abbrev N_law_tags : List Str := ["_law_urn", "_law_many_so", "_law_signs", "_law_first_so", "_law_by_so", "_law_row_so", "_law_k", "_law_stem", "_law_turn", "_law_at_so"]
theorem sc_law_tags : FnScope N_law_tags ["_law_urn", "_law_many_so"] (defScope s_law_tags) := ⟨rfl, rfl, rfl, by decide +kernel, rfl, by decide +kernel, by decide +kernel⟩
def RTags (ds : List PyData) (d : PyData) : Prop := ∃ (many : Nat) (ts : List Str), ds = [.int many] ∧ TagsOk many ts ∧ d = .list (dStrs ts)
def PTags (ds : List PyData) : Prop := ∃ many : Nat, ds = [.int many] ∧ many ≤ 6
abbrev SpTags : Sp := SpU false 1 12 7000000 RTags PTags
theorem TagsOk.perm {many : Nat} {ts us : List Str} (h : TagsOk many ts) (p : us.Perm ts) : TagsOk many us := ⟨p.length_eq.trans h.len, p.symm.nodup h.nd, fun s hs => h.nm s (p.subset hs)⟩
theorem ok_law_tags (F : Fun K "_law_tags" "_law_tags" s_law_tags f fd) (M : Mg mg tL tN) (c_law_take : Cal P w K mg base CX0 1 "_law_take" ["_law_urn", "_law_low_so"] SpTake) (c_law_of : Cal P w K mg base CX0 2 "_law_of" ["_law_urn", "_law_some_so"] SpOf) :
    FnOk P w K mg base CX0 3 f fd ["_law_urn", "_law_many_so"] SpTags := by
  refine F.ok sc_law_tags (fun vs H Q E h => h.len) (fun cdv A outer s H vs Q E hr h => ?_)
  obtain ⟨u, rest, G, ds, n, rfl, hk, i, gu, un, hn, rs, ⟨many, rfl, hm⟩, q⟩ := h
  obtain ⟨v, rfl, rv⟩ := one_arg rs
  cases rv.isInt
  refine ⟨_, (pss_cons (ps_set (i := 2) sc_law_tags.nd rfl (.inr rfl) pe_str)
    (pss_cons (ps_asg (pe_tup (pa_cons (pe_call c_law_take.ok (hr.mono (by decide)) (by rfl) c_law_take.m c_law_take.kp c_law_take.b .nil pass0 (pa_cons (pv 0) (pa_cons pe_int pa_nil))) (pa_cons (pe_call c_law_of.ok (hr.mono (by decide)) (by rfl) c_law_of.m c_law_of.kp c_law_of.b .nil pass0 (pa_cons (pv 0) (pa_cons (pe_lst (pa_cons pe_int (pa_cons pe_int (pa_cons pe_int (pa_cons pe_int (pa_cons pe_int pa_nil)))))) pa_nil))) pa_nil))) (pg_tup rfl (pgs_cons (pg_name (i := 3) sc_law_tags.nd rfl (.inr rfl)) (pgs_cons (pg_name (i := 4) sc_law_tags.nd rfl (.inr rfl)) pgs_nil))))
    (pss_cons (ps_set (i := 5) sc_law_tags.nd rfl (.inr rfl) (pe_lc (own := [("_law_k", 6)]) (g := gName 6) (tt := tYes) rfl sc_law_tags.nd (pi_range1 (by rfl) M.range (pa_cons (pe_callB (call_max2 rfl) (by rfl) M.max_ (by decide +kernel) (pa_cons pe_int (pa_cons (pv 1) pa_nil))) pa_nil)) (blkOk_by (N := N_law_tags) (sc := defScope s_law_tags) (by decide +kernel)) (fun _ _ _ _ _ => (pg_name (i := 6) sc_law_tags.nd rfl (.inl rfl))) (fun _ _ _ _ _ => pts_nil) (fun _ _ _ _ _ => (pe_ix ix_str (pv 2) (pe_op op_modN (pe_callTy call_int1 (by rfl) M.int_ (by decide +kernel) (pa_cons (pe_op op_add (pv 3) (pe_op op_mul (pv 4) (pv 6))) pa_nil)) pe_int) (fun _ _ => rfl)))))
    (pss_cons (ps_if (PW.pt (pw_and (pt_cmpR op_lt (pv 1) pe_int (nomark _)) (pw_and1 (pt_cmpR op_eq (pe_call c_law_take.ok (hr.mono (by decide)) (by rfl) c_law_take.m c_law_take.kp c_law_take.b .nil pass0 (pa_cons (pv 0) (pa_cons pe_int pa_nil))) pe_int (nomark _))))) (pss_one (ps_ret (pe_callB (cr_sortD hr.units) (by rfl) M.sorted (by decide +kernel) (pa_cons (pe_lc (own := [("_law_k", 6)]) (g := gName 6) (tt := tYes) rfl sc_law_tags.nd (pi_range1 (by rfl) M.range (pa_cons (pv 1) pa_nil)) (blkOk_by (N := N_law_tags) (sc := defScope s_law_tags) (by decide +kernel)) (fun _ _ _ _ _ => (pg_name (i := 6) sc_law_tags.nd rfl (.inl rfl))) (fun _ _ _ _ _ => pts_nil) (fun _ _ _ _ _ => (pe_jn (K := K) rfl pe_str (pe_slice (r := (rSlL K)) sl_list (pv 5) po_none (po_some (pe_op op_add (pv 6) pe_int)))))) pa_nil)))) pss_nil)
    (pss_cons (ps_set (i := 7) sc_law_tags.nd rfl (.inr rfl) (pe_jn (K := K) rfl pe_str (pe_lc (own := [("_law_turn", 8)]) (g := gName 8) (tt := tYes) rfl sc_law_tags.nd (pi_range1 (by rfl) M.range (pa_cons (pe_call c_law_of.ok (hr.mono (by decide)) (by rfl) c_law_of.m c_law_of.kp c_law_of.b .nil pass0 (pa_cons (pv 0) (pa_cons (pe_lst (pa_cons pe_int (pa_cons pe_int (pa_cons pe_int (pa_cons pe_int (pa_cons pe_int pa_nil)))))) pa_nil))) pa_nil)) (blkOk_by (N := N_law_tags) (sc := defScope s_law_tags) (by decide +kernel)) (fun _ _ _ _ _ => (pg_name (i := 8) sc_law_tags.nd rfl (.inl rfl))) (fun _ _ _ _ _ => pts_nil) (fun _ _ _ _ _ => (pe_ix ix_str (pv 2) (pe_call c_law_take.ok (hr.mono (by decide)) (by rfl) c_law_take.m c_law_take.kp c_law_take.b .nil pass0 (pa_cons (pv 0) (pa_cons pe_int pa_nil))) (fun _ _ => rfl))))))
    (pss_cons (ps_set (i := 9) sc_law_tags.nd rfl (.inr rfl) (pe_call c_law_take.ok (hr.mono (by decide)) (by rfl) c_law_take.m c_law_take.kp c_law_take.b .nil pass0 (pa_cons (pv 0) (pa_cons (pe_op op_add (pe_callB call_len_str (by rfl) M.len (by decide +kernel) (pa_cons (pv 7) pa_nil)) pe_int) pa_nil))))
    (pss_one (ps_ret (pe_callB (cr_sortD hr.units) (by rfl) M.sorted (by decide +kernel) (pa_cons (pe_lc (own := [("_law_k", 6)]) (g := gName 6) (tt := tYes) rfl sc_law_tags.nd (pi_range1 (by rfl) M.range (pa_cons (pv 1) pa_nil)) (blkOk_by (N := N_law_tags) (sc := defScope s_law_tags) (by decide +kernel)) (fun _ _ _ _ _ => (pg_name (i := 6) sc_law_tags.nd rfl (.inl rfl))) (fun _ _ _ _ _ => pts_nil) (fun _ _ _ _ _ => (pe_op op_add_str (pe_op op_add_str (pe_slice sl_str (pv 7) po_none (po_some (pv 9))) (pe_ix (r := (rIxL K)) ix_list (pv 5) (pv 6) (fun _ _ => rfl))) (pe_slice sl_str (pv 7) (po_some (pv 9)) po_none)))) pa_nil)))))))))), ?_⟩
  refine tg_name (G := G) H i _ ?_
  dsimp only [tSeq, tAsg]
  refine eu_call (R := RTake) (Pre := PTake) rfl (es_cons ev_int es_nil) ⟨26, rfl, by omega, by omega⟩ rfl i gu un (by omega) _ fun d1 v1 G1 H1 h1 x1 u1 r1 _ => ?_
  obtain ⟨_, first, e, f0, f1, rfl⟩ := h1
  cases e
  cases r1.isInt
  have gu1 := x1.n2 un.at
  refine eu_call (R := ROf) (Pre := POf) rfl (es_cons (ev_lst (es_cons ev_int (es_cons ev_int (es_cons ev_int (es_cons ev_int (es_cons ev_int es_nil))))) (show 5 ≤ 100000 by decide)) es_nil) ⟨_, rfl, by simp, show 5 ≤ 100000 by decide⟩ rfl x1.i gu1 u1 (by omega) _ fun d2 v2 G2 H2 h2 x2 u2 r2 _ => ?_
  obtain ⟨es, e, hes⟩ := h2
  cases e
  obtain ⟨by_, hby, rfl⟩ : ∃ b : Int, b ∈ [(1 : Int), 3, 7, 11, 25] ∧ d2 = .int b := by
    simp only [List.mem_cons, List.not_mem_nil, or_false] at hes
    rcases hes with rfl | rfl | rfl | rfl | rfl <;> exact ⟨_, by decide, rfl⟩
  cases r2.isInt
  have gu2 := x2.n2 u1.at
  have y2 := x1.trans x2
  refine ⟨show 2 ≤ sizeLine by decide, fun p hp => ⟨p, _, rfl, .inl (.inl upd_same), rfl, ?_⟩⟩
  have x3 : Gx G2 H2 G2 (upd H2 p (.tup [.int first, .int by_])) := Gx.grow x2.i (same_new hp)
  have u3 : Ur (upd H2 p (.tup [.int first, .int by_])) u (n + 1 + 1) := u2.eq (upd_ne (fun e => by rw [e] at u2; obtain ⟨o, e2⟩ := u2.at; rw [hp] at e2; cases e2))
  have y3 := y2.trans (Gu.of x3 gu2)
  generalize (upd H2 p (.tup [.int first, .int by_])) = H3 at *
  refine tgs_cons tg_name (tgs_cons tg_name tgs_nil) (G := G2) _ x3.i _ ?_
  dsimp only [tSeq, tAsg]
  have e8 : (if (many : Int) > 8 then (many : Int) else 8) = 8 := if_neg (by omega)
  refine ev_is (f := .list (dStrs ((rowC first by_).map sg))) (ev_lcB PyData.int (fun k => .str (sg (letA ((first + by_ * k).fmod 26)))) (as := ivs 0 8) (ev_is_i (ei_rng1 (es_cons (ev_cb (es_cons ev_int (es_cons (ev_var rfl (.int _)) es_nil)) cd_max2) es_nil) (by omega) (by omega)) (by rw [e8]; rfl)) (by rw [ivs_len]; decide) fun k hk' G4 y s4 ry => ?_) ?_ H3 x3.i _ fun v5 G5 H5 x5 r5 => ?_
  · cases ry.isInt
    obtain ⟨g0, g1⟩ := fmod_in (a := first + by_ * k) (b := 26) (by decide)
    exact ⟨_, tg_name, rfl, ev_op (ev_var rfl (.str letters)) (ev_op (ev_cb (es_cons (ev_op (ev_var rfl (.int _)) (ev_op (ev_var rfl (.int _)) (ev_var rfl (.int _)) (od_mul (.inl (by simp only [List.mem_cons, List.not_mem_nil, or_false] at hby; omega)))) od_add) es_nil) cd_intI) ev_int (od_modN (by decide))) (od_ixS (j := ((first + by_ * k).fmod 26).toNat) (by omega) (letA_at g0 g1).1 (by decide +kernel))⟩
  · unfold rowC dStrs; rw [List.map_map, List.map_map]; rfl
  have gu5 := x5.out gu2 u3.at.choose_spec
  have u5 : Ur H5 u (n + 1 + 1) := u3.eq (by rw [u3.at.choose_spec]; exact x5.h _ _ u3.at.choose_spec)
  have y5 := y3.trans (Gu.of x5 gu2)
  refine tg_name (G := G5) H5 x5.i _ ?_
  dsimp only [tSeq, tIfS]
  have rl : ((rowC first by_).map sg).length = 8 := by rw [List.length_map, rowC_len]
  have fin : ∀ ts : List Str, TagsOk many ts → ∀ (te : TE) (σ' : L2.St) (G' H' : Hp), Gu u G H G' H' → Ur H' u (n + 12) → EvD te σ' G' (.list (dStrs ts)) → tCB (rSortD K) (tCons te tNil) σ' H' Q := fun ts ok te σ' G' H' y un' ev => by
    refine ev_cb (es_cons ev es_nil) (cd_sortS (.inl rfl) (by rw [ok.len]; omega)) H' y.i _ fun v9 G9 H9 x9 r9 => ?_
    exact q _ v9 G9 H9 ⟨many, msort ts, rfl, ok.perm (msort_perm ts), rfl⟩ (y.trans (Gu.of x9 (y.n2 un.at))) (un'.eq (by rw [un'.at.choose_spec]; exact x9.h _ _ un'.at.choose_spec)) r9 (fun e => by cases e)
  refine eb_test (b := true) (ev_is (ev_op (ev_var rfl (.int _)) ev_int od_lt) (by rw [decide_eq_true (show (many : Int) < 9 by omega)])) H5 x5.i _ fun H6 s6 => ?_
  have x6 : Gx G5 H5 G5 H6 := Gx.grow x5.i s6
  have y6 := y5.trans (Gu.of x6 gu5)
  have u6 : Ur H6 u (n + 1 + 1) := u5.eq (by rw [u5.at.choose_spec]; exact x6.h _ _ u5.at.choose_spec)
  rw [if_pos rfl]
  refine eu_call (R := RTake) (Pre := PTake) (G := G5) rfl (es_cons ev_int es_nil) ⟨4, rfl, by omega, by omega⟩ rfl x6.i gu5 u6 (by omega) _ fun d7 v7 G7 H7 h7 x7 u7 r7 _ => ?_
  obtain ⟨_, z, e, z0, z1, rfl⟩ := h7
  cases e
  cases r7.isInt
  have y7 := y6.trans x7
  have gu7 := x7.n2 u6.at
  refine ⟨rfl, _, rfl, ?_⟩
  by_cases hz : V.int z = V.int 0
  · rw [decide_eq_true hz]
    dsimp only
    rw [if_pos rfl]
    dsimp only [tRet]
    refine fin (tagsA (rowC first by_) many) (tagsA_ok (rowC_len _ _) (rowC_abc _ _) hm) _ _ G7 H7 y7 (u7.le (by omega)) ?_
    refine ev_is (ev_lcB PyData.int (fun k => .str (mk ((rowC first by_).take (k + 1).toNat))) (as := ivs 0 many) (ev_is_i (ei_rng1 (es_cons (ev_var rfl (.int _)) es_nil) (by omega) (by omega)) (by rw [Int.toNat_natCast])) (by rw [ivs_len]; omega) fun k hk' G8 y s8 ry => ?_) ?_
    · cases ry.isInt
      obtain ⟨k0, k1⟩ := ivs_mem hk'
      have e1 : (k + 1) = (((k + 1).toNat : Nat) : Int) := by omega
      refine ⟨_, tg_name, rfl, ev_is (ev_jn (ys := ((rowC first by_).take (k + 1).toNat).map sg) ev_str (ev_is (ev_sl (ev_var rfl (r5.up (x7.g.trans s8))) eo_none (eo_some (ev_op (ev_var rfl (.int k)) ev_int od_add)) sd_list) ?_) ?_) ?_⟩
      · rw [e1, cut_to, ← e1]; unfold dStrs; rw [List.map_take, List.map_take]
      · rw [sg_sum, List.length_map, List.length_take, rowC_len]
        show _ + _ * 0 ≤ _
        omega
      · rw [join0]
    · unfold dStrs tagsA; rw [List.map_map]; rfl
  · rw [decide_eq_false hz]
    dsimp only
    rw [if_neg (by simp)]
    dsimp only [tNext, tSeq, tAsg]
    refine ⟨⟨_, rfl⟩, ?_⟩
    refine tlc_of (fun J H8 => ∃ (j : Int) (G8 : Hp), 0 ≤ j ∧ j ≤ 7 ∧ J = Itr 0 j.toNat ∧ Gu u G7 H7 G8 H8 ∧ Ur H8 u (n + 1 + 1 + 1 + 1)) (fun R hR => ?_) (fun J H8 hc => ?_)
    · refine eu_call (R := ROf) (Pre := POf) (G := G7) rfl (es_cons (ev_lst (es_cons ev_int (es_cons ev_int (es_cons ev_int (es_cons ev_int (es_cons ev_int es_nil))))) (show 5 ≤ 100000 by decide)) es_nil) ⟨_, rfl, by simp, show 5 ≤ 100000 by decide⟩ rfl y7.i gu7 u7 (by omega) _ fun d8 v8 G8 H8 h8 x8 u8 r8 _ => ?_
      obtain ⟨es, e, hes⟩ := h8
      cases e
      obtain ⟨j, hj0, hj7, rfl⟩ : ∃ j : Int, 0 ≤ j ∧ j ≤ 7 ∧ d8 = .int j := by
        simp only [List.mem_cons, List.not_mem_nil, or_false] at hes
        rcases hes with rfl | rfl | rfl | rfl | rfl <;> exact ⟨_, by decide, by decide, rfl⟩
      cases r8.isInt
      exact ⟨j, rfl, by omega, by omega, hR _ _ ⟨j, G8, hj0, hj7, rfl, x8, u8⟩⟩
    obtain ⟨j, G8, hj0, hj7, rfl, x8, u8⟩ := hc
    have y8 := y7.trans x8
    have gu8 := x8.n2 u7.at
    have il : ((ivs 0 j.toNat).length : Int) ≤ 7 := by rw [ivs_len]; omega
    refine lcU (u := u) (m := 1) (N := n + 12) PyData.int (fun _ o => ∃ c ∈ abc, o = some (.str (sg c))) (wk_rng (G := G8) 0 j.toNat) x8.i gu8 u8 (by decide) (by omega) (by omega) ?_ _ ?_
    · refine fun k hk' G9 H9 x n' s9 i9 gu9 u9 l9 rx => ⟨_, tg_name, rfl, fun Q1 Q2 q1 q2 => ?_⟩
      refine ⟨_, rfl, ?_⟩
      refine eu_call (R := RTake) (Pre := PTake) (G := G9) rfl (es_cons ev_int es_nil) ⟨26, rfl, by omega, by omega⟩ rfl i9 gu9 u9 (by omega) _ fun d10 v10 G10 H10 h10 x10 u10 r10 _ => ?_
      obtain ⟨_, r, e, r0, r1, rfl⟩ := h10
      cases e
      cases r10.isInt
      obtain ⟨la, lm⟩ := letA_at r0 r1
      refine ⟨letters, r, letA r, rfl, rfl, by decide +kernel, ?_, q2 _ _ G10 H10 ⟨_, lm, rfl⟩ x10 u10 (.str (sg (letA r)))⟩
      have := atI_nat la
      rw [show ((r.toNat : Nat) : Int) = r by omega] at this
      exact this
    · intro ys v9 G9 H9 al x9 u9 r9
      obtain ⟨S, sl, sa, se⟩ := all2_signs al
      rw [se] at r9
      rw [ivs_len] at sl u9
      obtain ⟨p9, xs9, rfl, g9, rs9⟩ := r9.isList
      have e9 := rs9.strs
      subst e9
      have y9 := y8.trans x9
      have gu9 := x9.n2 u8.at
      refine ⟨_, p9, S.map sg, rfl, rfl, .inl (.of (x9.i _ _ g9)), ?_, ?_⟩
      · rw [sg_sum]
        show _ + _ * 0 ≤ _
        omega
      · rw [join0]
        refine tg_name (G := G9) H9 x9.i _ ?_
        dsimp only [tSeq, tAsg]
        refine eu_call (R := RTake) (Pre := PTake) (G := G9) rfl (es_cons (ev_op (ev_cb (es_cons (ev_var rfl (.str (mk S))) es_nil) (cd_lenS (by rw [mk_len]; omega))) ev_int od_add) es_nil) ⟨_, rfl, by rw [mk_len]; omega, by rw [mk_len]; omega⟩ rfl x9.i gu9 u9 (by omega) _ fun d10 v10 G10 H10 h10 x10 u10 r10 _ => ?_
        obtain ⟨_, r, e, r0, r1, rfl⟩ := h10
        cases e
        cases r10.isInt
        rw [mk_len] at r1
        refine tg_name (G := G10) H10 x10.i _ ?_
        dsimp only [tRet]
        refine fin (tagsB S r.toNat (rowC first by_) many) (tagsB_ok (rowC_len _ _) (rowC_nd f0 f1 hby) (rowC_abc _ _) (by omega) sa hm (by omega)) _ _ G10 H10 (y9.trans x10) (u10.le (by omega)) ?_
        have er : r = ((r.toNat : Nat) : Int) := by omega
        refine ev_is (ev_lcB PyData.int (fun k => .str (mk (S.take r.toNat ++ [(rowC first by_).getD k.toNat 0] ++ S.drop r.toNat))) (as := ivs 0 many) (ev_is_i (ei_rng1 (es_cons (ev_var rfl (.int _)) es_nil) (by omega) (by omega)) (by rw [Int.toNat_natCast])) (by rw [ivs_len]; omega) fun k hk' G11 y s11 ry => ?_) ?_
        · cases ry.isInt
          obtain ⟨k0, k1⟩ := ivs_mem hk'
          have hx : k.toNat < (rowC first by_).length := by rw [rowC_len]; omega
          have ec : (rowC first by_).getD k.toNat 0 = (rowC first by_)[k.toNat] := by rw [List.getD_eq_getElem?_getD, List.getElem?_eq_getElem hx]; rfl
          rw [ec, ← mk_add, ← mk_add]
          refine ⟨_, tg_name, rfl, ev_op (ev_op (ev_is (ev_sl (ev_var rfl (.str (mk S))) eo_none (eo_some (i := r) (ev_var rfl (.int r))) (sd_str (by rw [mk_len]; omega))) ?_) (ev_op (ev_var rfl (r5.up (x7.g.trans (x8.g.trans (x9.g.trans (x10.g.trans s11)))))) (ev_var rfl (.int k)) (od_ixL (j := k.toNat) (by omega) (d := .str (mk [(rowC first by_)[k.toNat]])) ?_)) (od_addS ?_)) (ev_is (ev_sl (ev_var rfl (.str (mk S))) (eo_some (i := r) (ev_var rfl (.int r))) eo_none (sd_str (by rw [mk_len]; omega))) ?_) (od_addS ?_)⟩
          · rw [er, cut_mk_to]; rfl
          · unfold dStrs
            rw [List.getElem?_map, List.getElem?_map, List.getElem?_eq_getElem hx]; rfl
          · rw [mk_len, mk_len, List.length_take, List.length_singleton]; omega
          · rw [er, cut_mk_from]; rfl
          · rw [mk_add, mk_len, mk_len, List.length_append, List.length_take, List.length_singleton, List.length_drop]; omega
        · unfold dStrs tagsB; rw [List.map_map]; rfl
end K11
set_option Elab.async false
set_option linter.all false
set_option maxRecDepth 100000
set_option maxHeartbeats 4000000
set_option autoImplicit false
/-! K11Law3: names, under, block. -/
namespace K11
open PySem PySem.Spec PyProof.Rows L2 RZ
open PySem.W (alike alikeAll)
variable {P : Program} {w : World} {K : PySem.W.Frag} {mg : Str → Option Value} {base : Heap} {f : Addr} {fd : FuncData} {tL tN : Tok}

/-! ### names -/
abbrev s_law_names : Stmt := top 27
abbrev N_law_names : List Str := ["_law_urn", "_law_many_so"]
theorem sc_law_names : FnScope N_law_names ["_law_urn", "_law_many_so"] (defScope s_law_names) := ⟨rfl, rfl, rfl, by decide +kernel, rfl, by decide +kernel, by decide +kernel⟩
abbrev SpNames : Sp := SpU false 1 18 6000000 RTags PTags
theorem Ur.gx {G H G2 H2 : Hp} {u : Addr} {n : Int} (h : Ur H u n) (x : Gx G H G2 H2) : Ur H2 u n := h.eq (by
  obtain ⟨o, ho⟩ := h.at
  rw [ho]; exact x.h _ _ ho)
theorem Ur.out {G H G2 H2 : Hp} {u : Addr} {n : Int} (h : Ur H u n) (x : Gx G H G2 H2) (gu : G u = none) : G2 u = none := by
  obtain ⟨o, ho⟩ := h.at
  exact x.out gu ho
theorem ok_law_names (F : Fun K "_law_names" "_law_names" s_law_names f fd) (M : Mg mg tL tN) (c_law_tags : Cal P w K mg base CX0 3 "_law_tags" ["_law_urn", "_law_many_so"] SpTags) (c_law_mixed : Cal P w K mg base CX0 2 "_law_mixed" ["_law_urn", "_law_pool"] SpMix) :
    FnOk P w K mg base CX0 4 f fd ["_law_urn", "_law_many_so"] SpNames := by
  refine F.ok sc_law_names (fun vs H Q E h => h.len) (fun cdv A outer s H vs Q E hr h => ?_)
  obtain ⟨u, rest, G, ds, n, rfl, hk, i, gu, un, hn, rs, ⟨many, rfl, hm⟩, q⟩ := h
  obtain ⟨v, rfl, rv⟩ := one_arg rs
  cases rv.isInt
  refine ⟨_, (pss_one (ps_ret (pe_call c_law_mixed.ok (hr.mono (by decide)) (by rfl) c_law_mixed.m c_law_mixed.kp c_law_mixed.b .nil pass0 (pa_cons (pv 0) (pa_cons (pe_call c_law_tags.ok (hr.mono (by decide)) (by rfl) c_law_tags.m c_law_tags.kp c_law_tags.b .nil pass0 (pa_cons (pv 0) (pa_cons (pv 1) pa_nil))) pa_nil))))), ?_⟩
  dsimp only [tRet]
  refine ⟨_, rfl, ?_⟩
  refine eu_call (R := RTags) (Pre := PTags) rfl (es_cons (ev_var rfl (.int _)) es_nil) ⟨many, rfl, hm⟩ rfl i gu un (by omega) _ fun d1 v1 G1 H1 h1 x1 u1 r1 _ => ?_
  obtain ⟨many', ts, e, ok, rfl⟩ := h1
  have e : many' = many := by cases e; rfl
  subst e
  exact ⟨u, [v1], G1, _, n + 12, rfl, rfl, x1.i, x1.n2 un.at, u1, by omega, .cons r1 .nil, ⟨ts, rfl, by rw [ok.len]; exact hm⟩, fun d v2 G2 H2 h2 x2 u2 r2 _ => by
    obtain ⟨ss, ps, e, hp, rfl⟩ := h2
    have e : ss = ts := by
      have := List.cons.inj e
      have z : dStrs ts = dStrs ss := PyData.list.inj this.1
      exact (List.map_inj_right (fun a b h => PyData.str.inj h)).mp z.symm
    subst e
    exact q _ v2 G2 H2 ⟨many', ps, rfl, ok.perm hp, rfl⟩ (x1.trans x2) (u2.le (by omega)) r2 (fun e => by cases e)⟩

/-! ### under -/
abbrev s_law_under : Stmt := top 28
abbrev N_law_under : List Str := ["_law_near", "_law_far", "_law_own"]
theorem sc_law_under : FnScope N_law_under ["_law_near", "_law_far"] (defScope s_law_under) := ⟨rfl, rfl, rfl, by decide +kernel, rfl, by decide +kernel, by decide +kernel⟩
def RUnd (ds : List PyData) (d : PyData) : Prop := ∃ a b : List Str, ds = [.tuple (dStrs a), .tuple (dStrs b)] ∧ a.length ≤ 1000 ∧ (∀ s ∈ a, isNameB s = true) ∧ d = .bool (decide (∀ s ∈ a, s ∈ b))
theorem ok_law_under (F : Fun K "_law_under" "_law_under" s_law_under f fd) (M : Mg mg tL tN) : FnOk P w K mg base CX0 1 f fd ["_law_near", "_law_far"] (SpD 2 RUnd) := by
  refine F.ok sc_law_under (fun vs H Q E h => h.len) (fun cdv A outer s H vs Q E hr h => ?_)
  obtain ⟨G, ds, en, hn, i, rs, ⟨a, b, rfl, al, an, rfl⟩, q⟩ := h
  obtain ⟨v, u, rfl, rv, ru⟩ := two_args rs
  refine ⟨_, (pss_one (ps_ret (pe_cmpR (op_eqD hr.units) (pe_lc (own := [("_law_own", 2)]) (g := gName 2) (tt := _) rfl sc_law_under.nd (pi_tup (pv 0)) (blkOk_by (N := N_law_under) (sc := defScope s_law_under) (by decide +kernel)) (fun _ _ _ _ _ => (pg_name (i := 2) sc_law_under.nd rfl (.inl rfl))) (fun _ _ _ _ _ => (pts_one (pt_cmpR (r := (rIn K true)) op_notIn_seq (pv 2) (pv 1) rfl))) (fun _ _ _ _ _ => (pv 2))) (pe_lst pa_nil) (nomark _)))), ?_⟩
  refine ev_is (f := .bool (decide (∀ s ∈ a, s ∈ b))) (ev_op (e := .list (dStrs [])) (ev_is (f := .list (dStrs (a.filter fun s => !decide (s ∈ b)))) (ev_lcA (as := a) PyData.str (fun s => !decide (s ∈ b)) PyData.str (ei_tup (ev_var rfl rv)) (by omega) fun s hs G2 x s2 rx => ?_) rfl) (ev_lst es_nil (show 0 ≤ 100000 by decide)) (od_eqD (shaped_lstrs fun s hs => an s (List.mem_filter.mp hs).1) (by decide +kernel))) ?_ H i _ q
  · cases rx.isStr
    exact ⟨_, tg_name, rfl, eb_test (ev_op (ev_var rfl (.str s)) (ev_var rfl (ru.up s2)) od_niStrT), fun _ => ev_var rfl (.str s)⟩
  · rw [eqv_lstrs]
    congr 1
    refine decide_eq_decide.mpr ⟨fun h s hs => ?_, fun h => List.filter_eq_nil_iff.mpr fun s hs => by simpa using h s hs⟩
    have := List.filter_eq_nil_iff.mp h s hs
    simpa using this

/-! ### rows sorted -/
theorem alike_strs2 : ∀ a b : List Str, alikeAll (dStrs a) (dStrs b) = true
  | [], _ => by unfold dStrs; rw [List.map_nil, alikeAll]
  | _ :: _, [] => by unfold dStrs; rw [List.map_nil, List.map_cons, alikeAll]
  | x :: a, y :: b => by
    have := alike_strs2 a b
    unfold dStrs at *
    rw [List.map_cons, List.map_cons, alikeAll, this]; simp [alike]
theorem alike_rows (l : List Row) : PySem.W.AllAlike (l.map dRow) := PySem.W.AllAlike.of fun a b => by
  unfold dRow
  simp [alike, alikeAll, alike_strs2]
theorem sortable_rows (l : List Row) : PySem.W.Sortable (l.map dRow) := PySem.W.Sortable.tuples fun b => ⟨_, _, rfl⟩
theorem depth_row (r : Row) : (dRow r).depth ≤ 8 := by
  unfold dRow
  simp [PyData.depth, PyData.depthAll, depth_strs]
theorem leD_row {a b : Row} (h : a.1 ≠ b.1 ∨ a = b) : leD (dRow a) (dRow b) = leS a.1 b.1 := by
  show (!PySem.W.dataLt (dRow b) (dRow a)) = _
  rcases h with h | rfl
  · unfold dRow
    rw [PySem.W.dataLt_tuple, PySem.W.dataLt_cons (by simp [PySem.W.alike])]
    have : PyData.eqv (.str b.1) (.str a.1) = false := by
      rw [PyData.eqv]
      have : b.1 ≠ a.1 := fun e => h e.symm
      simpa using this
    rw [this, if_neg (by simp), PySem.W.dataLt_str, PySem.W.not_lt_str]; rfl
  · unfold dRow
    rw [PySem.W.dataLt_tuple, lex_irrefl]
    unfold leS
    rw [decide_eq_true (List.le_refl _)]; rfl
def sortR (l : List Row) : List Row := l.mergeSort fun a b => leS a.1 b.1
theorem sort_rows {l : List Row} (h : (l.map (·.1)).Nodup) : (l.map dRow).mergeSort leD = (sortR l).map dRow := by
  unfold sortR
  refine (List.map_mergeSort (r := fun a b : Row => leS a.1 b.1) (s := leD) (f := dRow) fun a ha b hb => (leD_row ?_).symm).symm
  by_cases e : a.1 = b.1
  · right
    obtain ⟨i, hi⟩ := List.mem_iff_getElem?.mp ha
    obtain ⟨j, hj⟩ := List.mem_iff_getElem?.mp hb
    have h1 : (l.map (·.1))[i]? = some a.1 := by rw [List.getElem?_map, hi]; rfl
    have h2 : (l.map (·.1))[j]? = some a.1 := by rw [List.getElem?_map, hj, e]; rfl
    have := (List.getElem?_inj (by rw [List.length_map]; exact (List.getElem?_eq_some_iff.mp hi).1) h).mp (h1.trans h2.symm)
    subst this
    rw [hi] at hj; exact Option.some.inj hj
  · exact .inl e
theorem sortR_perm (l : List Row) : (sortR l).Perm l := List.mergeSort_perm l _
theorem sortR_names {l : List Row} : (sortR l).map (·.1) = msort (l.map (·.1)) := by
  refine sorted_uniq (List.pairwise_map.mpr ?_) (msort_sorted _) (((sortR_perm l).map _).trans (msort_perm _).symm)
  exact List.pairwise_mergeSort (le := fun a b : Row => leS a.1 b.1) (fun a b c h1 h2 => leS_trans a.1 b.1 c.1 h1 h2) (fun a b => leS_total a.1 b.1) l

/-! ### block -/
abbrev s_law_block : Stmt := top 29
abbrev N_law_block : List Str := ["_law_urn", "_law_many_so", "_law_queue_so", "_law_found", "_law_k", "_law_own", "_law_reads_so"]
theorem sc_law_block : FnScope N_law_block ["_law_urn", "_law_many_so"] (defScope s_law_block) := ⟨rfl, rfl, rfl, by decide +kernel, rfl, by decide +kernel, by decide +kernel⟩
/-- a block that a law may draw -/
structure BOk (b : Blk) : Prop where
  nd : b.names.Nodup
  nl : b.rows.length ≤ 6
  rl : ∀ r ∈ b.rows, r.2.1.length ≤ 100
  rn : ∀ r ∈ b.rows, ∀ s ∈ r.2.1, isNameB s = true
  nm : ∀ r ∈ b.rows, isNameB r.1 = true
  ll : b.live.length ≤ 6
  ln : ∀ s ∈ b.live, isNameB s = true
  ord : ∃ q, isOrderB b q = true
def RBlk (ds : List PyData) (d : PyData) : Prop := ∃ b, BOk b ∧ d = dBlk b
abbrev SpBlk : Sp := SpU false 1 100 5000000 RBlk PTags
/-- what stands in the list of rows after j turns -/
structure RowsAt (qs : List Str) (rows : List Row) : Prop where
  names : rows.map (·.1) = qs.take rows.length
  reads : ∀ i r, rows[i]? = some r → (∀ w ∈ r.2.1, w ∈ qs.take i) ∧ r.2.1.length ≤ 100
theorem RowsAt.snoc {qs : List Str} {rows : List Row} {r : Row} (h : RowsAt qs rows) (e : qs[rows.length]? = some r.1) (hr : ∀ w ∈ r.2.1, w ∈ qs.take rows.length) (hl : r.2.1.length ≤ 100) : RowsAt qs (rows ++ [r]) := by
  refine ⟨?_, fun i r' e' => ?_⟩
  · rw [List.map_append, List.length_append, h.names]
    show _ = qs.take (rows.length + 1)
    rw [take_snoc e]; rfl
  · by_cases c : i < rows.length
    · rw [List.getElem?_append_left c] at e'
      exact h.reads i r' e'
    · rw [List.getElem?_append_right (by omega)] at e'
      have hi : i = rows.length := by
        have := (List.getElem?_eq_some_iff.mp e').1
        rw [List.length_singleton] at this; omega
      subst hi
      rw [Nat.sub_self] at e'
      cases (Option.some.inj e')
      exact ⟨hr, hl⟩
theorem readL_ok (b : Blk) (o : List Str) : ∀ (r : List Str) (k : Nat), (∀ i n, r[i]? = some n → ∀ w ∈ (rowOf b n).1, w ∈ o.take (k + i)) → (readL b o k r).all id = true
  | [], _, _ => rfl
  | n :: r, k, h => by
    show ((((rowOf b n).1.map fun w => decide (w ∈ o.take k)) ++ readL b o (k + 1) r).all id) = true
    rw [List.all_append, Bool.and_eq_true]
    refine ⟨List.all_eq_true.mpr fun x hx => ?_, readL_ok b o r (k + 1) fun i m e w hw => ?_⟩
    · obtain ⟨w, hw, rfl⟩ := List.mem_map.mp hx
      exact decide_eq_true (h 0 n rfl w hw)
    · have := h (i + 1) m (by simpa using e) w hw
      rw [show k + 1 + i = k + (i + 1) by omega]; exact this
theorem OrdB.to {b : Blk} {o : List Str} (O : OrdB b o) (hs : msort o = b.names) : isOrderB b o = true := by
  unfold isOrderB
  rw [Bool.and_eq_true, Bool.and_eq_true, decide_eq_true_eq]
  exact ⟨List.all_eq_true.mpr O.nm, hs, readL_ok b o o 0 fun i n e w hw => by rw [Nat.zero_add]; exact O.rd i n e w hw⟩
theorem block_ok {qs : List Str} {rows : List Row} {live : List Str} {many : Nat} (T : TagsOk many qs) (hm : many ≤ 6) (R : RowsAt qs rows) (hl : rows.length = qs.length) (ll : live.length ≤ 6) (ln : ∀ s ∈ live, s ∈ qs) : BOk ⟨sortR rows, live⟩ := by
  have en : rows.map (·.1) = qs := by rw [R.names, hl, List.take_length]
  have es : (Blk.mk (sortR rows) live).names = msort qs := by
    show (sortR rows).map (·.1) = _
    rw [sortR_names, en]
  have nd : (Blk.mk (sortR rows) live).names.Nodup := es ▸ (msort_perm qs).symm.nodup T.nd
  have mem : ∀ r ∈ sortR rows, ∃ i, rows[i]? = some r := fun r hr => List.mem_iff_getElem?.mp ((sortR_perm rows).subset hr)
  have inq : ∀ r ∈ sortR rows, r.1 ∈ qs := fun r hr => en ▸ List.mem_map.mpr ⟨r, (sortR_perm rows).subset hr, rfl⟩
  refine ⟨nd, ?_, fun r hr => ?_, fun r hr s hs => ?_, fun r hr => T.nm _ (inq r hr), ll, fun s hs => T.nm s (ln s hs), qs, ?_⟩
  · show (sortR rows).length ≤ 6
    rw [(sortR_perm rows).length_eq, hl, T.len]; exact hm
  · obtain ⟨i, hi⟩ := mem r hr
    exact (R.reads i r hi).2
  · obtain ⟨i, hi⟩ := mem r hr
    exact T.nm s (List.mem_of_mem_take ((R.reads i r hi).1 s hs))
  · refine OrdB.to ⟨fun s hs => es ▸ (msort_perm qs).symm.subset hs, T.nd, fun i n e w hw => ?_, by show qs.length = (sortR rows).length; rw [(sortR_perm rows).length_eq, hl], T.nm⟩ es.symm
    have hn : n ∈ (Blk.mk (sortR rows) live).names := es ▸ (msort_perm qs).symm.subset (List.mem_of_getElem? e)
    have hr := rowOf_mem hn
    obtain ⟨j, hj⟩ := mem _ hr
    have h1 : (rows.map (·.1))[j]? = some n := by rw [List.getElem?_map, hj]; rfl
    rw [en] at h1
    have := (List.getElem?_inj (List.getElem?_eq_some_iff.mp e).1 T.nd).mp (e.trans h1.symm)
    subst this
    exact (R.reads i _ hj).1 w hw
theorem tup_at {σ : L2.St} {H : Hp} {Q : VK} {ta : TE} {tr : TA} (h : ta σ H fun x H1 => tr σ H1 fun xs H2 => (x :: xs).length ≤ sizeLine ∧ ∀ p, H2 p = none → Q (.ref p) (upd H2 p (.tup (x :: xs)))) : tTup (tCons ta tr) σ H Q := h
theorem cons_at {σ : L2.St} {H : Hp} {Q : List V → Hp → Prop} {ta : TE} {tr : TA} (h : ta σ H fun x H1 => tr σ H1 fun xs H2 => Q (x :: xs) H2) : tCons ta tr σ H Q := h
theorem cb_at {σ : L2.St} {H : Hp} {Q : VK} {ta : TE} {r : List V → Hp → VK → Prop} (h : ta σ H fun x H1 => r [x] H1 Q) : tCB r (tCons ta tNil) σ H Q := h
theorem all2_pick {as : List Str} {ys : List (Option PyData)} (h : All2 (fun s o => o = none ∨ o = some (.str s)) as ys) : ∃ S : List Str, S.length ≤ as.length ∧ (∀ c ∈ S, c ∈ as) ∧ ys.filterMap id = dStrs S := by
  induction h with
  | nil => exact ⟨[], Nat.le_refl _, fun c hc => (by cases hc), rfl⟩
  | @snoc as bs a b _ hs ih =>
    obtain ⟨S, h1, h2, h3⟩ := ih
    rcases hs with rfl | rfl
    · exact ⟨S, by rw [List.length_append, List.length_singleton]; omega, fun c hc => List.mem_append_left _ (h2 c hc), by rw [List.filterMap_append, h3]; simp⟩
    · refine ⟨S ++ [a], by simp only [List.length_append, List.length_singleton]; omega, fun c hc => ?_, by rw [List.filterMap_append, h3]; unfold dStrs; simp⟩
      rcases List.mem_append.mp hc with h | h
      · exact List.mem_append_left _ (h2 c h)
      · exact List.mem_append_right _ h
theorem zipIdx_at {qs : List Str} {j : Nat} {z : Str × Nat} (h : qs.zipIdx[j]? = some z) : qs[j]? = some z.1 ∧ z.2 = j := by
  rw [List.getElem?_zipIdx] at h
  cases q : qs[j]? with
  | none => rw [q] at h; cases h
  | some s => rw [q] at h; cases (Option.some.inj h); exact ⟨rfl, by simp⟩
theorem ok_law_block (F : Fun K "_law_block" "_law_block" s_law_block f fd) (M : Mg mg tL tN) (c_law_take : Cal P w K mg base CX0 1 "_law_take" ["_law_urn", "_law_low_so"] SpTake) (c_law_of : Cal P w K mg base CX0 2 "_law_of" ["_law_urn", "_law_some_so"] SpOf)
    (c_law_names : Cal P w K mg base CX0 4 "_law_names" ["_law_urn", "_law_many_so"] SpNames) (c_law_mixed : Cal P w K mg base CX0 2 "_law_mixed" ["_law_urn", "_law_pool"] SpMix) :
    FnOk P w K mg base CX0 5 f fd ["_law_urn", "_law_many_so"] SpBlk := by
  refine F.ok sc_law_block (fun vs H Q E h => h.len) (fun cdv A outer s H vs Q E hr h => ?_)
  obtain ⟨u, rest, G, ds, n, rfl, hk, i, gu, un, hn, rs, ⟨many, rfl, hm⟩, q⟩ := h
  obtain ⟨v, rfl, rv⟩ := one_arg rs
  cases rv.isInt
  refine ⟨_, (pss_cons (ps_par (i := 2) (j := 3) rfl sc_law_block.nd rfl rfl (by decide) rfl rfl (pa_cons (pe_call c_law_names.ok (hr.mono (by decide)) (by rfl) c_law_names.m c_law_names.kp c_law_names.b .nil pass0 (pa_cons (pv 0) (pa_cons (pv 1) pa_nil))) (pa_cons (pe_lst pa_nil) pa_nil)) rfl)
    (pss_cons (ps_for PassesOwn.never rfl (pi_enum (by rfl) M.enumerate (pa_cons (pv 2) pa_nil)) (pg_tup rfl (pgs_cons (pg_name (i := 4) sc_law_block.nd rfl (.inl rfl)) (pgs_cons (pg_name (i := 5) sc_law_block.nd rfl (.inl rfl)) pgs_nil))) (pss_cons (ps_set (i := 6) sc_law_block.nd rfl (.inl rfl) (pe_slice sl_list (pe_call c_law_mixed.ok (hr.mono (by decide)) (by rfl) c_law_mixed.m c_law_mixed.kp c_law_mixed.b .nil pass0 (pa_cons (pv 0) (pa_cons (pe_slice sl_list (pv 2) po_none (po_some (pv 4))) pa_nil))) po_none (po_some (pe_call c_law_of.ok (hr.mono (by decide)) (by rfl) c_law_of.m c_law_of.kp c_law_of.b .nil pass0 (pa_cons (pv 0) (pa_cons (pe_lst (pa_cons pe_int (pa_cons pe_int (pa_cons pe_int (pa_cons pe_int (pa_cons pe_int pa_nil)))))) pa_nil))))))
    (pss_one (ps_expr (pe_bm PySem.F.plainAttrs_list PySem.F.slot_list_append PySem.F.type_list_append mt_append (pv 3) (pa_cons (pe_tup (pa_cons (pv 5) (pa_cons (pe_callTy call_tuple_of (by rfl) M.tuple_ (by decide +kernel) (pa_cons (pe_callB (cr_sortD hr.units) (by rfl) M.sorted (by decide +kernel) (pa_cons (pv 6) pa_nil)) pa_nil)) (pa_cons (pe_cmpR op_eq (pe_call c_law_take.ok (hr.mono (by decide)) (by rfl) c_law_take.m c_law_take.kp c_law_take.b .nil pass0 (pa_cons (pv 0) (pa_cons pe_int pa_nil))) pe_int (nomark _)) pa_nil)))) pa_nil))))))
    (pss_one (ps_ret (pe_tup (pa_cons (pe_callTy call_tuple_of (by rfl) M.tuple_ (by decide +kernel) (pa_cons (pe_callB (cr_sortD hr.units) (by rfl) M.sorted (by decide +kernel) (pa_cons (pv 3) pa_nil)) pa_nil)) (pa_cons (pe_callTy call_tuple_of (by rfl) M.tuple_ (by decide +kernel) (pa_cons (pe_lc (own := [("_law_own", 5)]) (g := gName 5) (tt := _) rfl sc_law_block.nd (pi_list (pe_callB (cr_sortD hr.units) (by rfl) M.sorted (by decide +kernel) (pa_cons (pv 2) pa_nil))) (blkOk_by (N := N_law_block) (sc := defScope s_law_block) (by decide +kernel)) (fun _ _ _ _ _ => (pg_name (i := 5) sc_law_block.nd rfl (.inl rfl))) (fun _ _ _ _ _ => (pts_one (pt_cmpR op_eq (pe_call c_law_take.ok (hr.mono (by decide)) (by rfl) c_law_take.m c_law_take.kp c_law_take.b .nil pass0 (pa_cons (pv 0) (pa_cons pe_int pa_nil))) pe_int (nomark _)))) (fun _ _ _ _ _ => (pv 5))) pa_nil)) pa_nil))))))), ?_⟩
  dsimp only [tSeq]
  refine eu_call (R := RTags) (Pre := PTags) rfl (es_cons (ev_var rfl (.int _)) es_nil) ⟨many, rfl, hm⟩ rfl i gu un (by omega) _ fun d1 v1 G1 H1 h1 x1 u1 r1 _ => ?_
  obtain ⟨many', qs, e, T, rfl⟩ := h1
  have e : many' = many := by cases e; rfl
  subst e
  obtain ⟨pQ, xsQ, rfl, gQ, rsQ⟩ := r1.isList
  refine ⟨show 0 ≤ sizeLine by decide, fun pF hF => ⟨_, _, rfl, ?_⟩⟩
  dsimp only [tSeq]
  have gu1 := x1.n2 un.at
  have gF : G1 pF = none := x1.i.free hF
  have uF : u ≠ pF := fun e => by rw [e] at u1; obtain ⟨o, e2⟩ := u1.at; rw [hF] at e2; cases e2
  let Iv : Nat → L2.St → Hp → Hp → Prop := fun j σ G' H' => ∃ (x4 x5 x6 : Option V) (rows : List Row) (acc : List V), σ = [some (.ref u), some (.int many'), some (.ref pQ), some (.ref pF), x4, x5, x6] ∧ Gu u G1 H1 G' H' ∧ G' pF = none ∧ H' pF = some (.lst acc) ∧
    Rps G' acc (rows.map dRow) ∧ RowsAt qs rows ∧ rows.length = j ∧ Ur H' u (n + 18 + 8 * j)
  have i2 : Same G1 (upd H1 pF (.lst [])) := x1.i.trans (same_new hF)
  have x0 : Gu u G1 H1 G1 (upd H1 pF (.lst [])) := (Gu.refl x1.i gu1).mut hF gF u1.at
  have u0 : Ur (upd H1 pF (.lst [])) u (n + 18) := u1.eq (upd_ne uF)
  refine for_ind (ds := qs.zipIdx) (fun p : Str × Nat => .tuple [.int (p.2 : Nat), .str p.1]) ?_ Iv i2 (fun G4 H4 x4 => ?_) (fun Gs sGs j z hj σ' G4 H4 s4 i4 iv x G5 H5 x5 rx => ?_) (fun σ' G4 H4 s4 i4 iv => ?_)
  · rw [← enumD_zip]
    exact ei_enum (es_cons (ev_var rfl r1) es_nil)
  · exact ⟨none, none, none, [], [], rfl, x0.trans (Gu.of x4 gu1), x4.out gF upd_same, x4.h _ _ upd_same, .nil, ⟨rfl, fun i r e => by simp at e⟩, rfl, (u0.gx x4).le (by omega)⟩
  · obtain ⟨y4, y5, y6, rows, acc, rfl, xx, n1, h1, ra, RA, hl, hu⟩ := iv
    obtain ⟨ze, zk⟩ := zipIdx_at hj
    have jl : j < qs.length := (List.getElem?_eq_some_iff.mp ze).1
    have ql : qs.length ≤ 6 := T.len ▸ hm
    obtain ⟨w1, w2, rw1, rw2, tg⟩ := tg2 (K := K) (i := 4) (j := 5) rx
    cases rw1.isInt
    cases rw2.isStr
    refine tg H5 x5.i _ ?_
    dsimp only [tSeq, tAsg, tDrop]
    have y := xx.trans (Gu.of x5 (xx.n2 u1.at))
    have gu5 := hu.out x5 (xx.n2 u1.at)
    have u5 := hu.gx x5
    have rQ5 : Rp G5 (.ref pQ) (.list (dStrs qs)) := r1.up (y.g)
    -- the reads
    refine eu_call (R := RMix) (Pre := PMix) (G := G5) (ds := [.list (dStrs (qs.take j))]) rfl (es_cons (ev_is (ev_sl (ev_var rfl rQ5) eo_none (eo_some (i := ((z.2 : Nat) : Int)) (ev_var rfl (.int _))) sd_list) ?_) es_nil) ⟨qs.take j, rfl, by rw [List.length_take]; omega⟩ rfl x5.i gu5 u5 (by omega) _ fun d6 v6 G6 H6 h6 x6 u6 r6 _ => ?_
    · rw [cut_to, zk]; unfold dStrs; rw [List.map_take]
    obtain ⟨ss, ps, e, hp, rfl⟩ := h6
    have e : ss = qs.take j := by
      have := PyData.list.inj (List.cons.inj e).1
      exact (List.map_inj_right (fun a b h => PyData.str.inj h)).mp this.symm
    subst e
    have gu6 := x6.n2 u5.at
    refine eu_call (R := ROf) (Pre := POf) (G := G6) rfl (es_cons (ev_lst (es_cons ev_int (es_cons ev_int (es_cons ev_int (es_cons ev_int (es_cons ev_int es_nil))))) (show 5 ≤ 100000 by decide)) es_nil) ⟨_, rfl, by simp, show 5 ≤ 100000 by decide⟩ rfl x6.i gu6 u6 (by omega) _ fun d7 v7 G7 H7 h7 x7 u7 r7 _ => ?_
    obtain ⟨es, e, hes⟩ := h7
    cases e
    obtain ⟨c, hc, rfl⟩ : ∃ c : Nat, c ≤ 3 ∧ d7 = .int (c : Nat) := by
      simp only [List.mem_cons, List.not_mem_nil, or_false] at hes
      rcases hes with rfl | rfl | rfl | rfl | rfl
      · exact ⟨0, by decide, rfl⟩
      · exact ⟨1, by decide, rfl⟩
      · exact ⟨1, by decide, rfl⟩
      · exact ⟨2, by decide, rfl⟩
      · exact ⟨3, by decide, rfl⟩
    cases r7.isInt
    have gu7 := x7.n2 u6.at
    refine ⟨_, rfl, ?_⟩
    refine sd_list (K := K) (lo := none) (hi := some ((c : Nat) : Int)) G7 H7 v6 x7.i (r6.up x7.g) _ fun v8 G8 H8 x8 r8 => ?_
    have u8 := u7.gx x8
    have gu8 := u7.out x8 gu7
    have y8 := ((y.trans x6).trans x7).trans (Gu.of x8 gu7)
    rw [cut_to] at r8
    have r8 : Rp G8 v8 (.list (dStrs (ps.take c))) := by unfold dStrs at r8 ⊢; rw [List.map_take]; exact r8
    refine tg_name (G := G8) H8 x8.i _ ?_
    dsimp only [tDrop]
    -- what stands at pF
    have st : ∀ {G0 H0 G' H'}, Gu u G0 H0 G' H' → G0 pF = none → H0 pF = some (.lst acc) → G' pF = none ∧ H' pF = some (.lst acc) := fun {G0 H0 G' H'} g h1 h2 => by
      refine ⟨?_, g.h _ _ uF.symm h2⟩
      cases z : G' pF with
      | none => rfl
      | some o => have := g.f _ _ z h1; rw [h2] at this; cases this
    obtain ⟨nF8, hF8⟩ := st (((Gu.of x5 (xx.n2 u1.at)).trans x6).trans (x7.trans (Gu.of x8 gu7))) n1 h1
    refine ⟨_, rfl, .inl ⟨rfl, _, .of hF8⟩, ?_⟩
    refine ⟨_, rfl, ?_⟩
    have pl : (ps.take c).length ≤ 6 := by rw [List.length_take, hp.length_eq, List.length_take]; omega
    refine ev_cb (es_cons (ev_cb (es_cons (ev_var rfl r8) es_nil) (cd_sortS (.inl rfl) (by omega))) es_nil) cd_tuple H8 x8.i _ fun v9 G9 H9 x9 r9 => ?_
    have u9 := u8.gx x9
    have gu9 := u8.out x9 gu8
    refine eu_call (R := RTake) (Pre := PTake) (G := G9) rfl (es_cons ev_int es_nil) ⟨2, rfl, by omega, by omega⟩ rfl x9.i gu9 u9 (by omega) _ fun d10 v10 G10 H10 h10 x10 u10 r10 _ => ?_
    obtain ⟨_, t, e, t0, t1, rfl⟩ := h10
    cases e
    cases r10.isInt
    obtain ⟨nF10, hF10⟩ := st ((Gu.of x9 gu8).trans x10) nF8 hF8
    refine ⟨rfl, show 3 ≤ sizeLine by decide, fun pT hT => ?_⟩
    have nT : pF ≠ pT := fun e => by rw [← e, hF10] at hT; cases hT
    refine ⟨pF, acc, _, rfl, rfl, by rw [upd_ne nT]; exact hF10, ?_, ?_⟩
    · rw [ra.len, List.length_map, hl]
      have z3 : (100000 : Nat) < sizeLine := by decide
      omega
    · have y10 := (y8.trans (Gu.of x9 gu8)).trans x10
      have xT : Gx G10 H10 (upd G10 pT (.tup [.str z.1, v9, .bl (decide (V.int t = V.int 0))])) (upd H10 pT (.tup [.str z.1, v9, .bl (decide (V.int t = V.int 0))])) := Gx.new x10.i hT
      have y11 := y10.trans (Gu.of xT (x10.n2 u9.at))
      have nF11 : (upd G10 pT (HO.tup [.str z.1, v9, .bl (decide (V.int t = V.int 0))])) pF = none := by rw [upd_ne nT]; exact nF10
      have hF0 : H1 pF = none := hF
      have y12 := y11.mut (o := .lst (acc ++ [.ref pT])) hF0 nF11 u1.at
      have gg : Same G4 (upd G10 pT (.tup [.str z.1, v9, .bl (decide (V.int t = V.int 0))])) := x5.g.trans (x6.g.trans (x7.g.trans (x8.g.trans (x9.g.trans (x10.g.trans xT.g)))))
      refine ⟨_, s4.trans gg, y12.i, _, _, _, rows ++ [(z.1, msort (ps.take c), decide (V.int t = V.int 0))], acc ++ [.ref pT], rfl, y12, nF11, upd_same, ?_, RA.snoc (by rw [hl]; exact ze) (fun w hw => ?_) ?_, by rw [List.length_append, hl]; rfl, ?_⟩
      · rw [List.map_append]
        refine Rps.app (ra.up gg) (.cons ?_ .nil)
        exact .tup (.of upd_same) (.cons (.str _) (.cons (r9.up (x10.g.trans xT.g)) (.cons (.bl _) .nil)))
      · rw [hl]
        exact hp.subset (List.mem_of_mem_take ((msort_perm _).subset hw))
      · rw [(msort_perm _).length_eq]; omega
      · refine (Ur.eq (Ur.gx u10 xT) (upd_ne uF)).le ?_
        push_cast
        omega
  · obtain ⟨y4, y5, y6, rows, acc, rfl, xx, n1, h1, ra, RA, hl, hu⟩ := iv
    rw [List.length_zipIdx] at hl hu
    have hlr : rows.length = qs.length := hl
    have en : rows.map (·.1) = qs := by rw [RA.names, hlr, List.take_length]
    have ql : qs.length ≤ 6 := T.len ▸ hm
    dsimp only [tRet]
    -- the rows are told as known
    have yp := xx.pub hF n1 h1
    have rF : Rp (upd G4 pF (.lst acc)) (.ref pF) (.list (rows.map dRow)) := .lst upd_same (ra.up (same_new n1))
    have gu4 : (upd G4 pF (HO.lst acc)) u = none := by rw [upd_ne uF]; exact xx.n2 u1.at
    refine tup_at ?_
    refine ev_cb (es_cons (ev_cb (es_cons (ev_var rfl rF) es_nil) (cd_sort (.inl rfl) (alike_rows rows) (sortable_rows rows) (by rw [List.length_map]; omega) (fun d hd => by
      obtain ⟨r, _, rfl⟩ := List.mem_map.mp hd
      exact depth_row r))) es_nil) cd_tuple H4 yp.i _ fun v5 G5 H5 x5 r5 => ?_
    rw [sort_rows (by rw [en]; exact T.nd)] at r5
    have u5 := hu.gx x5
    have gu5 := hu.out x5 gu4
    have y5' := yp.trans (Gu.of x5 gu4)
    have y6 : Gu u G H G5 H5 := x1.trans y5'
    refine cons_at (cb_at (tlc_of (fun J H6 => ∃ G6, Gx G5 H5 G6 H6 ∧ Wk J G6 ((msort qs).map PyData.str)) (fun R hR => ?_) (fun J H6 hc => ?_)))
    · exact ei_list (ev_cb (es_cons (ev_var rfl (r1.up (xx.g.trans ((same_new n1).trans x5.g)))) es_nil) (cd_sortS (.inl rfl) (by omega))) H5 x5.i _ fun J G6 H6 x6 w6 => hR J H6 ⟨G6, x6, w6⟩
    · obtain ⟨G6, x6, w6⟩ := hc
      have u6 := u5.gx x6
      have gu6 := u5.out x6 gu5
      have ml : (msort qs).length ≤ 6 := by rw [(msort_perm _).length_eq]; exact ql
      refine lcU (u := u) (m := 1) (N := n + 18 + 8 * ((rows.length : Nat) : Int) + 6) PyData.str (fun s o => o = none ∨ o = some (.str s)) w6 x6.i gu6 u6 (by decide) (by omega) (by omega) ?_ _ ?_
      · refine fun s hs G7 H7 x n' s7 i7 gu7 u7 l7 rx => ⟨_, tg_name, rfl, fun Q1 Q2 q1 q2 => ?_⟩
        cases rx.isStr
        refine eu_call (R := RTake) (Pre := PTake) (G := G7) rfl (es_cons ev_int es_nil) ⟨3, rfl, by omega, by omega⟩ rfl i7 gu7 u7 (by omega) _ fun d10 v10 G10 H10 h10 x10 u10 r10 _ => ?_
        obtain ⟨_, t, e, t0, t1, rfl⟩ := h10
        cases e
        cases r10.isInt
        refine ⟨rfl, _, rfl, ?_⟩
        by_cases ht : V.int t = V.int 0
        · rw [decide_eq_true ht]
          dsimp only
          rw [if_pos rfl]
          exact ⟨_, rfl, q2 (.str s) _ G10 H10 (.inr rfl) x10 u10 (.str s)⟩
        · rw [decide_eq_false ht]
          dsimp only
          rw [if_neg (by simp)]
          exact q1 G10 H10 (.inl rfl) x10 u10
      · intro ys v7 G7 H7 al x7 u7 r7
        obtain ⟨S, sl, sm, se⟩ := all2_pick al
        rw [se] at r7
        obtain ⟨p7, xs7, rfl, g7, rs7⟩ := r7.isList
        refine ⟨p7, xs7, rfl, .inl ⟨.of (x7.i _ _ g7), fun p8 h8 => ⟨show 2 ≤ sizeLine by decide, fun p9 h9 => ?_⟩⟩⟩
        have gu7 := x7.n2 u6.at
        have x8 := Gx.new (o := .tup xs7) x7.i h8
        have x9 := Gx.new (o := .tup [v5, .ref p8]) x8.i h9
        have y9 := ((y6.trans (Gu.of x6 gu5)).trans x7).trans (Gu.of (x8.trans x9) gu7)
        refine q _ _ _ _ ⟨⟨sortR rows, S⟩, block_ok T hm RA hlr (by omega) (fun s hs => (msort_perm qs).subset (sm s hs)), rfl⟩ y9 ((u7.gx (x8.trans x9)).le (by omega)) (.tup (.of upd_same) (.cons (r5.up (x6.g.trans (x7.g.trans (x8.g.trans x9.g)))) (.cons (Rp.up (.tup (.of upd_same) (rs7.up x8.g)) x9.g) .nil))) (fun e => by cases e)
end K11
set_option Elab.async false
set_option linter.all false
set_option maxRecDepth 100000
set_option maxHeartbeats 4000000
set_option autoImplicit false
/-! K11Law4: orders, times, lists, same. -/
namespace K11
open PySem PySem.Spec PyProof.Rows L2 RZ
variable {P : Program} {w : World} {K : PySem.W.Frag} {mg : Str → Option Value} {base : Heap} {f : Addr} {fd : FuncData} {tL tN : Tok}

/-! ### orders -/
abbrev s_law_orders : Stmt := top 31
abbrev N_law_orders : List Str := ["_law_host_here", "_law_found", "_law_turn", "_law_later_so", "_law_row_so", "_law_free_so", "_law_own"]
theorem sc_law_orders : FnScope N_law_orders ["_law_host_here"] (defScope s_law_orders) := ⟨rfl, rfl, rfl, by decide +kernel, rfl, by decide +kernel, by decide +kernel⟩
def dO (o : List Str) : PyData := .tuple (dStrs o)
def freeR (b : Blk) (o : List Str) : List Row := b.rows.filter fun r => !decide (r.1 ∈ o) && decide (∀ s ∈ r.2.1, s ∈ o)
def nextO (b : Blk) (o : List Str) : List (List Str) := (freeR b o).map fun r => o ++ [r.1]
def ordL (b : Blk) : Nat → List (List Str)
  | 0 => [[]]
  | i + 1 => (ordL b i).flatMap (nextO b)
def ROrds (ds : List PyData) (d : PyData) : Prop := ∃ b, ds = [dBlk b] ∧ BOk b ∧ d = .list ((ordL b b.rows.length).map dO)
theorem nextO_len (b : Blk) (o : List Str) : (nextO b o).length ≤ b.rows.length := by
  unfold nextO freeR
  rw [List.length_map]
  exact List.length_filter_le ..
theorem ordL_len (b : Blk) (h : b.rows.length ≤ 6) : ∀ i, (ordL b i).length ≤ 6 ^ i
  | 0 => Nat.le_refl _
  | i + 1 => by
    show ((ordL b i).flatMap (nextO b)).length ≤ _
    rw [List.length_flatMap]
    refine Nat.le_trans (sum_le_mul (m := 6) fun x hx => ?_) ?_
    · obtain ⟨o, _, rfl⟩ := List.mem_map.mp hx
      exact Nat.le_trans (nextO_len b o) h
    · rw [List.length_map, Nat.pow_succ]
      exact Nat.mul_le_mul_right 6 (ordL_len b h i)
theorem ordL_lens (b : Blk) : ∀ i, ∀ o ∈ ordL b i, o.length = i
  | 0, o, h => by
    have := List.mem_singleton.mp h
    subst this; rfl
  | i + 1, o, h => by
    obtain ⟨o', h1, h2⟩ := List.mem_flatMap.mp h
    obtain ⟨r, _, rfl⟩ := List.mem_map.mp h2
    rw [List.length_append, ordL_lens b i o' h1]; rfl
theorem pow6 {i : Nat} (h : i ≤ 6) : 6 ^ i ≤ 46656 := Nat.pow_le_pow_right (by decide) h
theorem ev_host0 {σ : L2.St} {G : Hp} {te : TE} {b : Blk} (h : EvD te σ G (dBlk b)) : EvD (tOp (rIxT K) te (tC (.int 0))) σ G (.tuple (b.rows.map dRow)) := ev_op h ev_int (od_ixT (j := 0) rfl rfl)
theorem ok_law_orders (F : Fun K "_law_orders" "_law_orders" s_law_orders f fd) (M : Mg mg tL tN) (c_law_under : Cal P w K mg base CX0 1 "_law_under" ["_law_near", "_law_far"] (SpD 2 RUnd)) : FnOk P w K mg base CX0 2 f fd ["_law_host_here"] (SpD 1 ROrds) := by
  refine F.ok sc_law_orders (fun vs H Q E h => h.len) (fun cdv A outer s H vs Q E hr h => ?_)
  obtain ⟨G, ds, en, hn, i, rs, ⟨b, rfl, B, rfl⟩, q⟩ := h
  obtain ⟨v, rfl, rv⟩ := one_arg rs
  refine ⟨_, (pss_cons (ps_set (i := 1) sc_law_orders.nd rfl (.inl rfl) (pe_lst (pa_cons (pe_tup pa_nil) pa_nil)))
    (pss_cons (ps_for PassesOwn.never rfl (pi_range1 (by rfl) M.range (pa_cons (pe_callB call_len_seq (by rfl) M.len (by decide +kernel) (pa_cons (pe_ix ix_tup (pv 0) pe_int (fun _ _ => rfl)) pa_nil)) pa_nil)) (pg_name (i := 2) sc_law_orders.nd rfl (.inl rfl)) (pss_cons (ps_set (i := 3) sc_law_orders.nd rfl (.inl rfl) (pe_lst pa_nil))
    (pss_cons (ps_for PassesOwn.never rfl (pi_list (pv 1)) (pg_name (i := 4) sc_law_orders.nd rfl (.inr rfl)) (pss_cons (ps_setLc (i := 5) (own := [("_law_own", 6)]) (g := gName 6) (tt := _) rfl sc_law_orders.nd rfl rfl (sw_true rfl rfl rfl (by decide +kernel)) (pi_tup (pe_ix ix_tup (pv 0) pe_int (fun _ _ => rfl))) (blkOk_by (N := N_law_orders) (sc := defScope s_law_orders) (by decide +kernel)) (fun _ _ _ _ _ => (pg_name (i := 6) sc_law_orders.nd rfl (.inl rfl))) (fun _ _ _ _ _ => (pts_one (PW.pt (pw_and (pt_cmpR (r := (rIn K true)) op_notIn_seq (pe_ix (r := (rIxT K)) ix_tup (pv 6) pe_int (fun _ _ => rfl)) (pv 4) rfl) (pw_and1 (pt_val (pe_call c_law_under.ok (hr.mono (by decide)) (by rfl) c_law_under.m c_law_under.kp c_law_under.b .nil pass0 (pa_cons (pe_ix (r := (rIxT K)) ix_tup (pv 6) pe_int (fun _ _ => rfl)) (pa_cons (pv 4) pa_nil))))))))) (fun _ _ _ _ _ => (pe_ix (r := (rIxT K)) ix_tup (pv 6) pe_int (fun _ _ => rfl))))
    (pss_one (ps_set (i := 3) sc_law_orders.nd rfl (.inl rfl) (pe_op op_cat (pv 3) (pe_lc (own := [("_law_own", 6)]) (g := gName 6) (tt := tYes) rfl sc_law_orders.nd (pi_list (pv 5)) (blkOk_by (N := N_law_orders) (sc := defScope s_law_orders) (by decide +kernel)) (fun _ _ _ _ _ => (pg_name (i := 6) sc_law_orders.nd rfl (.inl rfl))) (fun _ _ _ _ _ => pts_nil) (fun _ _ _ _ _ => (pe_op (r := (rCatA K)) op_catA (pv 4) (pe_tup (pa_cons (pv 6) pa_nil))))))))))
    (pss_one (ps_set (i := 1) sc_law_orders.nd rfl (.inl rfl) (pv 3))))))
    (pss_one (ps_ret (pv 1))))), ?_⟩
  dsimp only [tSeq, tAsg]
  refine ev_lst (es_cons (ev_tup es_nil (show 0 ≤ 100000 by decide)) es_nil) (show 1 ≤ 100000 by decide) H i _ fun v1 G1 H1 x1 r1 => ?_
  refine tg_name (G := G1) H1 x1.i _ ?_
  dsimp only [tSeq]
  let Iv : Nat → L2.St → Hp → Hp → Prop := fun j σ G' H' => ∃ (vf : V) (x2 x3 x4 x5 x6 : Option V), σ = [some v, some vf, x2, x3, x4, x5, x6] ∧ Gx G H G' H' ∧ Rp G' vf (.list ((ordL b j).map dO))
  refine for_ind (ds := ivs 0 b.rows.length) (G := G1) PyData.int ?_ Iv x1.i (fun G4 H4 x4 => ?_) (fun Gs sGs j z hj σ' G4 H4 s4 i4 iv x G5 H5 x5 rx => ?_) (fun σ' G4 H4 s4 i4 iv => ?_)
  · have := ei_rng1 (σ := (List.set (L2.start N_law_orders [v]) 1 (some v1))) (G := G1) (n := ((b.rows.map dRow).length : Nat)) (es_cons (ev_cb (es_cons (ev_host0 (K := K) (ev_var (i := 0) rfl (rv.up x1.g))) es_nil) (cd_lenT (K := K))) es_nil) (by omega) (by rw [List.length_map]; have := B.nl; omega)
    rw [Int.toNat_natCast, List.length_map] at this
    exact this
  · exact ⟨v1, none, none, none, none, none, rfl, x1.trans x4, r1.up x4.g⟩
  · obtain ⟨vf, y2, y3, y4, y5, y6, rfl, xx, rf⟩ := iv
    have jl : j < b.rows.length := by
      have := (List.getElem?_eq_some_iff.mp hj).1
      rw [ivs_len] at this; exact this
    have jb := B.nl
    refine tg_name (G := G5) H5 x5.i _ ?_
    dsimp only [tSeq, tAsg]
    refine ev_lst es_nil (show 0 ≤ 100000 by decide) H5 x5.i _ fun v3 G6 H6 x6 r3 => ?_
    refine tg_name (G := G6) H6 x6.i _ ?_
    dsimp only [tSeq, tAsg]
    have x46 : Gx G4 H4 G6 H6 := x5.trans x6
    let Iw : Nat → L2.St → Hp → Hp → Prop := fun k σ G' H' => ∃ (vl : V) (z2 z4 z5 z6 : Option V), σ = [some v, some vf, z2, some vl, z4, z5, z6] ∧ Gx G6 H6 G' H' ∧ Rp G' vl (.list ((((ordL b j).take k).flatMap (nextO b)).map dO))
    refine for_ind (ds := ordL b j) (G := G6) dO (ei_list (ev_var rfl (rf.up x46.g))) Iw x6.i (fun G7 H7 x7 => ?_) (fun Gt sGt k o ho σ'' G7 H7 s7 i7 iw x' G8 H8 x8 rx' => ?_) (fun σ'' G7 H7 s7 i7 iw => ?_)
    · exact ⟨v3, _, _, _, _, rfl, x7, r3.up x7.g⟩
    · obtain ⟨vl, z2, z4, z5, z6, rfl, xy, rl⟩ := iw
      refine tg_name (G := G8) H8 x8.i _ ?_
      dsimp only [tSeq, tAsg]
      have rv8 : Rp G8 v (dBlk b) := rv.up (xx.g.trans (x46.g.trans (xy.g.trans x8.g)))
      refine ev_lcA (as := b.rows) dRow (fun r => !decide (r.1 ∈ o) && decide (∀ s ∈ r.2.1, s ∈ o)) (fun r => .str r.1) (ei_tup (ev_host0 (ev_var rfl rv8))) (by omega) (fun r hr' G9 y s9 ry => ⟨_, tg_name, rfl, eb_and (eb_test (ev_op (ev_op (ev_var rfl ry) ev_int (od_ixT (j := 0) rfl rfl)) (ev_var rfl (rx'.up s9)) od_niStrT)) (fun _ => eb_B (ev_call (R := RUnd) (es_cons (ev_op (ev_var rfl ry) ev_int (od_ixT (j := 1) rfl rfl)) (es_cons (ev_var rfl (rx'.up s9)) es_nil)) ⟨r.2.1, o, rfl, by have := B.rl r hr'; omega, B.rn r hr', rfl⟩ rfl)), fun _ => ev_op (ev_var rfl ry) ev_int (od_ixT (j := 0) rfl rfl)⟩) H8 x8.i _ fun v9 G9 H9 x9 r9 => ?_
      refine tg_name (G := G9) H9 x9.i _ ?_
      dsimp only [tSeq, tAsg]
      have ol : o.length = j := ordL_lens b j o (List.mem_of_getElem? ho)
      have l1 : (((ordL b j).take k).flatMap (nextO b) ++ nextO b o).length ≤ 46656 := by
        rw [← fm_take (nextO b) ho]
        refine Nat.le_trans (fm_take_le (nextO b) (ordL b j) (k + 1)) ?_
        have h1 := ordL_len b B.nl (j + 1)
        have h2 := pow6 (i := j + 1) (by omega)
        exact Nat.le_trans h1 h2
      refine ev_op (ev_var rfl (rl.up (x8.g.trans x9.g))) (ev_is (f := .list ((nextO b o).map dO)) (ev_lcB (as := freeR b o) (fun r => PyData.str r.1) (fun r => dO (o ++ [r.1])) (ei_list (ev_var rfl r9)) (by unfold freeR; exact Nat.le_trans (List.length_filter_le ..) (by omega)) fun r hr' G10 y s10 ry => ?_) ?_) (od_catL (by rw [List.length_map, List.length_map, ← List.length_append]; omega)) H9 x9.i _ fun v10 G10 H10 x10 r10 => ?_
      · cases ry.isStr
        refine ⟨_, tg_name, rfl, ev_is (ev_op (ev_var rfl (rx'.up (x9.g.trans s10))) (ev_tup (es_cons (ev_var rfl (.str r.1)) es_nil) (show 1 ≤ 100000 by decide)) (od_catT ?_)) ?_⟩
        · rw [strs_len]; show o.length + 1 ≤ _; omega
        · unfold dO dStrs; rw [List.map_append]; rfl
      · unfold nextO; rw [List.map_map]; rfl
      · refine tg_name (G := G10) H10 x10.i _ ?_
        refine ⟨G10, s7.trans (x8.g.trans (x9.g.trans x10.g)), x10.i, v10, _, _, _, _, rfl, ((xy.trans x8).trans x9).trans x10, ?_⟩
        rw [fm_take (nextO b) ho, List.map_append]
        exact r10
    · obtain ⟨vl, z2, z4, z5, z6, rfl, xy, rl⟩ := iw
      rw [List.take_length] at rl
      refine ⟨vl, rfl, ?_⟩
      exact ⟨G7, s4.trans (x46.g.trans xy.g), xy.i, vl, _, _, _, _, _, rfl, (xx.trans x46).trans xy, rl⟩
  · obtain ⟨vf, y2, y3, y4, y5, y6, rfl, xx, rf⟩ := iv
    rw [ivs_len] at rf
    exact ⟨vf, rfl, q vf G4 H4 xx rf⟩

/-! ### times -/
abbrev s_law_times : Stmt := top 33
abbrev N_law_times : List Str := ["_law_urn", "_law_host_here", "_law_high_so", "_law_own"]
theorem sc_law_times : FnScope N_law_times ["_law_urn", "_law_host_here", "_law_high_so"] (defScope s_law_times) := ⟨rfl, rfl, rfl, by decide +kernel, rfl, by decide +kernel, by decide +kernel⟩
structure TmOk (b : Blk) (lat : Lat) : Prop where
  names : lat.map (·.1) = (b.rows.filter fun r => r.2.2).map (·.1)
  pos : ∀ p ∈ lat, 1 ≤ p.2 ∧ p.2 ≤ 7
def RTm (ds : List PyData) (d : PyData) : Prop := ∃ b lat, ds = [dBlk b, .int 7] ∧ TmOk b lat ∧ d = dLat lat
def PTm (ds : List PyData) : Prop := ∃ b, ds = [dBlk b, .int 7] ∧ b.rows.length ≤ 6
abbrev SpTm : Sp := SpU true 2 6 5000000 RTm PTm
theorem all2_lat {as : List Row} {ys : List (Option PyData)} (h : All2 (fun r o => (r.2.2 = false ∧ o = none) ∨ (r.2.2 = true ∧ ∃ t : Int, 1 ≤ t ∧ t ≤ 7 ∧ o = some (dLatP (r.1, t)))) as ys) : ∃ lat : Lat, lat.map (·.1) = (as.filter fun r => r.2.2).map (·.1) ∧ (∀ p ∈ lat, 1 ≤ p.2 ∧ p.2 ≤ 7) ∧ ys.filterMap id = lat.map dLatP := by
  induction h with
  | nil => exact ⟨[], rfl, fun p hp => (by cases hp), rfl⟩
  | @snoc as bs a b _ hs ih =>
    obtain ⟨lat, h1, h2, h3⟩ := ih
    rcases hs with ⟨c, rfl⟩ | ⟨c, t, t0, t1, rfl⟩
    · exact ⟨lat, by rw [h1, List.filter_append]; simp [c], h2, by rw [List.filterMap_append, h3]; simp⟩
    · refine ⟨lat ++ [(a.1, t)], by rw [List.map_append, h1, List.filter_append]; simp [c], fun p hp => ?_, by rw [List.filterMap_append, h3, List.map_append]; rfl⟩
      rcases List.mem_append.mp hp with hp | hp
      · exact h2 p hp
      · rw [List.mem_singleton.mp hp]; exact ⟨t0, t1⟩
theorem ok_law_times (F : Fun K "_law_times" "_law_times" s_law_times f fd) (M : Mg mg tL tN) (c_law_take : Cal P w K mg base CX0 1 "_law_take" ["_law_urn", "_law_low_so"] SpTake) : FnOk P w K mg base CX0 2 f fd ["_law_urn", "_law_host_here", "_law_high_so"] SpTm := by
  refine F.ok sc_law_times (fun vs H Q E h => h.len) (fun cdv A outer s H vs Q E hr h => ?_)
  obtain ⟨u, rest, G, ds, n, rfl, hk, i, gu, un, hn, rs, ⟨b, rfl, bl⟩, q⟩ := h
  obtain ⟨v, v2, rfl, rv, rv2⟩ := two_args rs
  cases rv2.isInt
  refine ⟨_, (pss_one (ps_ret (pe_callTy call_tupF (by rfl) M.tuple_ (by decide +kernel) (pa_cons (pe_lc (own := [("_law_own", 3)]) (g := gName 3) (tt := _) rfl sc_law_times.nd (pi_tup (pe_ix ix_tup (pv 1) pe_int (fun _ _ => rfl))) (blkOk_by (N := N_law_times) (sc := defScope s_law_times) (by decide +kernel)) (fun _ _ _ _ _ => (pg_name (i := 3) sc_law_times.nd rfl (.inl rfl))) (fun _ _ _ _ _ => (pts_one (pt_val (pe_ix (r := (rIxT K)) ix_tup (pv 3) pe_int (fun _ _ => rfl))))) (fun _ _ _ _ _ => (pe_tup (pa_cons (pe_ix (r := (rIxT K)) ix_tup (pv 3) pe_int (fun _ _ => rfl)) (pa_cons (pe_op op_add pe_int (pe_call c_law_take.ok (hr.mono (by decide)) (by rfl) c_law_take.m c_law_take.kp c_law_take.b .nil pass0 (pa_cons (pv 0) (pa_cons (pv 2) pa_nil)))) pa_nil))))) pa_nil)))), ?_⟩
  dsimp only [tRet]
  refine cb_at (tlc_of (fun J H6 => ∃ G6, Gx G H G6 H6 ∧ Wk J G6 (b.rows.map dRow)) (fun R hR => ?_) (fun J H6 hc => ?_))
  · exact ei_tup (ev_host0 (ev_var rfl rv)) H i _ fun J G6 H6 x6 w6 => hR J H6 ⟨G6, x6, w6⟩
  · obtain ⟨G6, x6, w6⟩ := hc
    have u6 := un.gx x6
    have gu6 := un.out x6 gu
    refine lcU (u := u) (m := 1) (N := n + 6) dRow (fun r o => (r.2.2 = false ∧ o = none) ∨ (r.2.2 = true ∧ ∃ t : Int, 1 ≤ t ∧ t ≤ 7 ∧ o = some (dLatP (r.1, t)))) w6 x6.i gu6 u6 (by decide) (by omega) (by omega) ?_ _ ?_
    · refine fun r hr' G7 H7 x n' s7 i7 gu7 u7 l7 rx => ⟨_, tg_name, rfl, fun Q1 Q2 q1 q2 => ?_⟩
      refine eb_B (ev_op (d := dRow r) (ev_var rfl rx) ev_int (od_ixT (j := 2) rfl rfl)) H7 i7 _ fun H8 s8 => ?_
      have x8 : Gx G7 H7 G7 H8 := Gx.grow i7 s8
      have u8 := u7.gx x8
      cases c : r.2.2 with
      | false =>
        rw [if_neg (by simp)]
        exact q1 G7 H8 (.inl ⟨c, rfl⟩) (Gu.of x8 gu7) (u8.le (by omega))
      | true =>
        rw [if_pos rfl]
        refine tup_at ?_
        refine ev_op (d := dRow r) (ev_var rfl rx) ev_int (od_ixT (j := 0) rfl rfl) H8 x8.i _ fun v9 G9 H9 x9 r9 => ?_
        have u9 := u8.gx x9
        have gu9 := u8.out x9 gu7
        refine eu_call (R := RTake) (Pre := PTake) (G := G9) rfl (es_cons (ev_var rfl (.int 7)) es_nil) ⟨7, rfl, by omega, by omega⟩ rfl x9.i gu9 u9 (by omega) _ fun d10 v10 G10 H10 h10 x10 u10 r10 _ => ?_
        obtain ⟨_, t, e, t0, t1, rfl⟩ := h10
        cases e
        cases r10.isInt
        refine ⟨1, t, rfl, rfl, show 2 ≤ sizeLine by decide, fun p hp => ?_⟩
        have xT := Gx.new (o := .tup [v9, .int (1 + t)]) x10.i hp
        refine q2 (dLatP (r.1, 1 + t)) _ _ _ (.inr ⟨c, 1 + t, by omega, by omega, rfl⟩) (((Gu.of (x8.trans x9) gu7).trans x10).trans (Gu.of xT (x10.n2 u9.at))) (u10.gx xT) (.tup (.of upd_same) (.cons (r9.up (x10.g.trans xT.g)) (.cons (.int _) .nil)))
    · intro ys v7 G7 H7 al x7 u7 r7
      obtain ⟨lat, l1, l2, se⟩ := all2_lat al
      rw [se] at r7
      obtain ⟨p7, xs7, rfl, g7, rs7⟩ := r7.isList
      refine ⟨p7, xs7, rfl, .of (x7.i _ _ g7), fun p8 o8 h8 ho => ?_⟩
      have x8 := Gx.new (o := .frz o8 (.tup xs7)) x7.i h8
      exact q _ _ _ _ ⟨b, lat, rfl, ⟨l1, l2⟩, rfl⟩ ((Gu.of x6 gu).trans (x7.trans (Gu.of x8 (x7.n2 u6.at)))) ((u7.gx x8).le (by omega)) (.tup (.inr ⟨o8, upd_same, ho⟩) (rs7.up x8.g)) (fun _ => ⟨p8, o8, xs7, rfl, upd_same, ho⟩)

/-! ### lists -/
abbrev s_law_lists : Stmt := top 24
abbrev N_law_lists : List Str := ["_law_thing_so", "_law_bit"]
theorem sc_law_lists : FnScope N_law_lists ["_law_thing_so"] (defScope s_law_lists) := ⟨rfl, rfl, rfl, by decide +kernel, rfl, by decide +kernel, by decide +kernel⟩
def RLis (n : Nat) (ds : List PyData) (r : PyData) : Prop := ∃ d m, n = m + 1 ∧ ds = [d] ∧ okD m d = true ∧ r = lisN m d
theorem ok_law_lists {n : Nat} (F : Fun K "_law_lists" "_law_lists" s_law_lists f fd) (M : Mg mg tL tN) (c_law_lists : Cal P w K mg base CX0 n "_law_lists" ["_law_thing_so"] (SpD 1 (RLis n))) : FnOk P w K mg base CX0 (n + 1) f fd ["_law_thing_so"] (SpD 1 (RLis (n + 1))) := by
  refine F.ok sc_law_lists (fun vs H Q E h => h.len) (fun cdv A outer s H vs Q E hr h => ?_)
  obtain ⟨G, ds, r, hn, i, rs, ⟨d, m, hm, rfl, hx, rfl⟩, q⟩ := h
  cases hm
  obtain ⟨v, rfl, rv⟩ := one_arg rs
  refine ⟨_, (pss_one (ps_ret (pe_ifExp (pt_val (pe_callB call_isiT (by rfl) M.isinstance (by decide +kernel) (pa_cons (pv 0) (pa_cons (pe_tup (pa_cons (pe_bltn (v := .ty "list") (by rfl) M.list_ (by decide +kernel) rfl) (pa_cons (pe_bltn (v := .ty "tuple") (by rfl) M.tuple_ (by decide +kernel) rfl) pa_nil))) pa_nil)))) (pe_lc (own := [("_law_bit", 1)]) (g := gName 1) (tt := tYes) rfl sc_law_lists.nd (pi_seq (pv 0)) (blkOk_by (N := N_law_lists) (sc := defScope s_law_lists) (by decide +kernel)) (fun _ _ _ _ _ => (pg_name (i := 1) sc_law_lists.nd rfl (.inl rfl))) (fun _ _ _ _ _ => pts_nil) (fun _ _ _ _ _ => (pe_call c_law_lists.ok hr (by rfl) c_law_lists.m c_law_lists.kp c_law_lists.b .nil pass0 (pa_cons (pv 1) pa_nil)))) (pv 0)))), ?_⟩
  have ev : EvD (tVar 0) (L2.start N_law_lists [v]) G d := ev_var rfl rv
  refine (ev_if (eb_test (ev_isiS ev)) (fun h => ?_) (fun h => ?_) : EvD _ _ _ _) H i _ q
  · have part : ∃ xs m', n = m' + 1 ∧ xs.length ≤ 100000 ∧ xs.all (okD m') = true ∧ EvI (iSeq K (tVar 0)) (L2.start N_law_lists [v]) G xs ∧ lisN n d = .list (xs.map (lisN m')) := by
      cases d with
      | list xs =>
        cases n with
        | zero => cases hx
        | succ m' =>
          have hx : (decide (xs.length ≤ 100000) && xs.all (okD m')) = true := hx
          rw [Bool.and_eq_true, decide_eq_true_eq] at hx
          exact ⟨xs, m', rfl, hx.1, hx.2, ei_seqL ev, rfl⟩
      | tuple xs =>
        cases n with
        | zero => cases hx
        | succ m' =>
          have hx : (decide (xs.length ≤ 100000) && xs.all (okD m')) = true := hx
          rw [Bool.and_eq_true, decide_eq_true_eq] at hx
          exact ⟨xs, m', rfl, hx.1, hx.2, ei_seqT ev, rfl⟩
      | _ => cases h
    obtain ⟨xs, m', e, hl, ha, hi, ez⟩ := part
    rw [ez]
    exact ev_lcm (lisN m') hi hl fun d hd G2 y s r => ⟨_, tg_name, rfl, ev_call (es_cons (ev_var rfl r) es_nil) ⟨d, m', e, rfl, List.all_eq_true.mp ha d hd, rfl⟩ rfl⟩
  · have e : lisN n d = d := by cases d <;> first | (cases n <;> rfl) | cases h
    rw [e]
    exact ev

/-! ### same -/
abbrev s_law_same : Stmt := top 23
abbrev N_law_same : List Str := ["_law_got", "_law_goal", "_law_mine_so", "_law_own"]
theorem sc_law_same : FnScope N_law_same ["_law_got", "_law_goal"] (defScope s_law_same) := ⟨rfl, rfl, rfl, by decide +kernel, rfl, by decide +kernel, by decide +kernel⟩
/-- data that may be compared -/
def okS : Nat → PyData → Bool
  | _, .dict _ => false
  | 0, .list _ => false
  | 0, .tuple _ => false
  | n + 1, .list xs => decide (xs.length ≤ 100000) && xs.all (okS n)
  | n + 1, .tuple xs => decide (xs.length ≤ 100000) && xs.all (okS n)
  | _, .str s => SeqAt.shaped (.str s)
  | _, _ => true
def RSame (n : Nat) (ds : List PyData) (r : PyData) : Prop := ∃ d m, n = m + 1 ∧ ds = [d, d] ∧ okS m d = true ∧ r = .bool true
theorem ev_is_c {r : List V → Hp → VK → Prop} {ds : List PyData} {f g : PyData} (h : CaD r ds f) (e : f = g) : CaD r ds g := e ▸ h
theorem eqv_self {d : PyData} (h : SeqAt.shaped d = true) : PyData.eqv d d = true := by
  unfold SeqAt.shaped at h
  rw [Bool.and_eq_true] at h
  exact SeqAt.eqv_refl d h.1
theorem ok_law_same {n : Nat} (F : Fun K "_law_same" "_law_same" s_law_same f fd) (M : Mg mg tL tN) (c_law_same : Cal P w K mg base CX0 n "_law_same" ["_law_got", "_law_goal"] (SpD 2 (RSame n))) (hn0 : n ≤ 20) : FnOk P w K mg base CX0 (n + 1) f fd ["_law_got", "_law_goal"] (SpD 2 (RSame (n + 1))) := by
  refine F.ok sc_law_same (fun vs H Q E h => h.len) (fun cdv A outer s H vs Q E hr h => ?_)
  obtain ⟨G, ds, r, hn, i, rs, ⟨d, m, hm, rfl, hx, rfl⟩, q⟩ := h
  cases hm
  obtain ⟨v, u, rfl, rv, ru⟩ := two_args rs
  refine ⟨_, (pss_cons (ps_if (pt_val (pe_callB call_isiT (by rfl) M.isinstance (by decide +kernel) (pa_cons (pv 1) (pa_cons (pe_tup (pa_cons (pe_bltn (v := .ty "list") (by rfl) M.list_ (by decide +kernel) rfl) (pa_cons (pe_bltn (v := .ty "tuple") (by rfl) M.tuple_ (by decide +kernel) rfl) pa_nil))) pa_nil)))) (pss_cons (ps_if (PW.pt (pw_or (pt_cmpR op_ne (pe_callB call_isi (by rfl) M.isinstance (by decide +kernel) (pa_cons (pv 0) (pa_cons (pe_bltn (v := .ty "list") (by rfl) M.list_ (by decide +kernel) rfl) pa_nil))) (pe_callB call_isi (by rfl) M.isinstance (by decide +kernel) (pa_cons (pv 1) (pa_cons (pe_bltn (v := .ty "list") (by rfl) M.list_ (by decide +kernel) rfl) pa_nil))) (nomark _)) (pw_or1 (pt_cmpR op_ne (pe_callB call_isi (by rfl) M.isinstance (by decide +kernel) (pa_cons (pv 0) (pa_cons (pe_bltn (v := .ty "tuple") (by rfl) M.tuple_ (by decide +kernel) rfl) pa_nil))) (pe_callB call_isi (by rfl) M.isinstance (by decide +kernel) (pa_cons (pv 1) (pa_cons (pe_bltn (v := .ty "tuple") (by rfl) M.tuple_ (by decide +kernel) rfl) pa_nil))) (nomark _))))) (pss_one (ps_ret pe_bl)) pss_nil)
    (pss_one (ps_ret (pe_and (pe_cmpR op_eq (pe_callB call_len_seq (by rfl) M.len (by decide +kernel) (pa_cons (pv 0) pa_nil)) (pe_callB call_len_seq (by rfl) M.len (by decide +kernel) (pa_cons (pv 1) pa_nil)) (nomark _)) (pe_one (pe_callB (cr_all rfl) (by rfl) M.all_ (by decide +kernel) (pa_cons (pe_lc (own := [("_law_mine_so", 2), ("_law_own", 3)]) (g := gTup K 2 (gCons (gName 2) (gCons (gName 3) gNil))) (tt := tYes) rfl sc_law_same.nd (RZ.pi_zipA (by rfl) M.zip (pa_cons (pv 0) (pa_cons (pv 1) pa_nil))) (blkOk_by (N := N_law_same) (sc := defScope s_law_same) (by decide +kernel)) (fun _ _ _ _ _ => (pg_tup rfl (pgs_cons (pg_name (i := 2) sc_law_same.nd rfl (.inl rfl)) (pgs_cons (pg_name (i := 3) sc_law_same.nd rfl (.inl rfl)) pgs_nil)))) (fun _ _ _ _ _ => pts_nil) (fun _ _ _ _ _ => (pe_call c_law_same.ok hr (by rfl) c_law_same.m c_law_same.kp c_law_same.b .nil pass0 (pa_cons (pv 2) (pa_cons (pv 3) pa_nil))))) pa_nil))))))) pss_nil)
    (pss_cons (ps_if (PW.pt (pw_or (pt_cmpR op_isN (pv 1) pe_non (nomark _)) (pw_or1 (pt_val (pe_callB call_isiT (by rfl) M.isinstance (by decide +kernel) (pa_cons (pv 1) (pa_cons (pe_tup (pa_cons (pe_bltn (v := .ty "bool") (by rfl) M.bool_ (by decide +kernel) rfl) (pa_cons (pe_bltn (v := .ty "str") (by rfl) M.str_ (by decide +kernel) rfl) pa_nil))) pa_nil))))))) (pss_one (ps_ret (pe_and (pe_cmpR (op_eqD hr.units) (pv 0) (pv 1) (nomark _)) (pe_and (pe_cmpR op_eq (pe_callB call_isi (by rfl) M.isinstance (by decide +kernel) (pa_cons (pv 0) (pa_cons (pe_bltn (v := .ty "bool") (by rfl) M.bool_ (by decide +kernel) rfl) pa_nil))) (pe_callB call_isi (by rfl) M.isinstance (by decide +kernel) (pa_cons (pv 1) (pa_cons (pe_bltn (v := .ty "bool") (by rfl) M.bool_ (by decide +kernel) rfl) pa_nil))) (nomark _)) (pe_one (pe_cmpR op_eq (pe_cmpR op_isN (pv 0) pe_non (nomark _)) (pe_cmpR op_isN (pv 1) pe_non (nomark _)) (nomark _))))))) pss_nil)
    (pss_one (ps_ret (pe_and (pe_callB call_isi (by rfl) M.isinstance (by decide +kernel) (pa_cons (pv 0) (pa_cons (pe_bltn (v := .ty "int") (by rfl) M.int_ (by decide +kernel) rfl) pa_nil))) (pe_and (pe_not (pe_callB call_isi (by rfl) M.isinstance (by decide +kernel) (pa_cons (pv 0) (pa_cons (pe_bltn (v := .ty "bool") (by rfl) M.bool_ (by decide +kernel) rfl) pa_nil)))) (pe_one (pe_cmpR (op_eqD hr.units) (pv 0) (pv 1) (nomark _))))))))), ?_⟩
  have e0 : EvD (tVar 0) (L2.start N_law_same [v, u]) G d := ev_var rfl rv
  have e1 : EvD (tVar 1) (L2.start N_law_same [v, u]) G d := ev_var rfl ru
  dsimp only [tSeq, tIfS]
  refine eb_test (ev_isiS e1) H i _ fun H2 s2 => ?_
  have x2 : Gx G H G H2 := Gx.grow i s2
  cases c : isSeqD d with
  | true =>
    rw [if_pos rfl]
    have part : ∃ xs m' bL bT, n = m' + 1 ∧ xs.length ≤ 100000 ∧ xs.all (okS m') = true ∧ kitB (tyD d) "list" = some bL ∧ kitB (tyD d) "tuple" = some bT ∧ EvI (iZipA K (tCons (tVar 0) (tCons (tVar 1) tNil))) (L2.start N_law_same [v, u]) G (zipD xs xs) ∧
        ∀ te : TE, EvD te (L2.start N_law_same [v, u]) G d → EvD (tCB (fun xs H Q => ∃ p ys, xs = [.ref p] ∧ (SqL K H p ys ∨ SqT K H p ys) ∧ Q (.int ys.length) H) (tCons te tNil)) (L2.start N_law_same [v, u]) G (.int (xs.length : Nat)) := by
      cases d with
      | list xs =>
        cases n with
        | zero => cases hx
        | succ m' =>
          have hx : (decide (xs.length ≤ 100000) && xs.all (okS m')) = true := hx
          rw [Bool.and_eq_true, decide_eq_true_eq] at hx
          exact ⟨xs, m', true, false, rfl, hx.1, hx.2, (show kitB "list" "list" = some true by decide +kernel), (show kitB "list" "tuple" = some false by decide +kernel), ei_zipL (es_cons e0 (es_cons e1 es_nil)), fun te h => ev_cb (es_cons h es_nil) cd_lenL⟩
      | tuple xs =>
        cases n with
        | zero => cases hx
        | succ m' =>
          have hx : (decide (xs.length ≤ 100000) && xs.all (okS m')) = true := hx
          rw [Bool.and_eq_true, decide_eq_true_eq] at hx
          exact ⟨xs, m', false, true, rfl, hx.1, hx.2, (show kitB "tuple" "list" = some false by decide +kernel), (show kitB "tuple" "tuple" = some true by decide +kernel), ei_zipT (es_cons e0 (es_cons e1 es_nil)), fun te h => ev_cb (es_cons h es_nil) cd_lenT⟩
      | _ => cases c
    obtain ⟨xs, m', bL, bT, en, hl, ha, kL, kT, ez, el⟩ := part
    have ne : ∀ b : Bool, (!decide (V.bl b = V.bl b)) = false := fun b => by simp
    refine (eb_or (a := false) (b := false) (eb_test (ev_is (ev_op (ev_isi e0 kL) (ev_isi e1 kL) (od_ne rfl rfl rfl)) (congrArg PyData.bool (ne bL)))) (fun _ => eb_test (ev_is (ev_op (ev_isi e0 kT) (ev_isi e1 kT) (od_ne rfl rfl rfl)) (congrArg PyData.bool (ne bT))))) H2 x2.i _ fun H3 s3 => ?_
    have x3 : Gx G H G H3 := x2.post s3
    rw [if_neg (by simp)]
    dsimp only [tNext, tRet]
    have zz : zipD xs xs = xs.map fun x => .tuple [x, x] := by
      have : ∀ l : List PyData, zipD l l = l.map fun x => .tuple [x, x] := fun l => by
        induction l with
        | nil => rfl
        | cons a l ih => show _ :: zipD l l = _; rw [ih]; rfl
      exact this xs
    refine ev_andV (a := true) (b := true) (ev_is (ev_op (el _ e0) (el _ e1) (od_eq rfl rfl rfl)) (by simp)) (fun _ => ev_cb (es_cons (ev_is (f := .list ((xs.map fun _ => true).map .bool)) (ev_lcB (as := xs) (fun x => PyData.tuple [x, x]) (fun _ => .bool true) (zz ▸ ez) hl fun x hx' G4 y s4 ry => ?_) (by rw [List.map_map]; rfl)) es_nil) (ev_is_c cd_all (by simp))) H3 x3.i _ fun v4 G4 H4 x4 r4 => q v4 G4 H4 (x3.trans x4) r4
    obtain ⟨y1, y2, ry1, ry2, tg⟩ := tg2 (K := K) (i := 2) (j := 3) ry
    exact ⟨_, tg, rfl, ev_call (es_cons (ev_var rfl ry1) (es_cons (ev_var rfl ry2) es_nil)) ⟨x, m', en, rfl, List.all_eq_true.mp ha x hx', rfl⟩ rfl⟩
  | false =>
    rw [if_neg (by simp)]
    dsimp only [tNext, tSeq, tIfS]
    have first : ∀ bN bB bS : Bool, (∀ G v, Rp G v d → decide (v = .non) = bN) → kitB (tyD d) "bool" = some bB → kitB (tyD d) "str" = some bS → EvB (tOr (tTest (tOp (fun x y H Q => y = V.non ∧ Q (V.bl (decide (x = V.non))) H) (tVar 1) (tC V.non))) (tB (tCB (rIsiT K) (tCons (tVar 1) (tCons (tTup (tCons (tC (V.ty "bool")) (tCons (tC (V.ty "str")) tNil))) tNil))))) (L2.start N_law_same [v, u]) G (bN || (bB || bS)) := fun bN bB bS hN kB kS =>
      eb_or (eb_test (ev_op e1 ev_non (od_isN (x := .non) hN))) (fun _ => eb_B (ev_isi2 e1 kB kS))
    have fl : (∃ z, d = .int z) ∨ ∃ bN bB bS : Bool, (∀ G v, Rp G v d → decide (v = .non) = bN) ∧ kitB (tyD d) "bool" = some bB ∧ kitB (tyD d) "str" = some bS ∧ (bN || (bB || bS)) = true ∧ SeqAt.shaped d = true := by
      cases d with
      | list xs => cases c
      | tuple xs => cases c
      | dict xs => cases n <;> cases hx
      | none => exact .inr ⟨true, false, false, (fun G v r => by rw [r.isNone]; rfl), (show kitB "NoneType" "bool" = some false by decide +kernel), (show kitB "NoneType" "str" = some false by decide +kernel), rfl, (by decide +kernel)⟩
      | bool b => exact .inr ⟨false, true, false, (fun G v r => by rw [r.isBool]; rfl), (show kitB "bool" "bool" = some true by decide +kernel), (show kitB "bool" "str" = some false by decide +kernel), rfl, (by cases b <;> decide +kernel)⟩
      | str x => exact .inr ⟨false, false, true, (fun G v r => by rw [r.isStr]; rfl), (show kitB "str" "bool" = some false by decide +kernel), (show kitB "str" "str" = some true by decide +kernel), rfl, (by cases n <;> exact hx)⟩
      | int z => exact .inl ⟨z, rfl⟩
    rcases fl with ⟨z, rfl⟩ | ⟨bN, bB, bS, hN, kB, kS, hb, hs⟩
    · refine first false false false (fun G v r => by rw [r.isInt]; rfl) (show kitB "int" "bool" = some false by decide +kernel) (show kitB "int" "str" = some false by decide +kernel) H2 x2.i _ fun H3 s3 => ?_
      have x3 : Gx G H G H3 := x2.post s3
      rw [if_neg (by simp)]
      have hs : SeqAt.shaped (.int z) = true := by
        unfold SeqAt.shaped
        rw [PyData.canLay0, PyData.depth]; rfl
      refine ev_andV (a := true) (b := true) (ev_isi e0 (show kitB "int" "int" = some true by decide +kernel)) (fun _ => ev_andV (a := true) (b := true) (ev_notV (a := false) (ev_isi e0 (show kitB "int" "bool" = some false by decide +kernel))) (fun _ => ev_is (ev_op e0 e1 (od_eqD hs hs)) (by rw [eqv_self hs]))) H3 x3.i _ fun v4 G4 H4 x4 r4 => q v4 G4 H4 (x3.trans x4) r4
    · refine first bN bB bS hN kB kS H2 x2.i _ fun H3 s3 => ?_
      have x3 : Gx G H G H3 := x2.post s3
      rw [hb, if_pos rfl]
      dsimp only [tRet]
      refine ev_andV (a := true) (b := true) (ev_is (ev_op e0 e1 (od_eqD hs hs)) (by rw [eqv_self hs])) (fun _ => ev_andV (a := true) (b := true) (ev_is (ev_op (ev_isi e0 kB) (ev_isi e1 kB) (od_eq rfl rfl rfl)) (by simp)) (fun _ => ev_is (ev_op (ev_op e0 ev_non (od_isN (x := .non) hN)) (ev_op e1 ev_non (od_isN (x := .non) hN)) (od_eq rfl rfl rfl)) (by simp))) H3 x3.i _ fun v4 G4 H4 x4 r4 => q v4 G4 H4 (x3.trans x4) r4
end K11
set_option Elab.async false
set_option linter.all false
set_option maxRecDepth 100000
set_option maxHeartbeats 4000000
set_option autoImplicit false
/-! K11Law5: run. -/
namespace K11
open PySem PySem.Spec PyProof.Rows L2 RZ
variable {P : Program} {w : World} {K : PySem.W.Frag} {mg : Str → Option Value} {base : Heap} {f : Addr} {fd : FuncData} {tL tN : Tok}
/-! ### run -/
abbrev s_law_run : Stmt := top 32
abbrev N_law_run : List Str := ["_law_host_here", "_law_row_so", "_law_times_so", "_law_table_so", "_law_wait_so", "_law_found", "_law_tick_so", "_law_own", "_law_bit"]
theorem sc_law_run : FnScope N_law_run ["_law_host_here", "_law_row_so", "_law_times_so"] (defScope s_law_run) := ⟨rfl, rfl, rfl, by decide +kernel, rfl, by decide +kernel, by decide +kernel⟩
def dTk (e : Str × Int × Int) : PyData := .tuple [.int e.2.1, .int e.2.2]
def LatOk (b : Blk) (lat : Lat) : Prop := ∀ n ∈ b.names, (look (latE lat) (.inr n)).getD (.int 1) = .int (lag b lat n)
def SpRun : Sp := fun vs H Q _ => ∃ G b o lat v0 v1 pT, vs = [v0, v1, .ref pT] ∧ Same G H ∧ Rp G v0 (dBlk b) ∧ Rp G v1 (dO o) ∧ DkAt G pT (latE lat) ∧ BOk b ∧ isOrderB b o = true ∧ LatOk b lat ∧
  ∀ v G2 H2, Gx G H G2 H2 → Rp G2 v (.list ((tkOf b lat o).map dTk)) → Q v H2
theorem SpRun.len {vs : List V} {H : Hp} {Q : VK} {E : XK} (h : SpRun vs H Q E) : vs.length = 3 := by
  obtain ⟨_, _, _, _, _, _, _, rfl, _⟩ := h
  rfl
def tab2E (b : Blk) : Ents := b.rows.map fun r => (.inr r.1, .tuple (dStrs r.2.1))
theorem look_tab2 {b : Blk} {n : Str} (h : n ∈ b.names) : look (tab2E b) (.inr n) = some (.tuple (dStrs (rowOf b n).1)) := by
  obtain ⟨r, hr, e, q⟩ := row_mem h
  have z : rowOf b n = r.2 := by unfold rowOf; rw [q]; rfl
  unfold tab2E
  rw [look_map (fun r : Row => r.1) (fun r => .tuple (dStrs r.2.1)), q, z]; rfl
theorem tkSt_mono (b : Blk) (lat : Lat) : ∀ (o : List Str) (s : Tk × Int), s.2 ≤ (o.foldl (tkStep b lat) s).2
  | [], s => Int.le_refl _
  | n :: r, s => by
    have h := tkSt_mono b lat r (tkStep b lat s n)
    refine Int.le_trans ?_ h
    show s.2 ≤ maxL (s.2 + 1) _
    have := (maxL_ge ((rowOf b n).1.map fun w => (tkLook s.1 w).2) (s.2 + 1)).1
    omega
theorem tkSt_le (b : Blk) (lat : Lat) (o : List Str) (k : Nat) : (tkSt b lat (o.take k)).2 ≤ (tkSt b lat o).2 := by
  have := tkSt_mono b lat (o.drop k) (tkSt b lat (o.take k))
  unfold tkSt at *
  rw [← List.foldl_append, List.take_append_drop] at this
  exact this
theorem tkLook_map : ∀ (f : Tk), (f.map (·.1)).Nodup → f.map (fun e => tkLook f e.1) = f.map (·.2) := fun f nd => by
  refine List.map_congr_left fun e he => ?_
  obtain ⟨e', he', h1, h2⟩ := find_mem (fun e : Str × Int × Int => e.1) (List.mem_map.mpr ⟨e, he, rfl⟩)
  have : tkLook f e.1 = e'.2 := by unfold tkLook; rw [h2]; rfl
  rw [this]
  obtain ⟨i, hi⟩ := List.mem_iff_getElem?.mp he
  obtain ⟨j, hj⟩ := List.mem_iff_getElem?.mp he'
  have g1 : (f.map (·.1))[i]? = some e.1 := by rw [List.getElem?_map, hi]; rfl
  have g2 : (f.map (·.1))[j]? = some e.1 := by rw [List.getElem?_map, hj]; exact congrArg some h1
  have := (List.getElem?_inj (by rw [List.length_map]; exact (List.getElem?_eq_some_iff.mp hi).1) nd).mp (g1.trans g2.symm)
  subst this
  rw [hi] at hj
  rw [Option.some.inj hj]
theorem EvB.lend {σ : L2.St} {G : Hp} {tt : TT} {p : Addr} {kvs : List (Key × V)} {b : Bool} (h : EvB tt σ (upd G p (.dK kvs)) b) (hp : G p = none) : ∀ H, Same G H → H p = some (.dK kvs) → ∀ Q : Bool → Hp → Prop, (∀ H2, Same H H2 → Q b H2) → tt σ H Q := fun H s hH Q q => by
  refine h H (fun b u e => ?_) Q q
  by_cases z : b = p
  · subst z; rw [upd_same] at e; cases e; exact hH
  · rw [upd_ne z] at e; exact s _ _ e
theorem ok_law_run (F : Fun K "_law_run" "_law_run" s_law_run f fd) (M : Mg mg tL tN) : FnOk P w K mg base CX0 1 f fd ["_law_host_here", "_law_row_so", "_law_times_so"] SpRun := by
  refine F.ok sc_law_run (fun vs H Q E h => h.len) (fun cdv A outer s H vs Q E hr h => ?_)
  obtain ⟨G, b, o, lat, v0, v1, pT, rfl, i, r0, r1, rT, B, hord, LO, q⟩ := h
  refine ⟨_, (pss_cons (ps_asg (pe_tup (pa_cons (pe_callTy (call_dictP rfl) (by rfl) M.dict_ (by decide +kernel) (pa_cons (pe_lc (own := [("_law_own", 7)]) (g := gName 7) (tt := tYes) rfl sc_law_run.nd (pi_tup (pe_ix ix_tup (pv 0) pe_int (fun _ _ => rfl))) (blkOk_by (N := N_law_run) (sc := defScope s_law_run) (by decide +kernel)) (fun _ _ _ _ _ => (pg_name (i := 7) sc_law_run.nd rfl (.inl rfl))) (fun _ _ _ _ _ => pts_nil) (fun _ _ _ _ _ => (pe_tup (pa_cons (pe_ix (r := (rIxT K)) ix_tup (pv 7) pe_int (fun _ _ => rfl)) (pa_cons (pe_ix (r := (rIxT K)) ix_tup (pv 7) pe_int (fun _ _ => rfl)) pa_nil))))) pa_nil)) (pa_cons (pe_callTy call_list_of (by rfl) M.list_ (by decide +kernel) (pa_cons (pv 1) pa_nil)) (pa_cons pe_dnewK (pa_cons pe_int pa_nil))))) (pg_tup rfl (pgs_cons (pg_name (i := 3) sc_law_run.nd rfl (.inl rfl)) (pgs_cons (pg_name (i := 4) sc_law_run.nd rfl (.inl rfl)) (pgs_cons (pg_name (i := 5) sc_law_run.nd rfl (.inr rfl)) (pgs_cons (pg_name (i := 6) sc_law_run.nd rfl (.inr rfl)) pgs_nil))))))
    (pss_cons (ps_while PassesOwn.never (pt_cmpR (op_neD hr.units) (pv 4) (pe_lst pa_nil) (nomark _)) (pss_cons (ps_set (i := 7) sc_law_run.nd rfl (.inl rfl) (pe_ix ix_list (pv 4) pe_int (fun _ _ => rfl)))
    (pss_cons (ps_if (pt_cmpR (op_eqD hr.units) (pe_lc (own := [("_law_bit", 8)]) (g := gName 8) (tt := _) rfl sc_law_run.nd (pi_tup (pe_dget (hu_of hr) (pv 3) (pv 7) (fun _ _ => rfl))) (blkOk_by (N := N_law_run) (sc := defScope s_law_run) (by decide +kernel)) (fun _ _ _ _ _ => (pg_name (i := 8) sc_law_run.nd rfl (.inl rfl))) (fun _ _ _ _ _ => (pts_one (pt_cmpR op_gt (pe_ix (r := (rIxT K)) ix_tup (pe_dget (hu_of hr) (pv 5) (pv 8) (fun _ _ => rfl)) pe_int (fun _ _ => rfl)) (pv 6) (nomark _)))) (fun _ _ _ _ _ => (pv 8))) (pe_lst pa_nil) (nomark _)) (pss_cons (ps_dput (hu_of hr) (pv 5) (pv 7) (pe_tup (pa_cons (pv 6) (pa_cons (pe_op op_add (pv 6) (pe_dget2 (hu_of hr) (pv 2) (pv 7) pe_int ⟨rfl, rfl, rfl, rfl⟩)) pa_nil))) rfl)
    (pss_one (ps_set (i := 4) sc_law_run.nd rfl (.inl rfl) (pe_slice sl_list (pv 4) (po_some pe_int) po_none)))) pss_nil)
    (pss_one (ps_set (i := 6) sc_law_run.nd rfl (.inr rfl) (pe_op op_add (pv 6) pe_int))))))
    (pss_one (ps_ret (pe_lc (own := [("_law_own", 7)]) (g := gName 7) (tt := tYes) rfl sc_law_run.nd (pi_tup (pv 1)) (blkOk_by (N := N_law_run) (sc := defScope s_law_run) (by decide +kernel)) (fun _ _ _ _ _ => (pg_name (i := 7) sc_law_run.nd rfl (.inl rfl))) (fun _ _ _ _ _ => pts_nil) (fun _ _ _ _ _ => (pe_dget (hu_of hr) (pv 5) (pv 7) (fun _ _ => rfl)))))))), ?_⟩
  have O := OrdB.of B.nd hord
  have ol : o.length ≤ 6 := O.len ▸ B.nl
  have onm : ∀ k, ∀ s ∈ o.drop k, isNameB s = true := fun k s hs => O.nm s (List.mem_of_mem_drop hs)
  have e2 : (tab2E b).map pairD = b.rows.map fun r => PyData.tuple [.str r.1, .tuple (dStrs r.2.1)] := by unfold tab2E; rw [List.map_map]; rfl
  have nd2 : ((tab2E b).map (·.1)).Nodup := by
    have := inr_nodup B.nd
    unfold tab2E
    unfold Blk.names at this
    rw [List.map_map] at this ⊢; exact this
  dsimp only [tSeq, tAsg]
  refine tup_at ?_
  refine ek_dictL (en := tab2E b) (ev_is (ev_lcB (as := b.rows) dRow (fun r => .tuple [.str r.1, .tuple (dStrs r.2.1)]) (ei_tup (ev_host0 (ev_var rfl r0))) (by have := B.nl; omega) fun r hr' G9 y s9 ry => ⟨_, tg_name, rfl, ev_tup (es_cons (ev_op (ev_var rfl ry) ev_int (od_ixT (j := 0) rfl rfl)) (es_cons (ev_op (ev_var rfl ry) ev_int (od_ixT (j := 1) rfl rfl)) es_nil)) (show 2 ≤ 100000 by decide)⟩) (congrArg PyData.list e2.symm)) nd2 H i _ fun pB G1 H1 x1 rB => ?_
  refine ev_cb (es_cons (ev_var rfl (r1.up x1.g)) es_nil) cd_listT H1 x1.i _ fun vw G2 H2 x2 rw_ => ?_
  intro pF hF
  have x3 : Gx G H G2 H2 := x1.trans x2
  have gF : G2 pF = none := x2.i.free hF
  have hF0 : H pF = none := x3.h.free hF
  have s3 : Same G2 (upd H2 pF (.dK [])) := same_mut x2.i gF
  refine ⟨show (4 : Nat) ≤ sizeLine by decide, fun pT4 h4 => ⟨pT4, _, rfl, .inl (.inl upd_same), rfl, ?_⟩⟩
  refine tgs_cons tg_name (tgs_cons tg_name (tgs_cons tg_name (tgs_cons tg_name tgs_nil))) (G := G2) _ (s3.trans (same_new h4)) _ ?_
  have hFT : pF ≠ pT4 := fun e => by rw [← e, upd_same] at h4; cases h4
  dsimp only [tSeq]
  have sHb : ∀ o, Same H (upd (upd H2 pF (.dK [])) pT4 o) := fun o a u e => by
    have n1 : a ≠ pF := ne_of_none e hF0
    have n2 : a ≠ pT4 := fun z => by subst z; rw [upd_ne n1, x3.h _ _ e] at h4; cases h4
    rw [upd_ne n2, upd_ne n1]; exact x3.h _ _ e
  let fin : Int := (tkSt b lat o).2
  let W : Nat → L2.St → Hp → Prop := fun m σ H' => ∃ (x7 x8 : Option V) (vw : V) (G' : Hp) (kvs : List (Key × V)) (k : Nat) (T : Int), σ = [some v0, some v1, some (.ref pT), some (.ref pB), some vw, some (.ref pF), some (.int T), x7, x8] ∧ Gx G H G' H' ∧ Same G2 G' ∧ G' pF = none ∧ H' pF = some (.dK kvs) ∧
    DkR G' kvs (tkE (tkSt b lat (o.take k)).1) ∧ Rp G' vw (.list (dStrs (o.drop k))) ∧ k ≤ o.length ∧ (tkSt b lat (o.take k)).2 < T ∧ (∀ n, o[k]? = some n → T ≤ tick1 b (tkSt b lat (o.take k)).1 (tkSt b lat (o.take k)).2 n) ∧ (m : Int) = max 0 (fin + 1 - T)
  refine ⟨W, ?_, ?_⟩
  · refine ⟨(max 0 (fin + 1)).toNat, none, none, vw, G2, [], 0, 0, rfl, ⟨x3.g, s3.trans (same_new h4), sHb _, x3.f⟩, Same.refl _, gF, by rw [upd_ne hFT]; exact upd_same, .nil, by rw [List.drop_zero]; exact rw_, Nat.zero_le _, ?_, ?_, ?_⟩
    · show (-1 : Int) < 0
      decide
    · intro n _
      exact (maxL_ge _ _).1
    · omega
  · intro m σ' H' hW
    obtain ⟨x7, x8, vw', G', kvs, k, T, rfl, xx, g2, nF, hFk, rk, rw', kl, tT, tk1, hm⟩ := hW
    have eT : decide (o.drop k = []) = decide (k = o.length) := decide_eq_decide.mpr ⟨fun h => by have := List.drop_eq_nil_iff.mp h; omega, fun h => List.drop_eq_nil_iff.mpr (by omega)⟩
    refine eb_test (ev_op (f := .bool (!decide (k = o.length))) (ev_var rfl rw') (ev_lst es_nil (show 0 ≤ 100000 by decide)) (by
      have := od_neD (K := K) (d := .list (dStrs (o.drop k))) (e := .list (dStrs [])) (shaped_lstrs (onm k)) (by decide +kernel)
      rw [eqv_lstrs, eT] at this
      exact this)) H' xx.i _ fun H3 s3' => ?_
    have x3' : Gx G H G' H3 := xx.post s3'
    have hFk3 : H3 pF = some (.dK kvs) := s3' _ _ hFk
    by_cases ek : k = o.length
    · rw [decide_eq_true ek, if_neg (by simp)]
      subst ek
      rw [List.take_length] at rk
      dsimp only [tRet]
      have nm : (tkSt b lat o).1.map (·.1) = o := tk_names b lat o
      have eo : (o.map fun n => PyData.tuple [.int (tkLook (tkSt b lat o).1 n).1, .int (tkLook (tkSt b lat o).1 n).2]) = (tkOf b lat o).map dTk := by
        rw [tkOf_st]
        generalize (tkSt b lat o).1 = F at *
        have := tkLook_map F (by rw [nm]; exact O.nd)
        have h2 := congrArg (List.map fun p : Int × Int => PyData.tuple [.int p.1, .int p.2]) this
        rw [List.map_map, List.map_map] at h2
        conv => lhs; rw [← nm]
        rw [List.map_map]
        exact h2
      refine EvD.lend (kvs := kvs) (ev_is (ev_lcB (as := o) PyData.str (fun n => .tuple [.int (tkLook (tkSt b lat o).1 n).1, .int (tkLook (tkSt b lat o).1 n).2]) (ei_tup (ev_var rfl (r1.up (x3.g.trans (g2.trans (same_new nF)))))) (by omega) fun n hn G8 y s8 ry => ?_) (congrArg PyData.list eo)) nF H3 x3'.i hFk3 _ fun v9 G9 H9 x9 n9 f9 r9 => q v9 G9 H9 (x3'.trans x9) r9
      cases ry.isStr
      exact ⟨_, tg_name, rfl, ev_dget (k := .inr n) (ek_var rfl ⟨kvs, s8 _ _ upd_same, rk.up ((same_new nF).trans s8)⟩) (ev_var rfl (.str n)) (look_tk (by rw [nm]; exact hn))⟩
    · rw [decide_eq_false ek, if_pos (by rfl)]
      have kl' : k < o.length := by omega
      obtain ⟨n, hn⟩ : ∃ n, o[k]? = some n := ⟨_, List.getElem?_eq_getElem kl'⟩
      have edr : o.drop k = n :: o.drop (k + 1) := by
        rw [List.drop_eq_getElem_cons kl']
        rw [List.getElem?_eq_getElem kl'] at hn
        rw [Option.some.inj hn]
      have hnb : n ∈ b.names := O.nin n (List.mem_of_getElem? hn)
      have hrow := rowOf_mem hnb
      have nmk : (tkSt b lat (o.take k)).1.map (·.1) = o.take k := tk_names b lat (o.take k)
      have et : (tkSt b lat (o.take (k + 1))) = tkStep b lat (tkSt b lat (o.take k)) n := tkSt_snoc b lat hn
      have efin : tick1 b (tkSt b lat (o.take k)).1 (tkSt b lat (o.take k)).2 n ≤ fin := by
        have := tkSt_le b lat o (k + 1)
        rw [et] at this
        exact this
      have hT1 := tk1 n hn
      refine ⟨fun σ'' H'' => ∃ m', m' < m ∧ W m' σ'' H'', fun _ _ h => h, ?_⟩
      dsimp only [tSeq, tAsg]
      refine ev_op (d := .list (dStrs (o.drop k))) (ev_var rfl rw') ev_int (od_ixL (j := 0) rfl (d := .str n) (by rw [edr]; rfl)) H3 x3'.i _ fun v4 G4 H4 x4 r4 => ?_
      cases r4.isStr
      refine tg_name (G := G4) H4 x4.i _ ?_
      dsimp only [tSeq, tIfS]
      have n4 : G4 pF = none := x4.out nF hFk3
      have f4 : H4 pF = some (.dK kvs) := x4.h _ _ hFk3
      have y4 : Gx G H G4 H4 := x3'.trans x4
      have rk4 := rk.up x4.g
      have s4 : Same G4 (upd G4 pF (.dK kvs)) := same_new n4
      let late : List Str := (rowOf b n).1.filter fun w => decide (T < (tkLook (tkSt b lat (o.take k)).1 w).2)
      refine EvB.lend (kvs := kvs) (b := decide (late = [])) (eb_test (ev_op (e := .list (dStrs [])) (ev_is (f := .list (dStrs late)) (ev_lcA (as := (rowOf b n).1) PyData.str (fun w => decide (T < (tkLook (tkSt b lat (o.take k)).1 w).2)) PyData.str (ei_tup (ev_dget (k := .inr n) (ek_var rfl (rB.up (x2.g.trans (g2.trans (x4.g.trans s4))))) (ev_var rfl (.str n)) (look_tab2 hnb))) (by have := B.rl _ hrow; exact Nat.le_trans this (by decide)) fun w hw G8 y s8 ry => ?_) rfl) (ev_lst es_nil (show 0 ≤ 100000 by decide)) ?_)) n4 H4 x4.i f4 _ fun H5 s5 => ?_
      · cases ry.isStr
        exact ⟨_, tg_name, rfl, eb_test (ev_op (ev_op (ev_dget (k := .inr w) (ek_var rfl ⟨kvs, s8 _ _ upd_same, rk4.up (s4.trans s8)⟩) (ev_var rfl (.str w)) (look_tk (by rw [nmk]; exact O.rd k n hn w hw))) ev_int (od_ixT (j := 1) rfl rfl)) (ev_var rfl (.int T)) od_gt), fun _ => ev_var rfl (.str w)⟩
      · have := od_eqD (K := K) (d := .list (dStrs late)) (e := .list (dStrs [])) (shaped_lstrs fun s hs => B.rn _ hrow s (List.mem_filter.mp hs).1) (by decide +kernel)
        rw [eqv_lstrs] at this
        exact this
      have y5 : Gx G H G4 H5 := y4.post s5
      have f5 : H5 pF = some (.dK kvs) := s5 _ _ f4
      by_cases el : late = []
      · rw [decide_eq_true el, if_pos rfl]
        have eT2 : tick1 b (tkSt b lat (o.take k)).1 (tkSt b lat (o.take k)).2 n = T := by
          have h1 : tick1 b (tkSt b lat (o.take k)).1 (tkSt b lat (o.take k)).2 n ≤ T := by
            rcases List.mem_cons.mp (maxL_mem ((rowOf b n).1.map fun w => (tkLook (tkSt b lat (o.take k)).1 w).2) ((tkSt b lat (o.take k)).2 + 1)) with h | h
            · show maxL _ _ ≤ T
              rw [h]; omega
            · obtain ⟨w, hw, e⟩ := List.mem_map.mp h
              show maxL _ _ ≤ T
              rw [← e]
              have := List.filter_eq_nil_iff.mp el w hw
              simp only [decide_eq_true_eq] at this
              omega
          omega
        refine ev_tup (es_cons (ev_var rfl (.int T)) (es_cons (ev_op (ev_var rfl (.int T)) (ev_is (ev_dget2 (k := .inr n) (ek_var rfl (rT.up (x3.g.trans (g2.trans x4.g)))) (ev_var rfl (.str n)) ev_int) (LO n hnb)) od_add) es_nil)) (show 2 ≤ 100000 by decide) H5 y5.i _ fun v6 G6 H6 x6 r6 => ?_
        have n6 : G6 pF = none := x6.out n4 f5
        have f6 : H6 pF = some (.dK kvs) := x6.h _ _ f5
        have rk6 := rk4.up x6.g
        have nin : (.inr n : Key) ∉ kvs.map (·.1) := by
          rw [dkr_keys rk6]
          unfold tkE
          rw [List.map_map]
          intro c
          obtain ⟨e, he, ee⟩ := List.mem_map.mp c
          have : n ∈ o.take k := by rw [← nmk]; exact List.mem_map.mpr ⟨e, he, Sum.inr.inj ee⟩
          obtain ⟨j, hj⟩ := List.mem_iff_getElem?.mp this
          have jk : j < k := by
            have := (List.getElem?_eq_some_iff.mp hj).1
            rw [List.length_take] at this; omega
          rw [List.getElem?_take_of_lt jk] at hj
          have := (List.getElem?_inj (by omega) O.nd).mp (hj.trans hn.symm)
          omega
        have hlen : kvs.length < sizeLine := by
          rw [rk6.len]
          have : (tkE (tkSt b lat (o.take k)).1).length = (o.take k).length := by
            unfold tkE
            rw [List.length_map, ← congrArg List.length nmk, List.length_map]
          rw [this, List.length_take]
          have z3 : (100000 : Nat) < sizeLine := by decide
          omega
        refine ⟨.ref pF, rfl, .str n, rfl, pF, _, rfl, DPut.k (k := .inr n) f6 hlen, ?_⟩
        have y6 := y5.trans x6
        have y7 : Gx G H G6 (upd H6 pF (.dK (putK kvs (.inr n) v6))) := ⟨y6.g, same_mut y6.i n6, fun a u e => by rw [upd_ne (ne_of_none e hF0)]; exact y6.h _ _ e, y6.f⟩
        have f7 : (upd H6 pF (.dK (putK kvs (.inr n) v6))) pF = some (.dK (putK kvs (.inr n) v6)) := upd_same
        generalize upd H6 pF (.dK (putK kvs (.inr n) v6)) = H7 at *
        dsimp only [tSeq, tAsg]
        refine ev_sl (d := .list (dStrs (o.drop k))) (ev_var rfl (rw'.up (x4.g.trans x6.g))) (eo_some (i := ((1 : Nat) : Int)) ev_int) eo_none sd_list H7 y7.i _ fun v8 G8 H8 x8' r8 => ?_
        refine tg_name (G := G8) H8 x8'.i _ ?_
        dsimp only [tSeq, tAsg]
        have y8 := y7.trans x8'
        have n8 : G8 pF = none := x8'.out n6 f7
        have f8 := x8'.h _ _ f7
        refine ev_op (ev_var rfl (.int T)) ev_int od_add H8 y8.i _ fun v9 G9 H9 x9 r9 => ?_
        cases r9.isInt
        refine tg_name (G := G9) H9 x9.i _ ?_
        rw [cut_from] at r8
        have e1 : (dStrs (o.drop k)).drop 1 = dStrs (o.drop (k + 1)) := by rw [edr]; rfl
        rw [e1] at r8
        refine ⟨(max 0 (fin + 1 - (T + 1))).toNat, by omega, _, _, v8, G9, _, k + 1, T + 1, rfl, y8.trans x9, g2.trans (x4.g.trans (x6.g.trans (x8'.g.trans x9.g))), x9.out n8 f8, x9.h _ _ f8, ?_, r8.up x9.g, by omega, ?_, ?_, by omega⟩
        · rw [putK_new' nin, et]
          have := (rk6.snoc (k := .inr n) r6).up (x8'.g.trans x9.g)
          unfold tkStep tkE
          rw [List.map_append, eT2]
          exact this
        · rw [et]
          show tick1 b (tkSt b lat (o.take k)).1 (tkSt b lat (o.take k)).2 n < T + 1
          omega
        · intro n' _
          have h1 := (maxL_ge ((rowOf b n').1.map fun w => (tkLook (tkSt b lat (o.take (k + 1))).1 w).2) ((tkSt b lat (o.take (k + 1))).2 + 1)).1
          have h2 : (tkSt b lat (o.take (k + 1))).2 = T := by rw [et]; exact eT2
          show T + 1 ≤ maxL _ _
          rw [h2] at h1
          rw [h2]; exact h1
      · rw [decide_eq_false el, if_neg (by simp)]
        have eT2 : T < tick1 b (tkSt b lat (o.take k)).1 (tkSt b lat (o.take k)).2 n := by
          obtain ⟨w, hw⟩ := List.exists_mem_of_ne_nil _ el
          obtain ⟨hw1, hw2⟩ := List.mem_filter.mp hw
          have := (maxL_ge ((rowOf b n).1.map fun w => (tkLook (tkSt b lat (o.take k)).1 w).2) ((tkSt b lat (o.take k)).2 + 1)).2 _ (List.mem_map.mpr ⟨w, hw1, rfl⟩)
          have := of_decide_eq_true hw2
          show T < maxL _ _
          omega
        dsimp only [tNext, tSeq, tAsg]
        refine ev_op (ev_var rfl (.int T)) ev_int od_add H5 y5.i _ fun v9 G9 H9 x9 r9 => ?_
        cases r9.isInt
        refine tg_name (G := G9) H9 x9.i _ ?_
        exact ⟨(max 0 (fin + 1 - (T + 1))).toNat, by omega, _, _, vw', G9, kvs, k, T + 1, rfl, y5.trans x9, g2.trans (x4.g.trans x9.g), x9.out n4 f5, x9.h _ _ f5, rk4.up x9.g, rw'.up (x4.g.trans x9.g), kl, by omega, fun n' hn' => by
          rw [hn] at hn'
          cases hn'
          omega, by omega⟩
end K11
set_option Elab.async false
set_option linter.all false
set_option maxRecDepth 100000
set_option maxHeartbeats 4000000
set_option autoImplicit false
/-! K11Try: a try whose body raises always, the caught object looked at behind the suite. -/
namespace K11
open PySem PySem.Spec PyProof.Rows L2 RZ
section
variable {X : Cx} {x n : Str} {cv : Value} {i : Nat} {body suite rest : List Stmt} {b0 : Stmt} {np hp tp : Pos} {tb : WX → TS} {ts tr : Addr → Value → Option Addr → TS}
/-- what the body's exception must be: caught, and the suite and all behind it go on -/
def wC (K : PySem.W.Frag) (c : Value) (i : Nat) (ts tr : Addr → Value → Option Addr → TS) (D : Ends) : WX := fun cls d σ H =>
  PySem.W.exmOne K cls c = some true ∧ ∀ a, H a = none → ts a cls d { nx := fun σ' H' => tr a cls d D (σ'.set i none) H', rt := fun _ _ => False } (σ.set i (some (.ref a))) H
def endF : Ends := { nx := fun _ _ => False, rt := fun _ _ => False }
theorem Inv.held {pins : List (Addr × Obj)} {σ : L2.St} {H : Hp} {s : Shared} {a : Addr} {pn : List (Addr × Obj)} (I : Inv (X.suite a pn) [] σ H s) (ok : X.Ok) (xe : Value → Shared → Prop) : Inv (X.tr pn xe) [] σ H s :=
  ⟨ok.toTry _ _, I.os, I.bare, I.base, I.loc, I.cell, I.free, I.freeC, I.pin, I.hok, I.len⟩
theorem Inv.letgo {pins : List (Addr × Obj)} {σ : L2.St} {H : Hp} {s : Shared} {q : Addr × Obj} {pn' : List (Addr × Obj)} {xe : Value → Shared → Prop} (I : Inv (X.tr (q :: (X.pn ++ pins)) xe) pn' σ H s) (ok : X.Ok) : Inv X pins σ H s :=
  ⟨ok, I.os, I.bare, I.base, I.loc, I.cell, I.free, I.freeC, fun p hp => I.pin p (List.mem_append_left _ (List.mem_cons_of_mem _ hp)), I.hok, I.len⟩
theorem pss_caught (hs : X.stack = X.env :: X.outer) (hf : X.env.frame = some X.env.locals) (hN : X.N.Nodup) (hi : X.N[i]? = some n) (hln : X.env.kindOf n = some .local) (hc : Names X x cv)
    (hb : ∀ (W : WX) (pn : List (Addr × Obj)) (xe : Value → Shared → Prop), Takes (X.tr pn xe) W → PassesOwn (model X.prog X.w) X.A X.env xe → PSs (X.tr pn xe) body (tb W))
    (hsu : ∀ (a : Addr) (oe : Obj) (cls : Value) (d : Option Addr) (pn : List (Addr × Obj)), Zc cls d oe → (∃ vs, oe.data = .fields vs) → PSs (X.suite a ((a, oe) :: pn)) (b0 :: suite) (ts a cls d))
    (hr : ∀ (a : Addr) (oe : Obj) (cls : Value) (d : Option Addr) (pn : List (Addr × Obj)), Zc cls d oe → (∃ vs, oe.data = .fields vs) → PSs (X.tr ((a, oe) :: pn) X.xe) rest (tr a cls d)) :
    PSs X (.Try body [.ExceptHandler (some (.Name x np)) (some n) (b0 :: suite) hp] [] [] tp :: rest) (fun D σ H => tb (wC X.K cv i ts tr D) endF σ H) := by
  refine ⟨fun pins s σ H D I h => ?_⟩
  have ok := I.ok
  have frames : X.A.frames = some (X.env :: X.outer) := hs ▸ ok.frames
  refine wpAny_execs_cons (wpAny_Try_except (wpAny_mono ((hb (wC X.K cv i ts tr D) (X.pn ++ pins) _ (fun u s' xx => ?_) PassesOwn.looking).run [] s σ H endF (I.toTry _) h) (fun fl s1 done => ?_) fun _ _ z => z))
  · obtain ⟨a, B, sI, pins', σ', H', cls, d, rfl, J', grown, slots, sky, na, os, bare, yes, go⟩ := xx
    have J : Inv X pins σ' H' sI := J'.ofTry ok
    rw [show (X.tr (X.pn ++ pins) _).stack = X.env :: X.outer from hs] at sky
    refine Sky.land Zc.steady frames hf sky fun h3 land3 more3 => ?_
    have J3 : Inv X pins σ' H' { s' with heap := h3 } := J.landed grown land3.1 (slots.trans more3) os bare
    obtain ⟨o3, f3, at3, z3, d3⟩ := land3.there
    have notFrame : a ∉ frs (X.env :: X.outer) := fun hm => by
      obtain ⟨_, o', e', bad⟩ := (land3.2.2.1).mem hm
      rw [at3] at e'
      exact bad _ (by cases e'; exact d3)
    have notLoc : a ≠ X.env.locals := fun z => notFrame (List.mem_filterMap.mpr ⟨X.env, List.mem_cons_self, by rw [z]; exact hf⟩)
    have notOut : a ∉ X.fs := fun hm => by
      obtain ⟨en, hen, q⟩ := List.mem_filterMap.mp hm
      exact notFrame (List.mem_filterMap.mpr ⟨en, List.mem_cons_of_mem _ hen, q⟩)
    have S3 := J3.suite at3 d3 na notLoc notOut
    -- the test: the name is read, then matched
    refine wpAny_handleBy_cons (codeAny_handlers_test ?_) (fun z => nomatch z)
    have look : PySem.W.Looks (model X.prog X.w) h3 (typeOf (.ref a)) cls := fun _ _ _ _ k q => wpAny_typeOf_ref (k _ _ at3) (z3.1.symm ▸ q)
    have read : ∀ (Q E : Value → Shared → Prop), Q cv { s' with heap := h3 } → wpAny (model X.prog X.w) (X.A.mark (some (.ref a))) (eval (.Name x np) X.env) Q E { s' with heap := h3 } := fun Q E q => by
      rcases hc with ⟨g, db, m | ⟨m, bv, nn⟩⟩
      · exact ld_glob (X := X.suite a ((a, o3) :: (X.pn ++ pins))) S3 g m q db
      · exact ld_blt (X := X.suite a ((a, o3) :: (X.pn ++ pins))) S3 g m bv q nn db
    refine read _ _ ((PySem.W.exm_one J3.kIn look yes).here ?_)
    -- the suite
    refine codeAny_handlers_suite_as (HandSPX.lands_againZ land3 fun h4 land4 more4 => ?_)
    have J4 : Inv X pins σ' H' { s' with heap := h4 } := J.landed grown land4.1 ((slots.trans more3).trans more4) os bare
    obtain ⟨o4, f4, at4, z4, d4⟩ := land4.there
    have S4 := J4.suite at4 d4 na notLoc notOut
    refine store_ok (X := X.suite a ((a, o4) :: (X.pn ++ pins))) (v := .ref a) S4 hN hi (.inl hln) rfl (fun s5 S5 => ?_) (.inr hln)
    refine wpAny_mono ((hsu a o4 cls d (X.pn ++ pins) z4 ⟨_, d4⟩).run [] s5 _ H' _ S5 (go a na)) (fun fl s6 did => ?_) fun _ _ z => z.elim
    cases fl with
    | next =>
      obtain ⟨σ6, H6, S6, q6⟩ := did
      -- the name goes, the object is held
      refine gone_ok (X := X.tr ((a, o4) :: (X.pn ++ pins)) X.xe) (Inv.held (pins := pins) S6 ok X.xe) hN hi hln fun s7 S7 => ?_
      refine thn ((hr a o4 cls d (X.pn ++ pins) z4 ⟨_, d4⟩).run [] s7 _ H6 D S7 q6) fun fl' s8 end8 => ?_
      cases fl' with
      | next => exact end8.imp fun _ ⟨H8, S8, q8⟩ => ⟨H8, Inv.letgo S8 ok, q8⟩
      | brk => exact end8.imp fun _ ⟨H8, S8, q8⟩ => ⟨H8, Inv.letgo S8 ok, q8⟩
      | cont => exact end8.imp fun _ ⟨H8, S8, q8⟩ => ⟨H8, Inv.letgo S8 ok, q8⟩
      | ret u => exact end8.imp fun _ ⟨σ8, H8, S8, q8⟩ => ⟨σ8, H8, Inv.letgo S8 ok, q8⟩
    | brk =>
      obtain ⟨_, _, _, q⟩ := did
      exact q.elim
    | cont =>
      obtain ⟨_, _, _, q⟩ := did
      exact q.elim
    | ret u =>
      obtain ⟨_, _, _, _, _, q⟩ := did
      exact q.elim
  · cases fl with
    | next =>
      obtain ⟨_, _, _, q⟩ := done
      exact q.elim
    | brk =>
      obtain ⟨_, _, _, q⟩ := done
      exact q.elim
    | cont =>
      obtain ⟨_, _, _, q⟩ := done
      exact q.elim
    | ret u =>
      obtain ⟨_, _, _, _, _, q⟩ := done
      exact q.elim
end
end K11
set_option Elab.async false
set_option linter.all false
set_option maxRecDepth 100000
set_option maxHeartbeats 4000000
set_option autoImplicit false
/-! K11Heard: the wrong orders. -/
namespace K11
open PySem PySem.Spec PyProof.Rows L2 RZ
variable {P : Program} {w : World} {K : PySem.W.Frag} {mg : Str → Option Value} {base : Heap} {f : Addr} {fd : FuncData} {tL tN : Tok}
/-- isinstance of the held object -/
def rIsH (K : PySem.W.Frag) (D a : Addr) (cls : Value) (d : Option Addr) : List V → Hp → VK → Prop := fun xs H Q => cls = .ref D ∧ d = none ∧ ∃ b, xs = [.ref a, .ty "ValueError"] ∧ PySem.W.kitOne K (.ref D) (.type "ValueError") = some b ∧ Q (.bl b) H
theorem call_isH {X : Cx} {a D : Addr} {oe : Obj} {cls : Value} {d : Option Addr} {pn : List (Addr × Obj)} {xe : Value → Shared → Prop} (C : ExcC X.K D) (zc : Zc cls d oe) (hv : ∃ vs, oe.data = .fields vs) : CallR (X.tr ((a, oe) :: pn) xe) (.builtin "isinstance") (rIsH X.K D a cls d) := by
  intro pins s σ H xs us Q I r h
  obtain ⟨rfl, rfl, b, rfl, e, q⟩ := h
  obtain ⟨u1, u2, rfl, r1, r2⟩ := vals2 r
  cases r1
  cases (show u2 = Value.type "ValueError" from r2)
  obtain ⟨there, _⟩ := I.pin (a, oe) (List.mem_append.mpr (.inl List.mem_cons_self))
  have inst : PySem.W.InstAt s.heap a oe D none := by
    obtain ⟨fs, hfs⟩ := hv
    rcases oe with ⟨c0, d0, x0, sl0⟩
    obtain ⟨z1, z2⟩ := zc
    simp only at z1 z2 hfs
    subst z1 z2 hfs
    exact ⟨there, rfl, rfl, trivial⟩
  exact PySem.W.kia_one (PySem.W.handS_kitx_exc C.hg C.hk C.hs C.hd C.ha C.hn C.ht C.hm) I.kIn inst e (fun z => nomatch z) fun tk => ⟨.bl b, H, I.kept (t' := tk) fun _ _ z => z, rfl, q⟩
def tsH : Addr → Value → Option Addr → TS := fun _ _ _ => tAsg (tVar 6) (gName 5)
def trH (K : PySem.W.Frag) (C : Addr) : Addr → Value → Option Addr → TS := fun a cls d => tRet (tIf (tTest (tOp (fun x y H Q => y = .non ∧ Q (.bl (decide (x = .non))) H) (tVar 5) (tC .non))) (tVar 4) (tLst (tCons (tC (.str "no order")) (tCons (tCB (rIsH K C a cls d) (tCons (tVar 5) (tCons (tC (.ty "ValueError")) tNil))) tNil))))
abbrev s_law_heard : Stmt := top 34
abbrev N_law_heard : List Str := ["_law_door", "_law_host_here", "_law_row_so", "_law_times_so", "_law_found", "_law_caught", "error"]
theorem sc_law_heard : FnScope N_law_heard ["_law_door", "_law_host_here", "_law_row_so", "_law_times_so"] (defScope s_law_heard) := ⟨rfl, rfl, rfl, by decide +kernel, rfl, by decide +kernel, by decide +kernel⟩
theorem callS_at {σ : L2.St} {H : Hp} {Q : VK} {sp : Sp} {E : L2.St → XK} {t : TA} (h : t σ H fun vs H1 => sp vs H1 Q (E σ)) : tCallS sp E t σ H Q := h
def dNo : PyData := .list [.str "no order", .bool true]
def RHrd (ds : List PyData) (r : PyData) : Prop := ∃ (door : Int) (d t l : PyData) (b : Blk) (o : List Str) (lat : Lat), ds = [.int door, d, t, l] ∧ ArgD d t l b o lat ∧ isOrderB b o = false ∧ r = dNo
theorem ok_law_heard {C : Addr} (F : Fun K "_law_heard" "_law_heard" s_law_heard f fd) (M : Mg mg tL tN) (N : No K mg C) (c_issued_at : Cal P w K mg base (L2.CX P w) 25 "issued_at" ["block", "order", "latencies", "tick"] (SpX C 4 RAt))
    (c_idle_stretches : Cal P w K mg base (L2.CX P w) 25 "idle_stretches" ["block", "order", "latencies"] (SpX C 3 RIdl)) (c_how_many_idle : Cal P w K mg base (L2.CX P w) 26 "how_many_idle" ["block", "order", "latencies"] (SpX C 3 RHow)) :
    FnOk P w K mg base (L2.CX P w) 28 f fd ["_law_door", "_law_host_here", "_law_row_so", "_law_times_so"] (SpD 4 RHrd) := by
  refine F.okX sc_law_heard (fun vs H Q E h => h.len) (fun cdv A outer s H vs Q E hr h => ?_)
  obtain ⟨G, ds, en, hn, i, rs, ⟨door, d, t, l, b, o, lat, rfl, AD, hno, rfl⟩, q⟩ := h
  obtain ⟨v0, v1, v2, v3, rfl, r0, r1, r2, r3⟩ := four_args rs
  cases r0.isInt
  refine ⟨_, (pss_cons (ps_asg (pe_tup (pa_cons pe_non (pa_cons pe_non pa_nil))) (pg_tup rfl (pgs_cons (pg_name (i := 4) sc_law_heard.nd rfl (.inl rfl)) (pgs_cons (pg_name (i := 5) sc_law_heard.nd rfl (.inl rfl)) pgs_nil))))
    (pss_caught (i := 6) (cv := .ref C) (ts := tsH) (tr := trH K C) rfl rfl sc_law_heard.nd rfl rfl ⟨rfl, by decide, .inl N.gN⟩ (fun W pn xe tk _ => (pss_one (ps_if (pt_cmpR op_eq (pv 0) pe_int (nomark _)) (pss_one (ps_set (i := 4) sc_law_heard.nd rfl (.inl rfl) (pe_callS (E := WE W) c_issued_at.ok (hr.mono (by decide)) (by rfl) c_issued_at.m c_issued_at.kp c_issued_at.b (fun σ => passAt tk σ) (pa_cons (pv 1) (pa_cons (pv 2) (pa_cons (pv 3) (pa_cons pe_int pa_nil))))))) (pss_one (ps_set (i := 4) sc_law_heard.nd rfl (.inl rfl) (pe_ifExp (pt_cmpR op_eq (pv 0) pe_int (nomark _)) (pe_callS (E := WE W) c_idle_stretches.ok (hr.mono (by decide)) (by rfl) c_idle_stretches.m c_idle_stretches.kp c_idle_stretches.b (fun σ => passAt tk σ) (pa_cons (pv 1) (pa_cons (pv 2) (pa_cons (pv 3) pa_nil)))) (pe_callS (E := WE W) c_how_many_idle.ok (hr.mono (by decide)) (by rfl) c_how_many_idle.m c_how_many_idle.kp c_how_many_idle.b (fun σ => passAt tk σ) (pa_cons (pv 1) (pa_cons (pv 2) (pa_cons (pv 3) pa_nil)))))))))) (fun a oe cls d pn _ _ => (pss_one (ps_set (i := 5) sc_law_heard.nd rfl (.inl rfl) (pv 6)))) (fun a oe cls d pn zc hv => (pss_one (ps_ret (pe_ifExp (pt_cmpR op_isN (pv 5) pe_non (nomark _)) (pv 4) (pe_lst (pa_cons pe_str (pa_cons (pe_callB (call_isH N.cN zc hv) (by rfl) M.isinstance (by decide +kernel) (pa_cons (pv 5) (pa_cons (pe_bltn (v := .ty "ValueError") (by rfl) N.mV (by decide +kernel) rfl) pa_nil))) pa_nil))))))))), ?_⟩
  dsimp only [tSeq, tAsg]
  refine ⟨show 2 ≤ sizeLine by decide, fun p hp => ⟨p, _, rfl, .inl (.inl upd_same), rfl, ?_⟩⟩
  have sH : Same H (upd H p (.tup [.non, .non])) := same_new hp
  have iH := i.trans sH
  generalize upd H p (.tup [.non, .non]) = H1 at *
  refine tgs_cons tg_name (tgs_cons tg_name tgs_nil) (G := G) _ iH _ ?_
  -- what is raised goes through the suite and on
  have caught : ∀ (σ' : L2.St) (E : Str), ∀ H2, Same H1 H2 → σ' = [some (.int door), some v1, some v2, some v3, some .non, some .non, none] → wC K (.ref C) 6 tsH (trH K C) { nx := fun _ H' => Q V.non H', rt := Q } (.ref C) none σ' H2 := fun σ' _ H2 s2 e => by
    subst e
    refine ⟨N.eN, fun a na => ⟨.ref a, rfl, ?_⟩⟩
    show trH K C a (.ref C) none { nx := fun _ H' => Q V.non H', rt := Q } [some (.int door), some v1, some v2, some v3, some .non, some (.ref a), none] H2
    refine ⟨.ref a, rfl, rfl, _, rfl, ?_⟩
    rw [show decide (V.ref a = V.non) = false from by simp]
    dsimp only
    rw [if_neg (by simp)]
    refine ⟨.ref a, rfl, rfl, rfl, true, rfl, N.vN, show 2 ≤ sizeLine by decide, fun p2 hp2 => ?_⟩
    have x := Gx.new (o := .lst [.str "no order", .bl true]) (iH.trans s2) hp2
    exact q _ _ _ (x.pre i (sH.trans s2)) (.lst upd_same (.cons (.str _) (.cons (.bl _) .nil)))
  refine ⟨_, rfl, ⟨rfl, _, rfl, ?_⟩⟩
  have hc : ∀ {α : Type} {x : α}, (if isOrderB b o = true then some x else none) = none := fun {α x} => by rw [hno]; rfl
  have e1 : EvD (tVar 1) ((List.set (L2.start N_law_heard [V.int door, v1, v2, v3]) 4 (some V.non)).set 5 (some V.non)) G d := ev_var rfl r1
  have e2 : EvD (tVar 2) ((List.set (L2.start N_law_heard [V.int door, v1, v2, v3]) 4 (some V.non)).set 5 (some V.non)) G t := ev_var rfl r2
  have e3 : EvD (tVar 3) ((List.set (L2.start N_law_heard [V.int door, v1, v2, v3]) 4 (some V.non)).set 5 (some V.non)) G l := ev_var rfl r3
  by_cases hd : V.int door = V.int 2
  · rw [decide_eq_true hd]; dsimp only; rw [if_pos rfl]
    dsimp only [tAsg]
    refine callS_at ?_
    refine es_cons e1 (es_cons e2 (es_cons e3 (es_cons ev_int es_nil))) H1 iH _ fun vs G2 H2 x2 r => ?_
    exact ⟨G2, _, none, by rw [r.len]; rfl, x2.i, r, ⟨d, t, l, 0, b, o, lat, rfl, AD, hc.symm⟩, fun _ e => (by cases e), fun _ H3 s3 => caught _ "" H3 (x2.h.trans s3) rfl⟩
  · rw [decide_eq_false hd]; dsimp only; rw [if_neg (by simp)]
    dsimp only [tAsg]
    refine ⟨_, rfl, ⟨rfl, _, rfl, ?_⟩⟩
    by_cases hd0 : V.int door = V.int 0
    · rw [decide_eq_true hd0]; dsimp only; rw [if_pos rfl]
      refine callS_at ?_
      refine es_cons e1 (es_cons e2 (es_cons e3 es_nil)) H1 iH _ fun vs G2 H2 x2 r => ?_
      exact ⟨G2, _, none, by rw [r.len]; rfl, x2.i, r, ⟨d, t, l, b, o, lat, rfl, AD, hc.symm⟩, fun _ e => (by cases e), fun _ H3 s3 => caught _ "" H3 (x2.h.trans s3) rfl⟩
    · rw [decide_eq_false hd0]; dsimp only; rw [if_neg (by simp)]
      refine callS_at ?_
      refine es_cons e1 (es_cons e2 (es_cons e3 es_nil)) H1 iH _ fun vs G2 H2 x2 r => ?_
      exact ⟨G2, _, none, by rw [r.len]; rfl, x2.i, r, ⟨d, t, l, b, o, lat, rfl, AD, hc.symm⟩, fun _ e => (by cases e), fun _ H3 s3 => caught _ "" H3 (x2.h.trans s3) rfl⟩
end K11
set_option Elab.async false
set_option linter.all false
set_option maxRecDepth 100000
set_option maxHeartbeats 4000000
set_option autoImplicit false
/-! K11Host: a block told in a text; the cells and the urns. -/
namespace K11
open PySem PySem.Spec PyProof.Rows L2 RZ
variable {P : Program} {w : World} {K : PySem.W.Frag} {mg : Str → Option Value} {base : Heap} {f : Addr} {fd : FuncData} {tL tN : Tok}
/-! ### host -/
abbrev s_law_host : Stmt := top 30
abbrev N_law_host : List Str := ["_law_flat", "_law_rows_so", "_law_live_so", "_law_found", "_law_piece", "_law_words"]
theorem sc_law_host : FnScope N_law_host ["_law_flat"] (defScope s_law_host) := ⟨rfl, rfl, rfl, by decide +kernel, rfl, by decide +kernel, by decide +kernel⟩
def wordsP (p : Str) : List Str := Txt.split p " "
def firstP (p : Str) : Str := (wordsP p).getD 0 ""
def nameP (p : Str) : Str := (Txt.split (firstP p) "*").getD 0 ""
def rowP (p : Str) : Row := (nameP p, (wordsP p).drop 1, decide (42 ∈ (firstP p).cps.toList))
def okP (p : Str) : Bool := decide (p.length ≤ 1000) && decide (1 ≤ (wordsP p).length ∧ (wordsP p).length ≤ 1000) && decide ((firstP p).length ≤ 1000) && decide (1 ≤ (Txt.split (firstP p) "*").length ∧ (Txt.split (firstP p) "*").length ≤ 1000)
def hostOk (x rows live : Str) (b : Blk) : Bool := decide (x.length ≤ 1000) && decide (Txt.split x " / " = [rows, live]) && decide (rows.length ≤ 1000) && decide (live.length ≤ 1000) && decide ((Txt.split rows "; ").length ≤ 1000) && (Txt.split rows "; ").all okP &&
  decide ((Txt.split rows "; ").map rowP = b.rows) && decide (live ≠ "-") && decide (Txt.split live " " = b.live) && decide (b.live.length ≤ 1000)
def RHost (ds : List PyData) (r : PyData) : Prop := ∃ x rows live b, ds = [.str x] ∧ hostOk x rows live b = true ∧ r = dBlk b
theorem ev_split {σ : L2.St} {G : Hp} {to te : TE} {a b : Str} (h1 : EvD to σ G (.str a)) (h2 : EvD te σ G (.str b)) (hb : (b.length == 0) = false) (ha : a.length ≤ 1000) : EvD (tM1 (fun x xs H Q => ∃ a b, x = .str a ∧ xs = [.str b] ∧ (b.length == 0) = false ∧ a.length + 2 ≤ sizeLine ∧ rNewStrs (Txt.split a b) H Q) to te) σ G (.list (dStrs (Txt.split a b))) := fun H i Q q =>
  h1 H i _ fun v G2 H2 x r => ⟨⟨a, r.isStr⟩, (h2.up x.g) H2 x.i _ fun v2 G3 H3 x3 r3 => ⟨a, b, r.isStr, by rw [r3.isStr], hb, Nat.le_trans (Nat.add_le_add_right ha 2) (by decide), fun p hp => q _ _ _ ((x.trans x3).trans (Gx.new x3.i hp)) (.lst upd_same (Rps.ofStrs _))⟩⟩
theorem getD_at {l : List Str} {d : Str} (h : 1 ≤ l.length) : (dStrs l)[0]? = some (.str (l.getD 0 d)) := by
  cases l with
  | nil => simp at h
  | cons a r => rfl
theorem ok_law_host (F : Fun K "_law_host" "_law_host" s_law_host f fd) (M : Mg mg tL tN) : FnOk P w K mg base CX0 1 f fd ["_law_flat"] (SpD 1 RHost) := by
  refine F.ok sc_law_host (fun vs H Q E h => h.len) (fun cdv A outer s H vs Q E hr h => ?_)
  obtain ⟨G, ds, en, hn, i, rs, ⟨x, rows, live, b, rfl, hok, rfl⟩, q⟩ := h
  obtain ⟨v, rfl, rv⟩ := one_arg rs
  cases rv.isStr
  unfold hostOk at hok
  simp only [Bool.and_eq_true, decide_eq_true_eq] at hok
  obtain ⟨⟨⟨⟨⟨⟨⟨⟨⟨k1, k2⟩, k3⟩, k4⟩, k5⟩, k6⟩, k7⟩, k8⟩, k9⟩, k10⟩ := hok
  refine ⟨_, (pss_cons (ps_asg (pe_split (pv 0) pe_str) (pg_unl rfl (pgs_cons (pg_name (i := 1) sc_law_host.nd rfl (.inl rfl)) (pgs_cons (pg_name (i := 2) sc_law_host.nd rfl (.inl rfl)) pgs_nil))))
    (pss_cons (ps_set (i := 3) sc_law_host.nd rfl (.inl rfl) (pe_lst pa_nil))
    (pss_cons (ps_for PassesOwn.never rfl (pi_list (pe_split (pv 1) pe_str)) (pg_name (i := 4) sc_law_host.nd rfl (.inl rfl)) (pss_cons (ps_set (i := 5) sc_law_host.nd rfl (.inl rfl) (pe_split (pv 4) pe_str))
    (pss_one (ps_expr (pe_bm PySem.F.plainAttrs_list PySem.F.slot_list_append PySem.F.type_list_append mt_append (pv 3) (pa_cons (pe_tup (pa_cons (pe_ix ix_list (pe_split (pe_ix ix_list (pv 5) pe_int (fun _ _ => rfl)) pe_str) pe_int (fun _ _ => rfl)) (pa_cons (pe_callTy call_tuple_of (by rfl) M.tuple_ (by decide +kernel) (pa_cons (pe_slice sl_list (pv 5) (po_some pe_int) po_none) pa_nil)) (pa_cons (pe_cmpR op_in_sign pe_str (pe_ix ix_list (pv 5) pe_int (fun _ _ => rfl)) rfl) pa_nil)))) pa_nil))))))
    (pss_one (ps_ret (pe_tup (pa_cons (pe_callTy call_tuple_of (by rfl) M.tuple_ (by decide +kernel) (pa_cons (pv 3) pa_nil)) (pa_cons (pe_ifExp (pt_cmpR op_ne (pv 2) pe_str (nomark _)) (pe_callTy call_tuple_of (by rfl) M.tuple_ (by decide +kernel) (pa_cons (pe_split (pv 2) pe_str) pa_nil)) (pe_tup pa_nil)) pa_nil)))))))), ?_⟩
  dsimp only [tSeq, tAsg]
  refine ev_split (ev_var rfl (.str x)) ev_str (by decide +kernel) k1 H i _ fun v1 G1 H1 x1 r1 => ?_
  rw [k2] at r1
  obtain ⟨p1, xs1, rfl, g1, rs1⟩ := r1.isList
  have e1 := rs1.strs (ss := [rows, live])
  subst e1
  refine ⟨p1, _, rfl, .of (x1.i _ _ g1), rfl, ?_⟩
  refine tgs_cons tg_name (tgs_cons tg_name tgs_nil) (G := G1) _ x1.i _ ?_
  dsimp only [tSeq, tAsg]
  refine ⟨show 0 ≤ sizeLine by decide, fun pF hF => ?_⟩
  have gF : G1 pF = none := x1.i.free hF
  have hF0 : H pF = none := x1.h.free hF
  have i2 : Same G1 (upd H1 pF (.lst [])) := same_mut x1.i gF
  refine tg_name (G := G1) _ i2 _ ?_
  dsimp only [tSeq, tAsg]
  let Iv : Nat → L2.St → Hp → Hp → Prop := fun j σ G' H' => ∃ (x4 x5 : Option V) (acc : List V), σ = [some (.str x), some (.str rows), some (.str live), some (.ref pF), x4, x5] ∧ Gx G H G' H' ∧ Same G1 G' ∧ G' pF = none ∧ H' pF = some (.lst acc) ∧ Rps G' acc ((((Txt.split rows "; ").take j).map rowP).map dRow)
  refine for_ind (ds := Txt.split rows "; ") (G := G1) PyData.str (ei_list (ev_split (ev_var rfl (.str rows)) ev_str (by decide +kernel) k3)) Iv i2 (fun G4 H4 x4 => ?_) (fun Gs sGs j p hj σ' G4 H4 s4 i4 iv y G5 H5 x5 rx => ?_) (fun σ' G4 H4 s4 i4 iv => ?_)
  · have f4 : H4 pF = some (.lst []) := x4.h _ _ upd_same
    have sH : Same H H4 := fun a o e => x4.h _ _ (by rw [upd_ne (ne_of_none e hF0)]; exact x1.h _ _ e)
    refine ⟨none, none, [], rfl, ⟨x1.g.trans x4.g, x4.i, sH, fun a o e n => ?_⟩, x4.g, x4.out gF upd_same, f4, .nil⟩
    cases z : G1 a with
    | none =>
      have := x4.f a o e z
      by_cases c : a = pF
      · subst c; exact hF0
      · rw [upd_ne c] at this; exact x1.h.free this
    | some o' => exact x1.f a o' z n
  · obtain ⟨y4, y5, acc, rfl, xx, g4, nF, hFk, ra⟩ := iv
    cases rx.isStr
    have okp := List.all_eq_true.mp k6 p (List.mem_of_getElem? hj)
    unfold okP at okp
    simp only [Bool.and_eq_true, decide_eq_true_eq] at okp
    obtain ⟨⟨⟨p1, p2⟩, p3⟩, p4⟩ := okp
    refine tg_name (G := G5) H5 x5.i _ ?_
    dsimp only [tSeq, tAsg]
    refine ev_split (ev_var rfl (.str p)) ev_str (by decide +kernel) p1 H5 x5.i _ fun v6 G6 H6 x6 r6 => ?_
    refine tg_name (G := G6) H6 x6.i _ ?_
    dsimp only [tDrop]
    have n6 : G6 pF = none := x6.out (x5.out nF hFk) (x5.h _ _ hFk)
    have f6 : H6 pF = some (.lst acc) := x6.h _ _ (x5.h _ _ hFk)
    have y6 : Gx G H G6 H6 := (xx.trans x5).trans x6
    refine ⟨_, rfl, .inl ⟨rfl, _, .of f6⟩, ?_⟩
    have e0 : ∀ {G'}, Same G6 G' → EvD (tOp (rIxL K) (tVar 5) (tC (.int 0))) [some (.str x), some (.str rows), some (.str live), some (.ref pF), some (.str p), some v6] G' (.str (firstP p)) := fun s => ev_op (ev_var rfl (r6.up s)) ev_int (od_ixL (j := 0) rfl (getD_at p2.1))
    refine cons_at (ev_tup (es_cons (ev_op (ev_split (e0 (Same.refl _)) ev_str (by decide +kernel) p3) ev_int (od_ixL (j := 0) rfl (getD_at (d := "") p4.1))) (es_cons (ev_cb (es_cons (ev_sl (ev_var rfl r6) (eo_some (i := ((1 : Nat) : Int)) ev_int) eo_none sd_list) es_nil) cd_tuple) (es_cons (ev_op (d := .str ⟨#[42]⟩) ev_str (e0 (Same.refl _)) od_sign) es_nil))) (show 3 ≤ 100000 by decide) H6 x6.i _ fun v7 G7 H7 x7 r7 => ?_)
    have n7 : G7 pF = none := x7.out n6 f6
    have f7 : H7 pF = some (.lst acc) := x7.h _ _ f6
    refine ⟨pF, acc, _, rfl, rfl, f7, ?_, ?_⟩
    · rw [ra.len, List.length_map, List.length_map, List.length_take]
      have z3 : (100000 : Nat) < sizeLine := by decide
      omega
    · have y7 := y6.trans x7
      refine ⟨G7, s4.trans (x5.g.trans (x6.g.trans x7.g)), same_mut y7.i n7, _, _, acc ++ [v7], rfl, ⟨y7.g, same_mut y7.i n7, fun a o e => by rw [upd_ne (ne_of_none e hF0)]; exact y7.h _ _ e, y7.f⟩, g4.trans (x5.g.trans (x6.g.trans x7.g)), n7, upd_same, ?_⟩
      rw [take_snoc hj, List.map_append, List.map_append]
      refine (ra.up (x5.g.trans (x6.g.trans x7.g))).snoc ?_
      rw [cut_from] at r7
      have : (dStrs (wordsP p)).drop 1 = dStrs ((wordsP p).drop 1) := by unfold dStrs; rw [List.map_drop]
      unfold wordsP at this
      rw [this] at r7
      exact r7
  · obtain ⟨y4, y5, acc, rfl, xx, g4, nF, hFk, ra⟩ := iv
    rw [List.take_length, k7] at ra
    dsimp only [tRet]
    have rF : Rp (upd G4 pF (.lst acc)) (.ref pF) (.list (b.rows.map dRow)) := .lst upd_same (ra.up (same_new nF))
    have yp : Gx G H (upd G4 pF (.lst acc)) H4 := ⟨xx.g.trans (same_new nF), fun c o hbo => by
      by_cases e : c = pF
      · subst e; rw [upd_same] at hbo; cases hbo; exact hFk
      · rw [upd_ne e] at hbo; exact xx.i _ _ hbo, xx.h, fun c o hbo nb => by
      by_cases e : c = pF
      · subst e; exact hF0
      · rw [upd_ne e] at hbo; exact xx.f _ _ hbo nb⟩
    refine ev_tup (es_cons (ev_cb (es_cons (ev_var rfl rF) es_nil) cd_tuple) (es_cons (ev_if (b := true) (eb_test (ev_is (ev_op (ev_var rfl (.str live)) ev_str (od_ne rfl rfl rfl)) ?_)) (fun _ => ev_cb (es_cons (ev_is (ev_split (ev_var rfl (.str live)) ev_str (by decide +kernel) k4) (by rw [k9])) es_nil) cd_tuple) (fun e => by cases e)) es_nil)) (show 2 ≤ 100000 by decide) H4 yp.i _ fun v5 G5 H5 x5 r5 => q v5 G5 H5 (yp.trans x5) r5
    rw [decide_eq_false (fun e => k8 (V.str.inj e))]; rfl
theorem host1 : hostOk "a*; b*; u a; v b / u v" "a*; b*; u a; v b" "u v" wide = true := by decide +kernel
def lone : Blk := ⟨[("a", [], true)], ["a"]⟩
theorem host2 : hostOk "a* / a" "a*" "a" lone = true := by decide +kernel
end K11
set_option Elab.async false
set_option linter.all false
set_option maxRecDepth 100000
set_option maxHeartbeats 4000000
set_option autoImplicit false
/-! K11Box: the cells, the urns, the law itself. -/
namespace K11
open PySem PySem.Spec PyProof.Rows L2 RZ
variable {P : Program} {w : World} {K : PySem.W.Frag} {mg : Str → Option Value} {base : Heap} {f : Addr} {fd : FuncData} {tL tN : Tok}
/-! ### box -/
abbrev s_law_box : Stmt := top 19
abbrev N_law_box : List Str := ["_law_script", "_law_k", "_law_cell"]
theorem sc_law_box : FnScope N_law_box ["_law_script", "_law_k"] (defScope s_law_box) := ⟨rfl, rfl, rfl, by decide +kernel, rfl, by decide +kernel, by decide +kernel⟩
def SpBox (K : PySem.W.Frag) : Sp := fun vs H Q _ => ∃ (p : Addr) (cs : List Int) (k : Int), vs = [.ref p, .int k] ∧ SqL K H p (cs.map V.int) ∧ 0 ≤ k ∧ k < cs.length ∧ cs.length ≤ 3 ∧ ∀ u (a b : Int), H u = none → 0 ≤ b → b < 2 ^ 62 → Q (.ref u) (upd H u (.lst [.int a, .int b, .int 0]))
theorem ok_law_box (F : Fun K "_law_box" "_law_box" s_law_box f fd) (M : Mg mg tL tN) : FnOk P w K mg base CX0 1 f fd ["_law_script", "_law_k"] (SpBox K) := by
  refine F.ok sc_law_box (fun vs H Q E h => by obtain ⟨p, cs, k, rfl, _⟩ := h; rfl) (fun cdv A outer s H vs Q E hr h => ?_)
  obtain ⟨p, cs, k, rfl, hs, k0, k1, k3, q⟩ := h
  refine ⟨_, (pss_cons (ps_set (i := 2) sc_law_box.nd rfl (.inl rfl) (pe_ifExp (pt_cmpR op_lt (pv 1) (pe_callB call_len_seq (by rfl) M.len (by decide +kernel) (pa_cons (pv 0) pa_nil)) (nomark _)) (pe_ix ix_list (pv 0) (pv 1) (fun _ _ => rfl)) pe_int))
    (pss_one (ps_ret (pe_lst (pa_cons (pe_op op_mul (pe_callB call_abs (by rfl) M.abs_ (by decide +kernel) (pa_cons (pv 2) pa_nil)) (pe_callTy call_int1 (by rfl) M.int_ (by decide +kernel) (pa_cons (pe_cmpR op_ge (pe_callB call_abs (by rfl) M.abs_ (by decide +kernel) (pa_cons (pv 2) pa_nil)) (pe_op op_pow pe_int pe_int) (nomark _)) pa_nil))) (pa_cons (pe_op op_add (pe_op op_add (pe_op op_modN (pe_callTy call_int1 (by rfl) M.int_ (by decide +kernel) (pa_cons (pv 2) pa_nil)) pe_int) (pe_op op_mul pe_int (pv 1))) pe_int) (pa_cons pe_int pa_nil))))))), ?_⟩
  dsimp only [tSeq, tAsg]
  refine ⟨_, rfl, _, rfl, p, _, rfl, .inl hs, ?_⟩
  refine ⟨k, _, rfl, rfl, _, rfl, ?_⟩
  rw [List.length_map, decide_eq_true k1]
  dsimp only
  rw [if_pos rfl]
  have hk : k.toNat < cs.length := by omega
  have hc : (cs.map V.int)[k.toNat]? = some (.int cs[k.toNat]) := by rw [List.getElem?_map, List.getElem?_eq_getElem hk]; rfl
  have ha := atI_nat hc
  rw [show ((k.toNat : Nat) : Int) = k by omega] at ha
  refine ⟨_, rfl, _, rfl, p, _, k, _, rfl, rfl, hs, ha, ?_⟩
  generalize cs[k.toNat] = c
  refine tg_name (G := H) H (Same.refl _) _ ?_
  dsimp only [tRet]
  have eabs : ∀ (te : TE) (σ' : L2.St), EvZ te σ' H c → EvZ (tCB (fun xs H Q => ∃ i, xs = [.int i] ∧ Q (.int (if i < 0 then -i else i)) H) (tCons te tNil)) σ' H (if c < 0 then -c else c) := fun te σ' h Q q => h _ ⟨c, rfl, q⟩
  generalize hA : (if c < 0 then -c else c) = A at *
  have ebit : ∀ (te tf : TE) (σ' : L2.St) (i j : Int), EvZ te σ' H i → EvZ tf σ' H j → EvZ (tCB (fun xs H Q => (∃ i, xs = [.int i] ∧ Q (.int i) H) ∨ ∃ k, xs = [.bl k] ∧ Q (.int (if k then 1 else 0)) H) (tCons (tOp (rI0 fun i j => .bl (decide (j ≤ i))) te tf) tNil)) σ' H (if decide (j ≤ i) = true then 1 else 0) := fun te tf σ' i j h1 h2 Q q => h1 _ (h2 _ ⟨i, j, rfl, rfl, .inr ⟨_, rfl, q⟩⟩)
  have bit : ∀ b : Bool, -(2 ^ 64) < (if b = true then (1 : Int) else 0) ∧ (if b = true then (1 : Int) else 0) < 2 ^ 64 := fun b => by cases b <;> decide
  have z1 := ez_op (C := CMul) (g := fun i j => i * j) (eabs _ _ (ez_var (σ := (List.set (L2.start N_law_box [V.ref p, V.int k]) 2 (some (V.int c)))) (i := 2) rfl)) (ebit _ _ _ A (10 ^ 18) (eabs _ _ (ez_var (i := 2) rfl)) (ez_op (C := CPow) (g := fun i j => i ^ j.toNat) (i := 10) (j := 18) ez_c ez_c ⟨by decide, by decide, by decide⟩)) (.inr (bit _))
  refine z1 _ ?_
  obtain ⟨f0, f1⟩ := fmod_in (a := c) (b := 2305843009213693951) (by decide)
  refine ez_op0 (ez_op0 (ez_op (ez_int (ez_var rfl)) ez_c (by show (2305843009213693951 : Int) ≠ 0; decide)) (ez_op ez_c (ez_var (z := k) rfl) (.inl (by decide)))) ez_c _ ?_
  exact ⟨show 3 ≤ sizeLine by decide, fun u hu => q u _ _ hu (by omega) (by omega)⟩

/-- a loop whose walked thing is told at the start alone -/
theorem for_indR {α : Type} {ds : List α} (D0 : α → PyData) {G H : Hp} {σ : L2.St} {wi : TI} {g : TG} {tb : TS} {D : Ends} (hi : ∀ R : It → Hp → Prop, (∀ J G2 H2, Gx G H G2 H2 → Wk J G2 (ds.map D0) → R J H2) → wi σ H R) (Iv : Nat → L2.St → Hp → Hp → Prop) (h : Same G H)
    (h0 : ∀ G2 H2, Gx G H G2 H2 → Iv 0 σ G2 H2)
    (hs : ∀ G1, Same G G1 → ∀ i d, ds[i]? = some d → ∀ σ' G2 H2, Same G1 G2 → Same G2 H2 → Iv i σ' G2 H2 → ∀ x G3 H3, Gx G2 H2 G3 H3 → Rp G3 x (D0 d) →
      g x σ' H3 fun σ2 H4 => tb { D with nx := fun σ3 H5 => ∃ G5, Same G1 G5 ∧ Same G5 H5 ∧ Iv (i + 1) σ3 G5 H5, ct := fun σ3 H5 => ∃ G5, Same G1 G5 ∧ Same G5 H5 ∧ Iv (i + 1) σ3 G5 H5, bk := D.nx } σ2 H4)
    (he : ∀ σ' G2 H2, Same G G2 → Same G2 H2 → Iv ds.length σ' G2 H2 → D.nx σ' H2) : tFor wi g tb D σ H := hi _ fun J G1 H1 x1 w => by
  refine ⟨fun i m σ' H' => i + m = ds.length ∧ ∃ G5, Same G1 G5 ∧ Same G5 H' ∧ Iv i σ' G5 H', ⟨ds.length, by omega, G1, Same.refl _, x1.i, h0 G1 H1 x1⟩, fun i m σ' H' hW => ?_⟩
  obtain ⟨em, G5, s5, i5, iv⟩ := hW
  by_cases hlt : i < ds.length
  · refine .inr ⟨w.go i H' (s5.trans i5) (by rw [List.length_map]; exact hlt), fun σ3 H5 => ∃ G5, Same G1 G5 ∧ Same G5 H5 ∧ Iv (i + 1) σ3 G5 H5, fun σ3 H5 hN => ⟨m - 1, by omega, by omega, hN⟩, fun x H6 hy => ?_⟩
    obtain ⟨dd, hdd0, G6, gx6, rx⟩ := (w.up s5).yld i H' x H6 i5 (by rw [List.length_map]; exact hlt) hy
    obtain ⟨d, hdd, rfl⟩ := at_map hdd0
    exact hs G1 x1.g i d hdd σ' G5 H' s5 i5 iv x G6 H6 gx6 rx
  · have ei : i = ds.length := by omega
    subst ei
    have le : (ds.map D0).length = ds.length := List.length_map ..
    exact .inl ⟨le ▸ w.stop H' (s5.trans i5), he σ' G5 H' (x1.g.trans s5) i5 iv⟩

/-! ### cells -/
abbrev s_law_cells : Stmt := top 21
abbrev N_law_cells : List Str := ["_law_script", "_law_top", "_law_cells_here", "_law_k", "_law_cell", "_law_at_so"]
theorem sc_law_cells : FnScope N_law_cells ["_law_script", "_law_top"] (defScope s_law_cells) := ⟨rfl, rfl, rfl, by decide +kernel, rfl, by decide +kernel, by decide +kernel⟩
def SpCells (K : PySem.W.Frag) : Sp := fun vs H Q _ => ∃ (a : Addr) (ns : List Int), vs = [.ref a, .int 3] ∧ SqL K H a (ns.map V.int) ∧ ns.length ≤ 63 ∧ ∀ p H2 (cs : List Int), Same H H2 → H p = none → H2 p = some (.lst (cs.map V.int)) → cs.length ≤ 3 → Q (.ref p) H2
theorem cutV_ints (ns : List Int) (lo hi : Option Int) : cutV (ns.map V.int) lo hi = (cut ns lo hi).map V.int := by
  show cut (ns.map V.int) lo hi = _
  unfold cut
  rw [List.length_map, List.map_take, List.map_drop]
theorem cells_first {a : Addr} {ns : List Int} {H : Hp} {σ : L2.St} (hs : SqL K H a (ns.map V.int)) (h0 : σ[0]? = some (some (.ref a))) (h1 : σ[1]? = some (some (.int 3))) (Q : VK)
    (q : ∀ p H1 (cs : List Int), Same H H1 → H p = none → H1 p = some (.lst (cs.map V.int)) → cs.length ≤ 3 → (cs.length = 3 ∨ ns.length ≤ 3) → Q (.ref p) H1) :
    tOrT K (tCB (fun xs H Q => ∃ p ys, xs = [.ref p] ∧ (SqL K H p ys ∨ SqT K H p ys) ∧ ∀ l, H l = none → Q (.ref l) (upd H l (.lst ys))) (tCons (tSl (rSlL K) (tVar 0) tNoPart (tPart (tVar 1))) tNil)) (tLst (tCons (tC (.int 0)) tNil)) σ H Q := by
  refine ⟨_, h0, ⟨_, h1, 3, rfl, a, _, rfl, hs, fun s1 g1 => ⟨s1, _, rfl, .inl (.of upd_same), fun l gl => ?_⟩⟩⟩
  have s1' := (same_new (o := .lst (cutV (ns.map V.int) none (some 3))) g1).trans (same_new (o := .lst (cutV (ns.map V.int) none (some 3))) gl)
  have hl0 : H l = none := by
    cases z : H l with
    | none => rfl
    | some o => rw [(same_new g1) _ _ z] at gl; cases gl
  refine ⟨_, .inl ⟨_, .of upd_same, rfl⟩, ?_⟩
  have e3 : cutV (ns.map V.int) none (some 3) = (ns.take 3).map V.int := by
    rw [cutV_ints]
    congr 1
    exact cut_to ns 3
  rw [e3] at s1' ⊢
  cases ns with
  | nil =>
    rw [if_neg (by simp)]
    refine ⟨show 1 ≤ sizeLine by decide, fun p hp => ?_⟩
    have hp0 : H p = none := by
      cases z : H p with
      | none => rfl
      | some o => rw [s1' _ _ z] at hp; cases hp
    exact q p _ [0] (s1'.trans (same_new hp)) hp0 upd_same (by decide) (.inr (Nat.zero_le _))
  | cons n r =>
    rw [if_pos (by simp)]
    refine q l _ ((n :: r).take 3) s1' hl0 upd_same (by rw [List.length_take]; omega) ?_
    rw [List.length_take]; omega
theorem ok_law_cells (F : Fun K "_law_cells" "_law_cells" s_law_cells f fd) (M : Mg mg tL tN) : FnOk P w K mg base CX0 1 f fd ["_law_script", "_law_top"] (SpCells K) := by
  refine F.ok sc_law_cells (fun vs H Q E h => by obtain ⟨p, cs, rfl, _⟩ := h; rfl) (fun cdv A outer s H vs Q E hr h => ?_)
  obtain ⟨a, ns, rfl, hs, hl, q⟩ := h
  refine ⟨_, (pss_cons (ps_set (i := 2) sc_law_cells.nd rfl (.inl rfl) (pe_orT (pe_callTy call_list_of (by rfl) M.list_ (by decide +kernel) (pa_cons (pe_slice sl_list (pv 0) po_none (po_some (pv 1))) pa_nil)) (pe_one (pe_lst (pa_cons pe_int pa_nil)))))
    (pss_cons (ps_for PassesOwn.never rfl (pi_enum (by rfl) M.enumerate (pa_cons (pe_slice sl_list (pv 0) (po_some (pv 1)) (po_some pe_int)) pa_nil)) (pg_tup rfl (pgs_cons (pg_name (i := 3) sc_law_cells.nd rfl (.inl rfl)) (pgs_cons (pg_name (i := 4) sc_law_cells.nd rfl (.inl rfl)) pgs_nil))) (pss_cons (ps_set (i := 5) sc_law_cells.nd rfl (.inl rfl) (pe_op op_modN (pe_callTy call_int1 (by rfl) M.int_ (by decide +kernel) (pa_cons (pv 3) pa_nil)) (pv 1)))
    (pss_one (ps_asg (pe_op op_add (pe_ix ix_list (pv 2) (pv 5) (fun _ _ => rfl)) (pe_op op_mul (pv 4) (pe_op op_add (pv 3) pe_int))) (pg_sub (pv 2) (pv 5) set_list)))))
    (pss_one (ps_ret (pv 2))))), ?_⟩
  dsimp only [tSeq, tAsg]
  refine cells_first hs rfl rfl _ fun p H1 cs s1 hp h1 cl cn => ?_
  refine tg_name (G := H) H1 s1 _ ?_
  dsimp only [tSeq]
  let G0 : Hp := fun _ => none
  have i0 : ∀ H', Same G0 H' := fun _ _ _ e => nomatch e
  let Iv : Nat → L2.St → Hp → Hp → Prop := fun j σ G' H' => ∃ (x3 x4 x5 : Option V) (cs' : List Int), σ = [some (.ref a), some (.int 3), some (.ref p), x3, x4, x5] ∧ Same H H' ∧ G' p = none ∧ H' p = some (.lst (cs'.map V.int)) ∧ cs'.length = cs.length
  refine for_indR (G := G0) (ds := (cut ns (some 3) (some 63)).zipIdx) (fun z : Int × Nat => .tuple [.int (z.2 : Nat), .int z.1]) (fun R k => ?_) Iv (i0 _) (fun G4 H4 x4 => ?_) (fun Gs sGs j z hj σ' G4 H4 s4 i4 iv y G5 H5 x5 rx => ?_) (fun σ' G4 H4 s4 i4 iv => ?_)
  · refine ⟨_, rfl, ⟨_, rfl, 3, rfl, 63, rfl, a, _, rfl, s1.seq hs, fun s2 h2 => ⟨s2, _, rfl, .of upd_same, ?_⟩⟩⟩
    rw [cutV_ints]
    have x := Gx.new (G := G0) (o := .lst ((cut ns (some 3) (some 63)).map V.int)) (i0 H1) h2
    refine k _ _ _ x ?_
    have := wk_enum (K := K) (G := upd G0 s2 (.lst ((cut ns (some 3) (some 63)).map V.int))) (a := s2) upd_same (Rps.ofInts (cut ns (some 3) (some 63)))
    rw [enumD_zip] at this
    exact this
  · exact ⟨none, none, none, cs, rfl, s1.trans x4.h, x4.out rfl h1, x4.h _ _ h1, rfl⟩
  · obtain ⟨y3, y4, y5, cs', rfl, sH, n4, h4, lc⟩ := iv
    obtain ⟨w1, w2, rw1, rw2, tg⟩ := tg2 (K := K) (i := 3) (j := 4) rx
    cases rw1.isInt
    cases rw2.isInt
    refine tg H5 x5.i _ ?_
    dsimp only [tSeq, tAsg]
    have n5 : G5 p = none := x5.out n4 h4
    have h5 : H5 p = some (.lst (cs'.map V.int)) := x5.h _ _ h4
    have big : 3 < ns.length := by
      have hm := List.mem_of_getElem? hj
      have : (cut ns (some 3) (some 63)).length ≠ 0 := fun e => by
        have e2 := List.eq_nil_of_length_eq_zero e
        rw [e2] at hm; cases hm
      have h2 : (cut ns (some 3) (some 63)).length ≤ ns.length - 3 := by
        unfold cut
        rw [List.length_take, List.length_drop]
        have : HT.sIx ns.length 0 (some 3) ≥ min 3 ns.length := by
          unfold HT.sIx; simp
        omega
      omega
    have c3 : cs'.length = 3 := by omega
    have zj : z.2 < 64 := by
      obtain ⟨he, hz⟩ : (cut ns (some 3) (some 63))[j]? = some z.1 ∧ z.2 = j := by
        rw [List.getElem?_zipIdx] at hj
        cases e : (cut ns (some 3) (some 63))[j]? with
        | none => rw [e] at hj; cases hj
        | some v => rw [e] at hj; cases (Option.some.inj hj); exact ⟨rfl, by simp⟩
      have := (List.getElem?_eq_some_iff.mp he).1
      have h2 : (cut ns (some 3) (some 63)).length ≤ ns.length := by
        unfold cut
        rw [List.length_take, List.length_drop]; omega
      omega
    refine ez_op (ez_int (ez_var (z := ((z.2 : Nat) : Int)) rfl)) (ez_var (z := 3) rfl) (by show (3 : Int) ≠ 0; decide) _ ?_
    obtain ⟨f0, f1⟩ := fmod_in (a := ((z.2 : Nat) : Int)) (b := 3) (by decide)
    generalize ((z.2 : Nat) : Int).fmod 3 = at_ at *
    refine tg_name (G := G5) H5 x5.i _ ?_
    dsimp only [tAsg]
    have ha : at_.toNat < cs'.length := by omega
    have hc : (cs'.map V.int)[at_.toNat]? = some (.int cs'[at_.toNat]) := by rw [List.getElem?_map, List.getElem?_eq_getElem ha]; rfl
    have ea := atI_nat hc
    rw [show ((at_.toNat : Nat) : Int) = at_ by omega] at ea
    have rd : EvZ (tOp (rIxL K) (tVar 2) (tVar 5)) [some (.ref a), some (.int 3), some (.ref p), some (.int ((z.2 : Nat) : Int)), some (.int z.1), some (.int at_)] H5 cs'[at_.toNat] := fun Q q => ⟨_, rfl, _, rfl, p, _, at_, _, rfl, rfl, .of h5, ea, q⟩
    refine ez_op0 rd (ez_op (ez_var (z := z.1) rfl) (ez_op0 (ez_var (z := ((z.2 : Nat) : Int)) rfl) ez_c) (.inr (by omega))) _ ?_
    refine ⟨_, rfl, _, rfl, p, _, at_, at_.toNat, rfl, rfl, h5, ?_, ?_⟩
    · unfold ixN
      rw [if_pos f0, List.length_map, if_pos (by omega)]
    · refine ⟨G5, s4.trans x5.g, same_mut x5.i n5, _, _, _, cs'.set at_.toNat (cs'[at_.toNat] + z.1 * (((z.2 : Nat) : Int) + 2)), rfl, fun b o e => by rw [upd_ne (ne_of_none e hp)]; exact x5.h _ _ (sH _ _ e), n5, ?_, by rw [List.length_set]; exact lc⟩
      rw [upd_same, List.map_set]
  · obtain ⟨y3, y4, y5, cs', rfl, sH, n4, h4, lc⟩ := iv
    exact ⟨_, rfl, q p H4 cs' sH hp h4 (by omega)⟩
end K11
set_option Elab.async false
set_option linter.all false
set_option maxRecDepth 100000
set_option maxHeartbeats 4000000
set_option autoImplicit false
/-! K11Hand: by_hand_right. -/
namespace K11
open PySem PySem.Spec PyProof.Rows L2 RZ
variable {P : Program} {w : World} {K : PySem.W.Frag} {mg : Str → Option Value} {base : Heap} {f : Addr} {fd : FuncData} {tL tN : Tok}
/-! ### calls by keywords alone, in the reversed order -/
def revA {α : Type} : List α → List α → List α
  | [], ws => ws.reverse
  | _ :: _, _ => []
theorem vals_rev : ∀ {zs : List V} {ws : List Value}, Vals zs ws → Vals zs.reverse ws.reverse
  | _, _, .nil => .nil
  | _, _, .cons h r => by
    rw [List.reverse_cons, List.reverse_cons]
    exact (vals_rev r).append (.cons h .nil)
theorem kb_mk {ps ks : List Str} (h : ∀ (s : Shared) (ws : List Value), K.In s.heap → ws.length = ps.length → BindsTo s fd ⟨[], ks.zip ws⟩ (ps.zip ws.reverse)) (hz : ps ≠ []) : KBinds K fd ps ks revA revA := by
  refine ⟨fun s us ws k e => ?_, fun {vs us zs ws} r z => ?_⟩
  · cases us with
    | nil => exact h s ws k (by rw [← e]; exact (List.length_reverse ..).symm)
    | cons _ _ => exact absurd (List.eq_nil_of_length_eq_zero e.symm) hz
  · cases r with
    | nil => exact vals_rev z
    | cons _ _ => exact .nil
section
variable {X : Cx} {CX : CXT} {k : Nat} {ps ks : List Str} {sp : Sp} {E : XK} {x : Str} {p pos : Pos} {kws : List Keyword} {tk : TA} {g : List Value → List Value → List Value} {gV : List V → List V → List V}
theorem pe_callK0 (F : FnOk X.prog X.w X.K X.mg X.base CX k f fd ps sp) (hr : Room k X.A) (hg : Gl X x) (hm : X.mg x = some (.ref f)) (hk : PySem.W.keepIn X.K (.ref f) = true) (hb : KBinds X.K fd ps ks g gV) (hx : Passes CX X E) (hkw : PK X kws tk)
    (hall : (backToKw pos (keywordEach kws X.env)).all (·.1.isSome) = true := by rfl) (hks : (backToKw pos (keywordEach kws X.env)).filterMap (·.1) = ks := by rfl) (hdb : (x == ("__debug__" : Str)) = false := by decide)
    (hpl : ((backTo pos (starEach [] X.env)).any (·.1) || (backToKw pos (keywordEach kws X.env)).any (·.1.isNone)) = false := by rfl) : PE X (.Call (.Name x p) [] kws pos) (tCallK sp gV E tNil tk) := by
  refine ⟨fun pins s σ H Q I h => wpAny_Call_Name_kw (ld_glob I hg hm (PySem.W.callWith_KW0 (h₀ := X.base) I.ok.mod.kin hk hall (thn (hkw.run pos pins s σ H _ I h) fun ws s1 ⟨zs, H1, I1, rz, q⟩ => ⟨I1.kIn, ?_⟩) hpl) hdb)⟩
  rw [hks]
  exact run_fnk (us := []) F hr hb hx I1 .nil rz q
end
theorem ev_callXK {σ : L2.St} {G : Hp} {ts : TA} {ds : List PyData} {d : PyData} {C : Addr} {n : Nat} {R : List PyData → Option PyData → Prop} {E : XK} (ha : EvS ts σ G ds) (hr : R ds.reverse (some d)) (hn : ds.length = n) : EvD (tCallK (SpX C n R) revA E tNil ts) σ G d := fun H i Q q =>
  ha H i _ fun xs G2 H2 x2 r2 => ⟨G2, ds.reverse, some d, by show xs.reverse.length = n; rw [List.length_reverse, r2.len, hn], x2.i, rps_rev r2, hr, fun d' e v G3 H3 x3 r3 _ => by cases e; exact q v G3 H3 (x2.trans x3) r3, fun e => by cases e⟩
where rps_rev {G : Hp} : ∀ {xs : List V} {ds : List PyData}, Rps G xs ds → Rps G xs.reverse ds.reverse
  | _, _, .nil => .nil
  | _, _, .cons h r => by
    rw [List.reverse_cons, List.reverse_cons]
    exact (rps_rev r).snoc h
/-! ### lists that grow -/
structure Lm (H0 G H : Hp) (v : V) (p : Addr) (ds : List PyData) : Prop where
  v : v = .ref p
  n0 : H0 p = none
  g : G p = none
  h : ∃ acc, H p = some (.lst acc) ∧ Rps G acc ds
variable {σ : L2.St} {te ta tb : TE} {ts : TA} {H0 G H G2 H2 : Hp} {ds es : List PyData} {d e : PyData} {v : V} {p : Addr}
theorem Lm.up (l : Lm H0 G H v p ds) (x : Gx G H G2 H2) : Lm H0 G2 H2 v p ds := by
  obtain ⟨acc, h, r⟩ := l.h
  exact ⟨l.v, l.n0, x.out l.g h, acc, x.h _ _ h, r.up x.g⟩
theorem Lm.ne {q : Addr} (l : Lm H0 G H v p ds) (n : H q = none) : p ≠ q := fun e => by
  obtain ⟨acc, h, _⟩ := l.h
  rw [e, n] at h; cases h
theorem Lm.other {q : Addr} {o : HO} (l : Lm H0 G H v p ds) (c : p ≠ q) : Lm H0 G (upd H q o) v p ds := by
  obtain ⟨acc, h, r⟩ := l.h
  exact ⟨l.v, l.n0, l.g, acc, by rw [upd_ne c]; exact h, r⟩
/-- a new one -/
theorem lm_new (h : EvS ts σ G ds) (z : ds.length ≤ 100000) (i : Same G H) (s0 : Same H0 H) (Q : VK) (q : ∀ v p G2 H2, Gx G H G2 H2 → Same H0 H2 → H p = none → Lm H0 G2 H2 v p ds → Q v H2) : tLst ts σ H Q :=
  h H i _ fun vs G2 H2 x r => ⟨by rw [r.len]; exact Nat.le_trans z (by decide), fun p hp => q _ p G2 _ (x.post (same_new hp)) (s0.trans (x.h.trans (same_new hp))) (x.h.free hp) ⟨rfl, s0.free (x.h.free hp), x.i.free hp, vs, upd_same, r⟩⟩
/-- one and a list display: a new one -/
theorem lm_cat {k : Nat} (l : Lm H0 G H v p ds) (hv : σ[k]? = some (some v)) (h : EvS ts σ G es) (z : ds.length + es.length ≤ 100000) (i : Same G H) (s0 : Same H0 H) (Q : VK)
    (q : ∀ v2 p2 G2 H2, Gx G H G2 H2 → Same H0 H2 → H p2 = none → Lm H0 G2 H2 v2 p2 (ds ++ es) → Q v2 H2) : tOp rCat (tVar k) (tLst ts) σ H Q := by
  refine ⟨v, hv, h H i _ fun vs G2 H2 x r => ⟨by rw [r.len]; exact Nat.le_trans (Nat.le_trans (Nat.le_add_left ..) z) (by decide), fun b hb => ?_⟩⟩
  obtain ⟨rfl, n0, g, acc, hp, ra⟩ := l.up x
  have pb : p ≠ b := fun e => by rw [e, hb] at hp; cases hp
  refine ⟨p, b, acc, vs, rfl, rfl, by rw [upd_ne pb]; exact hp, upd_same, by rw [ra.len, r.len]; exact Nat.le_trans z (by decide), fun p2 h2 => ?_⟩
  have h2' : H2 p2 = none := (same_new hb).free h2
  have sHH : Same H2 (upd (upd H2 b (.lst vs)) p2 (.lst (acc ++ vs))) := (same_new hb).trans (same_new h2)
  exact q _ p2 G2 _ (x.post sHH) (s0.trans (x.h.trans sHH)) (x.h.free h2') ⟨rfl, s0.free (x.h.free h2'), x.i.free h2', acc ++ vs, upd_same, ra.app r⟩
/-- one more at the end -/
theorem lm_app {k : Nat} (l : Lm H0 G H v p ds) (hv : σ[k]? = some (some v)) (h : EvD te σ G d) (z : ds.length < 100000) (i : Same G H) (s0 : Same H0 H) (Q : VK)
    (q : ∀ G2 H2, Same G G2 → Same G2 H2 → Same H0 H2 → (∀ b o, b ≠ p → H b = some o → H2 b = some o) → (∀ b o, G2 b = some o → G b = none → H b = none) → Lm H0 G2 H2 v p (ds ++ [d]) → Q .non H2) : tBM K "list" rAppend (tVar k) (tCons te tNil) σ H Q := by
  obtain ⟨rfl, n0, g, acc, hp, ra⟩ := id l
  refine ⟨_, hv, .inl ⟨rfl, _, .of hp⟩, h H i _ fun u G2 H2 x r => ?_⟩
  obtain ⟨_, _, g2, acc2, hp2, ra2⟩ := l.up x
  refine ⟨p, acc2, u, rfl, rfl, hp2, Nat.lt_of_lt_of_le (by rw [ra2.len]; exact z) (by decide), q G2 _ x.g (same_mut x.i g2) (fun b o e => by rw [upd_ne (ne_of_none e n0)]; exact x.h _ _ (s0 _ _ e)) (fun b o c e => by rw [upd_ne c]; exact x.h _ _ e) x.f ⟨rfl, n0, g2, _, upd_same, ra2.snoc r⟩⟩
theorem Lm.stay {q : Addr} (l : Lm H0 G H v p ds) (c : p ≠ q) (s : Same G G2) (k : ∀ b o, b ≠ q → H b = some o → H2 b = some o) (f : ∀ b o, G2 b = some o → G b = none → H b = none) : Lm H0 G2 H2 v p ds := by
  obtain ⟨acc, h, r⟩ := l.h
  refine ⟨l.v, l.n0, ?_, acc, k _ _ c h, r.up s⟩
  cases z : G2 p with
  | none => rfl
  | some o => have := f _ _ z l.g; rw [h] at this; cases this
/-- told as known -/
theorem Lm.tell (l : Lm H0 G H v p ds) (i : Same G H) : ∃ G2, Same G G2 ∧ Same G2 H ∧ Rp G2 v (.list ds) := by
  obtain ⟨rfl, n0, g, acc, h, r⟩ := l
  refine ⟨upd G p (.lst acc), same_new g, fun b o e => ?_, .lst upd_same (r.up (same_new g))⟩
  by_cases c : b = p
  · subst c; rw [upd_same] at e; cases e; exact h
  · rw [upd_ne c] at e; exact i _ _ e
end K11
set_option Elab.async false
set_option linter.all false
set_option maxRecDepth 100000
set_option maxHeartbeats 4000000
set_option autoImplicit false
/-! K11Arg: the arguments as tuples and as lists. -/
namespace K11
open PySem PySem.Spec PyProof.Rows L2 RZ
structure BS (b : Blk) : Prop where
  nd : b.names.Nodup
  nl : b.rows.length ≤ 100
  rl : ∀ r ∈ b.rows, r.2.1.length ≤ 100
  nm : ∀ r ∈ b.rows, isNameB r.1 = true
  ll : b.live.length ≤ 100
theorem BOk.bs {b : Blk} (B : BOk b) : BS b := ⟨B.nd, by have := B.nl; omega, B.rl, B.nm, by have := B.ll; omega⟩
theorem okD_row (n : Nat) (r : Row) (h : r.2.1.length ≤ 100) : okD (n + 2) (dRow r) = true := by
  show (decide ((3 : Nat) ≤ 100000) && (okD (n + 1) (.str r.1) && (okD (n + 1) (.tuple (dStrs r.2.1)) && (okD (n + 1) (.bool r.2.2) && true)))) = true
  have e : okD (n + 1) (.tuple (dStrs r.2.1)) = true := by
    show (decide ((dStrs r.2.1).length ≤ 100000) && (dStrs r.2.1).all (okD n)) = true
    rw [okD_strs, strs_len, decide_eq_true (by omega)]; rfl
  rw [e]; rfl
theorem okD_tup {n : Nat} {xs : List PyData} (h : xs.length ≤ 100000) (a : ∀ x ∈ xs, okD n x = true) : okD (n + 1) (.tuple xs) = true := by
  show (decide (xs.length ≤ 100000) && xs.all (okD n)) = true
  rw [decide_eq_true h, List.all_eq_true.mpr a]; rfl
theorem okD_lst {n : Nat} {xs : List PyData} (h : xs.length ≤ 100000) (a : ∀ x ∈ xs, okD n x = true) : okD (n + 1) (.list xs) = true := by
  show (decide (xs.length ≤ 100000) && xs.all (okD n)) = true
  rw [decide_eq_true h, List.all_eq_true.mpr a]; rfl
theorem okD_blk {b : Blk} (B : BS b) : okD 12 (dBlk b) = true := by
  refine okD_tup (by show 2 ≤ 100000; decide) fun x hx => ?_
  rcases List.mem_cons.mp hx with rfl | hx
  · refine okD_tup (by rw [List.length_map]; have := B.nl; omega) fun y hy => ?_
    obtain ⟨r, hr, rfl⟩ := List.mem_map.mp hy
    exact okD_row 8 r (B.rl r hr)
  · rw [List.mem_singleton.mp hx]
    refine okD_tup (by rw [strs_len]; have := B.ll; omega) fun y hy => ?_
    obtain ⟨s, _, rfl⟩ := List.mem_map.mp hy
    exact okD_str 10 s
theorem tupN_row (n : Nat) (r : Row) : tupN (n + 2) (dRow r) = dRow r := by
  show PyData.tuple [tupN (n + 1) (.str r.1), .tuple ((dStrs r.2.1).map (tupN n)), tupN (n + 1) (.bool r.2.2)] = _
  rw [tupN_strs]; rfl
theorem tupN_blk (b : Blk) : tupN 12 (dBlk b) = dBlk b := by
  show PyData.tuple [.tuple ((b.rows.map dRow).map (tupN 10)), .tuple ((dStrs b.live).map (tupN 10))] = _
  rw [tupN_strs, List.map_map]
  unfold dBlk
  congr 3
  exact List.map_congr_left fun r _ => tupN_row 8 r
/-- a row as lists -/
def lRow (r : Row) : PyData := .list [.str r.1, .list (dStrs r.2.1), .bool r.2.2]
def lBlk (b : Blk) : PyData := .list [.list (b.rows.map lRow), .list (dStrs b.live)]
theorem lisN_strs (n : Nat) (l : List Str) : (dStrs l).map (lisN n) = dStrs l := by
  unfold dStrs
  rw [List.map_map]
  exact List.map_congr_left fun s _ => by cases n <;> rfl
theorem lisN_row (n : Nat) (r : Row) : lisN (n + 2) (dRow r) = lRow r := by
  show PyData.list [lisN (n + 1) (.str r.1), .list ((dStrs r.2.1).map (lisN n)), lisN (n + 1) (.bool r.2.2)] = _
  rw [lisN_strs]; rfl
theorem lisN_blk (b : Blk) : lisN 12 (dBlk b) = lBlk b := by
  show PyData.list [.list ((b.rows.map dRow).map (lisN 10)), .list ((dStrs b.live).map (lisN 10))] = _
  rw [lisN_strs, List.map_map]
  unfold lBlk
  congr 3
  exact List.map_congr_left fun r _ => lisN_row 8 r
theorem tupN_lblk (b : Blk) : tupN 12 (lBlk b) = dBlk b := by
  show PyData.tuple [.tuple ((b.rows.map lRow).map (tupN 10)), .tuple ((dStrs b.live).map (tupN 10))] = _
  rw [tupN_strs, List.map_map]
  unfold dBlk
  congr 3
  refine List.map_congr_left fun r _ => ?_
  show PyData.tuple [tupN 9 (.str r.1), .tuple ((dStrs r.2.1).map (tupN 8)), tupN 9 (.bool r.2.2)] = _
  rw [tupN_strs]; rfl
theorem okD_lblk {b : Blk} (B : BS b) : okD 12 (lBlk b) = true := by
  refine okD_lst (by show 2 ≤ 100000; decide) fun x hx => ?_
  rcases List.mem_cons.mp hx with rfl | hx
  · refine okD_lst (by rw [List.length_map]; have := B.nl; omega) fun y hy => ?_
    obtain ⟨r, hr, rfl⟩ := List.mem_map.mp hy
    refine okD_lst (by show 3 ≤ 100000; decide) fun z hz => ?_
    rcases List.mem_cons.mp hz with rfl | hz
    · rfl
    · rcases List.mem_cons.mp hz with rfl | hz
      · refine okD_lst (by rw [strs_len]; have := B.rl r hr; omega) fun s hs => ?_
        obtain ⟨s, _, rfl⟩ := List.mem_map.mp hs
        exact okD_str 8 s
      · rw [List.mem_singleton.mp hz]; rfl
  · rw [List.mem_singleton.mp hx]
    refine okD_lst (by rw [strs_len]; have := B.ll; omega) fun y hy => ?_
    obtain ⟨s, _, rfl⟩ := List.mem_map.mp hy
    exact okD_str 10 s
theorem blk_tup {b : Blk} (B : BS b) : BlkD (dBlk b) b := ⟨okD_blk B, tupN_blk b, B.nd, B.nl, B.rl, B.nm⟩
theorem blk_lis {b : Blk} (B : BS b) : BlkD (lBlk b) b := ⟨okD_lblk B, tupN_lblk b, B.nd, B.nl, B.rl, B.nm⟩
def lLat (l : Lat) : PyData := .list (l.map fun p => .list [.str p.1, .int p.2])
theorem lisN_lat (l : Lat) : lisN 12 (dLat l) = lLat l := by
  show PyData.list ((l.map dLatP).map (lisN 11)) = _
  rw [List.map_map]; rfl
theorem tupN_lat (l : Lat) : tupN 12 (dLat l) = dLat l := by
  show PyData.tuple ((l.map dLatP).map (tupN 11)) = _
  rw [List.map_map]; rfl
theorem tupN_llat (l : Lat) : tupN 12 (lLat l) = dLat l := by
  show PyData.tuple ((l.map _).map (tupN 11)) = _
  rw [List.map_map]; rfl
theorem okD_lat {l : Lat} (h : l.length ≤ 100) : okD 12 (dLat l) = true := by
  refine okD_tup (by rw [List.length_map]; omega) fun x hx => ?_
  obtain ⟨p, _, rfl⟩ := List.mem_map.mp hx
  rfl
theorem okD_llat {l : Lat} (h : l.length ≤ 100) : okD 12 (lLat l) = true := by
  refine okD_lst (by rw [List.length_map]; omega) fun x hx => ?_
  obtain ⟨p, _, rfl⟩ := List.mem_map.mp hx
  rfl
/-- what an order and latencies must be for a block -/
structure AS (b : Blk) (o : List Str) (lat : Lat) : Prop where
  bs : BS b
  ol : o.length ≤ 1000
  os : ∀ s ∈ o, s.length ≤ 1000
  ll : lat.length ≤ 100
  nd : (lat.map (·.1)).Nodup
  sl : ∀ r ∈ b.rows, r.2.2 = true → r.1 ∈ lat.map (·.1)
theorem AS.tup {b : Blk} {o : List Str} {lat : Lat} (a : AS b o lat) : ArgD (dBlk b) (dO o) (dLat lat) b o lat := ⟨blk_tup a.bs, .inr rfl, a.ol, a.os, okD_lat a.ll, tupN_lat lat, a.nd, a.sl⟩
theorem AS.tupL {b : Blk} {o : List Str} {lat : Lat} (a : AS b o lat) : ArgD (dBlk b) (.list (dStrs o)) (dLat lat) b o lat := ⟨blk_tup a.bs, .inl rfl, a.ol, a.os, okD_lat a.ll, tupN_lat lat, a.nd, a.sl⟩
theorem AS.lis {b : Blk} {o : List Str} {lat : Lat} (a : AS b o lat) : ArgD (lBlk b) (.list (dStrs o)) (lLat lat) b o lat := ⟨blk_lis a.bs, .inl rfl, a.ol, a.os, okD_llat a.ll, tupN_llat lat, a.nd, a.sl⟩
end K11
set_option Elab.async false
set_option linter.all false
set_option maxRecDepth 100000
set_option maxHeartbeats 8000000
set_option autoImplicit false
/-! K11Hand2: by_hand_right is True. -/
namespace K11
open PySem PySem.Spec PyProof.Rows L2 RZ
variable {P : Program} {w : World} {K : PySem.W.Frag} {mg : Str → Option Value} {base : Heap} {f : Addr} {fd : FuncData} {tL tN : Tok}
theorem le5 {n : Nat} (h : Nat.ble n 100000 = true) : n ≤ 100000 := Nat.le_of_ble_eq_true h
def far : Int := 10000000000000000000000000000000000000000
def latP (x y : Int) : Lat := [("a", x), ("b", y)]
def rowsL : List (List Str × Int × Int) := [(["a", "u", "b", "v"], 3, 1), (["a", "u", "b", "v"], 3, 5), (["a", "b", "u", "v"], 3, 5), (["a", "b", "v", "u"], 3, 2), (["a", "u", "b", "v"], far, 1), (["b", "v", "a", "u"], 1, far), (["a", "b", "u", "v"], far, far), (["a", "b", "u", "v"], 1, 1), (["a", "b", "v", "u"], 1, far)]
def dRw (r : List Str × Int × Int) : PyData := .tuple [dO r.1, .int r.2.1, .int r.2.2]
def resP (r : List Str × Int × Int) : List (Int × Int) × Int := (stret (spots wide (latP r.2.1 r.2.2) r.1), manyIdle wide (latP r.2.1 r.2.2) r.1)
def goalL : List (List (Int × Int) × Int) := [([(1, 2)], 2), ([(1, 2), (5, 4)], 6), ([(2, 1), (4, 2)], 3), ([(2, 1)], 1), ([(1, far - 1)], far - 1), ([(1, far - 1)], far - 1), ([(2, far - 2)], far - 2), ([], 0), ([(2, far - 1)], far - 1)]
def dRes (g : List (Int × Int) × Int) : PyData := .tuple [.tuple (g.1.map dPI), .int g.2]
theorem rows_ok : rowsL.map resP = goalL := by decide +kernel
theorem rows_ord : ∀ r ∈ rowsL, isOrderB wide r.1 = true := by decide +kernel
theorem wideS : BS wide := ⟨by decide +kernel, by decide +kernel, by decide +kernel, by decide +kernel, by decide +kernel⟩
def okOs : List (List Str) := [["a", "u", "b", "v"], ["a", "b", "u", "v"], ["a", "b", "v", "u"], ["b", "v", "a", "u"], ["u", "a", "b", "v"], ["a", "b", "u"], [], ["a", "b", "u", "v", "v"], ["a", "v", "b", "u"]]
theorem okOs_len : ∀ o ∈ okOs, o.length ≤ 1000 ∧ ∀ s ∈ o, Str.length s ≤ 1000 := by decide +kernel
theorem asW (o : List Str) (x y : Int) (h : o ∈ okOs) : AS wide o (latP x y) := by
  exact ⟨wideS, (okOs_len o h).1, (okOs_len o h).2, (show 2 ≤ 100 by decide), (by decide +kernel : (["a", "b"] : List Str).Nodup), (by decide +kernel : ∀ r ∈ wide.rows, r.2.2 = true → r.1 ∈ (["a", "b"] : List Str))⟩
/-- what issued_at gives -/
def issuedO (o : List Str) (ns : List Int) (k : Int) : Option Str := (idxOf k ns).bind fun j => o[j]?
def dOp : Option Str → PyData
  | some s => .str s
  | none => .none
theorem issuedD_eq (o : List Str) (ns : List Int) (k : Int) : issuedD o ns k = dOp (issuedO o ns k) := by
  unfold issuedD issuedO
  cases idxOf k ns with
  | none => rfl
  | some j => simp only [Option.bind_some]; cases o[j]? <;> rfl
def ks1 : List Int := [0, 1, 2, 3, 4, 5, 8, 9, 10, -1, far, -far]
theorem is1 : ks1.map (issuedO ["a", "u", "b", "v"] (spots wide (latP 3 5) ["a", "u", "b", "v"])) = ([some "a", none, none, some "u", some "b", none, none, some "v", none, none, none, none] : List (Option Str)) := by decide +kernel
def ks2 : List Int := [4, 3, 2, 1, 0]
theorem is2 : ks2.map (fun k => issuedO ["a", "u", "b", "v"] (spots wide (latP (far - 3) 1) ["a", "u", "b", "v"]) (far - k)) = ([none, some "u", some "b", some "v", none] : List (Option Str)) := by decide +kernel
def latA (x : Int) : Lat := [("a", x)]
theorem loneS : BS lone := ⟨by decide +kernel, by decide +kernel, by decide +kernel, by decide +kernel, by decide +kernel⟩
theorem asL (x : Int) : AS lone ["a"] (latA x) := ⟨loneS, by decide, by decide +kernel, (show 1 ≤ 100 by decide), (by decide +kernel : (["a"] : List Str).Nodup), (by decide +kernel : ∀ r ∈ lone.rows, r.2.2 = true → r.1 ∈ (["a"] : List Str))⟩
def none0 : Blk := ⟨[], []⟩
theorem asN : AS none0 [] [] := ⟨⟨by decide, by decide, by decide, by decide, by decide⟩, by decide, by decide, by decide, by decide, by decide⟩
theorem lone1 : stret (spots lone (latA far) ["a"]) = [] ∧ manyIdle lone (latA far) ["a"] = 0 ∧ issuedO ["a"] (spots lone (latA far) ["a"]) 0 = some "a" ∧ issuedO ["a"] (spots lone (latA far) ["a"]) 1 = none := by decide +kernel
theorem none1 : stret (spots none0 [] []) = [] ∧ manyIdle none0 [] [] = 0 ∧ issuedO [] (spots none0 [] []) 0 = none := by decide +kernel
def oddL : List (Bool × List Str) := [(false, ["u", "a", "b", "v"]), (false, ["a", "b", "u"]), (false, []), (false, ["a", "b", "u", "v", "v"]), (true, ["a", "v", "b", "u"])]
def dOdd (p : Bool × List Str) : PyData := if p.1 then .list (dStrs p.2) else .tuple (dStrs p.2)
theorem odd_no : ∀ p ∈ oddL, isOrderB wide p.2 = false := by decide +kernel
theorem soft1 : stret (spots wide (latP 3 5) ["a", "u", "b", "v"]) = [(1, 2), (5, 4)] ∧ manyIdle wide (latP 3 5) ["a", "u", "b", "v"] = 6 ∧ issuedO ["a", "u", "b", "v"] (spots wide (latP 3 5) ["a", "u", "b", "v"]) 4 = some "b" := by decide +kernel
theorem rows_os : ∀ r ∈ rowsL, r.1 ∈ okOs := by decide +kernel
theorem odd_os : ∀ p ∈ oddL, p.2 ∈ okOs := by decide +kernel
abbrev aubv : List Str := ["a", "u", "b", "v"]
theorem ord0 : isOrderB wide aubv = true := by decide +kernel
theorem ord1 : isOrderB lone ["a"] = true := by decide +kernel
theorem ord2 : isOrderB none0 [] = true := by decide +kernel
theorem ev_word {σ : L2.St} {G : Hp} {x : Str} {o : List Str} (h : signsD x = dStrs o) (z : x.length ≤ 100000) : EvD (tCB (fun xs H Q => ∃ x : Str, xs = [.str x] ∧ x.length ≤ 100000 ∧ ∀ p, H p = none → Q (.ref p) (upd H p (.tup (signs x)))) (tCons (tC (.str x)) tNil)) σ G (dO o) :=
  ev_is (ev_cb (es_cons ev_str es_nil) (cd_tupS z)) (congrArg PyData.tuple h)
def A1 : PyData := .list (([some "a", none, none, some "u", some "b", none, none, some "v", none, none, none, none] : List (Option Str)).map dOp)
def A2 : PyData := .list (([none, some "u", some "b", some "v", none] : List (Option Str)).map dOp)
theorem A1_is : (ks1.map fun k => issuedD aubv (spots wide (latP 3 5) aubv) k) = (([some "a", none, none, some "u", some "b", none, none, some "v", none, none, none, none] : List (Option Str)).map dOp) := by
  rw [← is1, List.map_map]
  exact List.map_congr_left fun k _ => issuedD_eq ..
theorem A2_is : (ks2.map fun k => issuedD aubv (spots wide (latP (far - 3) 1) aubv) (far - k)) = (([none, some "u", some "b", some "v", none] : List (Option Str)).map dOp) := by
  rw [← is2, List.map_map]
  exact List.map_congr_left fun k _ => issuedD_eq ..
/-- one of the three calls, no raise -/
theorem ev_idl {σ : L2.St} {G : Hp} {C : Addr} {E : XK} {ts : TA} {d t l : PyData} {b : Blk} {o : List Str} {lat : Lat} {e : List (Int × Int)} (ha : EvS ts σ G [d, t, l]) (A : ArgD d t l b o lat) (h : isOrderB b o = true) (he : stret (spots b lat o) = e) : EvD (tCall (SpX C 3 RIdl) [] E ts) σ G (.tuple (e.map dPI)) :=
  (ev_callX (R := RIdl) ha ⟨d, t, l, b, o, lat, rfl, A, by rw [if_pos h, he]⟩ rfl).toD
theorem ev_how {σ : L2.St} {G : Hp} {C : Addr} {E : XK} {ts : TA} {d t l : PyData} {b : Blk} {o : List Str} {lat : Lat} {e : Int} (ha : EvS ts σ G [d, t, l]) (A : ArgD d t l b o lat) (h : isOrderB b o = true) (he : manyIdle b lat o = e) : EvD (tCall (SpX C 3 RHow) [] E ts) σ G (.int e) :=
  (ev_callX (R := RHow) ha ⟨d, t, l, b, o, lat, rfl, A, by rw [if_pos h, he]⟩ rfl).toD
theorem ev_iat {σ : L2.St} {G : Hp} {C : Addr} {E : XK} {ts : TA} {d t l : PyData} {b : Blk} {o : List Str} {lat : Lat} {k : Int} {e : PyData} (ha : EvS ts σ G [d, t, l, .int k]) (A : ArgD d t l b o lat) (h : isOrderB b o = true) (he : issuedD o (spots b lat o) k = e) : EvD (tCall (SpX C 4 RAt) [] E ts) σ G e :=
  (ev_callX (R := RAt) ha ⟨d, t, l, k, b, o, lat, rfl, A, by rw [if_pos h, he]⟩ rfl).toD
theorem argOdd (p : Bool × List Str) (h : p ∈ oddL) : ArgD (dBlk wide) (dOdd p) (dLat (latP 3 5)) wide p.2 (latP 3 5) := by
  have a := asW p.2 3 5 (odd_os p h)
  unfold dOdd
  cases p.1 with
  | true => exact a.tupL
  | false => exact a.tup
theorem od_rep {ds : List PyData} {k : Int} (h0 : 0 ≤ k) (h1 : k ≤ 1000) (hz : ds.length ≤ 100) : OpD rRep (.list ds) (.int k) (.list (List.replicate k.toNat ds).flatten) := fun G H u w s ru rw_ Q q => by
  obtain ⟨a, xs, rfl, g, rs⟩ := ru.isList
  cases rw_.isInt
  refine ⟨a, k, xs, rfl, rfl, s _ _ g, by omega, by omega, ?_, fun p hp => q _ _ _ (Gx.new s hp) (.lst upd_same ?_)⟩
  · rw [rs.len]
    exact Nat.le_trans (Nat.mul_le_mul hz (show k.toNat ≤ 1000 by omega)) (by decide)
  · have : ∀ n : Nat, Rps G (List.replicate n xs).flatten (List.replicate n ds).flatten := fun n => by
      induction n with
      | zero => exact .nil
      | succ n ih => rw [List.replicate_succ, List.replicate_succ, List.flatten_cons, List.flatten_cons]; exact rs.app ih
    exact (this _).up (same_new (s.free hp))
def A3 : PyData := .list [dNo, dNo, dNo, dNo, dNo]
def gotD : List PyData := ((((goalL.map dRes ++ [A1]) ++ [A2]) ++ [.tuple [], .int 0]) ++ [.str "a", .none]) ++ [.tuple [], .int 0, .none]
theorem ok_got : okS 12 (.list (gotD ++ List.replicate 3 A3 ++ [.tuple [dPI (1, 2), dPI (5, 4)]] ++ [.int 6] ++ [.str "b"])) = true := by decide +kernel
abbrev s_law_by_hand_right : Stmt := top 35
abbrev N_law_by_hand_right : List Str := ["_law_wide", "_law_far", "_law_rows", "_law_got", "_law_goal", "_law_row_so", "_law_one", "_law_two", "_law_times_so", "_law_k", "_law_lone", "_law_door", "_law_odd", "_law_own", "_law_soft"]
theorem sc_law_by_hand_right : FnScope N_law_by_hand_right [] (defScope s_law_by_hand_right) := ⟨rfl, rfl, rfl, by decide +kernel, rfl, by decide +kernel, by decide +kernel⟩
def SpHand : Sp := fun vs H Q _ => vs = [] ∧ ∀ H2, Same H H2 → Q (.bl true) H2
abbrev PsB : List Str := ["block", "order", "latencies"]
abbrev PsI : List Str := ["block", "order", "latencies", "tick"]
theorem ok_law_by_hand_right {C : Addr} (F : Fun K "_law_by_hand_right" "_law_by_hand_right" s_law_by_hand_right f fd) (M : Mg mg tL tN)
    (c_law_host : Cal P w K mg base CX0 1 "_law_host" ["_law_flat"] (SpD 1 RHost))
    (c_idle_stretches : Cal P w K mg base (L2.CX P w) 25 "idle_stretches" PsB (SpX C 3 RIdl)) (c_how_many_idle : Cal P w K mg base (L2.CX P w) 26 "how_many_idle" PsB (SpX C 3 RHow)) (c_issued_at : Cal P w K mg base (L2.CX P w) 25 "issued_at" PsI (SpX C 4 RAt))
    (KB_idle_stretches : KBinds K c_idle_stretches.fd PsB ["latencies", "order", "block"] revA revA) (KB_how_many_idle : KBinds K c_how_many_idle.fd PsB ["latencies", "order", "block"] revA revA) (KB_issued_at : KBinds K c_issued_at.fd PsI ["tick", "latencies", "order", "block"] revA revA)
    (c_law_heard : Cal P w K mg base (L2.CX P w) 28 "_law_heard" ["_law_door", "_law_host_here", "_law_row_so", "_law_times_so"] (SpD 4 RHrd))
    (c_law_lists : Cal P w K mg base CX0 13 "_law_lists" ["_law_thing_so"] (SpD 1 (RLis 13))) (c_law_same : Cal P w K mg base CX0 13 "_law_same" ["_law_got", "_law_goal"] (SpD 2 (RSame 13))) :
    FnOk P w K mg base CX0 30 f fd [] SpHand := by
  refine F.ok sc_law_by_hand_right (fun vs H Q E h => by rw [h.1]; rfl) (fun cdv A outer s H vs Q E hr h => ?_)
  obtain ⟨rfl, q⟩ := h
  refine ⟨_, (pss_cons (ps_asg (pe_tup (pa_cons (pe_call c_law_host.ok (hr.mono (by decide)) (by rfl) c_law_host.m c_law_host.kp c_law_host.b .nil pass0 (pa_cons pe_str pa_nil)) (pa_cons (pe_op op_pow pe_int pe_int) pa_nil))) (pg_tup rfl (pgs_cons (pg_name (i := 0) sc_law_by_hand_right.nd rfl (.inr rfl)) (pgs_cons (pg_name (i := 1) sc_law_by_hand_right.nd rfl (.inr rfl)) pgs_nil))))
    (pss_cons (ps_set (i := 2) sc_law_by_hand_right.nd rfl (.inl rfl) (pe_lst (pa_cons (pe_tup (pa_cons (pe_callTy (call_tupS rfl) (by rfl) M.tuple_ (by decide +kernel) (pa_cons pe_str pa_nil)) (pa_cons pe_int (pa_cons pe_int pa_nil)))) (pa_cons (pe_tup (pa_cons (pe_callTy (call_tupS rfl) (by rfl) M.tuple_ (by decide +kernel) (pa_cons pe_str pa_nil)) (pa_cons pe_int (pa_cons pe_int pa_nil)))) (pa_cons (pe_tup (pa_cons (pe_callTy (call_tupS rfl) (by rfl) M.tuple_ (by decide +kernel) (pa_cons pe_str pa_nil)) (pa_cons pe_int (pa_cons pe_int pa_nil)))) (pa_cons (pe_tup (pa_cons (pe_callTy (call_tupS rfl) (by rfl) M.tuple_ (by decide +kernel) (pa_cons pe_str pa_nil)) (pa_cons pe_int (pa_cons pe_int pa_nil)))) pa_nil))))))
    (pss_cons (ps_set (i := 2) sc_law_by_hand_right.nd rfl (.inl rfl) (pe_op op_cat (pv 2) (pe_lst (pa_cons (pe_tup (pa_cons (pe_callTy (call_tupS rfl) (by rfl) M.tuple_ (by decide +kernel) (pa_cons pe_str pa_nil)) (pa_cons (pv 1) (pa_cons pe_int pa_nil)))) pa_nil))))
    (pss_cons (ps_set (i := 2) sc_law_by_hand_right.nd rfl (.inl rfl) (pe_op op_cat (pv 2) (pe_lst (pa_cons (pe_tup (pa_cons (pe_callTy (call_tupS rfl) (by rfl) M.tuple_ (by decide +kernel) (pa_cons pe_str pa_nil)) (pa_cons pe_int (pa_cons (pv 1) pa_nil)))) (pa_cons (pe_tup (pa_cons (pe_callTy (call_tupS rfl) (by rfl) M.tuple_ (by decide +kernel) (pa_cons pe_str pa_nil)) (pa_cons (pv 1) (pa_cons (pv 1) pa_nil)))) (pa_cons (pe_tup (pa_cons (pe_callTy (call_tupS rfl) (by rfl) M.tuple_ (by decide +kernel) (pa_cons pe_str pa_nil)) (pa_cons pe_int (pa_cons pe_int pa_nil)))) pa_nil))))))
    (pss_cons (ps_set (i := 2) sc_law_by_hand_right.nd rfl (.inl rfl) (pe_op op_cat (pv 2) (pe_lst (pa_cons (pe_tup (pa_cons (pe_callTy (call_tupS rfl) (by rfl) M.tuple_ (by decide +kernel) (pa_cons pe_str pa_nil)) (pa_cons pe_int (pa_cons (pv 1) pa_nil)))) pa_nil))))
    (pss_cons (ps_par (i := 3) (j := 4) rfl sc_law_by_hand_right.nd rfl rfl (by decide) rfl rfl (pa_cons (pe_lst pa_nil) (pa_cons (pe_lst (pa_cons (pe_tup (pa_cons (pe_tup (pa_cons (pe_tup (pa_cons pe_int (pa_cons pe_int pa_nil))) pa_nil)) (pa_cons pe_int pa_nil))) (pa_cons (pe_tup (pa_cons (pe_tup (pa_cons (pe_tup (pa_cons pe_int (pa_cons pe_int pa_nil))) (pa_cons (pe_tup (pa_cons pe_int (pa_cons pe_int pa_nil))) pa_nil))) (pa_cons pe_int pa_nil))) (pa_cons (pe_tup (pa_cons (pe_tup (pa_cons (pe_tup (pa_cons pe_int (pa_cons pe_int pa_nil))) (pa_cons (pe_tup (pa_cons pe_int (pa_cons pe_int pa_nil))) pa_nil))) (pa_cons pe_int pa_nil))) (pa_cons (pe_tup (pa_cons (pe_tup (pa_cons (pe_tup (pa_cons pe_int (pa_cons pe_int pa_nil))) pa_nil)) (pa_cons pe_int pa_nil))) pa_nil))))) pa_nil)) rfl)
    (pss_cons (ps_set (i := 4) sc_law_by_hand_right.nd rfl (.inl rfl) (pe_op op_cat (pv 4) (pe_lst (pa_cons (pe_tup (pa_cons (pe_tup (pa_cons (pe_tup (pa_cons pe_int (pa_cons (pe_op op_sub (pv 1) pe_int) pa_nil))) pa_nil)) (pa_cons (pe_op op_sub (pv 1) pe_int) pa_nil))) (pa_cons (pe_tup (pa_cons (pe_tup (pa_cons (pe_tup (pa_cons pe_int (pa_cons (pe_op op_sub (pv 1) pe_int) pa_nil))) pa_nil)) (pa_cons (pe_op op_sub (pv 1) pe_int) pa_nil))) (pa_cons (pe_tup (pa_cons (pe_tup (pa_cons (pe_tup (pa_cons pe_int (pa_cons (pe_op op_sub (pv 1) pe_int) pa_nil))) pa_nil)) (pa_cons (pe_op op_sub (pv 1) pe_int) pa_nil))) (pa_cons (pe_tup (pa_cons (pe_tup pa_nil) (pa_cons pe_int pa_nil))) pa_nil)))))))
    (pss_cons (ps_set (i := 4) sc_law_by_hand_right.nd rfl (.inl rfl) (pe_op op_cat (pv 4) (pe_lst (pa_cons (pe_tup (pa_cons (pe_tup (pa_cons (pe_tup (pa_cons pe_int (pa_cons (pe_op op_sub (pv 1) pe_int) pa_nil))) pa_nil)) (pa_cons (pe_op op_sub (pv 1) pe_int) pa_nil))) pa_nil))))
    (pss_cons (ps_for PassesOwn.never rfl (pi_list (pv 2)) (pg_tup rfl (pgs_cons (pg_name (i := 5) sc_law_by_hand_right.nd rfl (.inl rfl)) (pgs_cons (pg_name (i := 6) sc_law_by_hand_right.nd rfl (.inl rfl)) (pgs_cons (pg_name (i := 7) sc_law_by_hand_right.nd rfl (.inl rfl)) pgs_nil)))) (pss_cons (ps_set (i := 8) sc_law_by_hand_right.nd rfl (.inr rfl) (pe_tup (pa_cons (pe_tup (pa_cons pe_str (pa_cons (pv 6) pa_nil))) (pa_cons (pe_tup (pa_cons pe_str (pa_cons (pv 7) pa_nil))) pa_nil))))
    (pss_one (ps_expr (pe_bm PySem.F.plainAttrs_list PySem.F.slot_list_append PySem.F.type_list_append mt_append (pv 3) (pa_cons (pe_tup (pa_cons (pe_call c_idle_stretches.ok (hr.mono (by decide)) (by rfl) c_idle_stretches.m c_idle_stretches.kp c_idle_stretches.b .nil passL (pa_cons (pv 0) (pa_cons (pv 5) (pa_cons (pv 8) pa_nil)))) (pa_cons (pe_call c_how_many_idle.ok (hr.mono (by decide)) (by rfl) c_how_many_idle.m c_how_many_idle.kp c_how_many_idle.b .nil passL (pa_cons (pv 0) (pa_cons (pv 5) (pa_cons (pv 8) pa_nil)))) pa_nil))) pa_nil))))))
    (pss_cons (ps_set (i := 8) sc_law_by_hand_right.nd rfl (.inr rfl) (pe_tup (pa_cons (pe_tup (pa_cons pe_str (pa_cons pe_int pa_nil))) (pa_cons (pe_tup (pa_cons pe_str (pa_cons pe_int pa_nil))) pa_nil))))
    (pss_cons (ps_expr (pe_bm PySem.F.plainAttrs_list PySem.F.slot_list_append PySem.F.type_list_append mt_append (pv 3) (pa_cons (pe_lc (own := [("_law_k", 9)]) (g := gName 9) (tt := tYes) rfl sc_law_by_hand_right.nd (pi_tup (pe_tup (pa_cons pe_int (pa_cons pe_int (pa_cons pe_int (pa_cons pe_int (pa_cons pe_int (pa_cons pe_int (pa_cons pe_int (pa_cons pe_int (pa_cons pe_int (pa_cons (pe_un un_neg pe_int) (pa_cons (pv 1) (pa_cons (pe_un un_neg (pv 1)) pa_nil)))))))))))))) (blkOk_by (N := N_law_by_hand_right) (sc := defScope s_law_by_hand_right) (by decide +kernel)) (fun _ _ _ _ _ => (pg_name (i := 9) sc_law_by_hand_right.nd rfl (.inl rfl))) (fun _ _ _ _ _ => pts_nil) (fun _ _ _ _ _ => (pe_call c_issued_at.ok (hr.mono (by decide)) (by rfl) c_issued_at.m c_issued_at.kp c_issued_at.b .nil passL (pa_cons (pv 0) (pa_cons (pe_callTy (call_tupS rfl) (by rfl) M.tuple_ (by decide +kernel) (pa_cons pe_str pa_nil)) (pa_cons (pv 8) (pa_cons (pv 9) pa_nil))))))) pa_nil)))
    (pss_cons (ps_expr (pe_bm PySem.F.plainAttrs_list PySem.F.slot_list_append PySem.F.type_list_append mt_append (pv 4) (pa_cons (pe_lst (pa_cons pe_str (pa_cons pe_non (pa_cons pe_non (pa_cons pe_str (pa_cons pe_str (pa_cons pe_non (pa_cons pe_non (pa_cons pe_str (pa_cons pe_non (pa_cons pe_non (pa_cons pe_non (pa_cons pe_non pa_nil))))))))))))) pa_nil)))
    (pss_cons (ps_expr (pe_bm PySem.F.plainAttrs_list PySem.F.slot_list_append PySem.F.type_list_append mt_append (pv 3) (pa_cons (pe_lc (own := [("_law_k", 9)]) (g := gName 9) (tt := tYes) rfl sc_law_by_hand_right.nd (pi_tup (pe_tup (pa_cons pe_int (pa_cons pe_int (pa_cons pe_int (pa_cons pe_int (pa_cons pe_int pa_nil))))))) (blkOk_by (N := N_law_by_hand_right) (sc := defScope s_law_by_hand_right) (by decide +kernel)) (fun _ _ _ _ _ => (pg_name (i := 9) sc_law_by_hand_right.nd rfl (.inl rfl))) (fun _ _ _ _ _ => pts_nil) (fun _ _ _ _ _ => (pe_call c_issued_at.ok (hr.mono (by decide)) (by rfl) c_issued_at.m c_issued_at.kp c_issued_at.b .nil passL (pa_cons (pv 0) (pa_cons (pe_callTy (call_tupS rfl) (by rfl) M.tuple_ (by decide +kernel) (pa_cons pe_str pa_nil)) (pa_cons (pe_tup (pa_cons (pe_tup (pa_cons pe_str (pa_cons (pe_op op_sub (pv 1) pe_int) pa_nil))) (pa_cons (pe_tup (pa_cons pe_str (pa_cons pe_int pa_nil))) pa_nil))) (pa_cons (pe_op op_sub (pv 1) (pv 9)) pa_nil))))))) pa_nil)))
    (pss_cons (ps_expr (pe_bm PySem.F.plainAttrs_list PySem.F.slot_list_append PySem.F.type_list_append mt_append (pv 4) (pa_cons (pe_lst (pa_cons pe_non (pa_cons pe_str (pa_cons pe_str (pa_cons pe_str (pa_cons pe_non pa_nil)))))) pa_nil)))
    (pss_cons (ps_set (i := 10) sc_law_by_hand_right.nd rfl (.inl rfl) (pe_call c_law_host.ok (hr.mono (by decide)) (by rfl) c_law_host.m c_law_host.kp c_law_host.b .nil pass0 (pa_cons pe_str pa_nil)))
    (pss_cons (ps_set (i := 3) sc_law_by_hand_right.nd rfl (.inl rfl) (pe_op op_cat (pv 3) (pe_lst (pa_cons (pe_call c_idle_stretches.ok (hr.mono (by decide)) (by rfl) c_idle_stretches.m c_idle_stretches.kp c_idle_stretches.b .nil passL (pa_cons (pv 10) (pa_cons (pe_tup (pa_cons pe_str pa_nil)) (pa_cons (pe_tup (pa_cons (pe_tup (pa_cons pe_str (pa_cons (pv 1) pa_nil))) pa_nil)) pa_nil)))) (pa_cons (pe_call c_how_many_idle.ok (hr.mono (by decide)) (by rfl) c_how_many_idle.m c_how_many_idle.kp c_how_many_idle.b .nil passL (pa_cons (pv 10) (pa_cons (pe_tup (pa_cons pe_str pa_nil)) (pa_cons (pe_tup (pa_cons (pe_tup (pa_cons pe_str (pa_cons (pv 1) pa_nil))) pa_nil)) pa_nil)))) pa_nil)))))
    (pss_cons (ps_set (i := 3) sc_law_by_hand_right.nd rfl (.inl rfl) (pe_op op_cat (pv 3) (pe_lst (pa_cons (pe_call c_issued_at.ok (hr.mono (by decide)) (by rfl) c_issued_at.m c_issued_at.kp c_issued_at.b .nil passL (pa_cons (pv 10) (pa_cons (pe_tup (pa_cons pe_str pa_nil)) (pa_cons (pe_tup (pa_cons (pe_tup (pa_cons pe_str (pa_cons (pv 1) pa_nil))) pa_nil)) (pa_cons pe_int pa_nil))))) (pa_cons (pe_call c_issued_at.ok (hr.mono (by decide)) (by rfl) c_issued_at.m c_issued_at.kp c_issued_at.b .nil passL (pa_cons (pv 10) (pa_cons (pe_tup (pa_cons pe_str pa_nil)) (pa_cons (pe_tup (pa_cons (pe_tup (pa_cons pe_str (pa_cons (pv 1) pa_nil))) pa_nil)) (pa_cons pe_int pa_nil))))) pa_nil)))))
    (pss_cons (ps_set (i := 4) sc_law_by_hand_right.nd rfl (.inl rfl) (pe_op op_cat (pv 4) (pe_lst (pa_cons (pe_tup pa_nil) (pa_cons pe_int (pa_cons pe_str (pa_cons pe_non pa_nil)))))))
    (pss_cons (ps_set (i := 3) sc_law_by_hand_right.nd rfl (.inl rfl) (pe_op op_cat (pv 3) (pe_lst (pa_cons (pe_call c_idle_stretches.ok (hr.mono (by decide)) (by rfl) c_idle_stretches.m c_idle_stretches.kp c_idle_stretches.b .nil passL (pa_cons (pe_tup (pa_cons (pe_tup pa_nil) (pa_cons (pe_tup pa_nil) pa_nil))) (pa_cons (pe_tup pa_nil) (pa_cons (pe_tup pa_nil) pa_nil)))) (pa_cons (pe_call c_how_many_idle.ok (hr.mono (by decide)) (by rfl) c_how_many_idle.m c_how_many_idle.kp c_how_many_idle.b .nil passL (pa_cons (pe_tup (pa_cons (pe_tup pa_nil) (pa_cons (pe_tup pa_nil) pa_nil))) (pa_cons (pe_tup pa_nil) (pa_cons (pe_tup pa_nil) pa_nil)))) (pa_cons (pe_call c_issued_at.ok (hr.mono (by decide)) (by rfl) c_issued_at.m c_issued_at.kp c_issued_at.b .nil passL (pa_cons (pe_tup (pa_cons (pe_tup pa_nil) (pa_cons (pe_tup pa_nil) pa_nil))) (pa_cons (pe_tup pa_nil) (pa_cons (pe_tup pa_nil) (pa_cons pe_int pa_nil))))) pa_nil))))))
    (pss_cons (ps_set (i := 4) sc_law_by_hand_right.nd rfl (.inl rfl) (pe_op op_cat (pv 4) (pe_lst (pa_cons (pe_tup pa_nil) (pa_cons pe_int (pa_cons pe_non pa_nil))))))
    (pss_cons (ps_for PassesOwn.never rfl (pi_range1 (by rfl) M.range (pa_cons pe_int pa_nil)) (pg_name (i := 11) sc_law_by_hand_right.nd rfl (.inr rfl)) (pss_cons (ps_set (i := 12) sc_law_by_hand_right.nd rfl (.inl rfl) (pe_lst (pa_cons (pe_callTy (call_tupS rfl) (by rfl) M.tuple_ (by decide +kernel) (pa_cons pe_str pa_nil)) (pa_cons (pe_callTy (call_tupS rfl) (by rfl) M.tuple_ (by decide +kernel) (pa_cons pe_str pa_nil)) (pa_cons (pe_tup pa_nil) (pa_cons (pe_callTy (call_tupS rfl) (by rfl) M.tuple_ (by decide +kernel) (pa_cons pe_str pa_nil)) (pa_cons (pe_callTy (call_lstS rfl) (by rfl) M.list_ (by decide +kernel) (pa_cons pe_str pa_nil)) pa_nil)))))))
    (pss_cons (ps_expr (pe_bm PySem.F.plainAttrs_list PySem.F.slot_list_append PySem.F.type_list_append mt_append (pv 3) (pa_cons (pe_lc (own := [("_law_own", 13)]) (g := gName 13) (tt := tYes) rfl sc_law_by_hand_right.nd (pi_list (pv 12)) (blkOk_by (N := N_law_by_hand_right) (sc := defScope s_law_by_hand_right) (by decide +kernel)) (fun _ _ _ _ _ => (pg_name (i := 13) sc_law_by_hand_right.nd rfl (.inl rfl))) (fun _ _ _ _ _ => pts_nil) (fun _ _ _ _ _ => (pe_call c_law_heard.ok (hr.mono (by decide)) (by rfl) c_law_heard.m c_law_heard.kp c_law_heard.b .nil passL (pa_cons (pv 11) (pa_cons (pv 0) (pa_cons (pv 13) (pa_cons (pv 8) pa_nil))))))) pa_nil)))
    (pss_one (ps_expr (pe_bm PySem.F.plainAttrs_list PySem.F.slot_list_append PySem.F.type_list_append mt_append (pv 4) (pa_cons (pe_op op_rep (pe_lst (pa_cons (pe_lst (pa_cons pe_str (pa_cons pe_bl pa_nil))) pa_nil)) (pe_callB call_len_seq (by rfl) M.len (by decide +kernel) (pa_cons (pv 12) pa_nil))) pa_nil)))))))
    (pss_cons (ps_set (i := 14) sc_law_by_hand_right.nd rfl (.inl rfl) (pe_lst (pa_cons (pe_call c_law_lists.ok (hr.mono (by decide)) (by rfl) c_law_lists.m c_law_lists.kp c_law_lists.b .nil pass0 (pa_cons (pv 0) pa_nil)) (pa_cons (pe_callTy (call_lstS rfl) (by rfl) M.list_ (by decide +kernel) (pa_cons pe_str pa_nil)) (pa_cons (pe_call c_law_lists.ok (hr.mono (by decide)) (by rfl) c_law_lists.m c_law_lists.kp c_law_lists.b .nil pass0 (pa_cons (pv 8) pa_nil)) pa_nil)))))
    (pss_cons (ps_expr (pe_bm PySem.F.plainAttrs_list PySem.F.slot_list_append PySem.F.type_list_append mt_append (pv 3) (pa_cons (pe_callK0 c_idle_stretches.ok (hr.mono (by decide)) (by rfl) c_idle_stretches.m c_idle_stretches.kp KB_idle_stretches passL (pk_cons (pe_ix ix_list (pv 14) pe_int (fun _ _ => rfl)) (pk_cons (pe_ix ix_list (pv 14) pe_int (fun _ _ => rfl)) (pk_cons (pe_ix ix_list (pv 14) pe_int (fun _ _ => rfl)) pk_nil)))) pa_nil)))
    (pss_cons (ps_expr (pe_bm PySem.F.plainAttrs_list PySem.F.slot_list_append PySem.F.type_list_append mt_append (pv 3) (pa_cons (pe_callK0 c_how_many_idle.ok (hr.mono (by decide)) (by rfl) c_how_many_idle.m c_how_many_idle.kp KB_how_many_idle passL (pk_cons (pe_ix ix_list (pv 14) pe_int (fun _ _ => rfl)) (pk_cons (pe_ix ix_list (pv 14) pe_int (fun _ _ => rfl)) (pk_cons (pe_ix ix_list (pv 14) pe_int (fun _ _ => rfl)) pk_nil)))) pa_nil)))
    (pss_cons (ps_expr (pe_bm PySem.F.plainAttrs_list PySem.F.slot_list_append PySem.F.type_list_append mt_append (pv 3) (pa_cons (pe_callK0 c_issued_at.ok (hr.mono (by decide)) (by rfl) c_issued_at.m c_issued_at.kp KB_issued_at passL (pk_cons pe_int (pk_cons (pe_ix ix_list (pv 14) pe_int (fun _ _ => rfl)) (pk_cons (pe_ix ix_list (pv 14) pe_int (fun _ _ => rfl)) (pk_cons (pe_ix ix_list (pv 14) pe_int (fun _ _ => rfl)) pk_nil))))) pa_nil)))
    (pss_one (ps_ret (pe_call c_law_same.ok (hr.mono (by decide)) (by rfl) c_law_same.m c_law_same.kp c_law_same.b .nil pass0 (pa_cons (pv 3) (pa_cons (pe_op op_cat (pv 4) (pe_lst (pa_cons (pe_tup (pa_cons (pe_tup (pa_cons pe_int (pa_cons pe_int pa_nil))) (pa_cons (pe_tup (pa_cons pe_int (pa_cons pe_int pa_nil))) pa_nil))) (pa_cons pe_int (pa_cons pe_str pa_nil))))) pa_nil)))))))))))))))))))))))))))))), ?_⟩
  dsimp only [tSeq, tAsg]
  let G0 : Hp := fun _ => none
  have i0 : Same G0 H := fun _ _ e => nomatch e
  refine ev_tup (es_cons (ev_call (R := RHost) (es_cons ev_str es_nil) ⟨_, _, _, _, rfl, host1, rfl⟩ rfl) (es_cons (ev_is (f := .int far) (ev_op ev_int ev_int (od_pow ⟨by decide, by decide, by decide⟩)) ?_) es_nil)) (le5 rfl) H i0 _ fun v1 G1 H1 x1 r1 => ?_
  · exact congrArg PyData.int (by decide +kernel)
  obtain ⟨vW, vF, rW, rF, tg⟩ := tg2 (K := K) (i := 0) (j := 1) r1
  cases rF.isInt
  refine tg H1 x1.i _ ?_
  dsimp only [tSeq, tAsg]
  refine ev_is (f := .list ((rowsL.take 4).map dRw)) (ev_lst (es_cons (ev_tup (es_cons (ev_cb (es_cons ev_str es_nil) (cd_tupS (le5 rfl))) (es_cons ev_int (es_cons ev_int es_nil))) (le5 rfl)) (es_cons (ev_tup (es_cons (ev_cb (es_cons ev_str es_nil) (cd_tupS (le5 rfl))) (es_cons ev_int (es_cons ev_int es_nil))) (le5 rfl)) (es_cons (ev_tup (es_cons (ev_cb (es_cons ev_str es_nil) (cd_tupS (le5 rfl))) (es_cons ev_int (es_cons ev_int es_nil))) (le5 rfl)) (es_cons (ev_tup (es_cons (ev_cb (es_cons ev_str es_nil) (cd_tupS (le5 rfl))) (es_cons ev_int (es_cons ev_int es_nil))) (le5 rfl)) es_nil)))) (le5 rfl)) rfl H1 x1.i _ fun v2 G2 H2 x2 r2 => ?_
  refine tg_name (G := G2) H2 x2.i _ ?_
  dsimp only [tSeq, tAsg]
  refine ev_is (f := .list ((rowsL.take 5).map dRw)) (ev_op (ev_var rfl r2) (ev_lst (es_cons (ev_tup (es_cons (ev_cb (es_cons ev_str es_nil) (cd_tupS (le5 rfl))) (es_cons (ev_var rfl (.int far)) (es_cons ev_int es_nil))) (le5 rfl)) es_nil) (le5 rfl)) (od_catL (le5 rfl))) rfl H2 x2.i _ fun v3 G3 H3 x3 r3 => ?_
  refine tg_name (G := G3) H3 x3.i _ ?_
  dsimp only [tSeq, tAsg]
  refine ev_is (f := .list ((rowsL.take 8).map dRw)) (ev_op (ev_var rfl r3) (ev_lst (es_cons (ev_tup (es_cons (ev_cb (es_cons ev_str es_nil) (cd_tupS (le5 rfl))) (es_cons ev_int (es_cons (ev_var rfl (.int far)) es_nil))) (le5 rfl)) (es_cons (ev_tup (es_cons (ev_cb (es_cons ev_str es_nil) (cd_tupS (le5 rfl))) (es_cons (ev_var rfl (.int far)) (es_cons (ev_var rfl (.int far)) es_nil))) (le5 rfl)) (es_cons (ev_tup (es_cons (ev_cb (es_cons ev_str es_nil) (cd_tupS (le5 rfl))) (es_cons ev_int (es_cons ev_int es_nil))) (le5 rfl)) es_nil))) (le5 rfl)) (od_catL (le5 rfl))) rfl H3 x3.i _ fun v4 G4 H4 x4 r4 => ?_
  refine tg_name (G := G4) H4 x4.i _ ?_
  dsimp only [tSeq, tAsg]
  refine ev_is (f := .list (rowsL.map dRw)) (ev_op (ev_var rfl r4) (ev_lst (es_cons (ev_tup (es_cons (ev_cb (es_cons ev_str es_nil) (cd_tupS (le5 rfl))) (es_cons ev_int (es_cons (ev_var rfl (.int far)) es_nil))) (le5 rfl)) es_nil) (le5 rfl)) (od_catL (le5 rfl))) rfl H4 x4.i _ fun v5 G5 H5 x5 r5 => ?_
  refine tg_name (G := G5) H5 x5.i _ ?_
  dsimp only [tSeq]
  have s5 : Same H H5 := x1.h.trans (x2.h.trans (x3.h.trans (x4.h.trans x5.h)))
  refine cons_at (lm_new es_nil (le5 rfl) x5.i s5 _ fun vG pG G6 H6 x6 s6 n6 LG => ?_)
  refine cons_at (lm_new (es_cons (ev_tup (es_cons (ev_tup (es_cons (ev_tup (es_cons ev_int (es_cons ev_int es_nil)) (le5 rfl)) es_nil) (le5 rfl)) (es_cons ev_int es_nil)) (le5 rfl)) (es_cons (ev_tup (es_cons (ev_tup (es_cons (ev_tup (es_cons ev_int (es_cons ev_int es_nil)) (le5 rfl)) (es_cons (ev_tup (es_cons ev_int (es_cons ev_int es_nil)) (le5 rfl)) es_nil)) (le5 rfl)) (es_cons ev_int es_nil)) (le5 rfl)) (es_cons (ev_tup (es_cons (ev_tup (es_cons (ev_tup (es_cons ev_int (es_cons ev_int es_nil)) (le5 rfl)) (es_cons (ev_tup (es_cons ev_int (es_cons ev_int es_nil)) (le5 rfl)) es_nil)) (le5 rfl)) (es_cons ev_int es_nil)) (le5 rfl)) (es_cons (ev_tup (es_cons (ev_tup (es_cons (ev_tup (es_cons ev_int (es_cons ev_int es_nil)) (le5 rfl)) es_nil) (le5 rfl)) (es_cons ev_int es_nil)) (le5 rfl)) es_nil)))) (le5 rfl) x6.i s6 _ fun vL pL G7 H7 x7 s7 n7 LL => ⟨_, _, rfl, ?_⟩)
  have LG := LG.up x7
  dsimp only [tSeq, tAsg]
  refine lm_cat LL rfl (es_cons (ev_tup (es_cons (ev_tup (es_cons (ev_tup (es_cons ev_int (es_cons (ev_op (ev_var rfl (.int far)) ev_int od_sub) es_nil)) (le5 rfl)) es_nil) (le5 rfl)) (es_cons (ev_op (ev_var rfl (.int far)) ev_int od_sub) es_nil)) (le5 rfl)) (es_cons (ev_tup (es_cons (ev_tup (es_cons (ev_tup (es_cons ev_int (es_cons (ev_op (ev_var rfl (.int far)) ev_int od_sub) es_nil)) (le5 rfl)) es_nil) (le5 rfl)) (es_cons (ev_op (ev_var rfl (.int far)) ev_int od_sub) es_nil)) (le5 rfl)) (es_cons (ev_tup (es_cons (ev_tup (es_cons (ev_tup (es_cons ev_int (es_cons (ev_op (ev_var rfl (.int far)) ev_int od_sub) es_nil)) (le5 rfl)) es_nil) (le5 rfl)) (es_cons (ev_op (ev_var rfl (.int far)) ev_int od_sub) es_nil)) (le5 rfl)) (es_cons (ev_tup (es_cons (ev_tup es_nil (le5 rfl)) (es_cons ev_int es_nil)) (le5 rfl)) es_nil)))) (le5 rfl) x7.i s7 _ fun vL pL G8 H8 x8 s8 n8 LL => ?_
  have LG := LG.up x8
  refine tg_name (G := G8) H8 x8.i _ ?_
  dsimp only [tSeq, tAsg]
  refine lm_cat LL rfl (es_cons (ev_tup (es_cons (ev_tup (es_cons (ev_tup (es_cons ev_int (es_cons (ev_op (ev_var rfl (.int far)) ev_int od_sub) es_nil)) (le5 rfl)) es_nil) (le5 rfl)) (es_cons (ev_op (ev_var rfl (.int far)) ev_int od_sub) es_nil)) (le5 rfl)) es_nil) (le5 rfl) x8.i s8 _ fun vL pL G9 H9 x9 s9 n9 LL => ?_
  have nGL : pG ≠ pL := LG.ne n9
  have LG := LG.up x9
  have LL : Lm H G9 H9 vL pL (goalL.map dRes) := LL
  refine tg_name (G := G9) H9 x9.i _ ?_
  dsimp only [tSeq]
  have g59 : Same G5 G9 := x6.g.trans (x7.g.trans (x8.g.trans x9.g))
  have rW9 : Rp G9 vW (dBlk wide) := rW.up (x2.g.trans (x3.g.trans (x4.g.trans (x5.g.trans g59))))
  have rR9 := r5.up g59
  clear r1 r2 r3 r4 r5 rW tg
  -- the rows by hand
  let Iv : Nat → L2.St → Hp → Hp → Prop := fun j σ G' H' => ∃ (y5 y6 y7 y8 : Option V), σ = [some vW, some (.int far), some v5, some vG, some vL, y5, y6, y7, y8, none, none, none, none, none, none] ∧ Same G9 G' ∧ Same H H' ∧ Lm H G' H' vG pG (((rowsL.take j).map resP).map dRes) ∧ Lm H G' H' vL pL (goalL.map dRes)
  refine for_ind (ds := rowsL) (G := G9) dRw (ei_list (ev_var rfl rR9)) Iv x9.i (fun G4' H4' y => ?_) (fun Gs sGs j z hj σ' G' H' s4 i4 iv x G2' H2' y rx => ?_) (fun σ' G' H' s4 i4 iv => ?_)
  · exact ⟨none, none, none, none, rfl, y.g, s9.trans y.h, LG.up y, LL.up y⟩
  · obtain ⟨y5, y6, y7, y8, rfl, g9, sH, LGj, LLj⟩ := iv
    have hz := List.mem_of_getElem? hj
    obtain ⟨w1, w2, w3, rw1, rw2, rw3, tg⟩ := tg3 (K := K) (i := 5) (j := 6) (k := 7) rx
    cases rw2.isInt
    cases rw3.isInt
    refine tg H2' y.i _ ?_
    dsimp only [tSeq, tAsg]
    refine ev_is (f := dLat (latP z.2.1 z.2.2)) (ev_tup (es_cons (ev_tup (es_cons ev_str (es_cons (ev_var rfl (.int _)) es_nil)) (le5 rfl)) (es_cons (ev_tup (es_cons ev_str (es_cons (ev_var rfl (.int _)) es_nil)) (le5 rfl)) es_nil)) (le5 rfl)) rfl H2' y.i _ fun vT G3 H3 x3 rT => ?_
    refine tg_name (G := G3) H3 x3.i _ ?_
    dsimp only [tDrop]
    have A := (asW z.1 z.2.1 z.2.2 (rows_os z hz)).tup
    have e0 : EvD (tVar 0) [some vW, some (.int far), some v5, some vG, some vL, some w1, some (.int z.2.1), some (.int z.2.2), some vT, none, none, none, none, none, none] G3 (dBlk wide) := ev_var rfl (rW9.up (g9.trans (y.g.trans x3.g)))
    have e5 : EvD (tVar 5) [some vW, some (.int far), some v5, some vG, some vL, some w1, some (.int z.2.1), some (.int z.2.2), some vT, none, none, none, none, none, none] G3 (dO z.1) := ev_var rfl (rw1.up x3.g)
    have e8 : EvD (tVar 8) [some vW, some (.int far), some v5, some vG, some vL, some w1, some (.int z.2.1), some (.int z.2.2), some vT, none, none, none, none, none, none] G3 (dLat (latP z.2.1 z.2.2)) := ev_var rfl rT
    have LGk := (LGj.up y).up x3
    have LLk := (LLj.up y).up x3
    refine lm_app LGk rfl (d := dRes (resP z)) (ev_tup (es_cons (ev_idl (es_cons e0 (es_cons e5 (es_cons e8 es_nil))) A (rows_ord z hz) rfl) (es_cons (ev_how (es_cons e0 (es_cons e5 (es_cons e8 es_nil))) A (rows_ord z hz) rfl) es_nil)) (le5 rfl)) ?_ x3.i ((sH.trans y.h).trans x3.h) _ fun G4' H4' g4 i4' s4' k4 f4 LG4 => ?_
    · rw [List.length_map, List.length_map, List.length_take]
      have : rowsL.length = 9 := rfl
      omega
    · refine ⟨G4', s4.trans (y.g.trans (x3.g.trans g4)), i4', _, _, _, _, rfl, g9.trans (y.g.trans (x3.g.trans g4)), s4', ?_, LLk.stay nGL.symm g4 k4 f4⟩
      rw [take_snoc hj, List.map_append, List.map_append]
      exact LG4
  · obtain ⟨y5, y6, y7, y8, rfl, g9, sH, LGj, LLj⟩ := iv
    rw [List.take_length, rows_ok] at LGj
    have rW := rW9.up g9
    clear Iv LL LG rW9 rR9
    dsimp only [tSeq, tAsg]
    refine ev_is (f := dLat (latP 3 5)) (ev_tup (es_cons (ev_tup (es_cons ev_str (es_cons ev_int es_nil)) (le5 rfl)) (es_cons (ev_tup (es_cons ev_str (es_cons ev_int es_nil)) (le5 rfl)) es_nil)) (le5 rfl)) rfl H' i4 _ fun vT G1 H1 x1 rT => ?_
    have LG := LGj.up x1
    have LL := LLj.up x1
    have s1 := sH.trans x1.h
    have rW := rW.up x1.g
    refine tg_name (G := G1) H1 x1.i _ ?_
    dsimp only [tSeq, tDrop]
    refine lm_app LG rfl (d := A1) (ev_is (ev_lcB (as := ks1) PyData.int (fun k => issuedD aubv (spots wide (latP 3 5) aubv) k) (ei_tup (ev_is (f := .tuple (ks1.map .int)) (ev_tup (es_cons ev_int (es_cons ev_int (es_cons ev_int (es_cons ev_int (es_cons ev_int (es_cons ev_int (es_cons ev_int (es_cons ev_int (es_cons ev_int (es_cons (ev_un ev_int ud_neg) (es_cons (ev_var rfl (.int far)) (es_cons (ev_un (ev_var rfl (.int far)) ud_neg) es_nil)))))))))))) (le5 rfl)) rfl)) (le5 rfl) fun k hk G2 y s2 ry => ⟨_, tg_name, rfl, ev_iat (es_cons (ev_var rfl (rW.up s2)) (es_cons (ev_word (o := aubv) rfl (le5 rfl)) (es_cons (ev_var rfl (rT.up s2)) (es_cons (ev_var rfl ry) es_nil)))) (asW aubv 3 5 (by decide +kernel)).tup ord0 rfl⟩) (congrArg PyData.list A1_is)) (by rw [List.length_map]; decide) x1.i s1 _ fun G2 H2 g2 i2 s2 k2 f2 LG => ?_
    have LL := LL.stay nGL.symm g2 k2 f2
    try dsimp only [tSeq, tDrop]
    refine lm_app LL rfl (d := A1) (ev_is (ev_lst (es_cons ev_str (es_cons ev_non (es_cons ev_non (es_cons ev_str (es_cons ev_str (es_cons ev_non (es_cons ev_non (es_cons ev_str (es_cons ev_non (es_cons ev_non (es_cons ev_non (es_cons ev_non es_nil)))))))))))) (le5 rfl)) rfl) (by rw [List.length_map]; decide) i2 s2 _ fun G3 H3 g3 i3 s3 k3 f3 LL => ?_
    have LG := LG.stay nGL g3 k3 f3
    try dsimp only [tSeq, tDrop]
    have rW := rW.up (g2.trans g3)
    refine lm_app LG rfl (d := A2) (ev_is (ev_lcB (as := ks2) PyData.int (fun k => issuedD aubv (spots wide (latP (far - 3) 1) aubv) (far - k)) (ei_tup (ev_is (f := .tuple (ks2.map .int)) (ev_tup (es_cons ev_int (es_cons ev_int (es_cons ev_int (es_cons ev_int (es_cons ev_int es_nil))))) (le5 rfl)) rfl)) (le5 rfl) fun k hk G4 y s4 ry => by
      cases ry.isInt
      exact ⟨_, tg_name, rfl, ev_iat (es_cons (ev_var rfl (rW.up s4)) (es_cons (ev_word (o := aubv) rfl (le5 rfl)) (es_cons (ev_is (f := dLat (latP (far - 3) 1)) (ev_tup (es_cons (ev_tup (es_cons ev_str (es_cons (ev_op (ev_var rfl (.int far)) ev_int od_sub) es_nil)) (le5 rfl)) (es_cons (ev_tup (es_cons ev_str (es_cons ev_int es_nil)) (le5 rfl)) es_nil)) (le5 rfl)) rfl) (es_cons (ev_op (ev_var rfl (.int far)) (ev_var rfl (.int k)) od_sub) es_nil)))) (asW aubv (far - 3) 1 (by decide +kernel)).tup ord0 rfl⟩) (congrArg PyData.list A2_is)) (by rw [List.length_append, List.length_map]; decide) i3 s3 _ fun G4 H4 g4 i4 s4 k4 f4 LG => ?_
    have LL := LL.stay nGL.symm g4 k4 f4
    try dsimp only [tSeq, tDrop]
    refine lm_app LL rfl (d := A2) (ev_is (ev_lst (es_cons ev_non (es_cons ev_str (es_cons ev_str (es_cons ev_str (es_cons ev_non es_nil))))) (le5 rfl)) rfl) (by rw [List.length_append, List.length_map]; decide) i4 s4 _ fun G5 H5 g5 i5 s5 k5 f5 LL => ?_
    have LG := LG.stay nGL g5 k5 f5
    have rW := rW.up (g4.trans g5)
    have rT := rT.up (g2.trans (g3.trans (g4.trans g5)))
    try dsimp only [tSeq, tAsg]
    refine ev_call (R := RHost) (es_cons ev_str es_nil) ⟨_, _, _, _, rfl, host2, rfl⟩ rfl H5 i5 _ fun vN G6 H6 x6 rN => ?_
    have LG := LG.up x6
    have LL := LL.up x6
    have rW := rW.up x6.g
    have rT := rT.up x6.g
    have s6 := s5.trans x6.h
    refine tg_name (G := G6) H6 x6.i _ ?_
    dsimp only [tSeq, tAsg]
    have AL := (asL far).tup
    refine lm_cat LG rfl (es := [.tuple [], .int 0]) (es_cons (ev_idl (es_cons (ev_var rfl rN) (es_cons (ev_is (f := dO ["a"]) (ev_tup (es_cons ev_str es_nil) (le5 rfl)) rfl) (es_cons (ev_is (f := dLat (latA far)) (ev_tup (es_cons (ev_tup (es_cons ev_str (es_cons (ev_var rfl (.int far)) es_nil)) (le5 rfl)) es_nil) (le5 rfl)) rfl) es_nil))) AL ord1 lone1.1) (es_cons (ev_how (es_cons (ev_var rfl rN) (es_cons (ev_is (f := dO ["a"]) (ev_tup (es_cons ev_str es_nil) (le5 rfl)) rfl) (es_cons (ev_is (f := dLat (latA far)) (ev_tup (es_cons (ev_tup (es_cons ev_str (es_cons (ev_var rfl (.int far)) es_nil)) (le5 rfl)) es_nil) (le5 rfl)) rfl) es_nil))) AL ord1 lone1.2.1) es_nil)) (by rw [List.length_append, List.length_append, List.length_map]; decide) x6.i s6 _ fun vG pG G7 H7 x7 s7 n7 LG => ?_
    have nGL := (LL.ne n7).symm
    have LL := LL.up x7
    have rN := rN.up x7.g
    refine tg_name (G := G7) H7 x7.i _ ?_
    dsimp only [tSeq, tAsg]
    refine lm_cat LG rfl (es := [.str "a", .none]) (es_cons (ev_iat (es_cons (ev_var rfl rN) (es_cons (ev_is (f := dO ["a"]) (ev_tup (es_cons ev_str es_nil) (le5 rfl)) rfl) (es_cons (ev_is (f := dLat (latA far)) (ev_tup (es_cons (ev_tup (es_cons ev_str (es_cons (ev_var rfl (.int far)) es_nil)) (le5 rfl)) es_nil) (le5 rfl)) rfl) (es_cons ev_int es_nil)))) AL ord1 (by rw [issuedD_eq, lone1.2.2.1]; rfl)) (es_cons (ev_iat (es_cons (ev_var rfl rN) (es_cons (ev_is (f := dO ["a"]) (ev_tup (es_cons ev_str es_nil) (le5 rfl)) rfl) (es_cons (ev_is (f := dLat (latA far)) (ev_tup (es_cons (ev_tup (es_cons ev_str (es_cons (ev_var rfl (.int far)) es_nil)) (le5 rfl)) es_nil) (le5 rfl)) rfl) (es_cons ev_int es_nil)))) AL ord1 (by rw [issuedD_eq, lone1.2.2.2]; rfl)) es_nil)) (by simp only [List.length_append, List.length_map]; decide) x7.i s7 _ fun vG pG G8 H8 x8 s8 n8 LG => ?_
    have nGL := (LL.ne n8).symm
    have LL := LL.up x8
    refine tg_name (G := G8) H8 x8.i _ ?_
    dsimp only [tSeq, tAsg]
    refine lm_cat LL rfl (es_cons (ev_tup es_nil (le5 rfl)) (es_cons ev_int (es_cons ev_str (es_cons ev_non es_nil)))) (by simp only [List.length_append, List.length_map]; decide) x8.i s8 _ fun vL pL G9 H9 x9 s9 n9 LL => ?_
    have nGL := LG.ne n9
    have LG := LG.up x9
    refine tg_name (G := G9) H9 x9.i _ ?_
    dsimp only [tSeq, tAsg]
    have AN := asN.tup
    refine lm_cat LG rfl (es := [.tuple [], .int 0, .none]) (es_cons (ev_idl (es_cons (ev_is (f := dBlk none0) (ev_tup (es_cons (ev_tup es_nil (le5 rfl)) (es_cons (ev_tup es_nil (le5 rfl)) es_nil)) (le5 rfl)) rfl) (es_cons (ev_is (f := dO []) (ev_tup es_nil (le5 rfl)) rfl) (es_cons (ev_is (f := dLat []) (ev_tup es_nil (le5 rfl)) rfl) es_nil))) AN ord2 none1.1) (es_cons (ev_how (es_cons (ev_is (f := dBlk none0) (ev_tup (es_cons (ev_tup es_nil (le5 rfl)) (es_cons (ev_tup es_nil (le5 rfl)) es_nil)) (le5 rfl)) rfl) (es_cons (ev_is (f := dO []) (ev_tup es_nil (le5 rfl)) rfl) (es_cons (ev_is (f := dLat []) (ev_tup es_nil (le5 rfl)) rfl) es_nil))) AN ord2 none1.2.1) (es_cons (ev_iat (es_cons (ev_is (f := dBlk none0) (ev_tup (es_cons (ev_tup es_nil (le5 rfl)) (es_cons (ev_tup es_nil (le5 rfl)) es_nil)) (le5 rfl)) rfl) (es_cons (ev_is (f := dO []) (ev_tup es_nil (le5 rfl)) rfl) (es_cons (ev_is (f := dLat []) (ev_tup es_nil (le5 rfl)) rfl) (es_cons ev_int es_nil)))) AN ord2 (by rw [issuedD_eq, none1.2.2]; rfl)) es_nil))) (by simp only [List.length_append, List.length_map]; decide) x9.i s9 _ fun vG pG G10 H10 x10 s10 n10 LG => ?_
    have nGL := (LL.ne n10).symm
    have LL := LL.up x10
    refine tg_name (G := G10) H10 x10.i _ ?_
    dsimp only [tSeq, tAsg]
    refine lm_cat LL rfl (es_cons (ev_tup es_nil (le5 rfl)) (es_cons ev_int (es_cons ev_non es_nil))) (by simp only [List.length_append, List.length_map]; decide) x10.i s10 _ fun vL pL G11 H11 x11 s11 n11 LL => ?_
    have nGL := LG.ne n11
    have LG : Lm H G11 H11 vG pG gotD := LG.up x11
    have LL : Lm H G11 H11 vL pL gotD := LL
    refine tg_name (G := G11) H11 x11.i _ ?_
    dsimp only [tSeq]
    have g611 : Same G6 G11 := x7.g.trans (x8.g.trans (x9.g.trans (x10.g.trans x11.g)))
    have rW := rW.up g611
    have rT := rT.up g611
    let Iv : Nat → L2.St → Hp → Hp → Prop := fun j σ G' H' => ∃ (z11 z12 z13 : Option V), σ = [some vW, some (.int far), some v5, some vG, some vL, y5, y6, y7, some vT, none, some vN, z11, z12, z13, none] ∧ Same G11 G' ∧ Same H H' ∧ Lm H G' H' vG pG (gotD ++ List.replicate j A3) ∧ Lm H G' H' vL pL (gotD ++ List.replicate j A3)
    refine for_ind (ds := ivs 0 3) (G := G11) PyData.int (ei_rng1 (es_cons ev_int es_nil) (by decide) (by decide)) Iv x11.i (fun G4' H4' y => ?_) (fun Gs sGs j z hj σ' G' H' s4 i4 iv x G2' H2' y rx => ?_) (fun σ' G' H' s4 i4 iv => ?_)
    · exact ⟨none, none, none, rfl, y.g, s11.trans y.h, by rw [List.replicate_zero, List.append_nil]; exact LG.up y, by rw [List.replicate_zero, List.append_nil]; exact LL.up y⟩
    · obtain ⟨z11, z12, z13, rfl, g9, sH, LGj, LLj⟩ := iv
      have j3 : j < 3 := by
        have := (List.getElem?_eq_some_iff.mp hj).1
        rw [ivs_len] at this; exact this
      have gl : gotD.length = 18 := rfl
      cases rx.isInt
      refine tg_name (G := G2') H2' y.i _ ?_
      dsimp only [tSeq, tAsg]
      refine ev_is (f := .list (oddL.map dOdd)) (ev_lst (es_cons (ev_cb (es_cons ev_str es_nil) (cd_tupS (le5 rfl))) (es_cons (ev_cb (es_cons ev_str es_nil) (cd_tupS (le5 rfl))) (es_cons (ev_tup es_nil (le5 rfl)) (es_cons (ev_cb (es_cons ev_str es_nil) (cd_tupS (le5 rfl))) (es_cons (ev_cb (es_cons ev_str es_nil) (cd_lstS (le5 rfl))) es_nil))))) (le5 rfl)) rfl H2' y.i _ fun vO G3 H3 x3 rO => ?_
      refine tg_name (G := G3) H3 x3.i _ ?_
      dsimp only [tSeq, tDrop]
      have LG := (LGj.up y).up x3
      have LL := (LLj.up y).up x3
      have g113 := g9.trans (y.g.trans x3.g)
      refine lm_app LG rfl (d := A3) (ev_is (ev_lcB (as := oddL) dOdd (fun _ => dNo) (ei_list (ev_var rfl rO)) (le5 rfl) fun p hp G4 yy s4 ry => ⟨_, tg_name, rfl, ev_call (R := RHrd) (es_cons (ev_var rfl (.int z)) (es_cons (ev_var rfl (rW.up (g113.trans s4))) (es_cons (ev_var rfl ry) (es_cons (ev_var rfl (rT.up (g113.trans s4))) es_nil)))) ⟨z, _, _, _, wide, p.2, latP 3 5, rfl, argOdd p hp, odd_no p hp, rfl⟩ rfl⟩) rfl) (by rw [List.length_append, List.length_replicate, gl]; omega) x3.i ((sH.trans y.h).trans x3.h) _ fun G4 H4 g4 i4' s4' k4 f4 LG => ?_
      have LL := LL.stay nGL.symm g4 k4 f4
      refine lm_app LL rfl (d := A3) (ev_is (ev_op (ev_lst (es_cons (ev_lst (es_cons ev_str (es_cons ev_bl es_nil)) (le5 rfl)) es_nil) (le5 rfl)) (ev_cb (es_cons (ev_var rfl (rO.up g4)) es_nil) cd_lenL) (od_rep (by decide) (by decide) (by decide))) rfl) (by rw [List.length_append, List.length_replicate, gl]; omega) i4' s4' _ fun G5 H5 g5 i5' s5' k5 f5 LL => ?_
      have LG := LG.stay nGL g5 k5 f5
      refine ⟨G5, s4.trans (y.g.trans (x3.g.trans (g4.trans g5))), i5', _, _, _, rfl, g113.trans (g4.trans g5), s5', ?_, ?_⟩
      · rw [List.replicate_succ', ← List.append_assoc]; exact LG
      · rw [List.replicate_succ', ← List.append_assoc]; exact LL
    · obtain ⟨z11, z12, z13, rfl, g9, sH, LG, LL⟩ := iv
      rw [ivs_len] at LG LL
      have rW := rW.up g9
      have rT := rT.up g9
      clear Iv
      dsimp only [tSeq, tAsg]
      refine ev_is (f := .list [lBlk wide, .list (dStrs aubv), lLat (latP 3 5)]) (ev_lst (es_cons (ev_is (ev_call (R := RLis 13) (es_cons (ev_var rfl rW) es_nil) ⟨_, 12, rfl, rfl, okD_blk wideS, rfl⟩ rfl) (lisN_blk wide)) (es_cons (ev_cb (es_cons ev_str es_nil) (cd_lstS (le5 rfl))) (es_cons (ev_is (ev_call (R := RLis 13) (es_cons (ev_var rfl rT) es_nil) ⟨_, 12, rfl, rfl, okD_lat (show 2 ≤ 100 by decide), rfl⟩ rfl) (lisN_lat _)) es_nil))) (le5 rfl)) rfl H' i4 _ fun vS G1 H1 x1 rS => ?_
      have LG := LG.up x1
      have LL := LL.up x1
      have s1 := sH.trans x1.h
      refine tg_name (G := G1) H1 x1.i _ ?_
      dsimp only [tSeq, tDrop]
      have AS' := (asW aubv 3 5 (by decide +kernel)).lis
      have gl : (gotD ++ List.replicate 3 A3).length = 21 := rfl
      refine lm_app LG rfl (d := .tuple [dPI (1, 2), dPI (5, 4)]) (ev_callXK (R := RIdl) (es_cons (ev_op (ev_var rfl rS) ev_int (od_ixL (j := 2) rfl rfl)) (es_cons (ev_op (ev_var rfl rS) ev_int (od_ixL (j := 1) rfl rfl)) (es_cons (ev_op (ev_var rfl rS) ev_int (od_ixL (j := 0) rfl rfl)) es_nil))) ⟨_, _, _, _, _, _, rfl, AS', by rw [if_pos ord0, soft1.1]; rfl⟩ rfl) (by rw [gl]; decide) x1.i s1 _ fun G2 H2 g2 i2 s2 k2 f2 LG => ?_
      have LL := LL.stay nGL.symm g2 k2 f2
      have rS := rS.up g2
      try dsimp only [tSeq, tDrop]
      refine lm_app LG rfl (d := .int 6) (ev_callXK (R := RHow) (es_cons (ev_op (ev_var rfl rS) ev_int (od_ixL (j := 2) rfl rfl)) (es_cons (ev_op (ev_var rfl rS) ev_int (od_ixL (j := 1) rfl rfl)) (es_cons (ev_op (ev_var rfl rS) ev_int (od_ixL (j := 0) rfl rfl)) es_nil))) ⟨_, _, _, _, _, _, rfl, AS', by rw [if_pos ord0, soft1.2.1]⟩ rfl) (by rw [List.length_append, gl]; decide) i2 s2 _ fun G3 H3 g3 i3 s3 k3 f3 LG => ?_
      have LL := LL.stay nGL.symm g3 k3 f3
      have rS := rS.up g3
      try dsimp only [tSeq, tDrop]
      refine lm_app LG rfl (d := .str "b") (ev_callXK (R := RAt) (es_cons ev_int (es_cons (ev_op (ev_var rfl rS) ev_int (od_ixL (j := 2) rfl rfl)) (es_cons (ev_op (ev_var rfl rS) ev_int (od_ixL (j := 1) rfl rfl)) (es_cons (ev_op (ev_var rfl rS) ev_int (od_ixL (j := 0) rfl rfl)) es_nil)))) ⟨_, _, _, _, _, _, _, rfl, AS', by rw [if_pos ord0, issuedD_eq, soft1.2.2]; rfl⟩ rfl) (by rw [List.length_append, List.length_append, gl]; decide) i3 s3 _ fun G4 H4 g4 i4 s4' k4 f4 LG => ?_
      have LL := LL.stay nGL.symm g4 k4 f4
      try dsimp only [tSeq, tRet]
      refine ⟨vG, rfl, ?_⟩
      refine lm_cat LL rfl (es_cons (ev_tup (es_cons (ev_tup (es_cons ev_int (es_cons ev_int es_nil)) (le5 rfl)) (es_cons (ev_tup (es_cons ev_int (es_cons ev_int es_nil)) (le5 rfl)) es_nil)) (le5 rfl)) (es_cons ev_int (es_cons ev_str es_nil))) (by rw [gl]; decide) i4 s4' _ fun vQ pQ G5 H5 x5 s5 n5 LQ => ?_
      have LG := LG.up x5
      obtain ⟨Ga, sa, ia, ra⟩ := LG.tell x5.i
      obtain ⟨Gq, sq, iq, rq⟩ := LQ.tell x5.i
      have e : gotD ++ List.replicate 3 A3 ++ [.tuple [.tuple [.int 1, .int 2], .tuple [.int 5, .int 4]], .int 6, .str "b"] = gotD ++ List.replicate 3 A3 ++ [.tuple [dPI (1, 2), dPI (5, 4)]] ++ [.int 6] ++ [.str "b"] := by
        simp only [List.append_assoc, List.cons_append, List.nil_append]; rfl
      rw [e] at rq
      exact ⟨uni Ga Gq, _, .bool true, rfl, uni_i ia iq, .cons (ra.up (uni_l _ _)) (.cons (rq.up (uni_r ia iq)) .nil), ⟨_, 12, rfl, rfl, ok_got, rfl⟩, fun v6 G6 H6 x6 r6 => by
        cases r6.isBool
        exact q H6 (s5.trans x6.h)⟩
end K11
set_option Elab.async false
set_option linter.all false
set_option maxRecDepth 100000
set_option maxHeartbeats 4000000
set_option autoImplicit false
/-! K11Math: ticks of issue and the stretches between. -/
namespace K11
open PySem PySem.Spec PyProof.Rows L2 RZ
/-- the whole numbers from a to b, b out -/
def rng (a b : Int) : List Int := ivs a (b - a).toNat
theorem rng_mem {a b k : Int} : k ∈ rng a b ↔ a ≤ k ∧ k < b := by
  unfold rng ivs
  rw [List.mem_map]
  constructor
  · rintro ⟨j, hj, rfl⟩
    have := List.mem_range.mp hj
    omega
  · intro h
    exact ⟨(k - a).toNat, List.mem_range.mpr (by omega), by omega⟩
theorem rng_len (a b : Int) : (rng a b).length = (b - a).toNat := ivs_len ..
theorem rng_cons {a b : Int} (h : a < b) : rng a b = a :: rng (a + 1) b := by
  unfold rng ivs
  have e : (b - a).toNat = (b - (a + 1)).toNat + 1 := by omega
  rw [e, List.range_succ_eq_map, List.map_cons, List.map_map]
  congr 1
  · show a + ((0 : Nat) : Int) = a
    omega
  · refine List.map_congr_left fun j _ => ?_
    show a + ((j + 1 : Nat) : Int) = a + 1 + (j : Int)
    omega
theorem rng_nil {a b : Int} (h : b ≤ a) : rng a b = [] := by
  unfold rng
  rw [show (b - a).toNat = 0 by omega]; rfl
theorem rng_app : ∀ (n : Nat) {a m b : Int}, (m - a).toNat = n → a ≤ m → m ≤ b → rng a b = rng a m ++ rng m b
  | 0, a, m, b, e, h1, h2 => by
    have : a = m := by omega
    subst this
    rw [rng_nil (Int.le_refl a)]; rfl
  | n + 1, a, m, b, e, h1, h2 => by
    rw [rng_cons (show a < b by omega), rng_cons (show a < m by omega), rng_app n (a := a + 1) (m := m) (b := b) (by omega) (by omega) h2]; rfl
abbrev Inc (ns : List Int) : Prop := ns.Pairwise (· < ·)
def fillP (p : Int × Int) : List Int := rng p.1 (p.1 + p.2)
theorem maxL_inc {x y : Int} (r : List Int) (h : x < y) : maxL x (y :: r) = maxL y r := by
  show maxL (max x y) r = _
  rw [Int.max_eq_right (by omega)]
theorem gaps : ∀ (r : List Int) (x : Int), Inc (x :: r) → (stret (x :: r)).flatMap fillP = (rng x (maxL x r)).filter fun k => decide (k ∉ x :: r)
  | [], x, _ => by
    show [] = _
    rw [show maxL x [] = x from rfl, rng_nil (Int.le_refl x)]; rfl
  | y :: r, x, h => by
    have hxy : x < y := (List.pairwise_cons.mp h).1 y (List.mem_cons_self ..)
    have hr : Inc (y :: r) := (List.pairwise_cons.mp h).2
    have ih := gaps r y hr
    have hM : y ≤ maxL y r := (maxL_ge r y).1
    have hgt : ∀ z ∈ r, y < z := (List.pairwise_cons.mp hr).1
    rw [maxL_inc r hxy, rng_app _ (m := y) rfl (by omega) hM, List.filter_append, rng_cons hxy, List.filter_cons]
    have c0 : decide (x ∉ x :: y :: r) = false := by simp
    rw [c0, if_neg (by simp)]
    have e1 : (rng (x + 1) y).filter (fun k => decide (k ∉ x :: y :: r)) = rng (x + 1) y := by
      refine List.filter_eq_self.mpr fun k hk => decide_eq_true fun hm => ?_
      obtain ⟨h1, h2⟩ := rng_mem.mp hk
      rcases List.mem_cons.mp hm with rfl | hm
      · omega
      · rcases List.mem_cons.mp hm with rfl | hm
        · omega
        · have := hgt k hm
          omega
    have e2 : (rng y (maxL y r)).filter (fun k => decide (k ∉ x :: y :: r)) = (rng y (maxL y r)).filter fun k => decide (k ∉ y :: r) := by
      refine List.filter_congr fun k hk => decide_eq_decide.mpr ?_
      obtain ⟨h1, _⟩ := rng_mem.mp hk
      have : k ≠ x := by omega
      simp [this]
    rw [e1, e2, ← ih]
    show (if y > x + 1 then (x + 1, y - x - 1) :: stret (y :: r) else stret (y :: r)).flatMap fillP = _
    by_cases c : y > x + 1
    · rw [if_pos c, List.flatMap_cons]
      congr 1
      show rng (x + 1) (x + 1 + (y - x - 1)) = _
      rw [show x + 1 + (y - x - 1) = y by omega]
    · rw [if_neg c, rng_nil (show y ≤ x + 1 by omega)]; rfl
/-- where a stretch stands -/
theorem stret_mem : ∀ (r : List Int) (x : Int), Inc (x :: r) → ∀ p ∈ stret (x :: r), p.1 - 1 ∈ x :: r ∧ p.1 + p.2 ∈ x :: r ∧ 0 < p.2
  | [], x, _, p, hp => by cases hp
  | y :: r, x, h, p, hp => by
    have hr : Inc (y :: r) := (List.pairwise_cons.mp h).2
    have ih := stret_mem r y hr p
    have hp : p ∈ (if y > x + 1 then (x + 1, y - x - 1) :: stret (y :: r) else stret (y :: r)) := hp
    by_cases c : y > x + 1
    · rw [if_pos c] at hp
      rcases List.mem_cons.mp hp with rfl | hp
      · refine ⟨?_, ?_, ?_⟩
        · show x + 1 - 1 ∈ _
          rw [show x + 1 - 1 = x by omega]; exact List.mem_cons_self ..
        · show x + 1 + (y - x - 1) ∈ _
          rw [show x + 1 + (y - x - 1) = y by omega]; exact List.mem_cons_of_mem _ (List.mem_cons_self ..)
        · show 0 < y - x - 1
          omega
      · obtain ⟨h1, h2, h3⟩ := ih hp
        exact ⟨List.mem_cons_of_mem _ h1, List.mem_cons_of_mem _ h2, h3⟩
    · rw [if_neg c] at hp
      obtain ⟨h1, h2, h3⟩ := ih hp
      exact ⟨List.mem_cons_of_mem _ h1, List.mem_cons_of_mem _ h2, h3⟩
/-- ticks of issue: none, or from 0 upwards -/
def Up (ns : List Int) : Prop := ns = [] ∨ ∃ r, ns = 0 :: r ∧ Inc (0 :: r)
def lastI (ns : List Int) : Int := maxL (-1) ns
def idleL (ns : List Int) : List Int := (ivs 0 (lastI ns).toNat).filter fun k => decide (k ∉ ns)
theorem lastI_up {r : List Int} : lastI (0 :: r) = maxL 0 r := by
  show maxL (max (-1) 0) r = _
  rfl
theorem fill_idle {ns : List Int} (h : Up ns) : (stret ns).flatMap fillP = idleL ns := by
  rcases h with rfl | ⟨r, rfl, h⟩
  · rfl
  · rw [gaps r 0 h]
    unfold idleL rng
    rw [lastI_up, Int.sub_zero]
theorem near_none {ns : List Int} (h : Up ns) : ∀ p ∈ stret ns, p.1 - 1 ∉ idleL ns ∧ p.1 + p.2 ∉ idleL ns ∧ 0 < p.2 := fun p hp => by
  rcases h with rfl | ⟨r, rfl, h⟩
  · cases hp
  · obtain ⟨h1, h2, h3⟩ := stret_mem r 0 h p hp
    refine ⟨fun c => ?_, fun c => ?_, h3⟩
    · have := of_decide_eq_true (List.mem_filter.mp c).2
      exact this h1
    · have := of_decide_eq_true (List.mem_filter.mp c).2
      exact this h2
theorem sum_fill : ∀ ps : List (Int × Int), (∀ p ∈ ps, 0 < p.2) → (ps.map (·.2)).sum = ((ps.flatMap fillP).length : Nat)
  | [], _ => rfl
  | p :: ps, h => by
    have ih := sum_fill ps fun q hq => h q (List.mem_cons_of_mem _ hq)
    have hp := h p (List.mem_cons_self ..)
    rw [List.map_cons, List.sum_cons, ih, List.flatMap_cons, List.length_append]
    unfold fillP
    rw [rng_len]
    omega
theorem many_idle {b : Blk} {lat : Lat} {o : List Str} (h : Up (spots b lat o)) : manyIdle b lat o = ((idleL (spots b lat o)).length : Nat) := by
  unfold manyIdle
  rw [sum_fill _ fun p hp => (near_none h p hp).2.2, fill_idle h]
/-! ### names by ticks -/
def namE (ns : List Int) (o : List Str) : Ents := (ns.zip o).map fun p => (.inl p.1, .str p.2)
theorem named : ∀ (ns : List Int) (o : List Str) (k : Int), (look (namE ns o) (.inl k)).getD .none = issuedD o ns k
  | [], o, k => by unfold namE look issuedD idxOf; simp
  | n :: ns, [], k => by
    unfold namE look issuedD
    simp only [List.zip_nil_right, List.map_nil, List.find?_nil, Option.map_none, Option.getD_none]
    split <;> simp
  | n :: ns, s :: o, k => by
    have ih := named ns o k
    unfold namE look issuedD idxOf at *
    rw [List.zip_cons_cons, List.map_cons, List.find?_cons, List.findIdx?_cons]
    by_cases c : n = k
    · subst c
      simp
    · have c1 : decide ((Sum.inl n : Key) = Sum.inl k) = false := decide_eq_false fun e => c (Sum.inl.inj e)
      have c2 : decide (n = k) = false := decide_eq_false c
      rw [c1, c2]
      rw [ih]
      cases List.findIdx? (fun n => decide (n = k)) ns with
      | none => rfl
      | some j => simp
theorem zip_pairs (ns : List Int) (o : List Str) : zipD (ns.map .int) (dStrs o) = (namE ns o).map pairD := by
  unfold namE dStrs
  rw [List.map_map]
  induction ns generalizing o with
  | nil => cases o <;> rfl
  | cons n ns ih =>
    cases o with
    | nil => rfl
    | cons s o =>
      show _ :: zipD (ns.map .int) (o.map .str) = _
      rw [ih o]; rfl
theorem namE_nd {ns : List Int} {o : List Str} (h : ns.Nodup) : ((namE ns o).map (·.1)).Nodup := by
  unfold namE
  rw [List.map_map]
  have : ((fun x : Key × PyData => x.1) ∘ fun p : Int × Str => ((.inl p.1 : Key), PyData.str p.2)) = (Sum.inl : Int → Key) ∘ fun p : Int × Str => p.1 := rfl
  rw [this, ← List.map_map]
  have z : ((ns.zip o).map fun p => p.1).Nodup := by
    have e : (ns.zip o).map (fun p => p.1) = ns.take o.length := by
      clear h
      induction ns generalizing o with
      | nil => cases o <;> rfl
      | cons n ns ih =>
        cases o with
        | nil => rfl
        | cons s o => rw [List.zip_cons_cons, List.map_cons, ih]; rfl
    rw [e]
    exact h.sublist (List.take_sublist _ _)
  exact List.pairwise_map.mpr (z.imp fun {a b} n e => n (Sum.inl.inj e))
theorem Up.nodup {ns : List Int} (h : Up ns) : ns.Nodup := by
  rcases h with rfl | ⟨r, rfl, h⟩
  · exact List.nodup_nil
  · exact h.imp fun {a b} h e => by omega
/-! ### the ticks of an order -/
theorem go_inc (b : Blk) (lat : Lat) : ∀ (o : List Str) (f : Tk) (t : Int), Inc (f.map (·.2.1)) → (∀ e ∈ f, e.2.1 ≤ t) → Inc ((o.foldl (tkStep b lat) (f, t)).1.map (·.2.1))
  | [], f, t, h, _ => h
  | n :: o, f, t, h, ht => by
    refine go_inc b lat o _ _ ?_ fun e he => ?_
    · rw [List.map_append]
      refine List.pairwise_append.mpr ⟨h, List.pairwise_singleton .., fun x hx y hy => ?_⟩
      obtain ⟨e, he, rfl⟩ := List.mem_map.mp hx
      rw [List.mem_singleton.mp hy]
      have := ht e he
      have := (maxL_ge ((rowOf b n).1.map fun w => (tkLook f w).2) (t + 1)).1
      show e.2.1 < maxL (t + 1) ((rowOf b n).1.map fun w => (tkLook f w).2)
      omega
    · rcases List.mem_append.mp he with he | he
      · have := ht e he
        have := (maxL_ge ((rowOf b n).1.map fun w => (tkLook f w).2) (t + 1)).1
        show e.2.1 ≤ maxL (t + 1) ((rowOf b n).1.map fun w => (tkLook f w).2)
        omega
      · rw [List.mem_singleton.mp he]; exact Int.le_refl _
theorem spots_inc (b : Blk) (lat : Lat) (o : List Str) : Inc (spots b lat o) := by
  unfold spots
  rw [tkOf_st]
  exact go_inc b lat o [] (-1) .nil fun e he => by cases he
theorem spots_up {b : Blk} {lat : Lat} {o : List Str} (O : OrdB b o) : Up (spots b lat o) := by
  cases o with
  | nil => exact .inl rfl
  | cons n r =>
    right
    have hinc := spots_inc b lat (n :: r)
    have h0 : (rowOf b n).1 = [] := by
      have := O.rd 0 n rfl
      cases e : (rowOf b n).1 with
      | nil => rfl
      | cons w ws => have := this w (by rw [e]; exact List.mem_cons_self ..); simp at this
    have : ∃ r', spots b lat (n :: r) = 0 :: r' := by
      have h1 : ∀ (o : List Str) (s : Tk × Int), ∃ r', ((o.foldl (tkStep b lat) s).1).map (fun e : Str × Int × Int => e.2.1) = s.1.map (fun e : Str × Int × Int => e.2.1) ++ r' := fun o => by
        induction o with
        | nil => exact fun s => ⟨[], by simp⟩
        | cons m o ih =>
          intro s
          obtain ⟨r', e⟩ := ih (tkStep b lat s m)
          refine ⟨tick1 b s.1 s.2 m :: r', ?_⟩
          show ((o.foldl (tkStep b lat) (tkStep b lat s m)).1).map _ = _
          rw [e]
          unfold tkStep
          simp
      obtain ⟨r', e⟩ := h1 r (tkStep b lat ([], -1) n)
      refine ⟨r', ?_⟩
      unfold spots
      rw [tkOf_st]
      show ((r.foldl (tkStep b lat) (tkStep b lat ([], -1) n)).1).map _ = _
      rw [e]
      have t0 : tick1 b [] (-1) n = 0 := by unfold tick1; rw [h0]; rfl
      show tick1 b [] (-1) n :: r' = _
      rw [t0]
    obtain ⟨r', e⟩ := this
    exact ⟨r', e, e ▸ hinc⟩
/-- no tick is far -/
theorem go_small (b : Blk) (lat : Lat) (hl : ∀ n, lag b lat n ≤ 7) : ∀ (o : List Str) (s : Tk × Int) (m : Int), s.2 ≤ m → (∀ e ∈ s.1, e.2.1 ≤ m ∧ e.2.2 ≤ m) → 0 ≤ m → ∀ e ∈ (o.foldl (tkStep b lat) s).1, e.2.1 ≤ m + 8 * o.length
  | [], s, m, _, h, _, e, he => by have := (h e he).1; simpa using this
  | n :: o, s, m, h1, h2, h0, e, he => by
    have hL : ∀ w, (tkLook s.1 w).2 ≤ m := fun w => by
      unfold tkLook
      cases q : s.1.find? (fun e => decide (e.1 = w)) with
      | none => exact h0
      | some e => exact (h2 e (List.mem_of_find?_eq_some q)).2
    have ht : tick1 b s.1 s.2 n ≤ m + 1 := by
      unfold tick1
      rcases List.mem_cons.mp (maxL_mem ((rowOf b n).1.map fun w => (tkLook s.1 w).2) (s.2 + 1)) with h | h
      · rw [h]; omega
      · obtain ⟨w, _, e⟩ := List.mem_map.mp h
        rw [← e]
        have := hL w
        omega
    have := hl n
    have ih := go_small b lat hl o (tkStep b lat s n) (m + 8) (by show tick1 b s.1 s.2 n ≤ m + 8; omega) (fun e he => by
      rcases List.mem_append.mp he with he | he
      · have := h2 e he
        omega
      · rw [List.mem_singleton.mp he]
        refine ⟨?_, ?_⟩
        · show tick1 b s.1 s.2 n ≤ m + 8
          omega
        · show tick1 b s.1 s.2 n + lag b lat n ≤ m + 8
          omega) (by omega) e he
    rw [List.length_cons]
    push_cast
    omega
theorem spots_small {b : Blk} {lat : Lat} {o : List Str} (hl : ∀ n, lag b lat n ≤ 7) (ho : o.length ≤ 6) : ∀ k ∈ spots b lat o, k ≤ 48 := fun k hk => by
  unfold spots at hk
  obtain ⟨e, he, rfl⟩ := List.mem_map.mp hk
  rw [tkOf_st] at he
  have := go_small b lat hl o ([], -1) 0 (by decide) (fun e he => by cases he) (by decide) e he
  omega
theorem lastI_small {ns : List Int} (h : ∀ k ∈ ns, k ≤ 48) : -1 ≤ lastI ns ∧ lastI ns ≤ 48 := by
  refine ⟨(maxL_ge ns (-1)).1, ?_⟩
  rcases List.mem_cons.mp (maxL_mem ns (-1)) with e | e
  · show maxL (-1) ns ≤ 48
    rw [e]; decide
  · exact h _ e
end K11
set_option Elab.async false
set_option linter.all false
set_option maxRecDepth 100000
set_option maxHeartbeats 4000000
set_option autoImplicit false
/-! K11Facts: what a drawn block, order and latencies are good for. -/
namespace K11
open PySem PySem.Spec PyProof.Rows L2 RZ
variable {b : Blk} {lat : Lat} {o : List Str}
theorem tm_slow (B : BOk b) (T : TmOk b lat) {n : Str} (h : n ∈ b.names) : n ∈ lat.map (·.1) ↔ (rowOf b n).2 = true := by
  rw [T.names]
  have hr := rowOf_mem h
  constructor
  · intro hm
    obtain ⟨r, h1, e⟩ := List.mem_map.mp hm
    obtain ⟨h2, h3⟩ := List.mem_filter.mp h1
    -- the same row
    obtain ⟨i, hi⟩ := List.mem_iff_getElem?.mp h2
    obtain ⟨j, hj⟩ := List.mem_iff_getElem?.mp hr
    have g1 : b.names[i]? = some n := by unfold Blk.names; rw [List.getElem?_map, hi]; exact congrArg some e
    have g2 : b.names[j]? = some n := by unfold Blk.names; rw [List.getElem?_map, hj]; rfl
    have := (List.getElem?_inj (List.getElem?_eq_some_iff.mp g1).1 B.nd).mp (g1.trans g2.symm)
    subst this
    rw [hi] at hj
    have := Option.some.inj hj
    rw [this] at h3
    exact h3
  · intro hs
    exact List.mem_map.mpr ⟨_, List.mem_filter.mpr ⟨hr, hs⟩, rfl⟩
theorem lat_ok (B : BOk b) (T : TmOk b lat) : LatOk b lat := fun n h => by
  unfold lag
  by_cases c : (rowOf b n).2 = true
  · rw [if_pos c, look_lat ((tm_slow B T h).mpr c)]; rfl
  · rw [if_neg c]
    have hn : n ∉ lat.map (·.1) := fun m => c ((tm_slow B T h).mp m)
    have : look (latE lat) (.inr n) = none := by
      unfold latE
      rw [look_map (fun e : Str × Int => e.1) (fun e => .int e.2)]
      have : lat.find? (fun e => decide (e.1 = n)) = none := List.find?_eq_none.mpr fun e he hc => hn (List.mem_map.mpr ⟨e, he, of_decide_eq_true hc⟩)
      rw [this]; rfl
    rw [this]; rfl
theorem lag_small (T : TmOk b lat) : ∀ n, lag b lat n ≤ 7 := fun n => by
  unfold lag
  split
  · unfold latOf
    cases q : lat.find? (fun e => decide (e.1 = n)) with
    | none => decide
    | some e => exact (T.pos e (List.mem_of_find?_eq_some q)).2
  · decide
theorem as_ok (B : BOk b) (T : TmOk b lat) (O : OrdB b o) : AS b o lat := by
  have bl := B.nl
  have ll : lat.length ≤ 6 := by
    rw [← List.length_map (f := fun p : Str × Int => p.1), T.names, List.length_map]
    exact Nat.le_trans (List.length_filter_le ..) bl
  refine ⟨B.bs, by rw [O.len]; omega, fun s hs => by have := (name_len (O.nm s hs)).2; omega, by omega, ?_, fun r hr hs => ?_⟩
  · rw [T.names]
    exact B.nd.sublist ((List.filter_sublist ..).map _)
  · rw [T.names]
    exact List.mem_map.mpr ⟨r, List.mem_filter.mpr ⟨hr, hs⟩, rfl⟩
/-! ### data that may be compared -/
theorem okS_str {n : Nat} {s : Str} (h : isNameB s = true) : okS n (.str s) = true := by
  have : SeqAt.shaped (.str s) = true := by
    unfold SeqAt.shaped
    rw [name_lay h, PyData.depth]; rfl
  cases n <;> exact this
theorem okS_lst {n : Nat} {xs : List PyData} (h : xs.length ≤ 100000) (a : ∀ x ∈ xs, okS n x = true) : okS (n + 1) (.list xs) = true := by
  show (decide (xs.length ≤ 100000) && xs.all (okS n)) = true
  rw [decide_eq_true h, List.all_eq_true.mpr a]; rfl
theorem okS_tup {n : Nat} {xs : List PyData} (h : xs.length ≤ 100000) (a : ∀ x ∈ xs, okS n x = true) : okS (n + 1) (.tuple xs) = true := by
  show (decide (xs.length ≤ 100000) && xs.all (okS n)) = true
  rw [decide_eq_true h, List.all_eq_true.mpr a]; rfl
theorem okS_strs {n : Nat} {ss : List Str} (h : ∀ s ∈ ss, isNameB s = true) : ∀ x ∈ dStrs ss, okS n x = true := fun x hx => by
  obtain ⟨s, hs, rfl⟩ := List.mem_map.mp hx
  exact okS_str (h s hs)
theorem okS_int (n : Nat) (i : Int) : okS n (.int i) = true := by cases n <;> rfl
theorem okS_bool (n : Nat) (i : Bool) : okS n (.bool i) = true := by cases n <;> rfl
theorem okS_none (n : Nat) : okS n .none = true := by cases n <;> rfl
theorem okS_ints {n : Nat} (ns : List Int) : ∀ x ∈ ns.map PyData.int, okS n x = true := fun x hx => by
  obtain ⟨s, hs, rfl⟩ := List.mem_map.mp hx
  exact okS_int n s
theorem okS_lblk {n : Nat} (B : BOk b) : okS (n + 4) (lBlk b) = true := by
  refine okS_lst (by show 2 ≤ 100000; decide) fun x hx => ?_
  rcases List.mem_cons.mp hx with rfl | hx
  · refine okS_lst (by rw [List.length_map]; have := B.nl; omega) fun y hy => ?_
    obtain ⟨r, hr, rfl⟩ := List.mem_map.mp hy
    refine okS_lst (by show 3 ≤ 100000; decide) fun z hz => ?_
    rcases List.mem_cons.mp hz with rfl | hz
    · exact okS_str (B.nm r hr)
    · rcases List.mem_cons.mp hz with rfl | hz
      · exact okS_lst (by rw [strs_len]; have := B.rl r hr; omega) (okS_strs (B.rn r hr))
      · rw [List.mem_singleton.mp hz]; exact okS_bool _ _
  · rw [List.mem_singleton.mp hx]
    exact okS_lst (by rw [strs_len]; have := B.ll; omega) (okS_strs B.ln)
theorem okS_llat {n : Nat} (B : BOk b) (T : TmOk b lat) : okS (n + 2) (lLat lat) = true := by
  have ll : lat.length ≤ 6 := by
    rw [← List.length_map (f := fun p : Str × Int => p.1), T.names, List.length_map]
    exact Nat.le_trans (List.length_filter_le ..) B.nl
  refine okS_lst (by rw [List.length_map]; omega) fun x hx => ?_
  obtain ⟨p, hp, rfl⟩ := List.mem_map.mp hx
  have hn : isNameB p.1 = true := by
    have : p.1 ∈ lat.map (·.1) := List.mem_map.mpr ⟨p, hp, rfl⟩
    rw [T.names] at this
    obtain ⟨r, hr, e⟩ := List.mem_map.mp this
    rw [← e]
    exact B.nm r (List.mem_filter.mp hr).1
  refine okS_lst (by show 2 ≤ 100000; decide) fun z hz => ?_
  rcases List.mem_cons.mp hz with rfl | hz
  · exact okS_str hn
  · rw [List.mem_singleton.mp hz]; exact okS_int _ _
theorem okS_issued {n : Nat} {ns : List Int} {k : Int} (h : ∀ s ∈ o, isNameB s = true) : okS n (issuedD o ns k) = true := by
  unfold issuedD
  split
  · split
    · rename_i s e
      exact okS_str (h _ (List.mem_of_getElem? e))
    · exact okS_none n
  · exact okS_none n
theorem sub_perm {α : Type} [DecidableEq α] : ∀ (o l : List α), o.Nodup → (∀ s ∈ o, s ∈ l) → l.length ≤ o.length → o.Perm l
  | [], l, _, _, h => by
    rw [List.eq_nil_of_length_eq_zero (Nat.le_zero.mp h)]
  | a :: r, l, nd, sub, h => by
    have ha := sub a (List.mem_cons_self ..)
    obtain ⟨n1, n2⟩ := List.nodup_cons.mp nd
    refine List.Perm.trans ((sub_perm r (l.erase a) n2 (fun s hs => ?_) ?_).cons a) (List.perm_cons_erase ha).symm
    · have ne : s ≠ a := fun e => by rw [e] at hs; exact n1 hs
      exact (List.mem_erase_of_ne ne).mpr (sub s (List.mem_cons_of_mem _ hs))
    · rw [List.length_erase_of_mem ha]
      rw [List.length_cons] at h
      omega
/-- every order of ordL is one that is_order takes, and there is one -/
theorem ordL_ok (B : BOk b) {o : List Str} (h : o ∈ ordL b b.rows.length) : isOrderB b o = true := by
  have key : ∀ i, ∀ o ∈ ordL b i, o.length = i ∧ o.Nodup ∧ (∀ s ∈ o, s ∈ b.names) ∧ ∀ j n, o[j]? = some n → ∀ w ∈ (rowOf b n).1, w ∈ o.take j := fun i => by
    induction i with
    | zero =>
      intro o h
      have := List.mem_singleton.mp h
      subst this
      exact ⟨rfl, List.nodup_nil, fun s hs => (by cases hs), fun j n e => by simp at e⟩
    | succ i ih =>
      intro o h
      obtain ⟨o', h1, h2⟩ := List.mem_flatMap.mp h
      obtain ⟨r, hr, rfl⟩ := List.mem_map.mp h2
      obtain ⟨l, nd, nin, rd⟩ := ih o' h1
      obtain ⟨hr1, hr2⟩ := List.mem_filter.mp hr
      rw [Bool.and_eq_true] at hr2
      have c1 : r.1 ∉ o' := by simpa using hr2.1
      have c2 : ∀ s ∈ r.2.1, s ∈ o' := of_decide_eq_true hr2.2
      refine ⟨by rw [List.length_append, l]; rfl, List.nodup_append.mpr ⟨nd, by simp, fun a ha c hc e => ?_⟩, fun s hs => ?_, fun j n e w hw => ?_⟩
      · rw [List.mem_singleton.mp hc] at e
        exact c1 (e ▸ ha)
      · rcases List.mem_append.mp hs with hs | hs
        · exact nin s hs
        · rw [List.mem_singleton.mp hs]; exact List.mem_map.mpr ⟨r, hr1, rfl⟩
      · by_cases c : j < o'.length
        · rw [List.getElem?_append_left c] at e
          rw [List.take_append_of_le_length (Nat.le_of_lt c)]
          exact rd j n e w hw
        · rw [List.getElem?_append_right (by omega)] at e
          have hj : j = o'.length := by
            have := (List.getElem?_eq_some_iff.mp e).1
            rw [List.length_singleton] at this; omega
          subst hj
          rw [Nat.sub_self] at e
          cases (Option.some.inj e)
          rw [List.take_append_of_le_length (Nat.le_refl _), List.take_length]
          -- the row of that name
          have hn : r.1 ∈ b.names := List.mem_map.mpr ⟨r, hr1, rfl⟩
          have hrow := rowOf_mem hn
          obtain ⟨i1, g1⟩ := List.mem_iff_getElem?.mp hr1
          obtain ⟨i2, g2⟩ := List.mem_iff_getElem?.mp hrow
          have n1 : b.names[i1]? = some r.1 := by unfold Blk.names; rw [List.getElem?_map, g1]; rfl
          have n2 : b.names[i2]? = some r.1 := by unfold Blk.names; rw [List.getElem?_map, g2]; rfl
          have := (List.getElem?_inj (List.getElem?_eq_some_iff.mp n1).1 B.nd).mp (n1.trans n2.symm)
          subst this
          rw [g1] at g2
          have e2 := Option.some.inj g2
          rw [e2] at c2
          exact c2 w hw
  obtain ⟨l, nd, nin, rd⟩ := key _ o h
  refine OrdB.to ⟨nin, nd, rd, l, fun s hs => ?_⟩ ?_
  · obtain ⟨r, hr, rfl⟩ := List.mem_map.mp (nin s hs)
    exact B.nm r hr
  · -- as many names, none twice, all of the block's: the same names
    obtain ⟨q, hq⟩ := B.ord
    have hq' := OrdB.of B.nd hq
    have pm : o.Perm b.names := sub_perm o b.names nd nin (by rw [l]; unfold Blk.names; rw [List.length_map]; exact Nat.le_refl _)
    have sb : b.names.Pairwise (fun a b => leS a b = true) := by
      unfold isOrderB at hq
      rw [Bool.and_eq_true, Bool.and_eq_true, decide_eq_true_eq] at hq
      rw [← hq.2.1]
      exact msort_sorted q
    exact sorted_uniq (msort_sorted o) sb ((msort_perm o).trans pm)
theorem ordL_some (B : BOk b) : ordL b b.rows.length ≠ [] := by
  obtain ⟨q, hq⟩ := B.ord
  have O := OrdB.of B.nd hq
  have key : ∀ i, i ≤ q.length → q.take i ∈ ordL b i := fun i => by
    induction i with
    | zero => intro _; exact List.mem_singleton.mpr (List.take_zero ..)
    | succ i ih =>
      intro hi
      have hn : q[i]? = some q[i] := List.getElem?_eq_getElem (by omega)
      refine List.mem_flatMap.mpr ⟨q.take i, ih (by omega), ?_⟩
      have hb : q[i] ∈ b.names := O.nin _ (List.getElem_mem _)
      refine List.mem_map.mpr ⟨(q[i], rowOf b q[i]), List.mem_filter.mpr ⟨rowOf_mem hb, ?_⟩, (take_snoc hn).symm⟩
      rw [Bool.and_eq_true]
      refine ⟨?_, decide_eq_true fun s hs => O.rd i _ hn s hs⟩
      have : q[i] ∉ q.take i := fun hm => by
        obtain ⟨j, hj⟩ := List.mem_iff_getElem?.mp hm
        have ji : j < i := by
          have := (List.getElem?_eq_some_iff.mp hj).1
          rw [List.length_take] at this; omega
        rw [List.getElem?_take_of_lt ji] at hj
        have := (List.getElem?_inj (by omega) O.nd).mp (hj.trans hn.symm)
        omega
      simpa using this
  intro e
  have := key q.length (Nat.le_refl _)
  rw [O.len, e] at this
  cases this
end K11
set_option Elab.async false
set_option linter.all false
set_option maxRecDepth 100000
set_option maxHeartbeats 8000000
set_option autoImplicit false
/-! K11Right: _law_right is True. -/
namespace K11
open PySem PySem.Spec PyProof.Rows L2 RZ
variable {P : Program} {w : World} {K : PySem.W.Frag} {mg : Str → Option Value} {base : Heap} {f : Addr} {fd : FuncData} {tL tN : Tok}
section
variable {σ : L2.St} {te ta tb td : TE} {ts : TA} {H0 G H G1 G2 H2 : Hp} {ds es : List PyData} {d e : PyData} {v : V} {p u : Addr} {n m : Int}
/-- where the drawing stands -/
structure Stt (u : Addr) (H0 G H : Hp) (n : Int) : Prop where
  i : Same G H
  gu : G u = none
  un : Ur H u n
  k : ∀ a o, a ≠ u → H0 a = some o → H a = some o
theorem Stt.gx (s : Stt u H0 G H n) (x : Gx G H G2 H2) : Stt u H0 G2 H2 n := ⟨x.i, s.un.out x s.gu, s.un.gx x, fun a o c e => x.h _ _ (s.k a o c e)⟩
theorem Stt.go (s : Stt u H0 G H n) (x : Gu u G H G2 H2) (h : Ur H2 u m) : Stt u H0 G2 H2 m := ⟨x.i, x.n2 s.un.at, h, fun a o c e => x.h _ _ c (s.k a o c e)⟩
theorem Stt.le (s : Stt u H0 G H n) (h : n ≤ m) : Stt u H0 G H m := ⟨s.i, s.gu, s.un.le h, s.k⟩
theorem EvK.up {en : Ents} (h : EvK te σ G en) (e : Same G G1) : EvK te σ G1 en := fun H i Q q => h H (e.trans i) Q fun v G2 H2 x r => by
  obtain ⟨y, z⟩ := x.more e i
  exact q v _ H2 y (r.up z)
theorem ev_run {b : Blk} {o : List Str} {lat : Lat} {E : XK} (h1 : EvD ta σ G (dBlk b)) (h2 : EvD tb σ G (dO o)) (h3 : EvK td σ G (latE lat)) (B : BOk b) (ho : isOrderB b o = true) (L : LatOk b lat) : EvD (tCall SpRun [] E (tCons ta (tCons tb (tCons td tNil)))) σ G (.list ((tkOf b lat o).map dTk)) := fun H i Q q =>
  h1 H i _ fun v0 G1 H1 x1 r1 => (h2.up x1.g) H1 x1.i _ fun v1 G2 H2 x2 r2 => (h3.up (x1.g.trans x2.g)) H2 x2.i _ fun p G3 H3 x3 r3 =>
    ⟨G3, b, o, lat, v0, v1, p, rfl, x3.i, r1.up (x2.g.trans x3.g), r2.up x3.g, r3, B, ho, L, fun v G4 H4 x4 r4 => q v G4 H4 (((x1.trans x2).trans x3).trans x4) r4⟩
theorem rgV_rng (a b : Int) : rgV a b = (rng a b).map V.int := by
  unfold rgV rng ivs
  rw [List.map_map]; rfl
theorem ev_rg2 {a b : Int} (h1 : EvD ta σ G (.int a)) (h2 : EvD tb σ G (.int b)) (ok : RgOk a b) : EvD (tLstRg (tRg2 ta tb)) σ G (.list ((rng a b).map .int)) := fun H i Q q =>
  h1 H i _ fun v0 G1 H1 x1 r1 => (h2.up x1.g) H1 x1.i _ fun v1 G2 H2 x2 r2 => ⟨a, b, r1.isInt, r2.isInt, ok, fun p hp => q _ _ _ ((x1.trans x2).trans (Gx.new x2.i hp)) (.lst upd_same (by rw [rgV_rng]; exact Rps.ofInts _))⟩
theorem canLay_ints : ∀ l : List Int, PyData.canLayAll0 (l.map .int) = true
  | [] => by simp [PyData.canLayAll0]
  | x :: r => by rw [List.map_cons, PyData.canLayAll0, canLay_ints r, PyData.canLay0]; rfl
theorem shaped_ints (l : List Int) : SeqAt.shaped (.list (l.map .int)) = true := by
  unfold SeqAt.shaped
  rw [PyData.canLay0, canLay_ints, PyData.depth, PySem.W.depth_ints]; rfl
/-- a list unlike itself? no -/
theorem ev_neSelf {d : PyData} (hs : SeqAt.shaped d = true) (h1 : EvD ta σ G d) (h2 : EvD tb σ G d) : EvD (tOp (rNeD K) ta tb) σ G (.bool false) := ev_is (ev_op h1 h2 (od_neD hs hs)) (by rw [eqv_self hs]; rfl)
end
theorem dStrs_inj {a b : List Str} (h : dStrs a = dStrs b) : a = b := (List.map_inj_right (fun a b h => PyData.str.inj h)).mp h
theorem dRow_inj {r s : Row} (h : dRow r = dRow s) : r = s := by
  unfold dRow at h
  have h := PyData.tuple.inj h
  have h1 := PyData.str.inj (List.cons.inj h).1
  have h2 := dStrs_inj (PyData.tuple.inj (List.cons.inj (List.cons.inj h).2).1)
  have h3 := PyData.bool.inj (List.cons.inj (List.cons.inj (List.cons.inj h).2).2).1
  exact Prod.ext h1 (Prod.ext h2 h3)
theorem dBlk_rows {b c : Blk} (h : dBlk b = dBlk c) : b.rows = c.rows := by
  unfold dBlk at h
  have h := PyData.tuple.inj (List.cons.inj (PyData.tuple.inj h)).1
  exact (List.map_inj_right (fun a b h => dRow_inj h)).mp h
theorem TmOk.of {b c : Blk} {lat : Lat} (T : TmOk b lat) (h : dBlk b = dBlk c) : TmOk c lat := ⟨by rw [← dBlk_rows h]; exact T.names, T.pos⟩
theorem tkOf_len (b : Blk) (lat : Lat) (o : List Str) : (tkOf b lat o).length = o.length := by
  rw [← List.length_map (f := fun e : Str × Int × Int => e.1), tkOf_st, tk_names]
theorem stret_fill_len {ns : List Int} (h : Up ns) (hs : lastI ns ≤ 48) : (idleL ns).length ≤ 48 := by
  unfold idleL
  refine Nat.le_trans (List.length_filter_le ..) ?_
  rw [ivs_len]; omega
abbrev s_law_right : Stmt := top 36
abbrev N_law_right : List Str := ["_law_urn", "_law_turn", "_law_host_here", "_law_rows", "_law_lap", "_law_row_so", "_law_times_so", "_law_spots", "_law_own", "_law_last_so", "_law_idle_so", "_law_k", "_law_told", "_law_some", "_law_first_so", "_law_many_so", "_law_near", "_law_named_so", "_law_soft", "_law_got", "_law_goal"]
theorem sc_law_right : FnScope N_law_right ["_law_urn"] (defScope s_law_right) := ⟨rfl, rfl, rfl, by decide +kernel, rfl, by decide +kernel, by decide +kernel⟩
def SpRight : Sp := fun vs H Q _ => ∃ u, vs = [.ref u] ∧ Ur H u 0 ∧ ∀ H2, (∀ a o, a ≠ u → H a = some o → H2 a = some o) → Q (.bl true) H2
theorem ok_law_right {C : Addr} (F : Fun K "_law_right" "_law_right" s_law_right f fd) (M : Mg mg tL tN)
    (c_law_take : Cal P w K mg base CX0 1 "_law_take" ["_law_urn", "_law_low_so"] SpTake) (c_law_of : Cal P w K mg base CX0 2 "_law_of" ["_law_urn", "_law_some_so"] SpOf)
    (c_law_block : Cal P w K mg base CX0 5 "_law_block" ["_law_urn", "_law_many_so"] SpBlk) (c_law_orders : Cal P w K mg base CX0 2 "_law_orders" ["_law_host_here"] (SpD 1 ROrds)) (c_law_run : Cal P w K mg base CX0 1 "_law_run" ["_law_host_here", "_law_row_so", "_law_times_so"] SpRun)
    (c_law_times : Cal P w K mg base CX0 2 "_law_times" ["_law_urn", "_law_host_here", "_law_high_so"] SpTm)
    (c_issue_ticks : Cal P w K mg base (L2.CX P w) 24 "issue_ticks" PsB (SpX C 3 RIss)) (c_idle_stretches : Cal P w K mg base (L2.CX P w) 25 "idle_stretches" PsB (SpX C 3 RIdl)) (c_how_many_idle : Cal P w K mg base (L2.CX P w) 26 "how_many_idle" PsB (SpX C 3 RHow)) (c_issued_at : Cal P w K mg base (L2.CX P w) 25 "issued_at" PsI (SpX C 4 RAt))
    (c_law_lists : Cal P w K mg base CX0 13 "_law_lists" ["_law_thing_so"] (SpD 1 (RLis 13))) (c_law_same : Cal P w K mg base CX0 13 "_law_same" ["_law_got", "_law_goal"] (SpD 2 (RSame 13))) :
    FnOk P w K mg base CX0 30 f fd ["_law_urn"] SpRight := by
  refine F.ok sc_law_right (fun vs H Q E h => by obtain ⟨u, rfl, _⟩ := h; rfl) (fun cdv A outer s H vs Q E hr h => ?_)
  obtain ⟨u, rfl, un, q⟩ := h
  refine ⟨_, (pss_cons (ps_for PassesOwn.never rfl (pi_range1 (by rfl) M.range (pa_cons pe_int pa_nil)) (pg_name (i := 1) sc_law_right.nd rfl (.inl rfl)) (pss_cons (ps_set (i := 2) sc_law_right.nd rfl (.inl rfl) (pe_call c_law_block.ok (hr.mono (by decide)) (by rfl) c_law_block.m c_law_block.kp c_law_block.b .nil pass0 (pa_cons (pv 0) (pa_cons (pe_call c_law_take.ok (hr.mono (by decide)) (by rfl) c_law_take.m c_law_take.kp c_law_take.b .nil pass0 (pa_cons (pv 0) (pa_cons pe_int pa_nil))) pa_nil))))
    (pss_cons (ps_set (i := 3) sc_law_right.nd rfl (.inl rfl) (pe_call c_law_orders.ok (hr.mono (by decide)) (by rfl) c_law_orders.m c_law_orders.kp c_law_orders.b .nil pass0 (pa_cons (pv 2) pa_nil)))
    (pss_one (ps_for PassesOwn.never rfl (pi_range1 (by rfl) M.range (pa_cons pe_int pa_nil)) (pg_name (i := 4) sc_law_right.nd rfl (.inl rfl)) (pss_cons (ps_par (i := 5) (j := 6) rfl sc_law_right.nd rfl rfl (by decide) rfl rfl (pa_cons (pe_call c_law_of.ok (hr.mono (by decide)) (by rfl) c_law_of.m c_law_of.kp c_law_of.b .nil pass0 (pa_cons (pv 0) (pa_cons (pv 3) pa_nil))) (pa_cons (pe_call c_law_times.ok (hr.mono (by decide)) (by rfl) c_law_times.m c_law_times.kp c_law_times.b .nil pass0 (pa_cons (pv 0) (pa_cons (pv 2) (pa_cons pe_int pa_nil)))) pa_nil)) rfl)
    (pss_cons (ps_set (i := 7) sc_law_right.nd rfl (.inr rfl) (pe_lc (own := [("_law_own", 8)]) (g := gName 8) (tt := tYes) rfl sc_law_right.nd (pi_list (pe_call c_law_run.ok (hr.mono (by decide)) (by rfl) c_law_run.m c_law_run.kp c_law_run.b .nil pass0 (pa_cons (pv 2) (pa_cons (pv 5) (pa_cons (pe_callTy (call_dictT rfl) (by rfl) M.dict_ (by decide +kernel) (pa_cons (pv 6) pa_nil)) pa_nil))))) (blkOk_by (N := N_law_right) (sc := defScope s_law_right) (by decide +kernel)) (fun _ _ _ _ _ => (pg_name (i := 8) sc_law_right.nd rfl (.inl rfl))) (fun _ _ _ _ _ => pts_nil) (fun _ _ _ _ _ => (pe_ix (r := (rIxT K)) ix_tup (pv 8) pe_int (fun _ _ => rfl)))))
    (pss_cons (ps_set (i := 9) sc_law_right.nd rfl (.inl rfl) (pe_callB (cr_max rfl) (by rfl) M.max_ (by decide +kernel) (pa_cons (pe_op op_cat (pe_lst (pa_cons (pe_un un_neg pe_int) pa_nil)) (pv 7)) pa_nil)))
    (pss_cons (ps_set (i := 10) sc_law_right.nd rfl (.inr rfl) (pe_lc (own := [("_law_k", 11)]) (g := gName 11) (tt := _) rfl sc_law_right.nd (pi_range1 (by rfl) M.range (pa_cons (pv 9) pa_nil)) (blkOk_by (N := N_law_right) (sc := defScope s_law_right) (by decide +kernel)) (fun _ _ _ _ _ => (pg_name (i := 11) sc_law_right.nd rfl (.inl rfl))) (fun _ _ _ _ _ => (pts_one (pt_cmpR (r := (rIn K true)) op_notIn_seq (pv 11) (pv 7) rfl))) (fun _ _ _ _ _ => (pv 11))))
    (pss_cons (ps_set (i := 12) sc_law_right.nd rfl (.inl rfl) (pe_call c_idle_stretches.ok (hr.mono (by decide)) (by rfl) c_idle_stretches.m c_idle_stretches.kp c_idle_stretches.b .nil passL (pa_cons (pv 2) (pa_cons (pv 5) (pa_cons (pv 6) pa_nil)))))
    (pss_cons (ps_set (i := 13) sc_law_right.nd rfl (.inl rfl) (pe_lst pa_nil))
    (pss_cons (ps_for PassesOwn.never rfl (pi_tup (pv 12)) (pg_tup rfl (pgs_cons (pg_name (i := 14) sc_law_right.nd rfl (.inl rfl)) (pgs_cons (pg_name (i := 15) sc_law_right.nd rfl (.inl rfl)) pgs_nil))) (pss_one (ps_set (i := 13) sc_law_right.nd rfl (.inl rfl) (pe_op op_cat (pv 13) (pe_listRg rfl (by rfl) M.list_ (prg_2 (by rfl) M.range (pv 14) (pe_op op_add (pv 14) (pv 15))))))))
    (pss_cons (ps_setLc (i := 16) (own := [("_law_own", 8)]) (g := gName 8) (tt := _) rfl sc_law_right.nd rfl rfl (sw_true rfl rfl rfl (by decide +kernel)) (pi_tup (pv 12)) (blkOk_by (N := N_law_right) (sc := defScope s_law_right) (by decide +kernel)) (fun _ _ _ _ _ => (pg_name (i := 8) sc_law_right.nd rfl (.inl rfl))) (fun _ _ _ _ _ => (pts_one (PW.pt (pw_or (pt_cmpR (r := (rIn K false)) op_in_seq (pe_op op_sub (pe_ix (r := (rIxT K)) ix_tup (pv 8) pe_int (fun _ _ => rfl)) pe_int) (pv 10) rfl) (pw_or1 (pt_cmpR (r := (rIn K false)) op_in_seq (pe_op op_add (pe_ix (r := (rIxT K)) ix_tup (pv 8) pe_int (fun _ _ => rfl)) (pe_ix (r := (rIxT K)) ix_tup (pv 8) pe_int (fun _ _ => rfl))) (pv 10) rfl)))))) (fun _ _ _ _ _ => (pv 8)))
    (pss_cons (ps_if (PW.pt (pw_or (pt_cmpR (op_neD hr.units) (pv 13) (pv 10) (nomark _)) (pw_or (pt_cmpR (op_neD hr.units) (pv 16) (pe_lst pa_nil) (nomark _)) (pw_or1 (pt_not (pt_val (pe_callB call_isi (by rfl) M.isinstance (by decide +kernel) (pa_cons (pv 12) (pa_cons (pe_bltn (v := .ty "tuple") (by rfl) M.tuple_ (by decide +kernel) rfl) pa_nil))))))))) (pss_one (ps_ret pe_bl)) pss_nil)
    (pss_cons (ps_asg (pe_tup (pa_cons (pe_callTy (call_dictP rfl) (by rfl) M.dict_ (by decide +kernel) (pa_cons (pe_lz rfl (by rfl) M.zip (by rfl) M.list_ (pa_cons (pv 7) (pa_cons (pv 5) pa_nil))) pa_nil)) (pa_cons (pe_lst (pa_cons (pe_call c_law_lists.ok (hr.mono (by decide)) (by rfl) c_law_lists.m c_law_lists.kp c_law_lists.b .nil pass0 (pa_cons (pv 2) pa_nil)) (pa_cons (pe_callTy call_list_of (by rfl) M.list_ (by decide +kernel) (pa_cons (pv 5) pa_nil)) (pa_cons (pe_call c_law_lists.ok (hr.mono (by decide)) (by rfl) c_law_lists.m c_law_lists.kp c_law_lists.b .nil pass0 (pa_cons (pv 6) pa_nil)) pa_nil)))) pa_nil))) (pg_tup rfl (pgs_cons (pg_name (i := 17) sc_law_right.nd rfl (.inr rfl)) (pgs_cons (pg_name (i := 18) sc_law_right.nd rfl (.inr rfl)) pgs_nil))))
    (pss_cons (ps_set (i := 19) sc_law_right.nd rfl (.inl rfl) (pe_lst (pa_cons (pe_call c_how_many_idle.ok (hr.mono (by decide)) (by rfl) c_how_many_idle.m c_how_many_idle.kp c_how_many_idle.b .nil passL (pa_cons (pv 2) (pa_cons (pv 5) (pa_cons (pv 6) pa_nil)))) (pa_cons (pe_callTy call_list_of (by rfl) M.list_ (by decide +kernel) (pa_cons (pe_call c_issue_ticks.ok (hr.mono (by decide)) (by rfl) c_issue_ticks.m c_issue_ticks.kp c_issue_ticks.b .nil passL (pa_cons (pv 2) (pa_cons (pv 5) (pa_cons (pv 6) pa_nil)))) pa_nil)) pa_nil))))
    (pss_cons (ps_expr (pe_bm PySem.F.plainAttrs_list PySem.F.slot_list_append PySem.F.type_list_append mt_append (pv 19) (pa_cons (pe_lc (own := [("_law_k", 11)]) (g := gName 11) (tt := tYes) rfl sc_law_right.nd (pi_range2 (by rfl) M.range (pa_cons (pe_un un_neg pe_int) (pa_cons (pe_op op_add (pv 9) pe_int) pa_nil))) (blkOk_by (N := N_law_right) (sc := defScope s_law_right) (by decide +kernel)) (fun _ _ _ _ _ => (pg_name (i := 11) sc_law_right.nd rfl (.inl rfl))) (fun _ _ _ _ _ => pts_nil) (fun _ _ _ _ _ => (pe_call c_issued_at.ok (hr.mono (by decide)) (by rfl) c_issued_at.m c_issued_at.kp c_issued_at.b .nil passL (pa_cons (pe_ix (r := (rIxL K)) ix_list (pv 18) pe_int (fun _ _ => rfl)) (pa_cons (pe_ix (r := (rIxL K)) ix_list (pv 18) pe_int (fun _ _ => rfl)) (pa_cons (pe_ix (r := (rIxL K)) ix_list (pv 18) pe_int (fun _ _ => rfl)) (pa_cons (pv 11) pa_nil))))))) pa_nil)))
    (pss_cons (ps_set (i := 20) sc_law_right.nd rfl (.inl rfl) (pe_lst (pa_cons (pe_callB call_len_seq (by rfl) M.len (by decide +kernel) (pa_cons (pv 10) pa_nil)) (pa_cons (pv 7) (pa_cons (pe_lc (own := [("_law_k", 11)]) (g := gName 11) (tt := tYes) rfl sc_law_right.nd (pi_range2 (by rfl) M.range (pa_cons (pe_un un_neg pe_int) (pa_cons (pe_op op_add (pv 9) pe_int) pa_nil))) (blkOk_by (N := N_law_right) (sc := defScope s_law_right) (by decide +kernel)) (fun _ _ _ _ _ => (pg_name (i := 11) sc_law_right.nd rfl (.inl rfl))) (fun _ _ _ _ _ => pts_nil) (fun _ _ _ _ _ => (pe_dget1 (hu_of hr) (pv 17) (pv 11) ⟨rfl, rfl, rfl, rfl⟩))) pa_nil)))))
    (pss_cons (ps_par (i := 19) (j := 20) rfl sc_law_right.nd rfl rfl (by decide) rfl rfl (pa_cons (pe_op op_cat (pv 19) (pe_lst (pa_cons (pe_call c_idle_stretches.ok (hr.mono (by decide)) (by rfl) c_idle_stretches.m c_idle_stretches.kp c_idle_stretches.b .nil passL (pa_cons (pe_ix ix_list (pv 18) pe_int (fun _ _ => rfl)) (pa_cons (pe_ix ix_list (pv 18) pe_int (fun _ _ => rfl)) (pa_cons (pe_ix ix_list (pv 18) pe_int (fun _ _ => rfl)) pa_nil)))) (pa_cons (pv 18) pa_nil)))) (pa_cons (pe_op op_cat (pv 20) (pe_lst (pa_cons (pv 12) pa_nil))) pa_nil)) rfl)
    (pss_one (ps_if (pt_not (pt_val (pe_call c_law_same.ok (hr.mono (by decide)) (by rfl) c_law_same.m c_law_same.kp c_law_same.b .nil pass0 (pa_cons (pv 19) (pa_cons (pe_op op_cat (pv 20) (pe_lst (pa_cons (pe_lst (pa_cons (pe_call c_law_lists.ok (hr.mono (by decide)) (by rfl) c_law_lists.m c_law_lists.kp c_law_lists.b .nil pass0 (pa_cons (pv 2) pa_nil)) (pa_cons (pe_callTy call_list_of (by rfl) M.list_ (by decide +kernel) (pa_cons (pv 5) pa_nil)) (pa_cons (pe_call c_law_lists.ok (hr.mono (by decide)) (by rfl) c_law_lists.m c_law_lists.kp c_law_lists.b .nil pass0 (pa_cons (pv 6) pa_nil)) pa_nil)))) pa_nil))) pa_nil))))) (pss_one (ps_ret pe_bl)) pss_nil)))))))))))))))))))))
    (pss_one (ps_ret pe_bl))), ?_⟩
  dsimp only [tSeq]
  let G0 : Hp := fun _ => none
  have i0 : Same G0 H := fun _ _ e => nomatch e
  let Iv : Nat → L2.St → Hp → Hp → Prop := fun j σ G' H' => ∃ z1 z2 z3 z4 z5 z6 z7 z8 z9 z10 z11 z12 z13 z14 z15 z16 z17 z18 z19 z20 : Option V, σ = [some (.ref u), z1, z2, z3, z4, z5, z6, z7, z8, z9, z10, z11, z12, z13, z14, z15, z16, z17, z18, z19, z20] ∧ Stt u H G' H' (130 * j)
  refine for_ind (ds := ivs 0 6) (G := G0) PyData.int (ei_rng1 (es_cons ev_int es_nil) (by decide) (by decide)) Iv i0 (fun G4 H4 x4 => ?_) (fun Gs sGs j z hj σ' G1 H1 s1 i1 iv x G2 H2 y rx => ?_) (fun σ' G' H' s4 i4 iv => ?_)
  · exact ⟨_, _, _, _, _, _, _, _, _, _, _, _, _, _, _, _, _, _, _, _, rfl, (⟨i0, rfl, un, fun a o c e => e⟩ : Stt u H G0 H 0).gx x4⟩
  · obtain ⟨z1, z2, z3, z4, z5, z6, z7, z8, z9, z10, z11, z12, z13, z14, z15, z16, z17, z18, z19, z20, rfl, st⟩ := iv
    have j6 : j < 6 := by
      have := (List.getElem?_eq_some_iff.mp hj).1
      rw [ivs_len] at this; exact this
    have st := st.gx y
    refine tg_name (G := G2) H2 y.i _ ?_
    dsimp only [tSeq, tAsg]
    refine ⟨_, rfl, ?_⟩
    refine eu_call (R := RTake) (Pre := PTake) (G := G2) rfl (es_cons ev_int es_nil) ⟨7, rfl, by omega, by omega⟩ rfl st.i st.gu st.un (by omega) _ fun d3 v3 G3 H3 h3 x3 u3 r3 _ => ?_
    obtain ⟨_, r, e, r0, r1, rfl⟩ := h3
    cases e
    have st := st.go x3 u3
    refine ⟨u, [v3], G3, [.int ((r.toNat : Nat) : Int)], _, rfl, rfl, st.i, st.gu, st.un, by omega, .cons (by rw [show ((r.toNat : Nat) : Int) = r by omega]; exact r3) .nil, ⟨r.toNat, rfl, by omega⟩, fun d4 vH G4 H4 h4 x4 u4 rH _ => ?_⟩
    obtain ⟨b, B, rfl⟩ := h4
    have st := st.go x4 u4
    refine tg_name (G := G4) H4 st.i _ ?_
    dsimp only [tSeq, tAsg]
    refine ev_call (R := ROrds) (es_cons (ev_var rfl rH) es_nil) ⟨b, rfl, B, rfl⟩ rfl H4 st.i _ fun vR G5 H5 x5 rR => ?_
    have st := st.gx x5
    have rH := rH.up x5.g
    refine tg_name (G := G5) H5 st.i _ ?_
    let Iw : Nat → L2.St → Hp → Hp → Prop := fun k σ G' H' => ∃ z1 z4 z5 z6 z7 z8 z9 z10 z11 z12 z13 z14 z15 z16 z17 z18 z19 z20 : Option V, σ = [some (.ref u), z1, some vH, some vR, z4, z5, z6, z7, z8, z9, z10, z11, z12, z13, z14, z15, z16, z17, z18, z19, z20] ∧ Same G5 G' ∧ Stt u H G' H' (130 * j + 101 + 7 * k)
    refine for_ind (ds := ivs 0 3) (G := G5) PyData.int (ei_rng1 (es_cons ev_int es_nil) (by decide) (by decide)) Iw st.i (fun G6 H6 x6 => ?_) (fun Gt sGt k z' hk σ'' G6 H6 s6 i6 iw x' G7 H7 y7 rx' => ?_) (fun σ'' G' H' s6 i6 iw => ?_)
    · exact ⟨_, _, _, _, _, _, _, _, _, _, _, _, _, _, _, _, _, _, rfl, x6.g, (st.gx x6).le (by omega)⟩
    · obtain ⟨w1, w4, w5, w6, w7, w8, w9, w10, w11, w12, w13, w14, w15, w16, w17, w18, w19, w20, rfl, g5, st⟩ := iw
      have k3 : k < 3 := by
        have := (List.getElem?_eq_some_iff.mp hk).1
        rw [ivs_len] at this; exact this
      have st := st.gx y7
      cases rx'.isInt
      refine tg_name (G := G7) H7 y7.i _ ?_
      dsimp only [tSeq]
      have g7 := g5.trans y7.g
      -- an order and latencies
      have ol1 : (ordL b b.rows.length).length ≤ 46656 := Nat.le_trans (ordL_len b B.nl _) (pow6 B.nl)
      refine cons_at (eu_call (R := ROf) (Pre := POf) (G := G7) (i := 0) rfl (es_cons (ev_var rfl (rR.up g7)) es_nil) ⟨_, rfl, fun e => ordL_some B (List.map_eq_nil_iff.mp e), by rw [List.length_map]; omega⟩ rfl st.i st.gu st.un (by omega) _ fun d8 v5 G8 H8 h8 x8 u8 r5 _ => ?_)
      obtain ⟨es, e, hes⟩ := h8
      cases e
      obtain ⟨o, ho, rfl⟩ := List.mem_map.mp hes
      have st := st.go x8 u8
      have hord := ordL_ok B ho
      have O := OrdB.of B.nd hord
      refine cons_at (eu_call (R := RTm) (Pre := PTm) (G := G8) (i := 0) rfl (es_cons (ev_var rfl (rH.up (g7.trans x8.g))) (es_cons ev_int es_nil)) ⟨b, rfl, B.nl⟩ rfl st.i st.gu st.un (by omega) _ fun d9 v6 G9 H9 h9 x9 u9 r6 pl6 => ⟨_, _, rfl, ?_⟩)
      obtain ⟨b', lat, e, T, rfl⟩ := h9
      have T : TmOk b lat := by
        exact T.of (List.cons.inj e).1.symm
      have pl := pl6 rfl
      have st := st.go x9 u9
      have g9 := g7.trans (x8.g.trans x9.g)
      have r2 := rH.up g9
      have r5 := r5.up x9.g
      have A := as_ok B T O
      have U := spots_up (lat := lat) O
      have ol : o.length ≤ 6 := by rw [O.len]; exact B.nl
      have nsl : (spots b lat o).length = o.length := spots_len b lat o
      have sm := spots_small (lag_small T) ol
      obtain ⟨la0, la1⟩ := lastI_small sm
      generalize hns : spots b lat o = ns at *
      dsimp only [tSeq, tAsg]
      -- spots
      have lt : dLat lat = .tuple ((latE lat).map pairD) := by unfold dLat latE; rw [List.map_map]; rfl
      have lk : ((latE lat).map (·.1)).Nodup := by
        have := inr_nodup A.nd
        unfold latE
        rw [List.map_map] at this ⊢; exact this
      have esp : ((tkOf b lat o).map fun e => PyData.int e.2.1) = ns.map .int := by rw [← hns]; unfold spots; rw [List.map_map]; rfl
      refine ev_is (ev_lcB (as := tkOf b lat o) dTk (fun e => .int e.2.1) (ei_list (ev_run (ev_var rfl r2) (ev_var rfl r5) (ek_dictT (lt ▸ et_var rfl r6 pl) lk) B hord (lat_ok B T))) ?_ fun e he G' y' s' ry => ⟨_, tg_name, rfl, ev_op (ev_var rfl ry) ev_int (od_ixT (j := 0) rfl rfl)⟩) (congrArg PyData.list esp) H9 st.i _ fun v7 G10 H10 x10 r7 => ?_
      · rw [tkOf_len]; omega
      have st := st.gx x10
      refine tg_name (G := G10) H10 st.i _ ?_
      dsimp only [tSeq, tAsg]
      -- the last tick
      refine ev_cb (es_cons (ev_is (f := .list ((-1 :: ns).map .int)) (ev_op (ev_lst (es_cons (ev_un ev_int ud_neg) es_nil) (le5 rfl)) (ev_var rfl r7) (od_catL ?_)) rfl) es_nil) (cd_max (m := lastI ns) (by simp) maxL_only) H10 st.i _ fun v9 G11 H11 x11 r9 => ?_
      · rw [List.length_map, nsl]
        show 1 + _ ≤ _
        omega
      have st := st.gx x11
      cases r9.isInt
      refine tg_name (G := G11) H11 st.i _ ?_
      dsimp only [tSeq, tAsg]
      -- the idle ticks
      have r7' := r7.up x11.g
      have eid : ((ivs 0 (lastI ns).toNat).filter fun k => !decide (k ∈ ns)) = idleL ns := by
        unfold idleL
        exact List.filter_congr fun k _ => by simp
      refine ev_is (f := .list ((idleL ns).map .int)) (ev_lcA (as := ivs 0 (lastI ns).toNat) PyData.int (fun k => !decide (k ∈ ns)) PyData.int (ei_rng1 (es_cons (ev_var rfl (.int (lastI ns))) es_nil) (by omega) (by omega)) (by rw [ivs_len]; omega) fun k hk' G' y' s' ry => ?_) (by rw [eid]) H11 st.i _ fun v10 G12 H12 x12 r10 => ?_
      · cases ry.isInt
        exact ⟨_, tg_name, rfl, eb_test (ev_op (ev_var rfl (.int k)) (ev_var rfl (r7'.up s')) od_niIntL), fun _ => ev_var rfl (.int k)⟩
      have st := st.gx x12
      refine tg_name (G := G12) H12 st.i _ ?_
      dsimp only [tSeq, tAsg]
      have g12 := x10.g.trans (x11.g.trans x12.g)
      have r2 := r2.up g12
      have r5 := r5.up g12
      have r6 := r6.up g12
      have r7 := r7'.up x12.g
      -- what idle_stretches tells
      refine (ev_idl (e := stret ns) (es_cons (ev_var rfl r2) (es_cons (ev_var rfl r5) (es_cons (ev_var rfl r6) es_nil))) A.tup hord (by rw [hns])) H12 st.i _ fun v12 G13 H13 x13 r12 => ?_
      have st := st.gx x13
      refine tg_name (G := G13) H13 st.i _ ?_
      dsimp only [tSeq, tAsg]
      refine ev_lst es_nil (le5 rfl) H13 st.i _ fun v13 G14 H14 x14 r13 => ?_
      have st := st.gx x14
      refine tg_name (G := G14) H14 st.i _ ?_
      dsimp only [tSeq]
      have g14 := x13.g.trans x14.g
      have r2 := r2.up g14
      have r5 := r5.up g14
      have r6 := r6.up g14
      have r7 := r7.up g14
      have r10 := r10.up g14
      have r12 := r12.up x14.g
      have sl : (stret ns).length ≤ 6 := Nat.le_trans (stret_len ns) (by omega)
      have idl := stret_fill_len U la1
      let Iz : Nat → L2.St → Hp → Hp → Prop := fun m σ G' H' => ∃ (c8 c11 c14 c15 c16 c17 c18 c19 c20 : Option V) (vS : V), σ = [some (.ref u), w1, some vH, some vR, some (.int z'), some v5, some v6, some v7, c8, some (.int (lastI ns)), some v10, c11, some v12, some vS, c14, c15, c16, c17, c18, c19, c20] ∧ Same G14 G' ∧ Stt u H G' H' (130 * j + 101 + 7 * (k + 1)) ∧ Rp G' vS (.list ((((stret ns).take m).flatMap fillP).map .int))
      refine for_ind (ds := stret ns) (G := G14) dPI (ei_tup (ev_var rfl r12)) Iz st.i (fun G15 H15 x15 => ?_) (fun Gv sGv m p hp σz G15 H15 s15 i15 iz xz G16 H16 y16 rz => ?_) (fun σz G15 H15 s15 i15 iz => ?_)
      · exact ⟨_, _, _, _, _, _, _, _, _, _, rfl, x15.g, (st.gx x15).le (by omega), r13.up x15.g⟩
      · obtain ⟨c8, c11, c14, c15, c16, c17, c18, c19, c20, vS, rfl, g15, st', rS⟩ := iz
        have st' := st'.gx y16
        obtain ⟨q1, q2, rq1, rq2, tg⟩ := tg2 (K := K) (i := 14) (j := 15) rz
        cases rq1.isInt
        cases rq2.isInt
        refine tg H16 st'.i _ ?_
        dsimp only [tAsg]
        have hm := List.mem_of_getElem? hp
        have lm : ((((stret ns).take m).flatMap fillP) ++ fillP p).length ≤ 48 := by
          rw [← fm_take fillP hp]
          refine Nat.le_trans (fm_take_le fillP (stret ns) (m + 1)) ?_
          rw [fill_idle U]; exact idl
        have pb : 0 ≤ p.1 ∧ p.1 ≤ 100 ∧ 0 < p.2 ∧ p.2 ≤ 100 := by
          rcases U with e | ⟨r, e, hi⟩
          · rw [e] at hm; cases hm
          · rw [e] at hm
            obtain ⟨h1, h2, h3⟩ := stret_mem r 0 hi p hm
            rw [← e] at h1 h2
            have a1 := sm _ h1
            have a2 := sm _ h2
            have a3 : 0 ≤ p.1 - 1 := by
              rw [e] at h1
              rcases List.mem_cons.mp h1 with h | h
              · omega
              · have := (List.pairwise_cons.mp hi).1 _ h
                omega
            omega
        refine ev_op (ev_var rfl (rS.up y16.g)) (ev_rg2 (ev_var rfl (.int p.1)) (ev_op (ev_var rfl (.int p.1)) (ev_var rfl (.int p.2)) od_add) (RgOk.of_le (by omega) (by omega) (by omega) (by omega))) (od_catL ?_) H16 st'.i _ fun vS' G17 H17 x17 rS' => ?_
        · rw [List.length_map, List.length_map, ← List.length_append]
          have : fillP p = rng p.1 (p.1 + p.2) := rfl
          rw [← this]; omega
        have st' := st'.gx x17
        refine tg_name (G := G17) H17 st'.i _ ?_
        refine ⟨G17, s15.trans (y16.g.trans x17.g), st'.i, _, _, _, _, _, _, _, _, _, vS', rfl, g15.trans (y16.g.trans x17.g), st', ?_⟩
        rw [fm_take fillP hp, List.map_append]
        exact rS'
      · obtain ⟨c8, c11, c14, c15, c16, c17, c18, c19, c20, vS, rfl, g15, st, rS⟩ := iz
        rw [List.take_length, fill_idle U] at rS
        have r2 := r2.up g15
        have r5 := r5.up g15
        have r6 := r6.up g15
        have r7 := r7.up g15
        have r10 := r10.up g15
        have r12 := r12.up g15
        dsimp only [tSeq, tAsg]
        -- no stretch touches another
        have nn := near_none U
        refine ev_is (f := .list []) (ev_lcA (as := stret ns) dPI (fun p => decide (p.1 - 1 ∈ idleL ns) || decide (p.1 + p.2 ∈ idleL ns)) dPI (ei_tup (ev_var rfl r12)) (by omega) fun p hp G' y' s' ry => ⟨_, tg_name, rfl, eb_or (eb_test (ev_op (ev_op (ev_op (ev_var rfl ry) ev_int (od_ixT (j := 0) rfl rfl)) ev_int od_sub) (ev_var rfl (r10.up s')) od_inIntL)) (fun _ => eb_test (ev_op (ev_op (ev_op (ev_var rfl ry) ev_int (od_ixT (j := 0) rfl rfl)) (ev_op (ev_var rfl ry) ev_int (od_ixT (j := 1) rfl rfl)) od_add) (ev_var rfl (r10.up s')) od_inIntL)), fun _ => ev_var rfl ry⟩) ?_ H15 st.i _ fun v16 G16 H16 x16 r16 => ?_
        · rw [List.filter_eq_nil_iff.mpr fun p hp => by
            obtain ⟨n1, n2, _⟩ := nn p hp
            simp [n1, n2]]
          rfl
        have st := st.gx x16
        refine tg_name (G := G16) H16 st.i _ ?_
        dsimp only [tSeq, tIfS]
        have r2 := r2.up x16.g
        have r5 := r5.up x16.g
        have r6 := r6.up x16.g
        have r7 := r7.up x16.g
        have r10 := r10.up x16.g
        have r12 := r12.up x16.g
        have rS := rS.up x16.g
        refine (eb_or (a := false) (b := false) (eb_test (ev_neSelf (shaped_ints (idleL ns)) (ev_var rfl rS) (ev_var rfl r10))) (fun _ => eb_or (a := false) (b := false) (eb_test (ev_neSelf (d := .list []) (by decide +kernel) (ev_var rfl r16) (ev_lst es_nil (le5 rfl)))) (fun _ => eb_not (eb_test (ev_isi (n := "tuple") (b := true) (ev_var rfl r12) (show kitB "tuple" "tuple" = some true by decide +kernel)))))) H16 st.i _ fun H17 s17 => ?_
        have st := st.gx (Gx.grow st.i s17)
        rw [if_neg (by simp)]
        dsimp only [tNext, tSeq, tAsg]
        -- names by ticks, and all as lists
        have nl2 : (ns.map PyData.int).length = (dStrs o).length := by rw [List.length_map, strs_len, nsl]
        refine tup_at (ek_dictL (en := namE ns o) (ev_is (ev_lz (es_cons (ev_var rfl r7) (es_cons (ev_var rfl r5) es_nil)) nl2 (by rw [List.length_map]; omega)) (congrArg PyData.list (zip_pairs ns o))) (namE_nd U.nodup) H17 st.i _ fun pN G18 H18 x18 rN => ?_)
        have st := st.gx x18
        refine ev_is (f := .list [lBlk b, .list (dStrs o), lLat lat]) (ev_lst (es_cons (ev_is (ev_call (R := RLis 13) (es_cons (ev_var rfl (r2.up x18.g)) es_nil) ⟨_, 12, rfl, rfl, okD_blk B.bs, rfl⟩ rfl) (lisN_blk b)) (es_cons (ev_cb (es_cons (ev_var rfl (r5.up x18.g)) es_nil) cd_listT) (es_cons (ev_is (ev_call (R := RLis 13) (es_cons (ev_var rfl (r6.up x18.g)) es_nil) ⟨_, 12, rfl, rfl, okD_lat A.ll, rfl⟩ rfl) (lisN_lat lat)) es_nil))) (le5 rfl)) rfl H18 st.i _ fun v18 G19 H19 x19 r18 => ?_
        have st := st.gx x19
        refine ⟨show 2 ≤ sizeLine by decide, fun pT hT => ⟨pT, _, rfl, .inl (.inl upd_same), rfl, ?_⟩⟩
        have st := st.gx (Gx.grow st.i (same_new (o := .tup [.ref pN, v18]) hT))
        generalize upd H19 pT (.tup [.ref pN, v18]) = H20 at *
        refine tgs_cons tg_name (tgs_cons tg_name tgs_nil) (G := G19) _ st.i _ ?_
        dsimp only [tSeq, tAsg]
        have g19 := x18.g.trans x19.g
        have r2 := r2.up g19
        have r5 := r5.up g19
        have r6 := r6.up g19
        have r7 := r7.up g19
        have r10 := r10.up g19
        have r12 := r12.up g19
        have rN := rN.up x19.g
        -- what the others tell
        have hmany : manyIdle b lat o = ((idleL ns).length : Nat) := by rw [many_idle (hns ▸ U), hns]
        refine lm_new (es_cons (ev_how (es_cons (ev_var rfl r2) (es_cons (ev_var rfl r5) (es_cons (ev_var rfl r6) es_nil))) A.tup hord hmany) (es_cons (ev_cb (es_cons (EvF.toD (ev_callX (R := RIss) (d := dInts ns) (es_cons (ev_var rfl r2) (es_cons (ev_var rfl r5) (es_cons (ev_var rfl r6) es_nil))) ⟨_, _, _, _, _, _, rfl, A.tup, by rw [if_pos hord, hns]⟩ rfl)) es_nil) cd_listT) es_nil)) (le5 rfl) st.i (Same.refl H20) _ fun v19 p19 G21 H21 x21 s21 n21 L19 => ?_
        have st21 := st.gx x21
        refine tg_name (G := G21) H21 st21.i _ ?_
        dsimp only [tSeq, tDrop]
        let ks : List Int := ivs (-1) ((lastI ns + 3) - (-1)).toNat
        have kl : ks.length ≤ 100 := by
          show (ivs _ _).length ≤ 100
          rw [ivs_len]; omega
        have soft : ∀ {σ' : L2.St} {G' : Hp} (m : Nat) (d : PyData), [lBlk b, .list (dStrs o), lLat lat][m]? = some d → σ'[18]? = some (some v18) → Same G19 G' → EvD (tOp (rIxL K) (tVar 18) (tC (.int (m : Nat)))) σ' G' d := fun m d hm hs s => ev_op (ev_var hs (r18.up s)) ev_int (od_ixL rfl hm)
        refine lm_app L19 rfl (d := .list (ks.map fun k => issuedD o ns k)) (ev_lcB (as := ks) PyData.int (fun k => issuedD o ns k) (ei_rng2 (es_cons (ev_un ev_int ud_neg) (es_cons (ev_op (ev_var rfl (.int (lastI ns))) ev_int od_add) es_nil)) ⟨by omega, by omega, by omega, by omega⟩) (by omega) fun k hk' G' y' s' ry => ⟨_, tg_name, rfl, ev_iat (es_cons (soft 0 _ rfl rfl (x21.g.trans s')) (es_cons (soft 1 _ rfl rfl (x21.g.trans s')) (es_cons (soft 2 _ rfl rfl (x21.g.trans s')) (es_cons (ev_var rfl ry) es_nil)))) A.lis hord (by rw [hns])⟩) (show 2 < 100000 by decide) st21.i s21 _ fun G22 H22 g22 i22 s22 k22 f22 L19 => ?_
        have gu22 : G22 u = none := by
          cases z : G22 u with
          | none => rfl
          | some ob =>
            have := f22 _ _ z st21.gu
            obtain ⟨o', e'⟩ := st21.un.at
            rw [this] at e'; cases e'
        have st22 : Stt u H G22 H22 (130 * j + 101 + 7 * (k + 1)) := ⟨i22, gu22, st.un.eq (by obtain ⟨o', e'⟩ := st.un.at; rw [e']; exact s22 _ _ e'), fun a ob c e => s22 _ _ (st.k a ob c e)⟩
        try dsimp only [tSeq, tAsg]
        have g1922 := x21.g.trans g22
        have r7 := r7.up g1922
        have r10 := r10.up g1922
        have rN := rN.up g1922
        refine ev_lst (es_cons (ev_is (f := .int ((idleL ns).length : Nat)) (ev_cb (es_cons (ev_var rfl r10) es_nil) cd_lenL) (by rw [List.length_map])) (es_cons (ev_var rfl r7) (es_cons (ev_lcB (as := ks) PyData.int (fun k => issuedD o ns k) (ei_rng2 (es_cons (ev_un ev_int ud_neg) (es_cons (ev_op (ev_var rfl (.int (lastI ns))) ev_int od_add) es_nil)) ⟨by omega, by omega, by omega, by omega⟩) (by omega) fun k hk' G' y' s' ry => ⟨_, tg_name, rfl, ev_is (ev_dget1 (k := .inl k) (ek_var rfl (rN.up s')) (ev_var rfl ry)) (named ns o k)⟩) es_nil))) (le5 rfl) H22 st22.i _ fun v20 G23 H23 x23 r20 => ?_
        have st23 := st22.gx x23
        have L19 := L19.up x23
        refine tg_name (G := G23) H23 st23.i _ ?_
        dsimp only [tSeq]
        have g1923 := g1922.trans x23.g
        have r12 := r12.up g1923
        refine cons_at (lm_cat L19 rfl (es := [.tuple ((stret ns).map dPI), .list [lBlk b, .list (dStrs o), lLat lat]]) (es_cons (ev_idl (es_cons (soft 0 _ rfl rfl g1923) (es_cons (soft 1 _ rfl rfl g1923) (es_cons (soft 2 _ rfl rfl g1923) es_nil))) A.lis hord (by rw [hns])) (es_cons (ev_var rfl (r18.up g1923)) es_nil)) (le5 rfl) st23.i (s22.trans x23.h) _ fun vG pG G24 H24 x24 s24 n24 LG => ?_)
        have st24 := st23.gx x24
        refine cons_at (ev_op (ev_var rfl (r20.up x24.g)) (ev_lst (es_cons (ev_var rfl (r12.up x24.g)) es_nil) (le5 rfl)) (od_catL (le5 rfl)) H24 st24.i _ fun vQ G25 H25 x25 rQ => ⟨_, _, rfl, ?_⟩)
        have st25 := st24.gx x25
        have LG := LG.up x25
        obtain ⟨Ga, sa, ia, ra⟩ := LG.tell st25.i
        dsimp only [tIfS]
        have g1925 := g1923.trans (x24.g.trans x25.g)
        have r2 := (r2.up g1925).up sa
        have r5 := (r5.up g1925).up sa
        have r6 := (r6.up g1925).up sa
        have hD : okS 12 (.list [.int ((idleL ns).length : Nat), .list (ns.map .int), .list (ks.map fun k => issuedD o ns k), .tuple ((stret ns).map dPI), .list [lBlk b, .list (dStrs o), lLat lat]]) = true := by
          refine okS_lst (le5 rfl) fun x hx => ?_
          simp only [List.mem_cons, List.not_mem_nil, or_false] at hx
          rcases hx with rfl | rfl | rfl | rfl | rfl
          · exact okS_int _ _
          · exact okS_lst (by rw [List.length_map]; omega) (okS_ints ns)
          · refine okS_lst (by rw [List.length_map]; omega) fun y hy => ?_
            obtain ⟨k, _, rfl⟩ := List.mem_map.mp hy
            exact okS_issued O.nm
          · refine okS_tup (by rw [List.length_map]; omega) fun y hy => ?_
            obtain ⟨p, _, rfl⟩ := List.mem_map.mp hy
            exact okS_tup (le5 rfl) fun w hw => by
              simp only [List.mem_cons, List.not_mem_nil, or_false] at hw
              rcases hw with rfl | rfl <;> exact okS_int _ _
          · refine okS_lst (le5 rfl) fun y hy => ?_
            simp only [List.mem_cons, List.not_mem_nil, or_false] at hy
            rcases hy with rfl | rfl | rfl
            · exact okS_lblk (n := 6) B
            · exact okS_lst (by rw [strs_len]; omega) (okS_strs O.nm)
            · exact okS_llat (n := 8) B T
        refine (eb_not (a := true) (eb_test (ev_call (R := RSame 13) (es_cons (ev_var rfl ra) (es_cons (ev_op (ev_var rfl (rQ.up sa)) (ev_lst (es_cons (ev_lst (es_cons (ev_is (ev_call (R := RLis 13) (es_cons (ev_var rfl r2) es_nil) ⟨_, 12, rfl, rfl, okD_blk B.bs, rfl⟩ rfl) (lisN_blk b)) (es_cons (ev_cb (es_cons (ev_var rfl r5) es_nil) cd_listT) (es_cons (ev_is (ev_call (R := RLis 13) (es_cons (ev_var rfl r6) es_nil) ⟨_, 12, rfl, rfl, okD_lat A.ll, rfl⟩ rfl) (lisN_lat lat)) es_nil))) (le5 rfl)) es_nil) (le5 rfl)) (od_catL (le5 rfl))) es_nil)) ⟨_, 12, rfl, rfl, hD, rfl⟩ rfl))) H25 ia _ fun H26 s26 => ?_
        rw [if_neg (by simp)]
        have gAll : Same G6 G25 := y7.g.trans (x8.g.trans (x9.g.trans (g12.trans (g14.trans (g15.trans (x16.g.trans (g19.trans (g1923.trans (x24.g.trans x25.g)))))))))
        exact ⟨G25, s6.trans gAll, st25.i.trans s26, _, _, _, _, _, _, _, _, _, _, _, _, _, _, _, _, _, _, rfl, g5.trans gAll, (st25.gx (Gx.grow st25.i s26)).le (by push_cast; omega)⟩
    · obtain ⟨w1, w4, w5, w6, w7, w8, w9, w10, w11, w12, w13, w14, w15, w16, w17, w18, w19, w20, rfl, g5, st'⟩ := iw
      rw [ivs_len] at st'
      refine ⟨G', (s1.trans y.g).trans (x3.g.trans (x4.g.trans (x5.g.trans g5))), st'.i, _, _, _, _, _, _, _, _, _, _, _, _, _, _, _, _, _, _, _, _, rfl, st'.le (by omega)⟩
  · obtain ⟨z1, z2, z3, z4, z5, z6, z7, z8, z9, z10, z11, z12, z13, z14, z15, z16, z17, z18, z19, z20, rfl, st⟩ := iv
    exact q H' st.k
end K11
set_option Elab.async false
set_option linter.all false
set_option maxRecDepth 100000
set_option maxHeartbeats 8000000
set_option autoImplicit false
/-! K11Law: the law; the defs that call themselves. -/
namespace K11
open PySem PySem.Spec PyProof.Rows L2 RZ
variable {P : Program} {w : World} {K : PySem.W.Frag} {mg : Str → Option Value} {base : Heap} {f : Addr} {fd : FuncData} {tL tN : Tok}
abbrev s_law : Stmt := top 37
abbrev N_law : List Str := ["_law_script", "_law_cells_here", "_law_k"]
theorem sc_law : FnScope N_law ["_law_script"] (defScope s_law) := ⟨rfl, rfl, rfl, by decide +kernel, rfl, by decide +kernel, by decide +kernel⟩
def SpLaw (K : PySem.W.Frag) : Sp := fun vs H Q _ => ∃ (a : Addr) (ns : List Int), vs = [.ref a] ∧ SqL K H a (ns.map V.int) ∧ ns.length ≤ 63 ∧ ∀ H', Q (.bl true) H'
theorem ok_law (F : Fun K "law" "law" s_law f fd) (M : Mg mg tL tN) (c_law_cells : Cal P w K mg base CX0 1 "_law_cells" ["_law_script", "_law_top"] (SpCells K)) (c_law_box : Cal P w K mg base CX0 1 "_law_box" ["_law_script", "_law_k"] (SpBox K))
    (c_law_by_hand_right : Cal P w K mg base CX0 30 "_law_by_hand_right" [] SpHand) (c_law_right : Cal P w K mg base CX0 30 "_law_right" ["_law_urn"] SpRight) : FnOk P w K mg base CX0 40 f fd ["_law_script"] (SpLaw K) := by
  refine F.ok sc_law (fun vs H Q E h => by obtain ⟨a, ns, rfl, _⟩ := h; rfl) (fun cdv A outer s H vs Q E hr h => ?_)
  obtain ⟨a, ns, rfl, hS, h63, q⟩ := h
  refine ⟨_, (pss_cons (ps_set (i := 1) sc_law.nd rfl (.inr rfl) (pe_call c_law_cells.ok (hr.mono (by decide)) (by rfl) c_law_cells.m c_law_cells.kp c_law_cells.b .nil pass0 (pa_cons (pv 0) (pa_cons pe_int pa_nil))))
    (pss_one (ps_ret (pe_and (pe_call0 c_law_by_hand_right.ok (hr.mono (by decide)) (by rfl) c_law_by_hand_right.m c_law_by_hand_right.kp c_law_by_hand_right.b .nil pass0) (pe_one (pe_callB (cr_all rfl) (by rfl) M.all_ (by decide +kernel) (pa_cons (pe_lc (own := [("_law_k", 2)]) (g := gName 2) (tt := tYes) rfl sc_law.nd (pi_range1 (by rfl) M.range (pa_cons (pe_callB call_len_seq (by rfl) M.len (by decide +kernel) (pa_cons (pv 1) pa_nil)) pa_nil)) (blkOk_by (N := N_law) (sc := defScope s_law) (by decide +kernel)) (fun _ _ _ _ _ => (pg_name (i := 2) sc_law.nd rfl (.inl rfl))) (fun _ _ _ _ _ => pts_nil) (fun _ _ _ _ _ => (pe_call c_law_right.ok (hr.mono (by decide)) (by rfl) c_law_right.m c_law_right.kp c_law_right.b .nil pass0 (pa_cons (pe_call c_law_box.ok (hr.mono (by decide)) (by rfl) c_law_box.m c_law_box.kp c_law_box.b .nil pass0 (pa_cons (pv 1) (pa_cons (pv 2) pa_nil))) pa_nil)))) pa_nil))))))), ?_⟩
  dsimp only [tSeq, tAsg]
  refine ⟨_, rfl, a, ns, rfl, hS, h63, fun p H2 cs s2 hp h2 cl => ?_⟩
  refine tg_name (G := H) H2 s2 _ ?_
  dsimp only [tRet]
  refine ⟨rfl, fun H3 s3 => ⟨true, rfl, ?_⟩⟩
  rw [if_pos rfl]
  let G : Hp := fun b => if b = p then some (.lst (cs.map V.int)) else none
  have gp : G p = some (.lst (cs.map V.int)) := if_pos rfl
  have i3 : Same G H3 := fun b o e => by
    by_cases c : b = p
    · subst c; rw [gp] at e; cases e; exact s3 _ _ h2
    · have : G b = none := if_neg c
      rw [this] at e; cases e
  have rc : Rp G (.ref p) (.list (cs.map .int)) := .lst gp (Rps.ofInts cs)
  refine ev_cb (es_cons (ev_is (f := .list (((ivs 0 cs.length).map fun _ => true).map .bool)) (ev_lcB (as := ivs 0 cs.length) PyData.int (fun _ => .bool true) (ev_is_i (ei_rng1 (es_cons (ev_cb (es_cons (ev_var rfl rc) es_nil) cd_lenL) es_nil) (by omega) (by rw [List.length_map]; omega)) (by rw [Int.toNat_natCast, List.length_map])) (by rw [ivs_len]; omega) fun k hk G4 y s4 ry => ?_) (by rw [List.map_map]; rfl)) es_nil) cd_all H3 i3 _ fun v4 G4 H4 x4 r4 => ?_
  · cases ry.isInt
    obtain ⟨k0, k1⟩ := ivs_mem hk
    refine ⟨_, tg_name, rfl, fun H5 i5 Q' q' => ?_⟩
    refine ⟨_, rfl, _, rfl, p, cs, k, rfl, SqL.of (i5 _ _ (s4 _ _ gp)), k0, k1, cl, fun u a' b' hu b0 b1 => ⟨u, rfl, ⟨a', b', 0, upd_same, b0, b1, by decide, by decide⟩, fun H6 k6 => ?_⟩⟩
    have sHH : Same H5 H6 := fun c o e => k6 c o (ne_of_none e hu) (by rw [upd_ne (ne_of_none e hu)]; exact e)
    exact q' _ G4 H6 (Gx.grow i5 sHH) (.bl true)
  · have : (((ivs 0 cs.length).map fun _ => true).all id) = true := List.all_eq_true.mpr fun x hx => by
      obtain ⟨_, _, rfl⟩ := List.mem_map.mp hx
      rfl
    rw [this] at r4
    cases r4.isBool
    exact q H4
/-! ### the defs that call themselves -/
theorem all_tupled (F : Fun K "tupled" "tupled" s_tupled f fd) (M : Mg mg tL tN) (b : Binds K fd ["value"] []) (m : mg "tupled" = some (.ref f)) : ∀ n, FnOk P w K mg base CX0 n f fd ["value"] (SpF 1 (RTup n))
  | 0 => ⟨fun vs H Q E h => h.len, fun A outer s H args us vs Q E _ _ _ _ h => by
      obtain ⟨_, _, _, _, _, _, ⟨_, _, e, _⟩, _⟩ := h
      cases e⟩
  | n + 1 => ok_tupled F M ⟨f, fd, all_tupled F M b m n, b, F.kp, m⟩
theorem all_lists (F : Fun K "_law_lists" "_law_lists" s_law_lists f fd) (M : Mg mg tL tN) (b : Binds K fd ["_law_thing_so"] []) (m : mg "_law_lists" = some (.ref f)) : ∀ n, FnOk P w K mg base CX0 n f fd ["_law_thing_so"] (SpD 1 (RLis n))
  | 0 => ⟨fun vs H Q E h => h.len, fun A outer s H args us vs Q E _ _ _ _ h => by
      obtain ⟨_, _, _, _, _, _, ⟨_, _, e, _⟩, _⟩ := h
      cases e⟩
  | n + 1 => ok_law_lists F M ⟨f, fd, all_lists F M b m n, b, F.kp, m⟩
theorem all_same (F : Fun K "_law_same" "_law_same" s_law_same f fd) (M : Mg mg tL tN) (b : Binds K fd ["_law_got", "_law_goal"] []) (m : mg "_law_same" = some (.ref f)) : ∀ n, n ≤ 20 → FnOk P w K mg base CX0 n f fd ["_law_got", "_law_goal"] (SpD 2 (RSame n))
  | 0, _ => ⟨fun vs H Q E h => h.len, fun A outer s H args us vs Q E _ _ _ _ h => by
      obtain ⟨_, _, _, _, _, _, ⟨_, _, e, _⟩, _⟩ := h
      cases e⟩
  | n + 1, h => ok_law_same F M ⟨f, fd, all_same F M b m n (by omega), b, F.kp, m⟩ (by omega)
end K11
set_option Elab.async false
set_option linter.all false
set_option maxRecDepth 100000
set_option maxHeartbeats 8000000
set_option autoImplicit false
/-! K11End: all put together. -/
namespace K11
open PySem PySem.Spec PyProof.Rows L2 RZ
theorem kit_sub {K : PySem.W.Frag} {C : Addr} (h : PySem.W.subIn K (.ref C) (.type "ValueError") = some true) : PySem.W.kitOne K (.ref C) (.type "ValueError") = some true := by
  unfold PySem.W.kitOne
  rw [if_neg (by simp)]
  show (if PySem.W.kitMeta "ValueError" = true then PySem.W.subIn K (.ref C) (.type "ValueError") else none) = some true
  rw [if_pos (by decide +kernel)]
  exact h
/-! ### the program's top, told as premises -/
theorem all_mk {l : PySem.W.OpenLaw} {w : World} {K : PySem.W.Frag} {h : Heap} {mg : Str → Option Value} {fa C f1 f2 f3 f4 f5 f6 f7 f8 f9 f10 f11 f12 f13 f14 f15 f16 f17 f18 f19 f20 f21 f22 f23 f24 f25 f26 f27 f28 f29 f30 : Addr} {tL tN : Tok} (X : K.In h) (G : h.Ns mainGlobals mg) (hfa : mg "law" = some (.ref fa))
    {od1 an1 od2 an2 od3 an3 od4 an4 od5 an5 od6 an6 od7 an7 od8 an8 od9 an9 od10 an10 od11 an11 od12 an12 od13 an13 od14 an14 od15 an15 od16 an16 od17 an17 od18 an18 od19 an19 od20 an20 od21 an21 od22 an22 od23 an23 od24 an24 od25 an25 od26 an26 od27 an27 od28 an28 od29 an29 od30 an30 : Option Addr}
    {sl1 sl2 sl3 sl4 sl5 sl6 sl7 sl8 sl9 sl10 sl11 sl12 sl13 sl14 sl15 sl16 sl17 sl18 sl19 sl20 sl21 sl22 sl23 sl24 sl25 sl26 sl27 sl28 sl29 sl30 : Array (Option Value)}
    {oc1 kV1 dc1 pm1 cd1 ct1 oc2 kV2 dc2 pm2 cd2 ct2 oc3 kV3 dc3 pm3 cd3 ct3 oc4 kV4 dc4 pm4 cd4 ct4 oc5 kV5 dc5 pm5 cd5 ct5 oc6 kV6 dc6 pm6 cd6 ct6 oc7 kV7 dc7 pm7 cd7 ct7 oc8 kV8 dc8 pm8 cd8 ct8 oc9 kV9 dc9 pm9 cd9 ct9 oc10 kV10 dc10 pm10 cd10 ct10 oc11 kV11 dc11 pm11 cd11 ct11 oc12 kV12 dc12 pm12 cd12 ct12 oc13 kV13 dc13 pm13 cd13 ct13 oc14 kV14 dc14 pm14 cd14 ct14 oc15 kV15 dc15 pm15 cd15 ct15 oc16 kV16 dc16 pm16 cd16 ct16 oc17 kV17 dc17 pm17 cd17 ct17 oc18 kV18 dc18 pm18 cd18 ct18 oc19 kV19 dc19 pm19 cd19 ct19 oc20 kV20 dc20 pm20 cd20 ct20 oc21 kV21 dc21 pm21 cd21 ct21 oc22 kV22 dc22 pm22 cd22 ct22 oc23 kV23 dc23 pm23 cd23 ct23 oc24 kV24 dc24 pm24 cd24 ct24 oc25 kV25 dc25 pm25 cd25 ct25 oc26 kV26 dc26 pm26 cd26 ct26 oc27 kV27 dc27 pm27 cd27 ct27 oc28 kV28 dc28 pm28 cd28 ct28 oc29 kV29 dc29 pm29 cd29 ct29 oc30 kV30 dc30 pm30 cd30 ct30 : Value}
    (a1 : PySem.W.nsIn K mainGlobals "is_name" = some (some (.ref f1))) (l1 : K.lookup f1 = some ⟨oc1, od1, .func (PySem.W.fnOf "is_name" "is_name" (defArgs s_is_name) (defBody s_is_name) (defScope s_is_name) .none kV1 dc1 pm1 an1 cd1 ct1), sl1⟩) (c1 : PySem.W.codeIn K cd1 "is_name" = true) (k1 : PySem.W.keepIn K (.ref f1) = true)
    (a2 : PySem.W.nsIn K mainGlobals "tupled" = some (some (.ref f2))) (l2 : K.lookup f2 = some ⟨oc2, od2, .func (PySem.W.fnOf "tupled" "tupled" (defArgs s_tupled) (defBody s_tupled) (defScope s_tupled) .none kV2 dc2 pm2 an2 cd2 ct2), sl2⟩) (c2 : PySem.W.codeIn K cd2 "tupled" = true) (k2 : PySem.W.keepIn K (.ref f2) = true)
    (a3 : PySem.W.nsIn K mainGlobals "table_of" = some (some (.ref f3))) (l3 : K.lookup f3 = some ⟨oc3, od3, .func (PySem.W.fnOf "table_of" "table_of" (defArgs s_table_of) (defBody s_table_of) (defScope s_table_of) .none kV3 dc3 pm3 an3 cd3 ct3), sl3⟩) (c3 : PySem.W.codeIn K cd3 "table_of" = true) (k3 : PySem.W.keepIn K (.ref f3) = true)
    (a4 : PySem.W.nsIn K mainGlobals "names_in" = some (some (.ref f4))) (l4 : K.lookup f4 = some ⟨oc4, od4, .func (PySem.W.fnOf "names_in" "names_in" (defArgs s_names_in) (defBody s_names_in) (defScope s_names_in) .none kV4 dc4 pm4 an4 cd4 ct4), sl4⟩) (c4 : PySem.W.codeIn K cd4 "names_in" = true) (k4 : PySem.W.keepIn K (.ref f4) = true)
    (a5 : PySem.W.nsIn K mainGlobals "is_order" = some (some (.ref f5))) (l5 : K.lookup f5 = some ⟨oc5, od5, .func (PySem.W.fnOf "is_order" "is_order" (defArgs s_is_order) (defBody s_is_order) (defScope s_is_order) .none kV5 dc5 pm5 an5 cd5 ct5), sl5⟩) (c5 : PySem.W.codeIn K cd5 "is_order" = true) (k5 : PySem.W.keepIn K (.ref f5) = true)
    (a6 : PySem.W.nsIn K mainGlobals "check_order" = some (some (.ref f6))) (l6 : K.lookup f6 = some ⟨oc6, od6, .func (PySem.W.fnOf "check_order" "check_order" (defArgs s_check_order) (defBody s_check_order) (defScope s_check_order) .none kV6 dc6 pm6 an6 cd6 ct6), sl6⟩) (c6 : PySem.W.codeIn K cd6 "check_order" = true) (k6 : PySem.W.keepIn K (.ref f6) = true)
    (a7 : PySem.W.nsIn K mainGlobals "ticks_of" = some (some (.ref f7))) (l7 : K.lookup f7 = some ⟨oc7, od7, .func (PySem.W.fnOf "ticks_of" "ticks_of" (defArgs s_ticks_of) (defBody s_ticks_of) (defScope s_ticks_of) .none kV7 dc7 pm7 an7 cd7 ct7), sl7⟩) (c7 : PySem.W.codeIn K cd7 "ticks_of" = true) (k7 : PySem.W.keepIn K (.ref f7) = true)
    (a8 : PySem.W.nsIn K mainGlobals "issue_ticks" = some (some (.ref f8))) (l8 : K.lookup f8 = some ⟨oc8, od8, .func (PySem.W.fnOf "issue_ticks" "issue_ticks" (defArgs s_issue_ticks) (defBody s_issue_ticks) (defScope s_issue_ticks) .none kV8 dc8 pm8 an8 cd8 ct8), sl8⟩) (c8 : PySem.W.codeIn K cd8 "issue_ticks" = true) (k8 : PySem.W.keepIn K (.ref f8) = true)
    (a9 : PySem.W.nsIn K mainGlobals "idle_stretches" = some (some (.ref f9))) (l9 : K.lookup f9 = some ⟨oc9, od9, .func (PySem.W.fnOf "idle_stretches" "idle_stretches" (defArgs s_idle_stretches) (defBody s_idle_stretches) (defScope s_idle_stretches) .none kV9 dc9 pm9 an9 cd9 ct9), sl9⟩) (c9 : PySem.W.codeIn K cd9 "idle_stretches" = true) (k9 : PySem.W.keepIn K (.ref f9) = true)
    (a10 : PySem.W.nsIn K mainGlobals "how_many_idle" = some (some (.ref f10))) (l10 : K.lookup f10 = some ⟨oc10, od10, .func (PySem.W.fnOf "how_many_idle" "how_many_idle" (defArgs s_how_many_idle) (defBody s_how_many_idle) (defScope s_how_many_idle) .none kV10 dc10 pm10 an10 cd10 ct10), sl10⟩) (c10 : PySem.W.codeIn K cd10 "how_many_idle" = true) (k10 : PySem.W.keepIn K (.ref f10) = true)
    (a11 : PySem.W.nsIn K mainGlobals "issued_at" = some (some (.ref f11))) (l11 : K.lookup f11 = some ⟨oc11, od11, .func (PySem.W.fnOf "issued_at" "issued_at" (defArgs s_issued_at) (defBody s_issued_at) (defScope s_issued_at) .none kV11 dc11 pm11 an11 cd11 ct11), sl11⟩) (c11 : PySem.W.codeIn K cd11 "issued_at" = true) (k11 : PySem.W.keepIn K (.ref f11) = true)
    (a12 : PySem.W.nsIn K mainGlobals "_law_box" = some (some (.ref f12))) (l12 : K.lookup f12 = some ⟨oc12, od12, .func (PySem.W.fnOf "_law_box" "_law_box" (defArgs s_law_box) (defBody s_law_box) (defScope s_law_box) .none kV12 dc12 pm12 an12 cd12 ct12), sl12⟩) (c12 : PySem.W.codeIn K cd12 "_law_box" = true) (k12 : PySem.W.keepIn K (.ref f12) = true)
    (a13 : PySem.W.nsIn K mainGlobals "_law_take" = some (some (.ref f13))) (l13 : K.lookup f13 = some ⟨oc13, od13, .func (PySem.W.fnOf "_law_take" "_law_take" (defArgs s_law_take) (defBody s_law_take) (defScope s_law_take) .none kV13 dc13 pm13 an13 cd13 ct13), sl13⟩) (c13 : PySem.W.codeIn K cd13 "_law_take" = true) (k13 : PySem.W.keepIn K (.ref f13) = true)
    (a14 : PySem.W.nsIn K mainGlobals "_law_cells" = some (some (.ref f14))) (l14 : K.lookup f14 = some ⟨oc14, od14, .func (PySem.W.fnOf "_law_cells" "_law_cells" (defArgs s_law_cells) (defBody s_law_cells) (defScope s_law_cells) .none kV14 dc14 pm14 an14 cd14 ct14), sl14⟩) (c14 : PySem.W.codeIn K cd14 "_law_cells" = true) (k14 : PySem.W.keepIn K (.ref f14) = true)
    (a15 : PySem.W.nsIn K mainGlobals "_law_of" = some (some (.ref f15))) (l15 : K.lookup f15 = some ⟨oc15, od15, .func (PySem.W.fnOf "_law_of" "_law_of" (defArgs s_law_of) (defBody s_law_of) (defScope s_law_of) .none kV15 dc15 pm15 an15 cd15 ct15), sl15⟩) (c15 : PySem.W.codeIn K cd15 "_law_of" = true) (k15 : PySem.W.keepIn K (.ref f15) = true)
    (a16 : PySem.W.nsIn K mainGlobals "_law_same" = some (some (.ref f16))) (l16 : K.lookup f16 = some ⟨oc16, od16, .func (PySem.W.fnOf "_law_same" "_law_same" (defArgs s_law_same) (defBody s_law_same) (defScope s_law_same) .none kV16 dc16 pm16 an16 cd16 ct16), sl16⟩) (c16 : PySem.W.codeIn K cd16 "_law_same" = true) (k16 : PySem.W.keepIn K (.ref f16) = true)
    (a17 : PySem.W.nsIn K mainGlobals "_law_lists" = some (some (.ref f17))) (l17 : K.lookup f17 = some ⟨oc17, od17, .func (PySem.W.fnOf "_law_lists" "_law_lists" (defArgs s_law_lists) (defBody s_law_lists) (defScope s_law_lists) .none kV17 dc17 pm17 an17 cd17 ct17), sl17⟩) (c17 : PySem.W.codeIn K cd17 "_law_lists" = true) (k17 : PySem.W.keepIn K (.ref f17) = true)
    (a18 : PySem.W.nsIn K mainGlobals "_law_mixed" = some (some (.ref f18))) (l18 : K.lookup f18 = some ⟨oc18, od18, .func (PySem.W.fnOf "_law_mixed" "_law_mixed" (defArgs s_law_mixed) (defBody s_law_mixed) (defScope s_law_mixed) .none kV18 dc18 pm18 an18 cd18 ct18), sl18⟩) (c18 : PySem.W.codeIn K cd18 "_law_mixed" = true) (k18 : PySem.W.keepIn K (.ref f18) = true)
    (a19 : PySem.W.nsIn K mainGlobals "_law_tags" = some (some (.ref f19))) (l19 : K.lookup f19 = some ⟨oc19, od19, .func (PySem.W.fnOf "_law_tags" "_law_tags" (defArgs s_law_tags) (defBody s_law_tags) (defScope s_law_tags) .none kV19 dc19 pm19 an19 cd19 ct19), sl19⟩) (c19 : PySem.W.codeIn K cd19 "_law_tags" = true) (k19 : PySem.W.keepIn K (.ref f19) = true)
    (a20 : PySem.W.nsIn K mainGlobals "_law_names" = some (some (.ref f20))) (l20 : K.lookup f20 = some ⟨oc20, od20, .func (PySem.W.fnOf "_law_names" "_law_names" (defArgs s_law_names) (defBody s_law_names) (defScope s_law_names) .none kV20 dc20 pm20 an20 cd20 ct20), sl20⟩) (c20 : PySem.W.codeIn K cd20 "_law_names" = true) (k20 : PySem.W.keepIn K (.ref f20) = true)
    (a21 : PySem.W.nsIn K mainGlobals "_law_under" = some (some (.ref f21))) (l21 : K.lookup f21 = some ⟨oc21, od21, .func (PySem.W.fnOf "_law_under" "_law_under" (defArgs s_law_under) (defBody s_law_under) (defScope s_law_under) .none kV21 dc21 pm21 an21 cd21 ct21), sl21⟩) (c21 : PySem.W.codeIn K cd21 "_law_under" = true) (k21 : PySem.W.keepIn K (.ref f21) = true)
    (a22 : PySem.W.nsIn K mainGlobals "_law_block" = some (some (.ref f22))) (l22 : K.lookup f22 = some ⟨oc22, od22, .func (PySem.W.fnOf "_law_block" "_law_block" (defArgs s_law_block) (defBody s_law_block) (defScope s_law_block) .none kV22 dc22 pm22 an22 cd22 ct22), sl22⟩) (c22 : PySem.W.codeIn K cd22 "_law_block" = true) (k22 : PySem.W.keepIn K (.ref f22) = true)
    (a23 : PySem.W.nsIn K mainGlobals "_law_host" = some (some (.ref f23))) (l23 : K.lookup f23 = some ⟨oc23, od23, .func (PySem.W.fnOf "_law_host" "_law_host" (defArgs s_law_host) (defBody s_law_host) (defScope s_law_host) .none kV23 dc23 pm23 an23 cd23 ct23), sl23⟩) (c23 : PySem.W.codeIn K cd23 "_law_host" = true) (k23 : PySem.W.keepIn K (.ref f23) = true)
    (a24 : PySem.W.nsIn K mainGlobals "_law_orders" = some (some (.ref f24))) (l24 : K.lookup f24 = some ⟨oc24, od24, .func (PySem.W.fnOf "_law_orders" "_law_orders" (defArgs s_law_orders) (defBody s_law_orders) (defScope s_law_orders) .none kV24 dc24 pm24 an24 cd24 ct24), sl24⟩) (c24 : PySem.W.codeIn K cd24 "_law_orders" = true) (k24 : PySem.W.keepIn K (.ref f24) = true)
    (a25 : PySem.W.nsIn K mainGlobals "_law_run" = some (some (.ref f25))) (l25 : K.lookup f25 = some ⟨oc25, od25, .func (PySem.W.fnOf "_law_run" "_law_run" (defArgs s_law_run) (defBody s_law_run) (defScope s_law_run) .none kV25 dc25 pm25 an25 cd25 ct25), sl25⟩) (c25 : PySem.W.codeIn K cd25 "_law_run" = true) (k25 : PySem.W.keepIn K (.ref f25) = true)
    (a26 : PySem.W.nsIn K mainGlobals "_law_times" = some (some (.ref f26))) (l26 : K.lookup f26 = some ⟨oc26, od26, .func (PySem.W.fnOf "_law_times" "_law_times" (defArgs s_law_times) (defBody s_law_times) (defScope s_law_times) .none kV26 dc26 pm26 an26 cd26 ct26), sl26⟩) (c26 : PySem.W.codeIn K cd26 "_law_times" = true) (k26 : PySem.W.keepIn K (.ref f26) = true)
    (a27 : PySem.W.nsIn K mainGlobals "_law_heard" = some (some (.ref f27))) (l27 : K.lookup f27 = some ⟨oc27, od27, .func (PySem.W.fnOf "_law_heard" "_law_heard" (defArgs s_law_heard) (defBody s_law_heard) (defScope s_law_heard) .none kV27 dc27 pm27 an27 cd27 ct27), sl27⟩) (c27 : PySem.W.codeIn K cd27 "_law_heard" = true) (k27 : PySem.W.keepIn K (.ref f27) = true)
    (a28 : PySem.W.nsIn K mainGlobals "_law_by_hand_right" = some (some (.ref f28))) (l28 : K.lookup f28 = some ⟨oc28, od28, .func (PySem.W.fnOf "_law_by_hand_right" "_law_by_hand_right" (defArgs s_law_by_hand_right) (defBody s_law_by_hand_right) (defScope s_law_by_hand_right) .none kV28 dc28 pm28 an28 cd28 ct28), sl28⟩) (c28 : PySem.W.codeIn K cd28 "_law_by_hand_right" = true) (k28 : PySem.W.keepIn K (.ref f28) = true)
    (a29 : PySem.W.nsIn K mainGlobals "_law_right" = some (some (.ref f29))) (l29 : K.lookup f29 = some ⟨oc29, od29, .func (PySem.W.fnOf "_law_right" "_law_right" (defArgs s_law_right) (defBody s_law_right) (defScope s_law_right) .none kV29 dc29 pm29 an29 cd29 ct29), sl29⟩) (c29 : PySem.W.codeIn K cd29 "_law_right" = true) (k29 : PySem.W.keepIn K (.ref f29) = true)
    (a30 : PySem.W.nsIn K mainGlobals "law" = some (some (.ref f30))) (l30 : K.lookup f30 = some ⟨oc30, od30, .func (PySem.W.fnOf "law" "law" (defArgs s_law) (defBody s_law) (defScope s_law) .none kV30 dc30 pm30 an30 cd30 ct30), sl30⟩) (c30 : PySem.W.codeIn K cd30 "law" = true) (k30 : PySem.W.keepIn K (.ref f30) = true)
    (z1 : PySem.W.nsIn K mainGlobals "len" = some none)
    (z2 : PySem.W.nsIn K mainGlobals "abs" = some none)
    (z3 : PySem.W.nsIn K mainGlobals "sum" = some none)
    (z4 : PySem.W.nsIn K mainGlobals "max" = some none)
    (z5 : PySem.W.nsIn K mainGlobals "all" = some none)
    (z6 : PySem.W.nsIn K mainGlobals "sorted" = some none)
    (z7 : PySem.W.nsIn K mainGlobals "isinstance" = some none)
    (z8 : PySem.W.nsIn K mainGlobals "int" = some none)
    (z9 : PySem.W.nsIn K mainGlobals "str" = some none)
    (z10 : PySem.W.nsIn K mainGlobals "bool" = some none)
    (z11 : PySem.W.nsIn K mainGlobals "list" = some none)
    (z12 : PySem.W.nsIn K mainGlobals "tuple" = some none)
    (z13 : PySem.W.nsIn K mainGlobals "dict" = some none)
    (z14 : PySem.W.nsIn K mainGlobals "range" = some none)
    (z15 : PySem.W.nsIn K mainGlobals "zip" = some none)
    (z16 : PySem.W.nsIn K mainGlobals "enumerate" = some none)
    (zV : PySem.W.nsIn K mainGlobals "ValueError" = some none)
    (yL : PySem.W.nsIn K mainGlobals "LETTERS" = some (some (.str "abcdefghijklmnopqrstuvwxyz" tL))) (yN : PySem.W.nsIn K mainGlobals "LONGEST" = some (some (.int 8 tN)))
    (eC : PySem.W.nsIn K mainGlobals "NoOrder" = some (some (.ref C)))
    (eX : PySem.W.excIn K C [Value.type "ValueError", Value.type "Exception", Value.type "BaseException", Value.type "object"] "ValueError.__new__" = true)
    (eK : PySem.W.keepIn K (.ref C) = true)
    (eB : PySem.W.subIn K (.ref C) (.type "BaseException") = some true)
    (eT : PySem.W.typeIn K (.ref C) = some (.type "type"))
    (eS : PySem.W.subIn K (.ref C) (.ref C) = some true)
    (eV : PySem.W.subIn K (.ref C) (.type "ValueError") = some true)
    (eG : PySem.W.findIn K (.ref C) "__getattribute__" = some (some (.builtin "BaseException.__getattribute__")))
    (eH : PySem.W.findIn K (.ref C) "__getattr__" = some none)
    (eD : PySem.W.hasDictIn K C = true)
    (eA : PySem.W.findIn K (.ref C) "__class__" = some (some (.builtin "object.__class__")))
    (eN : PySem.W.specialIn K (.builtin "object.__class__") "__get__" = some (some (.builtin "getset_descriptor.__get__")))
    (eU : PySem.W.takesIn K (.builtin "object.__class__") = some true)
    (eM : PySem.W.mroIn K C (.type "object") = some true)
    : ∃ fd : FuncData, (∀ (s : Shared) (v : Value), BindsTo s fd ⟨[v], []⟩ [("_law_script", v)]) ∧ ∀ base : Heap, K.In base → base.Ns mainGlobals mg → FnOk l.prog w K mg base CX0 40 fa fd ["_law_script"] (SpLaw K) := by
  have e := hfa.symm.trans (PySem.W.mg_of X G a30)
  cases e
  have M : Mg mg tL tN := ⟨PySem.W.mg_none_of X G z1, PySem.W.mg_none_of X G z2, PySem.W.mg_none_of X G z3, PySem.W.mg_none_of X G z4, PySem.W.mg_none_of X G z5, PySem.W.mg_none_of X G z6, PySem.W.mg_none_of X G z7, PySem.W.mg_none_of X G z8, PySem.W.mg_none_of X G z9, PySem.W.mg_none_of X G z10, PySem.W.mg_none_of X G z11, PySem.W.mg_none_of X G z12, PySem.W.mg_none_of X G z13, PySem.W.mg_none_of X G z14, PySem.W.mg_none_of X G z15, PySem.W.mg_none_of X G z16, PySem.W.mg_of X G yL, PySem.W.mg_of X G yN⟩
  have kone : PySem.W.kitOne K (.ref C) (.type "ValueError") = some true := kit_sub eV
  have N : No K mg C := ⟨eX, PySem.W.mg_of X G eC, eK, eB, eT, PySem.W.exm_ref eB eD eT eS, ⟨eG, eH, eB, eD, eA, eN, eU, eM⟩, kone, PySem.W.mg_none_of X G zV⟩
  refine ⟨PySem.W.fnOf "law" "law" (defArgs s_law) (defBody s_law) (defScope s_law) .none kV30 dc30 pm30 an30 cd30 ct30, fun s v => .of_eq rfl, fun base _ _ => ?_⟩
  have F1 := fun_mk (st := s_is_name) l1 c1 k1
  have b1 := F1.binds (ps := ["value"]) fun _ _ _ _ _ _ us hl => match us, hl with | [_], _ => rfl
  have c_is_name : Cal l.prog w K mg base CX0 1 "is_name" ["value"] (SpD 1 RName) := ⟨f1, _, ok_is_name F1 M, b1, k1, PySem.W.mg_of X G a1⟩
  have F2 := fun_mk (st := s_tupled) l2 c2 k2
  have b2 := F2.binds (ps := ["value"]) fun _ _ _ _ _ _ us hl => match us, hl with | [_], _ => rfl
  have c_tupled : Cal l.prog w K mg base CX0 13 "tupled" ["value"] (SpTup) := ⟨f2, _, all_tupled F2 M b2 (PySem.W.mg_of X G a2) 13, b2, k2, PySem.W.mg_of X G a2⟩
  have F3 := fun_mk (st := s_table_of) l3 c3 k3
  have b3 := F3.binds (ps := ["block"]) fun _ _ _ _ _ _ us hl => match us, hl with | [_], _ => rfl
  have c_table_of : Cal l.prog w K mg base CX0 21 "table_of" ["block"] (SpK 1 RTab) := ⟨f3, _, ok_table_of F3 M c_tupled, b3, k3, PySem.W.mg_of X G a3⟩
  have F4 := fun_mk (st := s_names_in) l4 c4 k4
  have b4 := F4.binds (ps := ["block"]) fun _ _ _ _ _ _ us hl => match us, hl with | [_], _ => rfl
  have c_names_in : Cal l.prog w K mg base CX0 21 "names_in" ["block"] (SpD 1 RNms) := ⟨f4, _, ok_names_in F4 M c_tupled, b4, k4, PySem.W.mg_of X G a4⟩
  have F5 := fun_mk (st := s_is_order) l5 c5 k5
  have b5 := F5.binds (ps := ["block", "thing"]) fun _ _ _ _ _ _ us hl => match us, hl with | [_, _], _ => rfl
  have c_is_order : Cal l.prog w K mg base CX0 22 "is_order" ["block", "thing"] (SpD 2 ROrd) := ⟨f5, _, ok_is_order F5 M c_is_name c_names_in c_table_of, b5, k5, PySem.W.mg_of X G a5⟩
  have F6 := fun_mk (st := s_check_order) l6 c6 k6
  have b6 := F6.binds (ps := ["block", "order"]) fun _ _ _ _ _ _ us hl => match us, hl with | [_, _], _ => rfl
  have c_check_order : Cal l.prog w K mg base (L2.CX l.prog w) 23 "check_order" ["block", "order"] (SpX C 2 RChk) := ⟨f6, _, ok_check_order F6 M N c_tupled c_is_order, b6, k6, PySem.W.mg_of X G a6⟩
  have F7 := fun_mk (st := s_ticks_of) l7 c7 k7
  have b7 := F7.binds (ps := ["block", "order", "latencies"]) fun _ _ _ _ _ _ us hl => match us, hl with | [_, _, _], _ => rfl
  have c_ticks_of : Cal l.prog w K mg base CX0 22 "ticks_of" ["block", "order", "latencies"] (SpM 3 RTks) := ⟨f7, _, ok_ticks_of F7 M c_tupled c_table_of, b7, k7, PySem.W.mg_of X G a7⟩
  have F8 := fun_mk (st := s_issue_ticks) l8 c8 k8
  have b8 := F8.binds (ps := ["block", "order", "latencies"]) fun _ _ _ _ _ _ us hl => match us, hl with | [_, _, _], _ => rfl
  have c_issue_ticks : Cal l.prog w K mg base (L2.CX l.prog w) 24 "issue_ticks" ["block", "order", "latencies"] (SpX C 3 RIss) := ⟨f8, _, ok_issue_ticks F8 M c_check_order c_ticks_of, b8, k8, PySem.W.mg_of X G a8⟩
  have F9 := fun_mk (st := s_idle_stretches) l9 c9 k9
  have b9 := F9.binds (ps := ["block", "order", "latencies"]) fun _ _ _ _ _ _ us hl => match us, hl with | [_, _, _], _ => rfl
  let c_idle_stretches : Cal l.prog w K mg base (L2.CX l.prog w) 25 "idle_stretches" ["block", "order", "latencies"] (SpX C 3 RIdl) := ⟨f9, _, ok_idle_stretches F9 M c_issue_ticks, b9, k9, PySem.W.mg_of X G a9⟩
  have F10 := fun_mk (st := s_how_many_idle) l10 c10 k10
  have b10 := F10.binds (ps := ["block", "order", "latencies"]) fun _ _ _ _ _ _ us hl => match us, hl with | [_, _, _], _ => rfl
  let c_how_many_idle : Cal l.prog w K mg base (L2.CX l.prog w) 26 "how_many_idle" ["block", "order", "latencies"] (SpX C 3 RHow) := ⟨f10, _, ok_how_many_idle F10 M c_idle_stretches, b10, k10, PySem.W.mg_of X G a10⟩
  have F11 := fun_mk (st := s_issued_at) l11 c11 k11
  have b11 := F11.binds (ps := ["block", "order", "latencies", "tick"]) fun _ _ _ _ _ _ us hl => match us, hl with | [_, _, _, _], _ => rfl
  let c_issued_at : Cal l.prog w K mg base (L2.CX l.prog w) 25 "issued_at" ["block", "order", "latencies", "tick"] (SpX C 4 RAt) := ⟨f11, _, ok_issued_at F11 M c_issue_ticks c_tupled, b11, k11, PySem.W.mg_of X G a11⟩
  have F12 := fun_mk (st := s_law_box) l12 c12 k12
  have b12 := F12.binds (ps := ["_law_script", "_law_k"]) fun _ _ _ _ _ _ us hl => match us, hl with | [_, _], _ => rfl
  have c_law_box : Cal l.prog w K mg base CX0 1 "_law_box" ["_law_script", "_law_k"] (SpBox K) := ⟨f12, _, ok_law_box F12 M, b12, k12, PySem.W.mg_of X G a12⟩
  have F13 := fun_mk (st := s_law_take) l13 c13 k13
  have b13 := F13.binds (ps := ["_law_urn", "_law_low_so"]) fun _ _ _ _ _ _ us hl => match us, hl with | [_, _], _ => rfl
  have c_law_take : Cal l.prog w K mg base CX0 1 "_law_take" ["_law_urn", "_law_low_so"] (SpTake) := ⟨f13, _, ok_law_take F13 M, b13, k13, PySem.W.mg_of X G a13⟩
  have F14 := fun_mk (st := s_law_cells) l14 c14 k14
  have b14 := F14.binds (ps := ["_law_script", "_law_top"]) fun _ _ _ _ _ _ us hl => match us, hl with | [_, _], _ => rfl
  have c_law_cells : Cal l.prog w K mg base CX0 1 "_law_cells" ["_law_script", "_law_top"] (SpCells K) := ⟨f14, _, ok_law_cells F14 M, b14, k14, PySem.W.mg_of X G a14⟩
  have F15 := fun_mk (st := s_law_of) l15 c15 k15
  have b15 := F15.binds (ps := ["_law_urn", "_law_some_so"]) fun _ _ _ _ _ _ us hl => match us, hl with | [_, _], _ => rfl
  have c_law_of : Cal l.prog w K mg base CX0 2 "_law_of" ["_law_urn", "_law_some_so"] (SpOf) := ⟨f15, _, ok_law_of F15 M c_law_take, b15, k15, PySem.W.mg_of X G a15⟩
  have F16 := fun_mk (st := s_law_same) l16 c16 k16
  have b16 := F16.binds (ps := ["_law_got", "_law_goal"]) fun _ _ _ _ _ _ us hl => match us, hl with | [_, _], _ => rfl
  have c_law_same : Cal l.prog w K mg base CX0 13 "_law_same" ["_law_got", "_law_goal"] (SpD 2 (RSame 13)) := ⟨f16, _, all_same F16 M b16 (PySem.W.mg_of X G a16) 13 (by decide), b16, k16, PySem.W.mg_of X G a16⟩
  have F17 := fun_mk (st := s_law_lists) l17 c17 k17
  have b17 := F17.binds (ps := ["_law_thing_so"]) fun _ _ _ _ _ _ us hl => match us, hl with | [_], _ => rfl
  have c_law_lists : Cal l.prog w K mg base CX0 13 "_law_lists" ["_law_thing_so"] (SpD 1 (RLis 13)) := ⟨f17, _, all_lists F17 M b17 (PySem.W.mg_of X G a17) 13, b17, k17, PySem.W.mg_of X G a17⟩
  have F18 := fun_mk (st := s_law_mixed) l18 c18 k18
  have b18 := F18.binds (ps := ["_law_urn", "_law_pool"]) fun _ _ _ _ _ _ us hl => match us, hl with | [_, _], _ => rfl
  have c_law_mixed : Cal l.prog w K mg base CX0 2 "_law_mixed" ["_law_urn", "_law_pool"] (SpMix) := ⟨f18, _, ok_law_mixed F18 M c_law_take, b18, k18, PySem.W.mg_of X G a18⟩
  have F19 := fun_mk (st := s_law_tags) l19 c19 k19
  have b19 := F19.binds (ps := ["_law_urn", "_law_many_so"]) fun _ _ _ _ _ _ us hl => match us, hl with | [_, _], _ => rfl
  have c_law_tags : Cal l.prog w K mg base CX0 3 "_law_tags" ["_law_urn", "_law_many_so"] (SpTags) := ⟨f19, _, ok_law_tags F19 M c_law_take c_law_of, b19, k19, PySem.W.mg_of X G a19⟩
  have F20 := fun_mk (st := s_law_names) l20 c20 k20
  have b20 := F20.binds (ps := ["_law_urn", "_law_many_so"]) fun _ _ _ _ _ _ us hl => match us, hl with | [_, _], _ => rfl
  have c_law_names : Cal l.prog w K mg base CX0 4 "_law_names" ["_law_urn", "_law_many_so"] (SpNames) := ⟨f20, _, ok_law_names F20 M c_law_tags c_law_mixed, b20, k20, PySem.W.mg_of X G a20⟩
  have F21 := fun_mk (st := s_law_under) l21 c21 k21
  have b21 := F21.binds (ps := ["_law_near", "_law_far"]) fun _ _ _ _ _ _ us hl => match us, hl with | [_, _], _ => rfl
  have c_law_under : Cal l.prog w K mg base CX0 1 "_law_under" ["_law_near", "_law_far"] (SpD 2 RUnd) := ⟨f21, _, ok_law_under F21 M, b21, k21, PySem.W.mg_of X G a21⟩
  have F22 := fun_mk (st := s_law_block) l22 c22 k22
  have b22 := F22.binds (ps := ["_law_urn", "_law_many_so"]) fun _ _ _ _ _ _ us hl => match us, hl with | [_, _], _ => rfl
  have c_law_block : Cal l.prog w K mg base CX0 5 "_law_block" ["_law_urn", "_law_many_so"] (SpBlk) := ⟨f22, _, ok_law_block F22 M c_law_take c_law_of c_law_names c_law_mixed, b22, k22, PySem.W.mg_of X G a22⟩
  have F23 := fun_mk (st := s_law_host) l23 c23 k23
  have b23 := F23.binds (ps := ["_law_flat"]) fun _ _ _ _ _ _ us hl => match us, hl with | [_], _ => rfl
  have c_law_host : Cal l.prog w K mg base CX0 1 "_law_host" ["_law_flat"] (SpD 1 RHost) := ⟨f23, _, ok_law_host F23 M, b23, k23, PySem.W.mg_of X G a23⟩
  have F24 := fun_mk (st := s_law_orders) l24 c24 k24
  have b24 := F24.binds (ps := ["_law_host_here"]) fun _ _ _ _ _ _ us hl => match us, hl with | [_], _ => rfl
  have c_law_orders : Cal l.prog w K mg base CX0 2 "_law_orders" ["_law_host_here"] (SpD 1 ROrds) := ⟨f24, _, ok_law_orders F24 M c_law_under, b24, k24, PySem.W.mg_of X G a24⟩
  have F25 := fun_mk (st := s_law_run) l25 c25 k25
  have b25 := F25.binds (ps := ["_law_host_here", "_law_row_so", "_law_times_so"]) fun _ _ _ _ _ _ us hl => match us, hl with | [_, _, _], _ => rfl
  have c_law_run : Cal l.prog w K mg base CX0 1 "_law_run" ["_law_host_here", "_law_row_so", "_law_times_so"] (SpRun) := ⟨f25, _, ok_law_run F25 M, b25, k25, PySem.W.mg_of X G a25⟩
  have F26 := fun_mk (st := s_law_times) l26 c26 k26
  have b26 := F26.binds (ps := ["_law_urn", "_law_host_here", "_law_high_so"]) fun _ _ _ _ _ _ us hl => match us, hl with | [_, _, _], _ => rfl
  have c_law_times : Cal l.prog w K mg base CX0 2 "_law_times" ["_law_urn", "_law_host_here", "_law_high_so"] (SpTm) := ⟨f26, _, ok_law_times F26 M c_law_take, b26, k26, PySem.W.mg_of X G a26⟩
  have F27 := fun_mk (st := s_law_heard) l27 c27 k27
  have b27 := F27.binds (ps := ["_law_door", "_law_host_here", "_law_row_so", "_law_times_so"]) fun _ _ _ _ _ _ us hl => match us, hl with | [_, _, _, _], _ => rfl
  have c_law_heard : Cal l.prog w K mg base (L2.CX l.prog w) 28 "_law_heard" ["_law_door", "_law_host_here", "_law_row_so", "_law_times_so"] (SpD 4 RHrd) := ⟨f27, _, ok_law_heard F27 M N c_issued_at c_idle_stretches c_how_many_idle, b27, k27, PySem.W.mg_of X G a27⟩
  have KB3i : KBinds K c_idle_stretches.fd ["block", "order", "latencies"] ["latencies", "order", "block"] revA revA := kb_mk (fun s ws _ hl => match ws, hl with | [_, _, _], _ => .of_eq rfl) (by decide)
  have KB3h : KBinds K c_how_many_idle.fd ["block", "order", "latencies"] ["latencies", "order", "block"] revA revA := kb_mk (fun s ws _ hl => match ws, hl with | [_, _, _], _ => .of_eq rfl) (by decide)
  have KB4 : KBinds K c_issued_at.fd ["block", "order", "latencies", "tick"] ["tick", "latencies", "order", "block"] revA revA := kb_mk (fun s ws _ hl => match ws, hl with | [_, _, _, _], _ => .of_eq rfl) (by decide)
  have F28 := fun_mk (st := s_law_by_hand_right) l28 c28 k28
  have b28 := F28.binds (ps := []) fun _ _ _ _ _ _ us hl => match us, hl with | [], _ => rfl
  have c_law_by_hand_right : Cal l.prog w K mg base CX0 30 "_law_by_hand_right" [] (SpHand) := ⟨f28, _, ok_law_by_hand_right F28 M c_law_host c_idle_stretches c_how_many_idle c_issued_at KB3i KB3h KB4 c_law_heard c_law_lists c_law_same, b28, k28, PySem.W.mg_of X G a28⟩
  have F29 := fun_mk (st := s_law_right) l29 c29 k29
  have b29 := F29.binds (ps := ["_law_urn"]) fun _ _ _ _ _ _ us hl => match us, hl with | [_], _ => rfl
  have c_law_right : Cal l.prog w K mg base CX0 30 "_law_right" ["_law_urn"] (SpRight) := ⟨f29, _, ok_law_right F29 M c_law_take c_law_of c_law_block c_law_orders c_law_run c_law_times c_issue_ticks c_idle_stretches c_how_many_idle c_issued_at c_law_lists c_law_same, b29, k29, PySem.W.mg_of X G a29⟩
  have F30 := fun_mk (st := s_law) l30 c30 k30
  have b30 := F30.binds (ps := ["_law_script"]) fun _ _ _ _ _ _ us hl => match us, hl with | [_], _ => rfl
  exact ok_law F30 M c_law_cells c_law_box c_law_by_hand_right c_law_right
theorem walk {l : PySem.W.OpenLaw} {q : Program} {loose : List Str} {XP : (Str → Option Value) → Heap → Prop} {YP : World → Heap → Prop} {d : DefRec} {K : Params → PySem.W.Frag} (hn : l.most = some 63) (hdf : d.params.defaults = [])
    (hY : ∀ (w : World) (h : Heap), YP w h → (K w.params).In h)
    (F : ∀ (w : World) (mg : Str → Option Value) (fa : Addr) (h : Heap), (K w.params).In h → h.Ns mainGlobals mg → mg d.name = some (.ref fa) →
      ∃ fd : FuncData, (∀ (s : Shared) (u : Value), BindsTo s fd ⟨[u], []⟩ [("_law_script", u)]) ∧ ∀ base : Heap, (K w.params).In base → base.Ns mainGlobals mg → FnOk l.prog w (K w.params) mg base CX0 40 fa fd ["_law_script"] (SpLaw (K w.params))) :
    PySem.W.WalkO q loose XP YP l.row.toRowW d [] (fun f vs => PySem.call f vs) :=
  L2.walk_of (n := 63) (k := 40) (x := "_law_script") (CX := fun _ => CX0) (sp := fun w => SpLaw (K w.params)) hn (by decide) hdf ⟨rfl, by decide, by decide⟩ hY F (fun _ _ a ns hl _ hS => ⟨a, ns, rfl, hS, hl, fun _ => rfl⟩) fun _ _ _ _ _ z => z
end K11
open PySem PySem.W PyProof.Rows
set_option maxRecDepth 100000 in
set_option maxHeartbeats 0 in
theorem PySem.Challenge.cw_anylatency_k11_whole_ticks_without_an_is_holds : PySem.Challenge.rw_anylatency_k11_whole_ticks_without_an_is.Holds := by
  w_on; o_law; k_head; (case hw => w_witness2)
  k_fill
  refine K11.walk (l := PySem.Challenge.rw_anylatency_k11_whole_ticks_without_an_is) rfl rfl (fun w h Y => PySem.W.kIn_of Y) ?F
  case F =>
    intro w mg fa h KX G hmg
    refine' K11.all_mk KX G hmg ?a1 ?l1 ?c1 ?k1 ?a2 ?l2 ?c2 ?k2 ?a3 ?l3 ?c3 ?k3 ?a4 ?l4 ?c4 ?k4 ?a5 ?l5 ?c5 ?k5 ?a6 ?l6 ?c6 ?k6 ?a7 ?l7 ?c7 ?k7 ?a8 ?l8 ?c8 ?k8 ?a9 ?l9 ?c9 ?k9 ?a10 ?l10 ?c10 ?k10 ?a11 ?l11 ?c11 ?k11 ?a12 ?l12 ?c12 ?k12 ?a13 ?l13 ?c13 ?k13 ?a14 ?l14 ?c14 ?k14 ?a15 ?l15 ?c15 ?k15 ?a16 ?l16 ?c16 ?k16 ?a17 ?l17 ?c17 ?k17 ?a18 ?l18 ?c18 ?k18 ?a19 ?l19 ?c19 ?k19 ?a20 ?l20 ?c20 ?k20 ?a21 ?l21 ?c21 ?k21 ?a22 ?l22 ?c22 ?k22 ?a23 ?l23 ?c23 ?k23 ?a24 ?l24 ?c24 ?k24 ?a25 ?l25 ?c25 ?k25 ?a26 ?l26 ?c26 ?k26 ?a27 ?l27 ?c27 ?k27 ?a28 ?l28 ?c28 ?k28 ?a29 ?l29 ?c29 ?k29 ?a30 ?l30 ?c30 ?k30 ?z1 ?z2 ?z3 ?z4 ?z5 ?z6 ?z7 ?z8 ?z9 ?z10 ?z11 ?z12 ?z13 ?z14 ?z15 ?z16 ?zV ?yL ?yN ?eC ?eX ?eK ?eB ?eT ?eS ?eV ?eG ?eH ?eD ?eA ?eN ?eU ?eM
    (case a1 => k_is)
    (case l1 => k_is)
    (case c1 => k_is)
    (case k1 => k_is)
    (case a2 => k_is)
    (case l2 => k_is)
    (case c2 => k_is)
    (case k2 => k_is)
    (case a3 => k_is)
    (case l3 => k_is)
    (case c3 => k_is)
    (case k3 => k_is)
    (case a4 => k_is)
    (case l4 => k_is)
    (case c4 => k_is)
    (case k4 => k_is)
    (case a5 => k_is)
    (case l5 => k_is)
    (case c5 => k_is)
    (case k5 => k_is)
    (case a6 => k_is)
    (case l6 => k_is)
    (case c6 => k_is)
    (case k6 => k_is)
    (case a7 => k_is)
    (case l7 => k_is)
    (case c7 => k_is)
    (case k7 => k_is)
    (case a8 => k_is)
    (case l8 => k_is)
    (case c8 => k_is)
    (case k8 => k_is)
    (case a9 => k_is)
    (case l9 => k_is)
    (case c9 => k_is)
    (case k9 => k_is)
    (case a10 => k_is)
    (case l10 => k_is)
    (case c10 => k_is)
    (case k10 => k_is)
    (case a11 => k_is)
    (case l11 => k_is)
    (case c11 => k_is)
    (case k11 => k_is)
    (case a12 => k_is)
    (case l12 => k_is)
    (case c12 => k_is)
    (case k12 => k_is)
    (case a13 => k_is)
    (case l13 => k_is)
    (case c13 => k_is)
    (case k13 => k_is)
    (case a14 => k_is)
    (case l14 => k_is)
    (case c14 => k_is)
    (case k14 => k_is)
    (case a15 => k_is)
    (case l15 => k_is)
    (case c15 => k_is)
    (case k15 => k_is)
    (case a16 => k_is)
    (case l16 => k_is)
    (case c16 => k_is)
    (case k16 => k_is)
    (case a17 => k_is)
    (case l17 => k_is)
    (case c17 => k_is)
    (case k17 => k_is)
    (case a18 => k_is)
    (case l18 => k_is)
    (case c18 => k_is)
    (case k18 => k_is)
    (case a19 => k_is)
    (case l19 => k_is)
    (case c19 => k_is)
    (case k19 => k_is)
    (case a20 => k_is)
    (case l20 => k_is)
    (case c20 => k_is)
    (case k20 => k_is)
    (case a21 => k_is)
    (case l21 => k_is)
    (case c21 => k_is)
    (case k21 => k_is)
    (case a22 => k_is)
    (case l22 => k_is)
    (case c22 => k_is)
    (case k22 => k_is)
    (case a23 => k_is)
    (case l23 => k_is)
    (case c23 => k_is)
    (case k23 => k_is)
    (case a24 => k_is)
    (case l24 => k_is)
    (case c24 => k_is)
    (case k24 => k_is)
    (case a25 => k_is)
    (case l25 => k_is)
    (case c25 => k_is)
    (case k25 => k_is)
    (case a26 => k_is)
    (case l26 => k_is)
    (case c26 => k_is)
    (case k26 => k_is)
    (case a27 => k_is)
    (case l27 => k_is)
    (case c27 => k_is)
    (case k27 => k_is)
    (case a28 => k_is)
    (case l28 => k_is)
    (case c28 => k_is)
    (case k28 => k_is)
    (case a29 => k_is)
    (case l29 => k_is)
    (case c29 => k_is)
    (case k29 => k_is)
    (case a30 => k_is)
    (case l30 => k_is)
    (case c30 => k_is)
    (case k30 => k_is)
    (case z1 => k_is)
    (case z2 => k_is)
    (case z3 => k_is)
    (case z4 => k_is)
    (case z5 => k_is)
    (case z6 => k_is)
    (case z7 => k_is)
    (case z8 => k_is)
    (case z9 => k_is)
    (case z10 => k_is)
    (case z11 => k_is)
    (case z12 => k_is)
    (case z13 => k_is)
    (case z14 => k_is)
    (case z15 => k_is)
    (case z16 => k_is)
    (case zV => k_is)
    (case yL => k_is)
    (case yN => k_is)
    (case eC => k_is)
    (case eX => k_exc)
    (case eK => k_is)
    (case eB => k_is)
    (case eT => k_is)
    (case eS => first | rfl | k_is)
    (case eV => k_is)
    (case eG => k_is)
    (case eH => k_is)
    (case eD => k_is)
    (case eA => k_is)
    (case eN => k_is)
    (case eU => k_is)
    (case eM => k_is)
#print axioms PySem.Challenge.cw_anylatency_k11_whole_ticks_without_an_is_holds
