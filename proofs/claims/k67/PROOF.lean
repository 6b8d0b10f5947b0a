import PyProof.Rows.All
import Wide.All
import OpenK.AllK
import Wide.FinOn
import HandS.Comp
import HandS.Conv
import HandS.Deep
import HandS.Ends
import HandS.ForExc
import HandS.ForMost
import HandS.IsInst
import HandS.Iter
import HandS.More
import HandS.RaiseMore
import HandS.SortInts
import HandS.Strs
import HandS.Style
import HandS.Text
import HandS.TupAny
import HandS.TupLe
import HandS.TupMul
import HandS.Wide
import PyProof.ReprRoads
import PySem.Challenge.RW_juriesagree_k67_earlier_cases_that_bind
set_option Elab.async false
set_option linter.all false
set_option maxRecDepth 100000
set_option autoImplicit false
/-! J0: a layer by value over the hand layer: data, slots, what a run of code gives, the relation to the heap. -/
namespace J
open PySem PySem.Spec PyProof.Rows L2

abbrev D := PyData
/-- a slot: not assigned, data that never changes any more, a list of one's own that may still change -/
inductive Sl where
  | un
  | fr (d : D)
  | ol (ds : List D)
  /-- the list at a, which nothing may touch for a while -/
  | pin (a : Addr)
abbrev En := List Sl
/-- what an expression gives: data, a new list of one's own, the list of one's own in slot i -/
inductive Rs where
  | fr (d : D)
  | ol (ds : List D)
  | bo (i : Nat)
/-- how a run ends: with a value, or with an exception of the class named c -/
inductive Oc (α : Type) where
  | ok (a : α) (n : En)
  | ex (c : Str) (n : En)
abbrev Mo (α : Type) := En → Option (Oc α)
def Mo.bind {α β : Type} (m : Mo α) (f : α → Mo β) : Mo β := fun n => match m n with
  | none => none
  | some (.ok a n') => f a n'
  | some (.ex c n') => some (.ex c n')
def Mo.ret {α : Type} (a : α) : Mo α := fun n => some (.ok a n)
/-- an answer that may be lacking -/
def Mo.opt {α : Type} (o : Option α) : Mo α := fun n => o.map fun a => .ok a n
def Mo.en : Mo En := fun n => some (.ok n n)
def Rs.data (r : Rs) (n : En) : Option D := match r with
  | .fr d => some d
  | .ol ds => some (.list ds)
  | .bo i => match n[i]? with
    | some (.fr d) => some d
    | some (.ol ds) => some (.list ds)
    | _ => none
inductive Ctl where
  | nx | bk | ct
  | rt (r : Rs)

/-! ### data in a heap -/
mutual
inductive Dq (K : PySem.W.Frag) (F : Hp) : V → D → Prop
  | non : Dq K F .non .none
  | bl (b : Bool) : Dq K F (.bl b) (.bool b)
  | int (i : Int) : Dq K F (.int i) (.int i)
  | str (x : Str) : Dq K F (.str x) (.str x)
  | lst {a : Addr} {xs : List V} {ds : List D} : F a = some (.lst xs) → DqAll K F xs ds → Dq K F (.ref a) (.list ds)
  /-- a list that is locked (the law's script): told apart from the others -/
  | scr {a : Addr} {xs : List V} {ds : List D} : SqL K F a xs → DqAll K F xs ds → Dq K F (.ref a) (.dict [(.none, .list ds)])
  | tup {a : Addr} {xs : List V} {ds : List D} : SqT K F a xs → DqAll K F xs ds → Dq K F (.ref a) (.tuple ds)
inductive DqAll (K : PySem.W.Frag) (F : Hp) : List V → List D → Prop
  | nil : DqAll K F [] []
  | cons {v : V} {vs : List V} {d : D} {ds : List D} : Dq K F v d → DqAll K F vs ds → DqAll K F (v :: vs) (d :: ds)
end
section
variable {K : PySem.W.Frag} {F F' H : Hp}
theorem Rd.mono {a : Addr} {u : HO} (e : Same F F') (h : Rd F a u) : Rd F' a u := by
  rcases h with h | ⟨o, h⟩
  · exact .inl (e _ _ h)
  · exact .inr ⟨o, e _ _ h⟩
theorem SqT.mono {a : Addr} {xs : List V} (e : Same F F') (h : SqT K F a xs) : SqT K F' a xs := by
  rcases h with h | h
  · exact .inl (Rd.mono e h)
  · exact .inr h
mutual
theorem Dq.mono (e : Same F F') : ∀ {v : V} {d : D}, Dq K F v d → Dq K F' v d
  | _, _, .non => .non
  | _, _, .bl b => .bl b
  | _, _, .int i => .int i
  | _, _, .str x => .str x
  | _, _, .lst h a => .lst (e _ _ h) (DqAll.mono e a)
  | _, _, .scr h a => .scr (Same.seq e h) (DqAll.mono e a)
  | _, _, .tup h a => .tup (SqT.mono e h) (DqAll.mono e a)
theorem DqAll.mono (e : Same F F') : ∀ {vs : List V} {ds : List D}, DqAll K F vs ds → DqAll K F' vs ds
  | _, _, .nil => .nil
  | _, _, .cons h a => .cons (Dq.mono e h) (DqAll.mono e a)
end
mutual
theorem Dq.dp : ∀ {v : V} {d : D}, Dq K F v d → d.canLay0 = true → L2.Dp K F v d
  | _, _, .non, _ => .non
  | _, _, .bl b, _ => .bl b
  | _, _, .int i, _ => .int i
  | _, _, .str x, _ => .str x
  | _, _, .lst h a, c => .lst (.inl (.inl h)) (DqAll.dp a c)
  | _, _, .scr h a, c => absurd c Bool.false_ne_true
  | _, _, .tup h a, c => .tup h (DqAll.dp a c)
theorem DqAll.dp : ∀ {vs : List V} {ds : List D}, DqAll K F vs ds → PyData.canLayAll0 ds = true → L2.DpAll K F vs ds
  | _, _, .nil, _ => .nil
  | _, _, .cons h a, c => by
    unfold PyData.canLayAll0 at c
    rw [Bool.and_eq_true] at c
    exact .cons (Dq.dp h c.1) (DqAll.dp a c.2)
end
theorem DqAll.length : ∀ {vs : List V} {ds : List D}, DqAll K F vs ds → vs.length = ds.length
  | _, _, .nil => rfl
  | _, _, .cons _ a => by rw [List.length_cons, List.length_cons, DqAll.length a]
theorem DqAll.get : ∀ {vs : List V} {ds : List D} {i : Nat} {d : D}, DqAll K F vs ds → ds[i]? = some d → ∃ v, vs[i]? = some v ∧ Dq K F v d
  | _, _, _, _, .nil, e => by simp at e
  | _, _, 0, _, .cons h _, e => by simp at e; subst e; exact ⟨_, rfl, h⟩
  | _, _, i + 1, d, .cons _ a, e => by
    obtain ⟨v, h1, h2⟩ := DqAll.get (i := i) (d := d) a (by simpa using e)
    exact ⟨v, by simpa using h1, h2⟩
theorem DqAll.getV : ∀ {vs : List V} {ds : List D} {i : Nat} {v : V}, DqAll K F vs ds → vs[i]? = some v → ∃ d, ds[i]? = some d ∧ Dq K F v d
  | _, _, _, _, .nil, e => by simp at e
  | _, _, 0, _, .cons h _, e => by simp at e; subst e; exact ⟨_, rfl, h⟩
  | _, _, i + 1, v, .cons _ a, e => by
    obtain ⟨d, h1, h2⟩ := DqAll.getV (i := i) (v := v) a (by simpa using e)
    exact ⟨d, by simpa using h1, h2⟩
theorem DqAll.append : ∀ {vs ws : List V} {ds es : List D}, DqAll K F vs ds → DqAll K F ws es → DqAll K F (vs ++ ws) (ds ++ es)
  | _, _, _, _, .nil, s => s
  | _, _, _, _, .cons h a, s => .cons h (DqAll.append a s)
theorem DqAll.take (n : Nat) : ∀ {vs : List V} {ds : List D}, DqAll K F vs ds → DqAll K F (vs.take n) (ds.take n) := by
  induction n with
  | zero => intro vs ds _; exact .nil
  | succ n ih =>
    intro vs ds h
    cases h with
    | nil => exact .nil
    | cons a b => exact .cons a (ih b)
theorem DqAll.drop (n : Nat) : ∀ {vs : List V} {ds : List D}, DqAll K F vs ds → DqAll K F (vs.drop n) (ds.drop n) := by
  induction n with
  | zero => intro vs ds h; exact h
  | succ n ih =>
    intro vs ds h
    cases h with
    | nil => exact .nil
    | cons a b => exact ih b
theorem DqAll.set {v : V} {d : D} (r : Dq K F v d) : ∀ {vs : List V} {ds : List D} (i : Nat), DqAll K F vs ds → DqAll K F (vs.set i v) (ds.set i d)
  | _, _, _, .nil => .nil
  | _, _, 0, .cons _ t => .cons r t
  | _, _, i + 1, .cons q t => .cons q (DqAll.set r i t)
theorem DqAll.eraseIdx : ∀ {vs : List V} {ds : List D} (i : Nat), DqAll K F vs ds → DqAll K F (vs.eraseIdx i) (ds.eraseIdx i)
  | _, _, _, .nil => .nil
  | _, _, 0, .cons _ t => t
  | _, _, i + 1, .cons q t => .cons q (DqAll.eraseIdx i t)
theorem DqAll.reverse : ∀ {vs : List V} {ds : List D}, DqAll K F vs ds → DqAll K F vs.reverse ds.reverse
  | _, _, .nil => .nil
  | _, _, .cons q t => by rw [List.reverse_cons, List.reverse_cons]; exact (DqAll.reverse t).append (.cons q .nil)
theorem DqAll.rep {vs : List V} {ds : List D} (h : DqAll K F vs ds) : ∀ k : Nat, DqAll K F (List.replicate k vs).flatten (List.replicate k ds).flatten
  | 0 => .nil
  | k + 1 => by rw [List.replicate_succ, List.replicate_succ, List.flatten_cons, List.flatten_cons]; exact h.append (DqAll.rep h k)
end

/-- data that may be looked at just now: it never changes, or it is the list of one's own at a -/
inductive DB (K : PySem.W.Frag) (F H : Hp) : V → D → Prop
  | fr {v : V} {d : D} : Dq K F v d → DB K F H v d
  | ow {a : Addr} {vs : List V} {ds : List D} : H a = some (.lst vs) → DqAll K F vs ds → DB K F H (.ref a) (.list ds)
theorem DB.dq {K : PySem.W.Frag} {F H : Hp} {v : V} {d : D} (e : Same F H) (h : DB K F H v d) : Dq K H v d := by
  cases h with
  | fr h => exact h.mono e
  | ow h a => exact .lst h (a.mono e)
/-- a list that may be looked at -/
theorem DB.lst {K : PySem.W.Frag} {F H : Hp} {v : V} {ds : List D} (e : Same F H) (h : DB K F H v (.list ds)) : ∃ a vs, v = .ref a ∧ H a = some (.lst vs) ∧ DqAll K F vs ds := by
  cases h with
  | fr h =>
    cases h with
    | lst h a => exact ⟨_, _, rfl, e _ _ h, a⟩
  | ow h a => exact ⟨_, _, rfl, h, a⟩
theorem DB.scr {K : PySem.W.Frag} {F H : Hp} {v : V} {ds : List D} (e : Same F H) (h : DB K F H v (.dict [(.none, .list ds)])) : ∃ a vs, v = .ref a ∧ SqL K H a vs ∧ DqAll K F vs ds := by
  cases h with
  | fr h =>
    cases h with
    | scr h a => exact ⟨_, _, rfl, Same.seq e h, a⟩
theorem DB.tup {K : PySem.W.Frag} {F H : Hp} {v : V} {ds : List D} (e : Same F H) (h : DB K F H v (.tuple ds)) : ∃ a vs, v = .ref a ∧ SqT K H a vs ∧ SqT K F a vs ∧ DqAll K F vs ds := by
  cases h with
  | fr h =>
    cases h with
    | tup h a => exact ⟨_, _, rfl, SqT.mono e h, h, a⟩
theorem DB.int {K : PySem.W.Frag} {F H : Hp} {v : V} {i : Int} (h : DB K F H v (.int i)) : v = .int i := by
  cases h with
  | fr h => cases h; rfl
theorem DB.bool {K : PySem.W.Frag} {F H : Hp} {v : V} {b : Bool} (h : DB K F H v (.bool b)) : v = .bl b := by
  cases h with
  | fr h => cases h; rfl
theorem DB.str {K : PySem.W.Frag} {F H : Hp} {v : V} {x : Str} (h : DB K F H v (.str x)) : v = .str x := by
  cases h with
  | fr h => cases h; rfl
theorem DB.none {K : PySem.W.Frag} {F H : Hp} {v : V} (h : DB K F H v .none) : v = .non := by
  cases h with
  | fr h => cases h; rfl

/-! ### the state -/
def SlR (K : PySem.W.Frag) (B F H : Hp) (sv : Option (Option V)) : Sl → Prop
  | .un => True
  | .fr d => ∃ v, sv = some (some v) ∧ Dq K F v d
  | .ol ds => ∃ a vs, sv = some (some (.ref a)) ∧ H a = some (.lst vs) ∧ B a = none ∧ F a = none ∧ DqAll K F vs ds
  | .pin a => sv = some (some (.ref a))
/-- B: the heap at the def's entry; F0: what was known there as never changing; F: what is so now; H: the heap now -/
structure Rel (K : PySem.W.Frag) (B F0 F H : Hp) (σ : L2.St) (n : En) : Prop where
  len : σ.length = n.length
  b : Same B H
  f : Same F H
  f0 : Same F0 F
  g : ∀ a, F a ≠ none → F0 a ≠ none ∨ B a = none
  s : ∀ (i : Nat) (x : Sl), n[i]? = some x → SlR K B F H σ[i]? x
  d : ∀ (i j : Nat) (ds es : List D) (a : Addr), n[i]? = some (.ol ds) → n[j]? = some (.ol es) → σ[i]? = some (some (.ref a)) → σ[j]? = some (some (.ref a)) → i = j
/-- more is known as never changing, more stands -/
structure Grow (F H F' H' : Hp) : Prop where
  f : Same F F'
  h : Same H H'
  fh : Same F' H'
  g : ∀ a, F' a ≠ none → F a ≠ none ∨ H a = none
theorem Grow.refl {F H : Hp} (e : Same F H) : Grow F H F H := ⟨.refl F, .refl H, e, fun _ h => .inl h⟩
theorem Grow.trans {F H F1 H1 F2 H2 : Hp} (a : Grow F H F1 H1) (b : Grow F1 H1 F2 H2) : Grow F H F2 H2 :=
  ⟨a.f.trans b.f, a.h.trans b.h, b.fh, fun x hx => by
    rcases b.g x hx with h | h
    · exact a.g x h
    · exact .inr (a.h.free h)⟩
section
variable {K : PySem.W.Frag} {B F0 F H F' H' : Hp} {σ : L2.St} {n : En}
theorem SlR.grow {sv : Option (Option V)} {x : Sl} (w : Grow F H F' H') (h : SlR K B F H sv x) : SlR K B F' H' sv x := by
  cases x with
  | un => trivial
  | pin a => exact h
  | fr d => obtain ⟨v, e, q⟩ := h; exact ⟨v, e, q.mono w.f⟩
  | ol ds =>
    obtain ⟨a, vs, e, e1, e2, e3, q⟩ := h
    refine ⟨a, vs, e, w.h _ _ e1, e2, ?_, q.mono w.f⟩
    cases h' : F' a with
    | none => rfl
    | some o =>
      rcases w.g a (by rw [h']; exact fun z => nomatch z) with z | z
      · exact absurd e3 z
      · rw [e1] at z; cases z
theorem Rel.grow (R : Rel K B F0 F H σ n) (w : Grow F H F' H') : Rel K B F0 F' H' σ n :=
  ⟨R.len, R.b.trans w.h, w.fh, R.f0.trans w.f, fun a ha => by
    rcases w.g a ha with h | h
    · exact R.g a h
    · exact .inr (R.b.free h), fun i x e => (R.s i x e).grow w, R.d⟩
/-- an operand: a new list counts as data that never changes -/
def RO (K : PySem.W.Frag) (F : Hp) (σ : L2.St) (v : V) : Rs → Prop
  | .fr d => Dq K F v d
  | .ol ds => Dq K F v (.list ds)
  | .bo i => σ[i]? = some (some v)
theorem RO.mono {v : V} {r : Rs} (e : Same F F') (h : RO K F σ v r) : RO K F' σ v r := by
  cases r with
  | fr d => exact Dq.mono e h
  | ol ds => exact Dq.mono e h
  | bo i => exact h
theorem RO.db {v : V} {r : Rs} {d : D} (R : Rel K B F0 F H σ n) (h : RO K F σ v r) (e : r.data n = some d) : DB K F H v d := by
  cases r with
  | fr d' => cases e; exact .fr h
  | ol ds => cases e; exact .fr h
  | bo i =>
    unfold Rs.data at e
    simp only at e
    split at e
    · rename_i d' hn
      cases e
      obtain ⟨v', e1, q⟩ := R.s i _ hn
      have h' : σ[i]? = some (some v) := h
      rw [h'] at e1; cases e1
      exact .fr q
    · rename_i ds hn
      cases e
      obtain ⟨a, vs, e1, e2, _, _, q⟩ := R.s i _ hn
      have h' : σ[i]? = some (some v) := h
      rw [h'] at e1; cases e1
      exact .ow e2 q
    · cases e
/-- the very result -/
def RR (K : PySem.W.Frag) (B F H : Hp) (σ : L2.St) (n : En) (v : V) : Rs → Prop
  | .fr d => Dq K F v d
  | .ol ds => ∃ a vs, v = .ref a ∧ H a = some (.lst vs) ∧ B a = none ∧ F a = none ∧ DqAll K F vs ds ∧ ∀ (i : Nat) (es : List D), n[i]? = some (.ol es) → σ[i]? ≠ some (some (.ref a))
  | .bo i => σ[i]? = some (some v)
theorem same_upd {H : Hp} {p : Addr} {o : HO} (h : H p = none) : Same H (upd H p o) := fun b x e => by
  rw [upd_ne (ne_of_none e h)]
  exact e
/-- an object that no slot owns is known as never changing from now on -/
theorem Rel.freeze {a : Addr} {o : HO} (R : Rel K B F0 F H σ n) (hH : H a = some o) (hF : F a = none) (hB : B a = none) (hn : ∀ (i : Nat) (es : List D), n[i]? = some (.ol es) → σ[i]? ≠ some (some (.ref a))) : Rel K B F0 (upd F a o) H σ n := by
  refine ⟨R.len, R.b, fun c x e => ?_, R.f0.trans (same_upd hF), fun c hc => ?_, fun i x e => ?_, R.d⟩
  · by_cases hca : c = a
    · subst hca; rw [upd_same] at e; cases e; exact hH
    · rw [upd_ne hca] at e; exact R.f c x e
  · by_cases hca : c = a
    · subst hca; exact .inr hB
    · rw [upd_ne hca] at hc; exact R.g c hc
  · have q := R.s i x e
    cases x with
    | un => trivial
    | pin a => exact q
    | fr d => obtain ⟨v, e, q⟩ := q; exact ⟨v, e, q.mono (same_upd hF)⟩
    | ol ds =>
      obtain ⟨c, vs, e1, e2, e3, e4, q⟩ := q
      refine ⟨c, vs, e1, e2, e3, ?_, q.mono (same_upd hF)⟩
      rw [upd_ne (fun z => hn i ds e (by rw [e1, z]))]
      exact e4
theorem RR.ro {v : V} {r : Rs} (R : Rel K B F0 F H σ n) (h : RR K B F H σ n v r) : ∃ F', Rel K B F0 F' H σ n ∧ Same F F' ∧ RO K F' σ v r := by
  cases r with
  | fr d => exact ⟨F, R, .refl F, h⟩
  | ol ds =>
    obtain ⟨a, vs, rfl, e1, e2, e3, q, hn⟩ := h
    exact ⟨upd F a (.lst vs), R.freeze e1 e3 e2 hn, same_upd e3, .lst upd_same (q.mono (same_upd e3))⟩
  | bo i => exact ⟨F, R, .refl F, h⟩
end
end J

/-! J1: judgements by value, and the rules of expressions. -/
namespace J
open PySem PySem.Spec PyProof.Rows L2

/-- where a piece of code stands -/
structure Ctx (X : Cx) (W : WX) : Prop where
  tk : Takes X W
  po : PassesOwn (model X.prog X.w) X.A X.env X.xe
  calm : X.calm = true
  nd : X.N.Nodup
  hu : X.A.units + 100 < cLine
section
variable (X : Cx) (W : WX)
/-- what is wanted of an exception -/
def ExD (B F0 F : Hp) (σ : L2.St) (c : Str) (n : En) : Prop := ∀ F' H', Rel X.K B F0 F' H' σ n → Same F F' → ∀ C, X.mg c = some (.ref C) → W (.ref C) none σ H'
def Dem (B F0 F : Hp) (σ : L2.St) (Q : VK) : Oc Rs → Prop
  | .ok r n => ∀ v F' H', Rel X.K B F0 F' H' σ n → Same F F' → RR X.K B F' H' σ n v r → Q v H'
  | .ex c n => ExD X W B F0 F σ c n
def DemT (B F0 F : Hp) (σ : L2.St) (Q : Bool → Hp → Prop) : Oc Bool → Prop
  | .ok b n => ∀ F' H', Rel X.K B F0 F' H' σ n → Same F F' → Q b H'
  | .ex c n => ExD X W B F0 F σ c n
abbrev ROs (F : Hp) (σ : L2.St) : List V → List Rs → Prop := Paired (RO X.K F σ)
def DemA (B F0 F : Hp) (σ : L2.St) (Q : List V → Hp → Prop) : Oc (List Rs) → Prop
  | .ok rs n => ∀ vs F' H', Rel X.K B F0 F' H' σ n → Same F F' → ROs X F' σ vs rs → Q vs H'
  | .ex c n => ExD X W B F0 F σ c n
def GdE (t : TE) (ev : Mo Rs) : Prop := ∀ B F0 F H σ n Q o, Rel X.K B F0 F H σ n → ev n = some o → Dem X W B F0 F σ Q o → t σ H Q
def GdT (t : TT) (ev : Mo Bool) : Prop := ∀ B F0 F H σ n Q o, Rel X.K B F0 F H σ n → ev n = some o → DemT X W B F0 F σ Q o → t σ H Q
def GdA (t : TA) (ev : Mo (List Rs)) : Prop := ∀ B F0 F H σ n Q o, Rel X.K B F0 F H σ n → ev n = some o → DemA X W B F0 F σ Q o → t σ H Q
structure VE (e : Expr) (ev : Mo Rs) : Prop where
  ex : Ctx X W → ∃ t : TE, PE X e t ∧ GdE X W t ev
structure VT (e : Expr) (ev : Mo Bool) : Prop where
  ex : Ctx X W → ∃ t : TT, PT X e t ∧ GdT X W t ev
/-- a test whatever its whole is (and, or) -/
structure VW (e : Expr) (ev : Mo Bool) : Prop where
  ex : Ctx X W → ∃ t : TT, PW X e t ∧ GdT X W t ev
structure VA (es : List Expr) (ev : Mo (List Rs)) : Prop where
  ex : Ctx X W → ∃ t : TA, PA X es t ∧ GdA X W t ev
end
section
variable {X : Cx} {W : WX} {B F0 F F' H H' : Hp} {σ : L2.St} {n : En}
theorem ExD.mono {c : Str} (s : Same F F') (h : ExD X W B F0 F σ c n) : ExD X W B F0 F' σ c n := fun F1 H1 R1 s1 C hC => h F1 H1 R1 (s.trans s1) C hC
theorem Dem.mono {Q : VK} {o : Oc Rs} (s : Same F F') (h : Dem X W B F0 F σ Q o) : Dem X W B F0 F' σ Q o := by
  cases o with
  | ok r n => exact fun v F1 H1 R1 s1 => h v F1 H1 R1 (s.trans s1)
  | ex c n => exact ExD.mono s h
theorem DemT.mono {Q : Bool → Hp → Prop} {o : Oc Bool} (s : Same F F') (h : DemT X W B F0 F σ Q o) : DemT X W B F0 F' σ Q o := by
  cases o with
  | ok r n => exact fun F1 H1 R1 s1 => h F1 H1 R1 (s.trans s1)
  | ex c n => exact ExD.mono s h
theorem DemA.mono {Q : List V → Hp → Prop} {o : Oc (List Rs)} (s : Same F F') (h : DemA X W B F0 F σ Q o) : DemA X W B F0 F' σ Q o := by
  cases o with
  | ok r n => exact fun v F1 H1 R1 s1 => h v F1 H1 R1 (s.trans s1)
  | ex c n => exact ExD.mono s h
/-- an operand, then the rest -/
theorem GdE.seq {t : TE} {ev : Mo Rs} (h : GdE X W t ev) {β : Type} {f : Rs → Mo β} {o : Oc β} {Q : VK} (R : Rel X.K B F0 F H σ n) (e : Mo.bind ev f n = some o)
    (ok : ∀ r n1 v F1 H1, Rel X.K B F0 F1 H1 σ n1 → Same F F1 → RO X.K F1 σ v r → f r n1 = some o → Q v H1) (ex : ∀ c n1, o = .ex c n1 → ExD X W B F0 F σ c n1) : t σ H Q := by
  unfold Mo.bind at e
  split at e
  · cases e
  · rename_i r n1 he
    refine h B F0 F H σ n Q _ R he fun v F1 H1 R1 s1 rr => ?_
    obtain ⟨F2, R2, s2, ro⟩ := rr.ro R1
    exact ok r n1 v F2 H1 R2 (s1.trans s2) ro e
  · rename_i c n1 he
    refine h B F0 F H σ n Q _ R he ?_
    exact ex c n1 (Option.some.inj e).symm
/-- the very result, then the rest -/
theorem GdE.seqR {t : TE} {ev : Mo Rs} (h : GdE X W t ev) {β : Type} {f : Rs → Mo β} {o : Oc β} {Q : VK} (R : Rel X.K B F0 F H σ n) (e : Mo.bind ev f n = some o)
    (ok : ∀ r n1 v F1 H1, Rel X.K B F0 F1 H1 σ n1 → Same F F1 → RR X.K B F1 H1 σ n1 v r → f r n1 = some o → Q v H1) (ex : ∀ c n1, o = .ex c n1 → ExD X W B F0 F σ c n1) : t σ H Q := by
  unfold Mo.bind at e
  split at e
  · cases e
  · rename_i r n1 he
    exact h B F0 F H σ n Q _ R he fun v F1 H1 R1 s1 rr => ok r n1 v F1 H1 R1 s1 rr e
  · rename_i c n1 he
    refine h B F0 F H σ n Q _ R he ?_
    exact ex c n1 (Option.some.inj e).symm
theorem GdT.seq {t : TT} {ev : Mo Bool} (h : GdT X W t ev) {β : Type} {f : Bool → Mo β} {o : Oc β} {Q : Bool → Hp → Prop} (R : Rel X.K B F0 F H σ n) (e : Mo.bind ev f n = some o)
    (ok : ∀ b n1 F1 H1, Rel X.K B F0 F1 H1 σ n1 → Same F F1 → f b n1 = some o → Q b H1) (ex : ∀ c n1, o = .ex c n1 → ExD X W B F0 F σ c n1) : t σ H Q := by
  unfold Mo.bind at e
  split at e
  · cases e
  · rename_i r n1 he
    exact h B F0 F H σ n Q _ R he fun F1 H1 R1 s1 => ok r n1 F1 H1 R1 s1 e
  · rename_i c n1 he
    refine h B F0 F H σ n Q _ R he ?_
    exact ex c n1 (Option.some.inj e).symm
theorem GdA.seq {t : TA} {ev : Mo (List Rs)} (h : GdA X W t ev) {β : Type} {f : List Rs → Mo β} {o : Oc β} {Q : List V → Hp → Prop} (R : Rel X.K B F0 F H σ n) (e : Mo.bind ev f n = some o)
    (ok : ∀ rs n1 vs F1 H1, Rel X.K B F0 F1 H1 σ n1 → Same F F1 → ROs X F1 σ vs rs → f rs n1 = some o → Q vs H1) (ex : ∀ c n1, o = .ex c n1 → ExD X W B F0 F σ c n1) : t σ H Q := by
  unfold Mo.bind at e
  split at e
  · cases e
  · rename_i r n1 he
    exact h B F0 F H σ n Q _ R he fun v F1 H1 R1 s1 rr => ok r n1 v F1 H1 R1 s1 rr e
  · rename_i c n1 he
    refine h B F0 F H σ n Q _ R he ?_
    exact ex c n1 (Option.some.inj e).symm
theorem Dem.exd {Q : VK} {o : Oc Rs} (h : Dem X W B F0 F σ Q o) : ∀ c n1, o = .ex c n1 → ExD X W B F0 F σ c n1 := fun c n1 e => by
  subst e; exact h
theorem DemT.exd {Q : Bool → Hp → Prop} {o : Oc Bool} (h : DemT X W B F0 F σ Q o) : ∀ c n1, o = .ex c n1 → ExD X W B F0 F σ c n1 := fun c n1 e => by
  subst e; exact h
theorem DemA.exd {Q : List V → Hp → Prop} {o : Oc (List Rs)} (h : DemA X W B F0 F σ Q o) : ∀ c n1, o = .ex c n1 → ExD X W B F0 F σ c n1 := fun c n1 e => by
  subst e; exact h
/-- a new result of an operation -/
def RN (K : PySem.W.Frag) (F' H H' : Hp) (v : V) : Rs → Prop
  | .fr d => Dq K F' v d
  | .ol ds => ∃ a vs, v = .ref a ∧ H' a = some (.lst vs) ∧ H a = none ∧ F' a = none ∧ DqAll K F' vs ds
  | .bo _ => False
theorem RN.rr {K : PySem.W.Frag} {v : V} {z : Rs} (R : Rel K B F0 F H σ n) (w : Grow F H F' H') (h : RN K F' H H' v z) : RR K B F' H' σ n v z := by
  cases z with
  | fr d => exact h
  | bo i => exact h.elim
  | ol ds =>
    obtain ⟨a, vs, rfl, e1, e2, e3, q⟩ := h
    refine ⟨a, vs, rfl, e1, R.b.free e2, e3, q, fun i es hi hs => ?_⟩
    obtain ⟨c, ws, e4, e5, _⟩ := R.s i _ hi
    rw [hs] at e4; cases e4
    rw [e2] at e5; cases e5
/-- what is wanted of an operation's new result -/
abbrev KN (K : PySem.W.Frag) (F H : Hp) (Q : VK) (z : Rs) : Prop := ∀ v F' H', Grow F H F' H' → RN K F' H H' v z → Q v H'
theorem Dem.fin {Q : VK} {z : Rs} (h : Dem X W B F0 F σ Q (.ok z n)) {F2 H2 : Hp} (R : Rel X.K B F0 F2 H2 σ n) (s : Same F F2) : KN X.K F2 H2 Q z := fun v F' H' w rn => h v F' H' (R.grow w) (s.trans w.f) (rn.rr R w)
/-! KN by the kind of the result -/
theorem KN.flat {K : PySem.W.Frag} {Q : VK} {d : D} {v : V} (k : KN K F H Q (.fr d)) (s : Same F H) (q : Dq K F v d) : Q v H := k v F H (.refl s) q
theorem KN.lst {K : PySem.W.Frag} {Q : VK} {ds : List D} {vs : List V} (k : KN K F H Q (.ol ds)) (s : Same F H) (q : DqAll K F vs ds) : ∀ p, H p = none → Q (.ref p) (upd H p (.lst vs)) := fun p hp =>
  k _ F _ ⟨.refl F, same_upd hp, s.trans (same_upd hp), fun _ h => .inl h⟩ ⟨p, vs, rfl, upd_same, hp, s.free hp, q⟩
theorem KN.tup {K : PySem.W.Frag} {Q : VK} {ds : List D} {vs : List V} (k : KN K F H Q (.fr (.tuple ds))) (s : Same F H) (q : DqAll K F vs ds) : ∀ p, H p = none → Q (.ref p) (upd H p (.tup vs)) := fun p hp => by
  have hf : F p = none := s.free hp
  refine k _ (upd F p (.tup vs)) _ ⟨same_upd hf, same_upd hp, fun c x e => ?_, fun c hc => ?_⟩ (.tup (.inl (.inl upd_same)) (q.mono (same_upd hf)))
  · by_cases hcp : c = p
    · subst hcp; rw [upd_same] at e ⊢; exact e
    · rw [upd_ne hcp] at e ⊢; exact s c x e
  · by_cases hcp : c = p
    · subst hcp; exact .inr hp
    · rw [upd_ne hcp] at hc; exact .inl hc
end

/-! ### names and constants -/
def eC (d : D) : Mo Rs := Mo.ret (.fr d)
def eVar (i : Nat) : Mo Rs := fun n => match n[i]? with
  | some (.fr d) => some (.ok (.fr d) n)
  | some (.ol _) => some (.ok (.bo i) n)
  | _ => none
section
variable {X : Cx} {W : WX}
theorem ve_const {e : Expr} {v : V} {d : D} (h : PE X e (tC v)) (q : ∀ F, Dq X.K F v d) : VE X W e (eC d) := ⟨fun _ => ⟨_, h, fun B F0 F H σ n Q o R e k => by
  cases e
  exact k v F H R (.refl F) (q F)⟩⟩
theorem ve_int {i : Int} {j pos} : VE X W (.Constant (.int i) j pos) (eC (.int i)) := ve_const pe_int fun _ => .int i
theorem ve_bl {b : Bool} {j pos} : VE X W (.Constant (.bool b) j pos) (eC (.bool b)) := ve_const pe_bl fun _ => .bl b
theorem ve_non {j pos} : VE X W (.Constant .none j pos) (eC .none) := ve_const pe_non fun _ => .non
theorem ve_str {x : Str} {j pos} : VE X W (.Constant (.str x) j pos) (eC (.str x)) := ve_const pe_str fun _ => .str x
theorem ve_var (i : Nat) {x : Str} {pos : Pos} (hN : X.N[i]? = some x := by rfl) (hv : Vis X.env.scope x := by first | exact Or.inl rfl | exact Or.inr (Or.inl rfl) | exact Or.inr (Or.inr rfl)) (hd : (x == ("__debug__" : Str)) = false := by decide)
    (hcd : (x == ("__classdict__" : Str)) = false := by decide) : VE X W (.Name x pos) (eVar i) := ⟨fun _ => ⟨_, pe_var hN hv hd hcd, fun B F0 F H σ n Q o R e k => by
  unfold eVar at e
  split at e
  · rename_i d hn
    cases e
    obtain ⟨v, e1, q⟩ := R.s i _ hn
    exact ⟨v, e1, k v F H R (.refl F) q⟩
  · rename_i ds hn
    cases e
    obtain ⟨a, vs, e1, _⟩ := R.s i _ hn
    exact ⟨_, e1, k _ F H R (.refl F) e1⟩
  · cases e⟩⟩

/-! ### operators -/
def eOp (g : D → D → Option Rs) (a b : Mo Rs) : Mo Rs := Mo.bind a fun r => Mo.bind b fun q => fun n => match r.data n, q.data n with
  | some d, some e => (g d e).map fun z => .ok z n
  | _, _ => none
def eUn (g : D → Option Rs) (a : Mo Rs) : Mo Rs := Mo.bind a fun r => fun n => match r.data n with
  | some d => (g d).map fun z => .ok z n
  | _ => none
def OpD (X : Cx) (f : Value → Value → Sem Value) (g : D → D → Option Rs) : Prop := ∃ r : R2, OpR X f r ∧
  ∀ F H x y d e z Q, Same F H → DB X.K F H x d → DB X.K F H y e → g d e = some z → KN X.K F H Q z → r x y H Q
def UnD (X : Cx) (f : Value → Sem Value) (g : D → Option Rs) : Prop := ∃ r : V → Hp → VK → Prop, UnR X f r ∧
  ∀ F H x d z Q, Same F H → DB X.K F H x d → g d = some z → KN X.K F H Q z → r x H Q
theorem OpD.or {f : Value → Value → Sem Value} {g g' : D → D → Option Rs} (h : OpD X f g) (h' : OpD X f g') : OpD X f (fun d e => (g d e).or (g' d e)) := by
  obtain ⟨r, o, q⟩ := h
  obtain ⟨r', o', q'⟩ := h'
  refine ⟨_, o.or o', fun F H x y d e z Q s hx hy hz k => ?_⟩
  replace hz : (g d e).or (g' d e) = some z := hz
  cases hg : g d e with
  | some z' => rw [hg] at hz; cases hz; exact .inl (q F H x y d e _ Q s hx hy hg k)
  | none => rw [hg] at hz; exact .inr (q' F H x y d e _ Q s hx hy hz k)
/-- two operands, then their data -/
theorem GdE.two {ta tb : TE} {ea eb : Mo Rs} (ha : GdE X W ta ea) (hb : GdE X W tb eb) {g : D → D → Option Rs} {r : R2}
    (hg : ∀ F H x y d e z Q, Same F H → DB X.K F H x d → DB X.K F H y e → g d e = some z → KN X.K F H Q z → r x y H Q) : GdE X W (tOp r ta tb) (eOp g ea eb) := fun B F0 F H σ n Q o R e k => by
  refine ha.seq R e (fun r1 n1 x F1 H1 R1 s1 ro1 e1 => ?_) k.exd
  refine hb.seq R1 e1 (fun r2 n2 y F2 H2 R2 s2 ro2 e2 => ?_) fun c n' h => (k.exd c n' h).mono s1
  split at e2
  · rename_i d e' hd he
    cases hz : g d e' with
    | none => rw [hz] at e2; cases e2
    | some z =>
      rw [hz] at e2
      cases e2
      exact hg F2 H2 x y d e' z Q R2.f ((ro1.mono s2).db R2 hd) (ro2.db R2 he) hz (Dem.fin k R2 (s1.trans s2))
  · cases e2
theorem GdE.one {ta : TE} {ea : Mo Rs} (ha : GdE X W ta ea) {g : D → Option Rs} {r : V → Hp → VK → Prop}
    (hg : ∀ F H x d z Q, Same F H → DB X.K F H x d → g d = some z → KN X.K F H Q z → r x H Q) : GdE X W (tUn r ta) (eUn g ea) := fun B F0 F H σ n Q o R e k => by
  refine ha.seq R e (fun r1 n1 x F1 H1 R1 s1 ro1 e1 => ?_) k.exd
  split at e1
  · rename_i d hd
    cases hz : g d with
    | none => rw [hz] at e1; cases e1
    | some z =>
      rw [hz] at e1
      cases e1
      exact hg F1 H1 x d z Q R1.f (ro1.db R1 hd) hz (Dem.fin k R1 s1)
  · cases e1
variable {a b c : Expr} {ea eb ec : Mo Rs} {pos : Pos}
theorem ve_op {op : Operator} {g : D → D → Option Rs} (ho : OpD X (binaryOp op) g) (ha : VE X W a ea) (hb : VE X W b eb) : VE X W (.BinOp a op b pos) (eOp g ea eb) := ⟨fun C => by
  obtain ⟨ta, pa, qa⟩ := ha.ex C
  obtain ⟨tb, pb, qb⟩ := hb.ex C
  obtain ⟨r, o, q⟩ := ho
  exact ⟨_, pe_op o pa pb, qa.two qb q⟩⟩
theorem ve_un {op : UnaryOp} {g : D → Option Rs} (ho : UnD X (unaryOp op) g) (ha : VE X W a ea) : VE X W (.UnaryOp op a pos) (eUn g ea) := ⟨fun C => by
  obtain ⟨ta, pa, qa⟩ := ha.ex C
  obtain ⟨r, o, q⟩ := ho
  exact ⟨_, pe_un o pa, qa.one q⟩⟩
theorem ve_cmp {op : CmpOp} {g : D → D → Option Rs} (ho : X.A.units + 100 < cLine → OpD X (compareOp op) g) (ha : VE X W a ea) (hb : VE X W b eb) (hm : behindInMarks op b = false) : VE X W (.Compare a [op] [b] pos) (eOp g ea eb) := ⟨fun C => by
  obtain ⟨ta, pa, qa⟩ := ha.ex C
  obtain ⟨tb, pb, qb⟩ := hb.ex C
  obtain ⟨r, o, q⟩ := ho C.hu
  exact ⟨_, pe_cmpR o pa pb hm, qa.two qb q⟩⟩
/-! ### tests -/
def asB (r : Rs) : Option Bool := match r with
  | .fr (.bool b) => some b
  | _ => none
/-- the value as a test: a bool -/
def eT (a : Mo Rs) : Mo Bool := Mo.bind a fun r => fun n => match r.data n with
  | some (.bool b) => some (.ok b n)
  | _ => none
theorem GdE.test {ta : TE} (ha : GdE X W ta ea) : GdT X W (tTest ta) (eT ea) := fun B F0 F H σ n Q o R e k => by
  refine ha.seq R e (fun r1 n1 x F1 H1 R1 s1 ro1 e1 => ?_) k.exd
  split at e1
  · rename_i b hd
    cases e1
    have := (ro1.db R1 hd).bool
    subst this
    exact ⟨b, rfl, k F1 H1 R1 s1⟩
  · cases e1
theorem vt_cmp {op : CmpOp} {g : D → D → Option Rs} (ho : X.A.units + 100 < cLine → OpD X (compareOp op) g) (ha : VE X W a ea) (hb : VE X W b eb) (hm : behindInMarks op b = false) : VT X W (.Compare a [op] [b] pos) (eT (eOp g ea eb)) := ⟨fun C => by
  obtain ⟨ta, pa, qa⟩ := ha.ex C
  obtain ⟨tb, pb, qb⟩ := hb.ex C
  obtain ⟨r, o, q⟩ := ho C.hu
  exact ⟨_, pt_cmpR o pa pb hm, (qa.two qb q).test⟩⟩
/-- a value's truth -/
def truD : D → Option Bool
  | .none => some false
  | .bool b => some b
  | .int i => some (i != 0)
  | .str x => if x.length ≤ sizeLine then some ((x.length : Int) != 0) else none
  | .list ds => some (!ds.isEmpty)
  | .tuple ds => some (!ds.isEmpty)
  | .dict _ => none
def eTr (a : Mo Rs) : Mo Bool := Mo.bind a fun r => fun n => match r.data n with
  | some d => (truD d).map fun b => .ok b n
  | _ => none
theorem DqAll.isEmpty {K : PySem.W.Frag} {F : Hp} {vs : List V} {ds : List D} (h : DqAll K F vs ds) : ds.isEmpty = vs.isEmpty := by
  cases h <;> rfl
theorem tru_of {K : PySem.W.Frag} {F H : Hp} {x : V} {d : D} {b : Bool} (s : Same F H) (h : DB K F H x d) (e : truD d = some b) : TruV K x H b := by
  cases d with
  | none => cases h.none; cases e; rfl
  | bool c => cases h.bool; cases e; rfl
  | int i => cases h.int; cases e; rfl
  | str y =>
    cases h.str
    unfold truD at e
    simp only at e
    split at e
    · rename_i hl; cases e; exact ⟨hl, rfl⟩
    · cases e
  | list ds => obtain ⟨a, vs, rfl, hr, q⟩ := h.lst s; cases e; exact .inl ⟨vs, SqL.of hr, by rw [q.isEmpty]⟩
  | tuple ds => obtain ⟨a, vs, rfl, hr, _, q⟩ := h.tup s; cases e; exact .inr (.inl ⟨vs, hr, by rw [q.isEmpty]⟩)
  | dict kvs => cases e
theorem vt_truth (ha : VE X W a ea) (he : ∀ whole, isTrue a X.env whole = (do let v ← whole; standAt a.pos; holding [v] (truthy v)) := by intro _; rfl) : VT X W a (eTr ea) := ⟨fun C => by
  obtain ⟨ta, pa, qa⟩ := ha.ex C
  refine ⟨_, pt_truth pa he, fun B F0 F H σ n Q o R e k => ?_⟩
  refine qa.seq R e (fun r1 n1 x F1 H1 R1 s1 ro1 e1 => ?_) k.exd
  split at e1
  · rename_i d hd
    cases hz : truD d with
    | none => rw [hz] at e1; cases e1
    | some z =>
      rw [hz] at e1
      cases e1
      exact ⟨z, tru_of R1.f (ro1.db R1 hd) hz, k F1 H1 R1 s1⟩
  · cases e1⟩
def bNot (a : Mo Bool) : Mo Bool := Mo.bind a fun b => Mo.ret (!b)
def bAnd (a b : Mo Bool) : Mo Bool := Mo.bind a fun x => if x then b else Mo.ret false
def bOr (a b : Mo Bool) : Mo Bool := Mo.bind a fun x => if x then Mo.ret true else b
variable {ba bb : Mo Bool}
theorem vt_not (ha : VT X W a ba) : VT X W (.UnaryOp .Not a pos) (bNot ba) := ⟨fun C => by
  obtain ⟨ta, pa, qa⟩ := ha.ex C
  refine ⟨_, pt_not pa, fun B F0 F H σ n Q o R e k => ?_⟩
  refine qa.seq R e (fun b n1 F1 H1 R1 s1 e1 => ?_) k.exd
  cases e1
  exact k F1 H1 R1 s1⟩
theorem VW.vt (h : VW X W a ba) : VT X W a ba := ⟨fun C => by
  obtain ⟨t, p, q⟩ := h.ex C
  exact ⟨t, p.pt, q⟩⟩
theorem vw_and1 (ha : VT X W a ba) : VW X W (.BoolOp .And [a] pos) ba := ⟨fun C => by
  obtain ⟨ta, pa, qa⟩ := ha.ex C
  exact ⟨_, pw_and1 pa, qa⟩⟩
theorem vw_or1 (ha : VT X W a ba) : VW X W (.BoolOp .Or [a] pos) ba := ⟨fun C => by
  obtain ⟨ta, pa, qa⟩ := ha.ex C
  exact ⟨_, pw_or1 pa, qa⟩⟩
theorem vw_and {rest : List Expr} (ha : VT X W a ba) (hb : VW X W (.BoolOp .And (b :: rest) pos) bb) : VW X W (.BoolOp .And (a :: b :: rest) pos) (bAnd ba bb) := ⟨fun C => by
  obtain ⟨ta, pa, qa⟩ := ha.ex C
  obtain ⟨tb, pb, qb⟩ := hb.ex C
  refine ⟨_, pw_and pa pb, fun B F0 F H σ n Q o R e k => ?_⟩
  refine qa.seq R e (fun b n1 F1 H1 R1 s1 e1 => ?_) k.exd
  cases b with
  | true => exact iteT (qb B F0 F1 H1 σ n1 Q o R1 e1 (k.mono s1))
  | false => cases e1; exact iteF (k F1 H1 R1 s1)⟩
theorem vw_or {rest : List Expr} (ha : VT X W a ba) (hb : VW X W (.BoolOp .Or (b :: rest) pos) bb) : VW X W (.BoolOp .Or (a :: b :: rest) pos) (bOr ba bb) := ⟨fun C => by
  obtain ⟨ta, pa, qa⟩ := ha.ex C
  obtain ⟨tb, pb, qb⟩ := hb.ex C
  refine ⟨_, pw_or pa pb, fun B F0 F H σ n Q o R e k => ?_⟩
  refine qa.seq R e (fun b n1 F1 H1 R1 s1 e1 => ?_) k.exd
  cases b with
  | false => exact iteF (qb B F0 F1 H1 σ n1 Q o R1 e1 (k.mono s1))
  | true => cases e1; exact iteT (k F1 H1 R1 s1)⟩
/-! and, or, not as values: all but the last are bools -/
def eAnd (a b : Mo Rs) : Mo Rs := Mo.bind (eT a) fun x => if x then b else eC (.bool false)
def eOr (a b : Mo Rs) : Mo Rs := Mo.bind (eT a) fun x => if x then eC (.bool true) else b
def eNot (a : Mo Rs) : Mo Rs := eUn (fun d => match d with | .bool b => some (.fr (.bool (!b))) | _ => none) a
theorem ve_one {op} (h : VE X W a ea) : VE X W (.BoolOp op [a] pos) ea := ⟨fun C => by
  obtain ⟨ta, pa, qa⟩ := h.ex C
  exact ⟨_, pe_one pa, qa⟩⟩
theorem ve_and {rest : List Expr} (ha : VE X W a ea) (hb : VE X W (.BoolOp .And (b :: rest) pos) eb) : VE X W (.BoolOp .And (a :: b :: rest) pos) (eAnd ea eb) := ⟨fun C => by
  obtain ⟨ta, pa, qa⟩ := ha.ex C
  obtain ⟨tb, pb, qb⟩ := hb.ex C
  refine ⟨_, pe_and pa pb, fun B F0 F H σ n Q o R e k => ?_⟩
  have h := GdT.seq (Q := fun c H1 => if c = true then tb σ H1 Q else Q (.bl false) H1) qa.test R e (fun b n1 F1 H1 R1 s1 e1 => ?_) k.exd
  · exact h
  · cases b with
    | true => exact iteT (qb B F0 F1 H1 σ n1 Q o R1 e1 (k.mono s1))
    | false => cases e1; exact iteF (k _ F1 H1 R1 s1 (.bl false))⟩
theorem ve_or {rest : List Expr} (ha : VE X W a ea) (hb : VE X W (.BoolOp .Or (b :: rest) pos) eb) : VE X W (.BoolOp .Or (a :: b :: rest) pos) (eOr ea eb) := ⟨fun C => by
  obtain ⟨ta, pa, qa⟩ := ha.ex C
  obtain ⟨tb, pb, qb⟩ := hb.ex C
  refine ⟨_, pe_or pa pb, fun B F0 F H σ n Q o R e k => ?_⟩
  have h := GdT.seq (Q := fun c H1 => if c = true then Q (.bl true) H1 else tb σ H1 Q) qa.test R e (fun b n1 F1 H1 R1 s1 e1 => ?_) k.exd
  · exact h
  · cases b with
    | false => exact iteF (qb B F0 F1 H1 σ n1 Q o R1 e1 (k.mono s1))
    | true => cases e1; exact iteT (k _ F1 H1 R1 s1 (.bl true))⟩
theorem ve_not (ha : VE X W a ea) : VE X W (.UnaryOp .Not a pos) (eNot ea) := ⟨fun C => by
  obtain ⟨ta, pa, qa⟩ := ha.ex C
  refine ⟨_, pe_not pa, ?_⟩
  refine GdE.one (r := fun x H1 Q => ∃ c, x = .bl c ∧ Q (.bl (!c)) H1) qa fun F H x d z Q s hx hz k => ?_
  cases d with
  | bool b => cases hx.bool; cases hz; exact ⟨b, rfl, k.flat s (.bl _)⟩
  | _ => cases hz⟩
/-! x if t else y -/
def eIf (t : Mo Bool) (a b : Mo Rs) : Mo Rs := Mo.bind t fun x => if x then a else b
theorem ve_if (hc : VT X W c ba) (ha : VE X W a ea) (hb : VE X W b eb) : VE X W (.IfExp c a b pos) (eIf ba ea eb) := ⟨fun C => by
  obtain ⟨tc, pc, qc⟩ := hc.ex C
  obtain ⟨ta, pa, qa⟩ := ha.ex C
  obtain ⟨tb, pb, qb⟩ := hb.ex C
  refine ⟨_, pe_ifExp pc pa pb, fun B F0 F H σ n Q o R e k => ?_⟩
  refine qc.seq R e (fun b n1 F1 H1 R1 s1 e1 => ?_) k.exd
  cases b with
  | true => exact iteT (qa B F0 F1 H1 σ n1 Q o R1 e1 (k.mono s1))
  | false => exact iteF (qb B F0 F1 H1 σ n1 Q o R1 e1 (k.mono s1))⟩
/-! ### argument lists, displays -/
def aNil : Mo (List Rs) := Mo.ret []
def aCons (a : Mo Rs) (as : Mo (List Rs)) : Mo (List Rs) := Mo.bind a fun r => Mo.bind as fun rs => Mo.ret (r :: rs)
def rsData : List Rs → En → Option (List D)
  | [], _ => some []
  | r :: rs, n => match r.data n, rsData rs n with
    | some d, some ds => some (d :: ds)
    | _, _ => none
variable {es : List Expr} {ae : Mo (List Rs)}
theorem va_nil : VA X W [] aNil := ⟨fun C => ⟨_, pa_nil, fun B F0 F H σ n Q o R e k => by
  cases e
  exact k [] F H R (.refl F) .nil⟩⟩
theorem va_cons (ha : VE X W a ea) (hr : VA X W es ae) (hs : starEach (a :: es) X.env = (false, eval a X.env) :: starEach es X.env := by rfl) : VA X W (a :: es) (aCons ea ae) := ⟨fun C => by
  obtain ⟨ta, pa, qa⟩ := ha.ex C
  obtain ⟨tb, pb, qb⟩ := hr.ex C
  refine ⟨_, pa_cons pa pb hs, fun B F0 F H σ n Q o R e k => ?_⟩
  refine qa.seq R e (fun r1 n1 x F1 H1 R1 s1 ro1 e1 => ?_) k.exd
  refine qb.seq R1 e1 (fun rs n2 vs F2 H2 R2 s2 ro2 e2 => ?_) fun c n' h => (k.exd c n' h).mono s1
  cases e2
  exact k _ F2 H2 R2 (s1.trans s2) (.cons (ro1.mono s2) ro2)⟩
abbrev DBs (K : PySem.W.Frag) (F H : Hp) : List V → List D → Prop := Paired (DB K F H)
theorem ROs.db {B F0 F H : Hp} {σ : L2.St} {n : En} (R : Rel X.K B F0 F H σ n) : ∀ {vs : List V} {rs : List Rs} {ds : List D}, ROs X F σ vs rs → rsData rs n = some ds → DBs X.K F H vs ds
  | _, _, _, .nil, e => by cases e; exact .nil
  | _, _, _, .cons h t, e => by
    unfold rsData at e
    split at e
    · rename_i d ds' h1 h2
      cases e
      exact .cons (h.db R h1) (ROs.db R t h2)
    · cases e
/-- a call by values -/
def eCall (g : List D → Option Rs) (av : Mo (List Rs)) : Mo Rs := Mo.bind av fun rs => fun n => match rsData rs n with
  | some ds => (g ds).map fun z => .ok z n
  | _ => none
theorem GdA.call {ta : TA} (ha : GdA X W ta ae) {g : List D → Option Rs} {r : List V → Hp → VK → Prop}
    (hg : ∀ F H xs ds z Q, Same F H → DBs X.K F H xs ds → g ds = some z → KN X.K F H Q z → r xs H Q) : GdE X W (tCB r ta) (eCall g ae) := fun B F0 F H σ n Q o R e k => by
  refine ha.seq R e (fun rs n1 vs F1 H1 R1 s1 ro1 e1 => ?_) k.exd
  split at e1
  · rename_i ds hd
    cases hz : g ds with
    | none => rw [hz] at e1; cases e1
    | some z =>
      rw [hz] at e1
      cases e1
      exact hg F1 H1 vs ds z Q R1.f (ro1.db R1 hd) hz (Dem.fin k R1 s1)
  · cases e1
def CallD (X : Cx) (f : Value) (g : List D → Option Rs) : Prop := ∃ r : List V → Hp → VK → Prop, CallR X f r ∧
  ∀ F H xs ds z Q, Same F H → DBs X.K F H xs ds → g ds = some z → KN X.K F H Q z → r xs H Q
theorem CallD.or {f : Value} {g g' : List D → Option Rs} (h : CallD X f g) (h' : CallD X f g') : CallD X f (fun ds => (g ds).or (g' ds)) := by
  obtain ⟨r, o, q⟩ := h
  obtain ⟨r', o', q'⟩ := h'
  refine ⟨_, o.or o', fun F H xs ds z Q s hx hz k => ?_⟩
  replace hz : (g ds).or (g' ds) = some z := hz
  cases hg : g ds with
  | some z' => rw [hg] at hz; cases hz; exact .inl (q F H xs ds _ Q s hx hg k)
  | none => rw [hg] at hz; exact .inr (q' F H xs ds _ Q s hx hz k)
theorem ve_callB {id : String} {g : List D → Option Rs} {x : Str} {p : Pos} (hc : Ctx X W → CallD X (.builtin id) g) (hm : X.mg x = none) (hv : bootBuiltins x = some (.builtin id)) (ha : VA X W (a :: es) ae) (hg : Gl X x := by rfl) (hn : x ≠ "__name__" := by decide) (hdb : (x == ("__debug__" : Str)) = false := by decide)
    (he : starEach (a :: es) X.env = (false, eval a X.env) :: starEach es X.env := by rfl) (hpl : (backTo pos (starEach es X.env)).any (·.1) = false := by rfl) : VE X W (.Call (.Name x p) (a :: es) [] pos) (eCall g ae) := ⟨fun C => by
  obtain ⟨ta, pa, qa⟩ := ha.ex C
  obtain ⟨r, o, q⟩ := hc C
  exact ⟨_, pe_callB o hg hm hv pa hn hdb he hpl, qa.call q⟩⟩
theorem ve_callTy {T : String} {g : List D → Option Rs} {x : Str} {p : Pos} (hc : Ctx X W → CallD X (.type T) g) (hm : X.mg x = none) (hv : bootBuiltins x = some (.type T)) (ha : VA X W (a :: es) ae) (hg : Gl X x := by rfl) (hn : x ≠ "__name__" := by decide) (hdb : (x == ("__debug__" : Str)) = false := by decide)
    (he : starEach (a :: es) X.env = (false, eval a X.env) :: starEach es X.env := by rfl) (hpl : (backTo pos (starEach es X.env)).any (·.1) = false := by rfl) : VE X W (.Call (.Name x p) (a :: es) [] pos) (eCall g ae) := ⟨fun C => by
  obtain ⟨ta, pa, qa⟩ := ha.ex C
  obtain ⟨r, o, q⟩ := hc C
  exact ⟨_, pe_callTy o hg hm hv pa hn hdb he hpl, qa.call q⟩⟩
end
end J

/-! J2: operators, comparisons, subscripts, slices, built-in calls, by value. -/
namespace J
open PySem PySem.Spec PyProof.Rows L2

/-! ### lists of ints, bools, texts as data -/
abbrev dI (i : Int) : D := .int i
def asInts : List D → Option (List Int)
  | [] => some []
  | .int i :: r => (asInts r).map (i :: ·)
  | _ :: _ => none
def asBools : List D → Option (List Bool)
  | [] => some []
  | .bool i :: r => (asBools r).map (i :: ·)
  | _ :: _ => none
def asStrs : List D → Option (List Str)
  | [] => some []
  | .str i :: r => (asStrs r).map (i :: ·)
  | _ :: _ => none
theorem asInts_map : ∀ ns : List Int, asInts (ns.map PyData.int) = some ns
  | [] => rfl
  | i :: r => by rw [List.map_cons]; unfold asInts; rw [asInts_map r]; rfl
theorem asBools_map : ∀ ns : List Bool, asBools (ns.map PyData.bool) = some ns
  | [] => rfl
  | i :: r => by rw [List.map_cons]; unfold asBools; rw [asBools_map r]; rfl
theorem asStrs_map : ∀ ns : List Str, asStrs (ns.map PyData.str) = some ns
  | [] => rfl
  | i :: r => by rw [List.map_cons]; unfold asStrs; rw [asStrs_map r]; rfl
theorem asInts_eq : ∀ {ds : List D} {ns : List Int}, asInts ds = some ns → ds = ns.map PyData.int
  | [], _, e => by cases e; rfl
  | d :: r, ns, e => by
    cases d with
    | int i =>
      unfold asInts at e
      cases h : asInts r with
      | none => rw [h] at e; cases e
      | some ms => rw [h] at e; cases e; rw [asInts_eq h]; rfl
    | _ => cases e
theorem asBools_eq : ∀ {ds : List D} {ns : List Bool}, asBools ds = some ns → ds = ns.map PyData.bool
  | [], _, e => by cases e; rfl
  | d :: r, ns, e => by
    cases d with
    | bool i =>
      unfold asBools at e
      cases h : asBools r with
      | none => rw [h] at e; cases e
      | some ms => rw [h] at e; cases e; rw [asBools_eq h]; rfl
    | _ => cases e
theorem asStrs_eq : ∀ {ds : List D} {ns : List Str}, asStrs ds = some ns → ds = ns.map PyData.str
  | [], _, e => by cases e; rfl
  | d :: r, ns, e => by
    cases d with
    | str i =>
      unfold asStrs at e
      cases h : asStrs r with
      | none => rw [h] at e; cases e
      | some ms => rw [h] at e; cases e; rw [asStrs_eq h]; rfl
    | _ => cases e
section
variable {K : PySem.W.Frag} {F : Hp}
theorem DqAll.ints : ∀ {ns : List Int} {vs : List V}, DqAll K F vs (ns.map PyData.int) → vs = ns.map V.int
  | [], _, .nil => rfl
  | i :: r, _, .cons h t => by cases h; rw [DqAll.ints t]; rfl
theorem DqAll.bools : ∀ {ns : List Bool} {vs : List V}, DqAll K F vs (ns.map PyData.bool) → vs = ns.map V.bl
  | [], _, .nil => rfl
  | i :: r, _, .cons h t => by cases h; rw [DqAll.bools t]; rfl
theorem DqAll.strs : ∀ {ns : List Str} {vs : List V}, DqAll K F vs (ns.map PyData.str) → vs = ns.map V.str
  | [], _, .nil => rfl
  | i :: r, _, .cons h t => by cases h; rw [DqAll.strs t]; rfl
theorem DqAll.of_ints : ∀ ns : List Int, DqAll K F (ns.map V.int) (ns.map PyData.int)
  | [] => .nil
  | i :: r => .cons (.int i) (DqAll.of_ints r)
theorem DqAll.of_strs : ∀ ns : List Str, DqAll K F (ns.map V.str) (ns.map PyData.str)
  | [] => .nil
  | i :: r => .cons (.str i) (DqAll.of_strs r)
end
/-- data without parts -/
def flatD : D → Bool
  | .list _ => false
  | .tuple _ => false
  | .dict _ => false
  | _ => true

/-! ### operators -/
def fint (i : Int) : Option Rs := some (.fr (.int i))
def fbl (b : Bool) : Option Rs := some (.fr (.bool b))
def dAdd : D → D → Option Rs
  | .int i, .int j => fint (i + j)
  | .int i, .bool k => fint (i + b2i k)
  | .str x, .str y => if x.length + y.length ≤ sizeLine then some (.fr (.str (x ++ y))) else none
  | .list xs, .list ys => if xs.length + ys.length ≤ sizeLine then some (.ol (xs ++ ys)) else none
  | .tuple xs, .tuple ys => if xs.length + ys.length ≤ sizeLine then some (.fr (.tuple (xs ++ ys))) else none
  | _, _ => none
def dSub : D → D → Option Rs
  | .int i, .int j => fint (i - j)
  | _, _ => none
/-- a product that the rules allow -/
noncomputable def mulOk (i j : Int) : Bool := @decide ((-(2 ^ 64) < i ∧ i < 2 ^ 64) ∨ (-(2 ^ 64) < j ∧ j < 2 ^ 64) ∨ i.natAbs.log2 + j.natAbs.log2 < 1000000) (Classical.propDecidable _)
noncomputable def dMul : D → D → Option Rs
  | .int i, .int j => if mulOk i j then fint (i * j) else none
  | .list xs, .int k => if -(2 ^ 63) ≤ k ∧ k < 2 ^ 63 ∧ xs.length * k.toNat ≤ sizeLine then some (.ol (List.replicate k.toNat xs).flatten) else none
  | _, _ => none
def divOk (j : Int) : Bool := decide (j ≠ 0) && (decide (j.natAbs < 1073741824) || (decide (0 < j) && decide (j.natAbs.log2 < 9000)))
def dFdiv : D → D → Option Rs
  | .int i, .int j => if divOk j then fint (i.fdiv j) else none
  | _, _ => none
def dMod : D → D → Option Rs
  | .int i, .int j => if j ≠ 0 then fint (i.fmod j) else none
  | _, _ => none
def dPow : D → D → Option Rs
  | .int i, .int j => if 0 ≤ j ∧ j ≤ 1000000 ∧ i.natAbs < 2 ^ 64 then fint (i ^ j.toNat) else none
  | _, _ => none
def dNeg : D → Option Rs
  | .int i => fint (-i)
  | _ => none
section
variable {X : Cx}
theorem od_add : OpD X (binaryOp .Add) dAdd := by
  refine ⟨_, op_add.or (op_add_ib.or (op_add_str.or (op_cat.or op_catA))), fun F H x y d e z Q s hx hy hz k => ?_⟩
  unfold dAdd at hz
  split at hz
  · cases hx.int; cases hy.int; cases hz; exact .inl ⟨_, _, rfl, rfl, k.flat s (.int _)⟩
  · cases hx.int; cases hy.bool; cases hz; exact .inr (.inl ⟨_, _, rfl, rfl, k.flat s (.int _)⟩)
  · cases hx.str; cases hy.str
    split at hz
    · rename_i hl; cases hz; exact .inr (.inr (.inl ⟨_, _, rfl, rfl, hl, k.flat s (.str _)⟩))
    · cases hz
  · split at hz
    · rename_i hl
      cases hz
      obtain ⟨a, vs, rfl, ha, qa⟩ := hx.lst s
      obtain ⟨b, ws, rfl, hb, qb⟩ := hy.lst s
      exact .inr (.inr (.inr (.inl ⟨a, b, vs, ws, rfl, rfl, ha, hb, by rw [qa.length, qb.length]; exact hl, k.lst s (qa.append qb)⟩)))
    · cases hz
  · split at hz
    · rename_i hl
      cases hz
      obtain ⟨a, vs, rfl, ha, ha', qa⟩ := hx.tup s
      obtain ⟨b, ws, rfl, hb, hb', qb⟩ := hy.tup s
      refine .inr (.inr (.inr (.inr ⟨a, b, vs, ws, rfl, rfl, ha, hb, by rw [qa.length, qb.length]; exact hl, fun e => ?_, fun _ e => ?_, fun _ _ => k.tup s (qa.append qb)⟩)))
      · subst e
        cases qa
        exact k.flat s (.tup hb' qb)
      · subst e
        cases qb
        rw [List.append_nil] at k
        exact k.flat s (.tup ha' qa)
    · cases hz
  · cases hz
theorem od_sub : OpD X (binaryOp .Sub) dSub := by
  refine ⟨_, op_sub, fun F H x y d e z Q s hx hy hz k => ?_⟩
  unfold dSub at hz
  split at hz
  · cases hx.int; cases hy.int; cases hz; exact ⟨_, _, rfl, rfl, k.flat s (.int _)⟩
  · cases hz
theorem od_mul : OpD X (binaryOp .Mult) dMul := by
  refine ⟨_, op_mul.or (op_mulW.or op_rep), fun F H x y d e z Q s hx hy hz k => ?_⟩
  unfold dMul at hz
  split at hz
  · cases hx.int; cases hy.int
    split at hz
    · rename_i hm
      cases hz
      rcases @of_decide_eq_true _ (Classical.propDecidable _) hm with hm | hm | hm
      · exact .inl ⟨_, _, rfl, rfl, .inl hm, k.flat s (.int _)⟩
      · exact .inl ⟨_, _, rfl, rfl, .inr hm, k.flat s (.int _)⟩
      · exact .inr (.inl ⟨_, _, rfl, rfl, hm, k.flat s (.int _)⟩)
    · cases hz
  · split at hz
    · rename_i hl
      cases hz
      obtain ⟨a, vs, rfl, ha, qa⟩ := hx.lst s
      cases hy.int
      exact .inr (.inr ⟨a, _, vs, rfl, rfl, ha, hl.1, hl.2.1, by rw [qa.length]; exact hl.2.2, k.lst s (qa.rep _)⟩)
    · cases hz
  · cases hz
theorem od_fdiv : OpD X (binaryOp .FloorDiv) dFdiv := by
  refine ⟨_, op_fdivN.or op_fdivW, fun F H x y d e z Q s hx hy hz k => ?_⟩
  unfold dFdiv at hz
  split at hz
  · cases hx.int; cases hy.int
    rename_i i j
    split at hz
    · rename_i hm
      cases hz
      unfold divOk at hm
      rw [Bool.and_eq_true, Bool.or_eq_true, Bool.and_eq_true] at hm
      rcases hm with ⟨h0, hm | hm⟩
      · exact .inl ⟨_, _, rfl, rfl, ⟨of_decide_eq_true h0, of_decide_eq_true hm⟩, k.flat s (.int _)⟩
      · have hp : 0 < j := of_decide_eq_true hm.1
        refine .inr ⟨i, j, rfl, rfl, ⟨hp, of_decide_eq_true hm.2⟩, ?_⟩
        show Q (.int (i / j)) H
        rw [← Int.fdiv_eq_ediv_of_nonneg i (Int.le_of_lt hp)]
        exact k.flat s (.int _)
    · cases hz
  · cases hz
theorem od_mod : OpD X (binaryOp .Mod) dMod := by
  refine ⟨_, op_modN, fun F H x y d e z Q s hx hy hz k => ?_⟩
  unfold dMod at hz
  split at hz
  · cases hx.int; cases hy.int
    split at hz
    · rename_i h0; cases hz; exact ⟨_, _, rfl, rfl, h0, k.flat s (.int _)⟩
    · cases hz
  · cases hz
theorem od_pow : OpD X (binaryOp .Pow) dPow := by
  refine ⟨_, op_pow, fun F H x y d e z Q s hx hy hz k => ?_⟩
  unfold dPow at hz
  split at hz
  · cases hx.int; cases hy.int
    split at hz
    · rename_i h0; cases hz; exact ⟨_, _, rfl, rfl, h0, k.flat s (.int _)⟩
    · cases hz
  · cases hz
theorem ud_neg : UnD X (unaryOp .USub) dNeg := by
  refine ⟨_, un_neg, fun F H x d z Q s hx hz k => ?_⟩
  unfold dNeg at hz
  split at hz
  · cases hx.int; cases hz; exact ⟨_, rfl, k.flat s (.int _)⟩
  · cases hz

/-! ### comparisons -/
def dEq (d e : D) : Option Rs := if SeqAt.shaped d = true ∧ SeqAt.shaped e = true then fbl (PyData.eqv d e) else none
def dNe (d e : D) : Option Rs := if SeqAt.shaped d = true ∧ SeqAt.shaped e = true then fbl (!PyData.eqv d e) else none
theorem od_eq (hu : X.A.units + 100 < cLine) : OpD X (compareOp .Eq) dEq := by
  refine ⟨_, op_eqD (by omega), fun F H x y d e z Q s hx hy hz k => ?_⟩
  unfold dEq at hz
  split at hz
  · rename_i h; cases hz; exact ⟨d, e, (hx.dq s).dp (SeqAt.canLay_of_shaped h.1), (hy.dq s).dp (SeqAt.canLay_of_shaped h.2), h.1, h.2, k.flat s (.bl _)⟩
  · cases hz
theorem od_ne (hu : X.A.units + 100 < cLine) : OpD X (compareOp .NotEq) dNe := by
  refine ⟨_, op_neD (by omega), fun F H x y d e z Q s hx hy hz k => ?_⟩
  unfold dNe at hz
  split at hz
  · rename_i h; cases hz; exact ⟨d, e, (hx.dq s).dp (SeqAt.canLay_of_shaped h.1), (hy.dq s).dp (SeqAt.canLay_of_shaped h.2), h.1, h.2, k.flat s (.bl _)⟩
  · cases hz
def dLt : D → D → Option Rs
  | .int i, .int j => fbl (decide (i < j))
  | .str i, .str j => fbl (decide (i.cps.toList < j.cps.toList))
  | .tuple xs, .tuple ys => match asInts xs, asInts ys with
    | some ns, some ms => fbl (HT.lexLt ns ms)
    | _, _ => none
  | _, _ => none
def dLe : D → D → Option Rs
  | .int i, .int j => fbl (decide (i ≤ j))
  | .str i, .str j => fbl (!decide (j.cps.toList < i.cps.toList))
  | .tuple xs, .tuple ys => match asInts xs, asInts ys with
    | some ns, some ms => fbl (lexLeI ns ms)
    | _, _ => none
  | _, _ => none
def dGt : D → D → Option Rs
  | .int i, .int j => fbl (decide (j < i))
  | .str i, .str j => fbl (decide (j.cps.toList < i.cps.toList))
  | _, _ => none
def dGe : D → D → Option Rs
  | .int i, .int j => fbl (decide (j ≤ i))
  | .str i, .str j => fbl (!decide (i.cps.toList < j.cps.toList))
  | _, _ => none
theorem od_lt (hu : X.A.units + 100 < cLine) : OpD X (compareOp .Lt) dLt := by
  refine ⟨_, op_lt.or (op_lt_str.or (op_ltT (by omega))), fun F H x y d e z Q s hx hy hz k => ?_⟩
  unfold dLt at hz
  split at hz
  · cases hx.int; cases hy.int; cases hz; exact .inl ⟨_, _, rfl, rfl, k.flat s (.bl _)⟩
  · cases hx.str; cases hy.str; cases hz; exact .inr (.inl ⟨_, _, rfl, rfl, k.flat s (.bl _)⟩)
  · split at hz
    · rename_i ns ms h1 h2
      cases hz
      obtain ⟨a, vs, rfl, ha, _, qa⟩ := hx.tup s
      obtain ⟨b, ws, rfl, hb, _, qb⟩ := hy.tup s
      rw [asInts_eq h1] at qa
      rw [asInts_eq h2] at qb
      rw [qa.ints] at ha
      rw [qb.ints] at hb
      exact .inr (.inr ⟨a, b, ns, ms, rfl, rfl, ha, hb, k.flat s (.bl _)⟩)
    · cases hz
  · cases hz
theorem lexAt_shift {e r : Nat → Bool} {z : Bool} : ∀ (k i : Nat), Ob.lexAt e r z (i + 1) k = Ob.lexAt (fun j => e (j + 1)) (fun j => r (j + 1)) z i k
  | 0, i => rfl
  | k + 1, i => by
    rw [Ob.lexAt_succ, Ob.lexAt_succ, lexAt_shift k (i + 1)]
theorem lexAt_le : ∀ (ns ms : List Int), Ob.lexAt (fun j => decide (ns.getD j 0 = ms.getD j 0)) (fun j => decide (ns.getD j 0 ≤ ms.getD j 0)) (decide (ns.length ≤ ms.length)) 0 (min ns.length ms.length) = lexLeI ns ms
  | [], ms => by simp [Ob.lexAt, lexLeI]
  | x :: xs, [] => by simp [Ob.lexAt, lexLeI]
  | x :: xs, y :: ys => by
    have h : min (x :: xs).length (y :: ys).length = min xs.length ys.length + 1 := by simp only [List.length_cons]; omega
    rw [h, Ob.lexAt_succ, lexAt_shift]
    have ih := lexAt_le xs ys
    simp only [List.getD_cons_zero, List.getD_cons_succ, List.length_cons, Nat.add_le_add_iff_right, decide_eq_true_eq]
    rw [ih, lexLeI]
theorem od_le (hu : X.A.units + 100 < cLine) : OpD X (compareOp .LtE) dLe := by
  refine ⟨_, op_le.or (op_le_str.or (op_leT (by omega))), fun F H x y d e z Q s hx hy hz k => ?_⟩
  unfold dLe at hz
  split at hz
  · cases hx.int; cases hy.int; cases hz; exact .inl ⟨_, _, rfl, rfl, k.flat s (.bl _)⟩
  · cases hx.str; cases hy.str; cases hz; exact .inr (.inl ⟨_, _, rfl, rfl, k.flat s (.bl _)⟩)
  · split at hz
    · rename_i ns ms h1 h2
      cases hz
      obtain ⟨a, vs, rfl, ha, _, qa⟩ := hx.tup s
      obtain ⟨b, ws, rfl, hb, _, qb⟩ := hy.tup s
      rw [asInts_eq h1] at qa
      rw [asInts_eq h2] at qb
      rw [qa.ints] at ha
      rw [qb.ints] at hb
      exact .inr (.inr ⟨a, b, ns, ms, rfl, rfl, ha, hb, by rw [lexAt_le]; exact k.flat s (.bl _)⟩)
    · cases hz
  · cases hz
theorem od_gt (hu : X.A.units + 100 < cLine) : OpD X (compareOp .Gt) dGt := by
  refine ⟨_, op_gt.or op_gt_str, fun F H x y d e z Q s hx hy hz k => ?_⟩
  unfold dGt at hz
  split at hz
  · cases hx.int; cases hy.int; cases hz; exact .inl ⟨_, _, rfl, rfl, k.flat s (.bl _)⟩
  · cases hx.str; cases hy.str; cases hz; exact .inr ⟨_, _, rfl, rfl, k.flat s (.bl _)⟩
  · cases hz
theorem od_ge (hu : X.A.units + 100 < cLine) : OpD X (compareOp .GtE) dGe := by
  refine ⟨_, op_ge.or op_ge_str, fun F H x y d e z Q s hx hy hz k => ?_⟩
  unfold dGe at hz
  split at hz
  · cases hx.int; cases hy.int; cases hz; exact .inl ⟨_, _, rfl, rfl, k.flat s (.bl _)⟩
  · cases hx.str; cases hy.str; cases hz; exact .inr ⟨_, _, rfl, rfl, k.flat s (.bl _)⟩
  · cases hz
/-! in, not in -/
theorem eqV_dq {K : PySem.W.Frag} {F : Hp} {x y : V} {d e : D} (hx : Dq K F x d) (hy : Dq K F y e) (fd : flatD d = true) (fe : flatD e = true) : eqV x y = PyData.eqv d e := by
  cases hx <;> cases hy <;> first | rfl | (unfold flatD at fd; exact absurd fd Bool.false_ne_true) | (unfold flatD at fe; exact absurd fe Bool.false_ne_true) | (unfold eqV PyData.eqv; rfl)
theorem flatV_dq {K : PySem.W.Frag} {F : Hp} {x : V} {d : D} (hx : Dq K F x d) (fd : flatD d = true) : flatV x = true := by
  cases hx <;> first | rfl | (unfold flatD at fd; exact absurd fd Bool.false_ne_true)
theorem inV_dq {K : PySem.W.Frag} {F F' : Hp} {x : V} {d : D} (hx : Dq K F' x d) (fd : flatD d = true) : ∀ {vs : List V} {ds : List D}, DqAll K F vs ds → ds.all flatD = true → vs.all flatV = true ∧ inV x vs = ds.any fun z => PyData.eqv z d
  | _, _, .nil, _ => ⟨rfl, rfl⟩
  | v :: vs, e :: es, .cons h t, f => by
    rw [List.all_cons, Bool.and_eq_true] at f
    obtain ⟨h1, h2⟩ := inV_dq hx fd t f.2
    have hv : flatV v = true := flatV_dq h f.1
    refine ⟨by rw [List.all_cons, hv, h1]; rfl, ?_⟩
    have e1 : eqV v x = PyData.eqv e d := by
      cases h <;> cases hx <;> first | rfl | (unfold flatD at fd; exact absurd fd Bool.false_ne_true) | (exact absurd f.1 (by unfold flatD; exact Bool.false_ne_true)) | (unfold eqV PyData.eqv; rfl)
    unfold inV at h2 ⊢
    rw [List.any_cons, List.any_cons, e1, h2]
def dIn (d : D) : D → Option Bool
  | .list ds => if (flatD d = true ∧ ds.all flatD = true) ∨ (SeqAt.shaped d = true ∧ SeqAt.shaped (.list ds) = true) then some (ds.any fun z => PyData.eqv z d) else none
  | .tuple ds => if flatD d = true ∧ ds.all flatD = true then some (ds.any fun z => PyData.eqv z d) else none
  | .str y => match d with
    | .str x => some (!(Builtin.Str.occurrences y x 0 y.length 1).isEmpty)
    | _ => none
  | _ => none
def dInR (d e : D) : Option Rs := (dIn d e).bind fun b => fbl b
def dNotIn (d e : D) : Option Rs := (dIn d e).bind fun b => fbl (!b)
theorem od_in (hu : X.A.units + 100 < cLine) : OpD X (compareOp .In) dInR := by
  refine ⟨_, op_in_seq.or ((op_inD (by omega)).or op_in_str), fun F H x y d e z Q s hx hy hz k => ?_⟩
  unfold dInR dIn at hz
  split at hz
  · rename_i ds
    split at hz
    · rename_i h
      cases hz
      by_cases hf : flatD d = true ∧ ds.all flatD = true
      · obtain ⟨a, vs, rfl, ha, qa⟩ := hy.lst s
        obtain ⟨h1, h2⟩ := inV_dq (hx.dq s) hf.1 qa hf.2
        refine .inl ⟨a, vs, rfl, .inl (SqL.of ha), flatV_dq (hx.dq s) hf.1, h1, ?_⟩
        rw [h2]
        exact k.flat s (.bl _)
      · rcases h with h | h
        · exact absurd h hf
        · exact .inr (.inl ⟨d, ds, (hx.dq s).dp (SeqAt.canLay_of_shaped h.1), (hy.dq s).dp (SeqAt.canLay_of_shaped h.2), h.1, h.2, k.flat s (.bl _)⟩)
    · cases hz
  · rename_i ds
    split at hz
    · rename_i hf
      cases hz
      obtain ⟨a, vs, rfl, ha, _, qa⟩ := hy.tup s
      obtain ⟨h1, h2⟩ := inV_dq (hx.dq s) hf.1 qa hf.2
      refine .inl ⟨a, vs, rfl, .inr ha, flatV_dq (hx.dq s) hf.1, h1, ?_⟩
      rw [h2]
      exact k.flat s (.bl _)
    · cases hz
  · split at hz
    · cases hx.str; cases hy.str; cases hz; exact .inr (.inr ⟨_, _, rfl, rfl, k.flat s (.bl _)⟩)
    · cases hz
  · cases hz
theorem od_notin (hu : X.A.units + 100 < cLine) : OpD X (compareOp .NotIn) dNotIn := by
  refine ⟨_, op_notIn_seq.or ((op_notInD (by omega)).or op_notin_str), fun F H x y d e z Q s hx hy hz k => ?_⟩
  unfold dNotIn dIn at hz
  split at hz
  · rename_i ds
    split at hz
    · rename_i h
      cases hz
      by_cases hf : flatD d = true ∧ ds.all flatD = true
      · obtain ⟨a, vs, rfl, ha, qa⟩ := hy.lst s
        obtain ⟨h1, h2⟩ := inV_dq (hx.dq s) hf.1 qa hf.2
        refine .inl ⟨a, vs, rfl, .inl (SqL.of ha), flatV_dq (hx.dq s) hf.1, h1, ?_⟩
        rw [h2]
        exact k.flat s (.bl _)
      · rcases h with h | h
        · exact absurd h hf
        · exact .inr (.inl ⟨d, ds, (hx.dq s).dp (SeqAt.canLay_of_shaped h.1), (hy.dq s).dp (SeqAt.canLay_of_shaped h.2), h.1, h.2, k.flat s (.bl _)⟩)
    · cases hz
  · rename_i ds
    split at hz
    · rename_i hf
      cases hz
      obtain ⟨a, vs, rfl, ha, _, qa⟩ := hy.tup s
      obtain ⟨h1, h2⟩ := inV_dq (hx.dq s) hf.1 qa hf.2
      refine .inl ⟨a, vs, rfl, .inr ha, flatV_dq (hx.dq s) hf.1, h1, ?_⟩
      rw [h2]
      exact k.flat s (.bl _)
    · cases hz
  · split at hz
    · cases hx.str; cases hy.str; cases hz; exact .inr (.inr ⟨_, _, rfl, rfl, k.flat s (.bl _)⟩)
    · cases hz
  · cases hz
/-! is, is not: None, bools -/
def dIs : D → D → Option Rs
  | .none, .none => fbl true
  | .bool a, .bool b => fbl (decide (a = b))
  | _, .none => fbl false
  | _, _ => none
def dIsNot : D → D → Option Rs
  | .none, .none => fbl false
  | .bool a, .bool b => fbl (!decide (a = b))
  | _, .none => fbl true
  | _, _ => none
theorem DB.non_iff {K : PySem.W.Frag} {F H : Hp} {x : V} {d : D} (hx : DB K F H x d) : decide (x = .non) = (match d with | .none => true | _ => false) := by
  cases hx with
  | fr h => cases h <;> rfl
  | ow _ _ => rfl
theorem od_is : OpD X (compareOp .Is) dIs := by
  refine ⟨_, op_isN.or op_isBl, fun F H x y d e z Q s hx hy hz k => ?_⟩
  have hn := hx.non_iff
  unfold dIs at hz
  split at hz
  · cases hy.none; cases hz; exact .inl ⟨rfl, by rw [hn]; exact k.flat s (.bl _)⟩
  · cases hx.bool; cases hy.bool; cases hz; exact .inr ⟨_, _, rfl, rfl, k.flat s (.bl _)⟩
  · cases hy.none; cases hz
    rename_i h1
    refine .inl ⟨rfl, ?_⟩
    rw [hn]
    cases d <;> first | exact k.flat s (.bl _) | exact (h1 rfl rfl).elim | exact (h1 rfl).elim
  · cases hz
theorem od_isnot : OpD X (compareOp .IsNot) dIsNot := by
  refine ⟨_, op_notN.or op_notBl, fun F H x y d e z Q s hx hy hz k => ?_⟩
  have hn := hx.non_iff
  unfold dIsNot at hz
  split at hz
  · cases hy.none; cases hz; exact .inl ⟨rfl, by rw [hn]; exact k.flat s (.bl _)⟩
  · cases hx.bool; cases hy.bool; cases hz; exact .inr ⟨_, _, rfl, rfl, k.flat s (.bl _)⟩
  · cases hy.none; cases hz
    rename_i h1
    refine .inl ⟨rfl, ?_⟩
    rw [hn]
    cases d <;> first | exact k.flat s (.bl _) | exact (h1 rfl rfl).elim | exact (h1 rfl).elim
  · cases hz
end
end J

/-! J3: subscripts, slices, displays, built-in calls, what is walked, comprehensions. -/
namespace J
open PySem PySem.Spec PyProof.Rows L2

/-! ### subscripts -/
def dIdx : D → D → Option Rs
  | .list ds, .int i => (atI ds i).map .fr
  | .dict [(.none, .list ds)], .int i => (atI ds i).map .fr
  | .tuple ds, .int i => (atI ds i).map .fr
  | .str x, .int i => if x.length ≤ sizeLine then (atI x.cps.toList i).map fun c => .fr (.str ⟨#[c]⟩) else none
  | _, _ => none
theorem DqAll.atI {K : PySem.W.Frag} {F : Hp} {vs : List V} {ds : List D} {i : Int} {d : D} (h : DqAll K F vs ds) (e : L2.atI ds i = some d) : ∃ v, L2.atI vs i = some v ∧ Dq K F v d := by
  unfold L2.atI at e ⊢
  rw [h.length]
  cases q : ixN ds.length i with
  | none => rw [q] at e; cases e
  | some j =>
    rw [q] at e
    exact h.get e
section
variable {X : Cx} {W : WX}
def IxD (X : Cx) (g : D → D → Option Rs) : Prop := ∃ r : R2, IxR X r ∧
  ∀ F H x y d e z Q, Same F H → DB X.K F H x d → DB X.K F H y e → g d e = some z → KN X.K F H Q z → r x y H Q
theorem id_seq : IxD X dIdx := by
  refine ⟨_, ix_seq, fun F H x y d e z Q s hx hy hz k => ?_⟩
  unfold dIdx at hz
  split at hz
  · rename_i ds i
    cases hy.int
    obtain ⟨a, vs, rfl, ha, qa⟩ := hx.lst s
    cases h : L2.atI ds i with
    | none => rw [h] at hz; cases hz
    | some d =>
      rw [h] at hz
      cases hz
      obtain ⟨v, e1, q1⟩ := qa.atI h
      exact .inl ⟨a, vs, i, v, rfl, rfl, SqL.of ha, e1, k.flat s q1⟩
  · rename_i ds i
    cases hy.int
    obtain ⟨a, vs, rfl, ha, qa⟩ := hx.scr s
    cases h : L2.atI ds i with
    | none => rw [h] at hz; cases hz
    | some d =>
      rw [h] at hz
      cases hz
      obtain ⟨v, e1, q1⟩ := qa.atI h
      exact .inl ⟨a, vs, i, v, rfl, rfl, ha, e1, k.flat s q1⟩
  · rename_i ds i
    cases hy.int
    obtain ⟨a, vs, rfl, ha, _, qa⟩ := hx.tup s
    cases h : L2.atI ds i with
    | none => rw [h] at hz; cases hz
    | some d =>
      rw [h] at hz
      cases hz
      obtain ⟨v, e1, q1⟩ := qa.atI h
      exact .inr (.inl ⟨a, vs, i, v, rfl, rfl, ha, e1, k.flat s q1⟩)
  · rename_i z' i
    cases hx.str; cases hy.int
    split at hz
    · rename_i hl
      cases h : L2.atI z'.cps.toList i with
      | none => rw [h] at hz; cases hz
      | some c =>
        rw [h] at hz
        cases hz
        exact .inr (.inr ⟨z', i, c, rfl, rfl, hl, h, k.flat s (.str _)⟩)
    · cases hz
  · cases hz
variable {a b c : Expr} {ea eb ec : Mo Rs} {pos : Pos}
theorem ve_ix (ha : VE X W a ea) (hb : VE X W b eb) (hs : PlainIx b := by intro _ _; rfl) : VE X W (.Subscript a b pos) (eOp dIdx ea eb) := ⟨fun C => by
  obtain ⟨ta, pa, qa⟩ := ha.ex C
  obtain ⟨tb, pb, qb⟩ := hb.ex C
  obtain ⟨r, o, q⟩ := id_seq (X := X)
  exact ⟨_, pe_ix o pa pb hs, qa.two qb q⟩⟩

/-! ### slices -/
def DemO (X : Cx) (W : WX) (B F0 F : Hp) (σ : L2.St) (Q : Option Int → Hp → Prop) : Oc (Option Int) → Prop
  | .ok b n => ∀ F' H', Rel X.K B F0 F' H' σ n → Same F F' → Q b H'
  | .ex c n => ExD X W B F0 F σ c n
def GdO (X : Cx) (W : WX) (t : TO) (ev : Mo (Option Int)) : Prop := ∀ B F0 F H σ n Q o, Rel X.K B F0 F H σ n → ev n = some o → DemO X W B F0 F σ Q o → t σ H Q
structure VO (X : Cx) (W : WX) (e : Option Expr) (ev : Mo (Option Int)) : Prop where
  ex : Ctx X W → ∃ t : TO, PO X e t ∧ GdO X W t ev
theorem GdO.seq {B F0 F H : Hp} {σ : L2.St} {n : En} {t : TO} {ev : Mo (Option Int)} (h : GdO X W t ev) {β : Type} {f : Option Int → Mo β} {o : Oc β} {Q : Option Int → Hp → Prop} (R : Rel X.K B F0 F H σ n) (e : Mo.bind ev f n = some o)
    (ok : ∀ b n1 F1 H1, Rel X.K B F0 F1 H1 σ n1 → Same F F1 → f b n1 = some o → Q b H1) (ex : ∀ c n1, o = .ex c n1 → ExD X W B F0 F σ c n1) : t σ H Q := by
  unfold Mo.bind at e
  split at e
  · cases e
  · rename_i r n1 he
    exact h B F0 F H σ n Q _ R he fun F1 H1 R1 s1 => ok r n1 F1 H1 R1 s1 e
  · rename_i c n1 he
    refine h B F0 F H σ n Q _ R he ?_
    exact ex c n1 (Option.some.inj e).symm
def oNo : Mo (Option Int) := Mo.ret none
def oSome (a : Mo Rs) : Mo (Option Int) := Mo.bind a fun r => fun n => match r.data n with
  | some (.int i) => some (.ok (some i) n)
  | _ => none
theorem vo_none : VO X W none oNo := ⟨fun C => ⟨_, po_none, fun B F0 F H σ n Q o R e k => by
  cases e
  exact k F H R (.refl F)⟩⟩
theorem vo_some (ha : VE X W a ea) : VO X W (some a) (oSome ea) := ⟨fun C => by
  obtain ⟨ta, pa, qa⟩ := ha.ex C
  refine ⟨_, po_some pa, fun B F0 F H σ n Q o R e k => ?_⟩
  refine qa.seq R e (fun r1 n1 x F1 H1 R1 s1 ro1 e1 => ?_) fun c n1 h => by subst h; exact k
  split at e1
  · rename_i i hd
    cases e1
    exact ⟨i, (ro1.db R1 hd).int, k F1 H1 R1 s1⟩
  · cases e1⟩
def cutD (xs : List D) (lo hi : Option Int) : List D := (xs.drop (HT.sIx xs.length 0 lo)).take (HT.sIx xs.length xs.length hi - HT.sIx xs.length 0 lo)
def dCut (d : D) (lo hi : Option Int) : Option Rs := match d with
  | .list ds => some (.ol (cutD ds lo hi))
  | .tuple ds => some (.fr (.tuple (cutD ds lo hi)))
  | .str x => if x.length ≤ sizeLine then some (.fr (.str (cutS x lo hi))) else none
  | _ => none
def eCut (a : Mo Rs) (lo hi : Mo (Option Int)) : Mo Rs := Mo.bind a fun r => Mo.bind lo fun l => Mo.bind hi fun h => fun n => match r.data n with
  | some d => (dCut d l h).map fun z => .ok z n
  | _ => none
theorem DqAll.cut {K : PySem.W.Frag} {F : Hp} {vs : List V} {ds : List D} (h : DqAll K F vs ds) (lo hi : Option Int) : DqAll K F (cutV vs lo hi) (cutD ds lo hi) := by
  unfold cutV cutD
  rw [h.length]
  exact (h.drop _).take _
theorem cutD_whole {ds : List D} {lo hi : Option Int} (h : HT.sIx ds.length 0 lo = 0 ∧ HT.sIx ds.length ds.length hi = ds.length) : cutD ds lo hi = ds := by
  unfold cutD
  rw [h.1, h.2]
  simp
theorem ve_cut {lo hi : Option Expr} {ol oh : Mo (Option Int)} {p2 : Pos} (ha : VE X W a ea) (hl : VO X W lo ol) (hh : VO X W hi oh) : VE X W (.Subscript a (.Slice lo hi none p2) pos) (eCut ea ol oh) := ⟨fun C => by
  obtain ⟨ta, pa, qa⟩ := ha.ex C
  obtain ⟨tl, pl, ql⟩ := hl.ex C
  obtain ⟨th, ph, qh⟩ := hh.ex C
  refine ⟨_, pe_slice (sl_list.or (sl_tupA.or sl_str)) pa pl ph, fun B F0 F H σ n Q o R e k => ?_⟩
  refine qa.seq R e (fun r1 n1 x F1 H1 R1 s1 ro1 e1 => ?_) k.exd
  refine ql.seq R1 e1 (fun l n2 F2 H2 R2 s2 e2 => ?_) fun c n' h => (k.exd c n' h).mono s1
  refine qh.seq R2 e2 (fun u n3 F3 H3 R3 s3 e3 => ?_) fun c n' h => (k.exd c n' h).mono (s1.trans s2)
  split at e3
  · rename_i d hd
    cases hz : dCut d l u with
    | none => rw [hz] at e3; cases e3
    | some z =>
      rw [hz] at e3
      cases e3
      have kk := Dem.fin k R3 ((s1.trans s2).trans s3)
      have hx := (ro1.mono (s2.trans s3)).db R3 hd
      have s := R3.f
      unfold dCut at hz
      split at hz
      · rename_i ds
        cases hz
        obtain ⟨a, vs, rfl, ha, qa⟩ := hx.lst s
        exact .inl ⟨a, vs, rfl, SqL.of ha, kk.lst s (qa.cut l u)⟩
      · rename_i ds
        cases hz
        obtain ⟨a, vs, rfl, ha, ha', qa⟩ := hx.tup s
        refine .inr (.inl ⟨a, vs, rfl, ha, fun hw => ?_, fun _ => kk.tup s (qa.cut l u)⟩)
        rw [qa.length] at hw
        rw [cutD_whole hw] at kk
        exact kk.flat s (.tup ha' qa)
      · cases hx.str
        split at hz
        · rename_i hl
          cases hz
          exact .inr (.inr ⟨_, rfl, hl, kk.flat s (.str _)⟩)
        · cases hz
      · cases hz
  · cases e3⟩

/-! ### displays -/
/-- operands become data that never changes -/
def frz1 : Rs → En → Option (D × En)
  | .fr d, n => some (d, n)
  | .ol ds, n => some (.list ds, n)
  | .bo i, n => match n[i]? with
    | some (.fr d) => some (d, n)
    | some (.ol ds) => some (.list ds, n.set i (.fr (.list ds)))
    | _ => none
def frzAll : List Rs → En → Option (List D × En)
  | [], n => some ([], n)
  | r :: rs, n => match frz1 r n with
    | some (d, n1) => match frzAll rs n1 with
      | some (ds, n2) => some (d :: ds, n2)
      | none => none
    | none => none
def eTup (av : Mo (List Rs)) : Mo Rs := Mo.bind av fun rs => fun n => match frzAll rs n with
  | some (ds, n') => if ds.length ≤ sizeLine then some (.ok (.fr (.tuple ds)) n') else none
  | none => none
def eLst (av : Mo (List Rs)) : Mo Rs := Mo.bind av fun rs => fun n => match frzAll rs n with
  | some (ds, n') => if ds.length ≤ sizeLine then some (.ok (.ol ds) n') else none
  | none => none
variable {B F0 F F' H : Hp} {σ : L2.St} {n n' : En}
/-- a slot's own list becomes data that never changes -/
theorem Rel.frzSlot {i : Nat} {ds : List D} (R : Rel X.K B F0 F H σ n) (hn : n[i]? = some (.ol ds)) : ∃ F' v, Rel X.K B F0 F' H σ (n.set i (.fr (.list ds))) ∧ Same F F' ∧ σ[i]? = some (some v) ∧ Dq X.K F' v (.list ds) := by
  obtain ⟨a, vs, e1, e2, e3, e4, q⟩ := R.s i _ hn
  have hi : i < n.length := by
    rw [List.getElem?_eq_some_iff] at hn
    exact hn.1
  refine ⟨upd F a (.lst vs), .ref a, ⟨by rw [List.length_set]; exact R.len, R.b, fun c x e => ?_, R.f0.trans (same_upd e4), fun c hc => ?_, fun j x e => ?_, fun j k ds' es c h1 h2 h3 h4 => ?_⟩, same_upd e4, e1, .lst upd_same (q.mono (same_upd e4))⟩
  · by_cases hca : c = a
    · subst hca; rw [upd_same] at e; cases e; exact e2
    · rw [upd_ne hca] at e; exact R.f c x e
  · by_cases hca : c = a
    · subst hca; exact .inr e3
    · rw [upd_ne hca] at hc; exact R.g c hc
  · by_cases hji : j = i
    · subst hji
      rw [List.getElem?_set_self hi] at e
      cases e
      exact ⟨_, e1, .lst upd_same (q.mono (same_upd e4))⟩
    · rw [List.getElem?_set_ne (Ne.symm hji)] at e
      have r := R.s j x e
      cases x with
      | un => trivial
      | pin a => exact r
      | fr d => obtain ⟨v, e5, q5⟩ := r; exact ⟨v, e5, q5.mono (same_upd e4)⟩
      | ol es =>
        obtain ⟨b, ws, e5, e6, e7, e8, q5⟩ := r
        refine ⟨b, ws, e5, e6, e7, ?_, q5.mono (same_upd e4)⟩
        rw [upd_ne (fun z => hji (R.d j i es ds a e hn (by rw [e5, z]) e1))]
        exact e8
  · have g : ∀ (m : Nat) (xs : List D), (n.set i (.fr (.list ds)))[m]? = some (.ol xs) → n[m]? = some (.ol xs) := fun m xs hm => by
      by_cases hmi : m = i
      · subst hmi; rw [List.getElem?_set_self hi] at hm; cases hm
      · rw [List.getElem?_set_ne (Ne.symm hmi)] at hm; exact hm
    exact R.d j k ds' es c (g j ds' h1) (g k es h2) h3 h4
theorem RO.frzd {v : V} {r : Rs} {d : D} (R : Rel X.K B F0 F H σ n) (h : RO X.K F σ v r) (e : frz1 r n = some (d, n')) : ∃ F', Rel X.K B F0 F' H σ n' ∧ Same F F' ∧ Dq X.K F' v d := by
  cases r with
  | fr d' => cases e; exact ⟨F, R, .refl F, h⟩
  | ol ds => cases e; exact ⟨F, R, .refl F, h⟩
  | bo i =>
    replace e : (match n[i]? with | some (.fr d) => some (d, n) | some (.ol ds) => some (PyData.list ds, n.set i (.fr (.list ds))) | _ => none) = some (d, n') := e
    split at e
    · rename_i d' hn
      cases e
      obtain ⟨v', e1, q⟩ := R.s i _ hn
      have h' : σ[i]? = some (some v) := h
      rw [h'] at e1; cases e1
      exact ⟨F, R, .refl F, q⟩
    · rename_i ds hn
      cases e
      obtain ⟨F1, v', R1, s1, e1, q⟩ := R.frzSlot hn
      have h' : σ[i]? = some (some v) := h
      rw [h'] at e1; cases e1
      exact ⟨F1, R1, s1, q⟩
    · cases e
theorem ROs.frz : ∀ {vs : List V} {rs : List Rs} {ds : List D} {F : Hp} {n n' : En}, Rel X.K B F0 F H σ n → ROs X F σ vs rs → frzAll rs n = some (ds, n') → ∃ F', Rel X.K B F0 F' H σ n' ∧ Same F F' ∧ DqAll X.K F' vs ds
  | _, _, _, F, _, _, R, .nil, e => by cases e; exact ⟨F, R, .refl F, .nil⟩
  | _, r :: rs, _, F, n, n', R, .cons h t, e => by
    unfold frzAll at e
    split at e
    · rename_i d n1 h1
      split at e
      · rename_i ds n2 h2
        cases e
        obtain ⟨F1, R1, s1, q1⟩ := h.frzd R h1
        obtain ⟨F2, R2, s2, q2⟩ := ROs.frz R1 (Paired.mapP t fun _ _ r => r.mono s1) h2
        exact ⟨F2, R2, s1.trans s2, .cons (q1.mono s2) q2⟩
      · cases e
    · cases e
variable {es : List Expr} {ae : Mo (List Rs)}
theorem ve_tup {x1} (h : VA X W es ae) : VE X W (.Tuple es x1 pos) (eTup ae) := ⟨fun C => by
  obtain ⟨ta, pa, qa⟩ := h.ex C
  refine ⟨_, pe_tup pa, fun B F0 F H σ n Q o R e k => ?_⟩
  refine qa.seq R e (fun rs n1 vs F1 H1 R1 s1 ro1 e1 => ?_) k.exd
  split at e1
  · rename_i ds n2 h2
    split at e1
    · rename_i hl
      cases e1
      obtain ⟨F2, R2, s2, q2⟩ := ROs.frz R1 ro1 h2
      exact ⟨by rw [q2.length]; exact hl, KN.tup (Dem.fin k R2 (s1.trans s2)) R2.f q2⟩
    · cases e1
  · cases e1⟩
theorem ve_lst (h : VA X W es ae) : VE X W (.List es pos) (eLst ae) := ⟨fun C => by
  obtain ⟨ta, pa, qa⟩ := h.ex C
  refine ⟨_, pe_lst pa, fun B F0 F H σ n Q o R e k => ?_⟩
  refine qa.seq R e (fun rs n1 vs F1 H1 R1 s1 ro1 e1 => ?_) k.exd
  split at e1
  · rename_i ds n2 h2
    split at e1
    · rename_i hl
      cases e1
      obtain ⟨F2, R2, s2, q2⟩ := ROs.frz R1 ro1 h2
      exact ⟨by rw [q2.length]; exact hl, KN.lst (Dem.fin k R2 (s1.trans s2)) R2.f q2⟩
    · cases e1
  · cases e1⟩
end
end J

/-! J4: calls: built-in functions, isinstance, defs of the text. -/
namespace J
open PySem PySem.Spec PyProof.Rows L2

/-! ### built-in functions -/
def dLen : List D → Option Rs
  | [.list ds] => fint ds.length
  | [.tuple ds] => fint ds.length
  | [.str x] => if x.length ≤ sizeLine then fint x.length else none
  | [.dict [(.none, .list ds)]] => fint ds.length
  | _ => none
def dInt : List D → Option Rs
  | [.int i] => fint i
  | [.bool k] => fint (if k then 1 else 0)
  | _ => none
def dStr : List D → Option Rs
  | [.int i] => if i.natAbs.log2 < 1920 then some (.fr (.str (toString i))) else none
  | _ => none
def dTuple : List D → Option Rs
  | [.list ds] => some (.fr (.tuple ds))
  | [.tuple ds] => some (.fr (.tuple ds))
  | _ => none
def dList : List D → Option Rs
  | [.list ds] => some (.ol ds)
  | [.tuple ds] => some (.ol ds)
  | _ => none
def sortI (ns : List Int) : List Int := ns.mergeSort fun a b => decide (a ≤ b)
theorem sortI_perm (ns : List Int) : (sortI ns).Perm ns := List.mergeSort_perm _ _
theorem sortI_sorted (ns : List Int) : (sortI ns).Pairwise (· ≤ ·) := by
  have h := List.pairwise_mergeSort (le := fun a b : Int => decide (a ≤ b)) (fun a b c h1 h2 => by simp at *; omega) (fun a b => by simp; omega) ns
  exact h.imp fun h => by simpa using h
theorem sortI_uniq {ns ms : List Int} (p : ms.Perm ns) (s : ms.Pairwise (· ≤ ·)) : ms = sortI ns := PySem.W.ksm_same (p.trans (sortI_perm ns).symm) s (sortI_sorted ns)
def dSorted : List D → Option Rs
  | [.list ds] => (asInts ds).map fun ns => .ol ((sortI ns).map .int)
  | _ => none
def dAll : List D → Option Rs
  | [.list ds] => (asBools ds).bind fun bs => fbl (bs.all id)
  | _ => none
def dAny : List D → Option Rs
  | [.list ds] => (asBools ds).bind fun bs => fbl (bs.any id)
  | _ => none
def dSum : List D → Option Rs
  | [.list ds] => (asInts ds).bind fun ns => fint ns.sum
  | _ => none
def maxI : List Int → Int
  | [] => 0
  | [x] => x
  | x :: y :: r => max x (maxI (y :: r))
def minI : List Int → Int
  | [] => 0
  | [x] => x
  | x :: y :: r => min x (minI (y :: r))
theorem maxI_spec : ∀ {ns : List Int}, ns ≠ [] → maxI ns ∈ ns ∧ ∀ y ∈ ns, y ≤ maxI ns
  | [], h => absurd rfl h
  | [x], _ => ⟨List.mem_singleton.mpr rfl, fun y hy => by rw [List.mem_singleton.mp hy]; exact Int.le_refl _⟩
  | x :: y :: r, _ => by
    obtain ⟨h1, h2⟩ := maxI_spec (ns := y :: r) (by simp)
    have e : maxI (x :: y :: r) = max x (maxI (y :: r)) := rfl
    rw [e]
    constructor
    · rcases Int.le_total x (maxI (y :: r)) with h | h
      · rw [Int.max_eq_right h]; exact List.mem_cons_of_mem _ h1
      · rw [Int.max_eq_left h]; exact List.mem_cons_self
    · intro z hz
      rcases List.mem_cons.mp hz with rfl | hz
      · omega
      · have := h2 z hz; omega
theorem minI_spec : ∀ {ns : List Int}, ns ≠ [] → minI ns ∈ ns ∧ ∀ y ∈ ns, minI ns ≤ y
  | [], h => absurd rfl h
  | [x], _ => ⟨List.mem_singleton.mpr rfl, fun y hy => by rw [List.mem_singleton.mp hy]; exact Int.le_refl _⟩
  | x :: y :: r, _ => by
    obtain ⟨h1, h2⟩ := minI_spec (ns := y :: r) (by simp)
    have e : minI (x :: y :: r) = min x (minI (y :: r)) := rfl
    rw [e]
    constructor
    · rcases Int.le_total x (minI (y :: r)) with h | h
      · rw [Int.min_eq_left h]; exact List.mem_cons_self
      · rw [Int.min_eq_right h]; exact List.mem_cons_of_mem _ h1
    · intro z hz
      rcases List.mem_cons.mp hz with rfl | hz
      · omega
      · have := h2 z hz; omega
def dMax : List D → Option Rs
  | [.list ds] => (asInts ds).bind fun ns => if ns = [] then none else fint (maxI ns)
  | [.int i, .int j] => fint (if j > i then j else i)
  | _ => none
def dMin : List D → Option Rs
  | [.list ds] => (asInts ds).bind fun ns => if ns = [] then none else fint (minI ns)
  | [.int i, .int j] => fint (if j < i then j else i)
  | _ => none
def dAbs : List D → Option Rs
  | [.int i] => fint (if i < 0 then -i else i)
  | _ => none
def dOrd : List D → Option Rs
  | [.str x] => if x.length = 1 then fint ((x.cps.getD 0 0 : Nat) : Int) else none
  | _ => none
section
variable {X : Cx} {W : WX}
theorem dbs1 {K : PySem.W.Frag} {F H : Hp} {xs : List V} {d : D} (h : DBs K F H xs [d]) : ∃ x, xs = [x] ∧ DB K F H x d := by
  cases h with
  | cons a t => cases t; exact ⟨_, rfl, a⟩
theorem dbs2 {K : PySem.W.Frag} {F H : Hp} {xs : List V} {d e : D} (h : DBs K F H xs [d, e]) : ∃ x y, xs = [x, y] ∧ DB K F H x d ∧ DB K F H y e := by
  cases h with
  | cons a t => cases t with
    | cons b t => cases t; exact ⟨_, _, rfl, a, b⟩
theorem cd_len : CallD X (.builtin "len") dLen := by
  refine ⟨_, call_len, fun F H xs ds z Q s h hz k => ?_⟩
  unfold dLen at hz
  split at hz
  · obtain ⟨x, rfl, hx⟩ := dbs1 h
    obtain ⟨a, vs, rfl, ha, q⟩ := hx.lst s
    cases hz
    exact ⟨_, _, rfl, .inl ⟨vs, SqL.of ha, q.length.symm⟩, k.flat s (.int _)⟩
  · obtain ⟨x, rfl, hx⟩ := dbs1 h
    obtain ⟨a, vs, rfl, ha, _, q⟩ := hx.tup s
    cases hz
    exact ⟨_, _, rfl, .inr ⟨vs, ha, q.length.symm⟩, k.flat s (.int _)⟩
  · obtain ⟨x, rfl, hx⟩ := dbs1 h
    cases hx.str
    split at hz
    · rename_i hl; cases hz; exact ⟨_, _, rfl, ⟨hl, rfl⟩, k.flat s (.int _)⟩
    · cases hz
  · obtain ⟨x, rfl, hx⟩ := dbs1 h
    obtain ⟨a, vs, rfl, ha, q⟩ := hx.scr s
    cases hz
    exact ⟨_, _, rfl, .inl ⟨vs, ha, q.length.symm⟩, k.flat s (.int _)⟩
  · cases hz
theorem cd_int : CallD X (.type "int") dInt := by
  refine ⟨_, call_int1, fun F H xs ds z Q s h hz k => ?_⟩
  unfold dInt at hz
  split at hz
  · obtain ⟨x, rfl, hx⟩ := dbs1 h
    cases hx.int; cases hz
    exact .inl ⟨_, rfl, k.flat s (.int _)⟩
  · obtain ⟨x, rfl, hx⟩ := dbs1 h
    cases hx.bool; cases hz
    exact .inr ⟨_, rfl, k.flat s (.int _)⟩
  · cases hz
theorem cd_str : CallD X (.type "str") dStr := by
  refine ⟨_, call_str_int, fun F H xs ds z Q s h hz k => ?_⟩
  unfold dStr at hz
  split at hz
  · obtain ⟨x, rfl, hx⟩ := dbs1 h
    cases hx.int
    split at hz
    · rename_i hl; cases hz; exact ⟨_, rfl, hl, k.flat s (.str _)⟩
    · cases hz
  · cases hz
theorem cd_tuple : CallD X (.type "tuple") dTuple := by
  refine ⟨_, call_tuple_of, fun F H xs ds z Q s h hz k => ?_⟩
  unfold dTuple at hz
  split at hz
  · obtain ⟨x, rfl, hx⟩ := dbs1 h
    obtain ⟨a, vs, rfl, ha, q⟩ := hx.lst s
    cases hz
    exact ⟨_, _, rfl, .inl ⟨SqL.of ha, k.tup s q⟩⟩
  · obtain ⟨x, rfl, hx⟩ := dbs1 h
    obtain ⟨a, vs, rfl, ha, ha', q⟩ := hx.tup s
    cases hz
    exact ⟨_, _, rfl, .inr ⟨ha, k.flat s (.tup ha' q)⟩⟩
  · cases hz
theorem cd_list : CallD X (.type "list") dList := by
  refine ⟨_, call_list_of, fun F H xs ds z Q s h hz k => ?_⟩
  unfold dList at hz
  split at hz
  · obtain ⟨x, rfl, hx⟩ := dbs1 h
    obtain ⟨a, vs, rfl, ha, q⟩ := hx.lst s
    cases hz
    exact ⟨_, _, rfl, .inl (SqL.of ha), k.lst s q⟩
  · obtain ⟨x, rfl, hx⟩ := dbs1 h
    obtain ⟨a, vs, rfl, ha, ha', q⟩ := hx.tup s
    cases hz
    exact ⟨_, _, rfl, .inr ha, k.lst s q⟩
  · cases hz
/-- a list of ints that may be looked at -/
theorem DB.ints {K : PySem.W.Frag} {F H : Hp} {v : V} {ds : List D} {ns : List Int} (s : Same F H) (h : DB K F H v (.list ds)) (e : asInts ds = some ns) : ∃ a, v = .ref a ∧ SqL K H a (ns.map V.int) := by
  obtain ⟨a, vs, rfl, ha, q⟩ := h.lst s
  rw [asInts_eq e] at q
  rw [q.ints] at ha
  exact ⟨a, rfl, SqL.of ha⟩
theorem DB.bools {K : PySem.W.Frag} {F H : Hp} {v : V} {ds : List D} {ns : List Bool} (s : Same F H) (h : DB K F H v (.list ds)) (e : asBools ds = some ns) : ∃ a, v = .ref a ∧ SqL K H a (ns.map V.bl) := by
  obtain ⟨a, vs, rfl, ha, q⟩ := h.lst s
  rw [asBools_eq e] at q
  rw [q.bools] at ha
  exact ⟨a, rfl, SqL.of ha⟩
theorem cd_sorted : CallD X (.builtin "sorted") dSorted := by
  refine ⟨_, cr_sortedI, fun F H xs ds z Q s h hz k => ?_⟩
  unfold dSorted at hz
  split at hz
  · rename_i ds
    cases e : asInts ds with
    | none => rw [e] at hz; cases hz
    | some ns =>
      rw [e] at hz
      cases hz
      obtain ⟨x, rfl, hx⟩ := dbs1 h
      obtain ⟨a, rfl, ha⟩ := hx.ints s e
      exact ⟨a, ns, rfl, ha, fun ns' p h1 h2 hp => by rw [sortI_uniq h1 h2]; exact k.lst s (DqAll.of_ints _) p hp⟩
  · cases hz
theorem cd_all (C : Ctx X W) : CallD X (.builtin "all") dAll := by
  refine ⟨_, cr_all C.calm, fun F H xs ds z Q s h hz k => ?_⟩
  unfold dAll at hz
  split at hz
  · rename_i ds
    cases e : asBools ds with
    | none => rw [e] at hz; cases hz
    | some ns =>
      rw [e] at hz
      cases hz
      obtain ⟨x, rfl, hx⟩ := dbs1 h
      obtain ⟨a, rfl, ha⟩ := hx.bools s e
      exact ⟨a, ns, rfl, ha, k.flat s (.bl _)⟩
  · cases hz
theorem cd_any (C : Ctx X W) : CallD X (.builtin "any") dAny := by
  refine ⟨_, cr_any C.calm, fun F H xs ds z Q s h hz k => ?_⟩
  unfold dAny at hz
  split at hz
  · rename_i ds
    cases e : asBools ds with
    | none => rw [e] at hz; cases hz
    | some ns =>
      rw [e] at hz
      cases hz
      obtain ⟨x, rfl, hx⟩ := dbs1 h
      obtain ⟨a, rfl, ha⟩ := hx.bools s e
      exact ⟨a, ns, rfl, ha, k.flat s (.bl _)⟩
  · cases hz
theorem cd_sum (C : Ctx X W) : CallD X (.builtin "sum") dSum := by
  refine ⟨_, cr_sum C.calm, fun F H xs ds z Q s h hz k => ?_⟩
  unfold dSum at hz
  split at hz
  · rename_i ds
    cases e : asInts ds with
    | none => rw [e] at hz; cases hz
    | some ns =>
      rw [e] at hz
      cases hz
      obtain ⟨x, rfl, hx⟩ := dbs1 h
      obtain ⟨a, rfl, ha⟩ := hx.ints s e
      exact ⟨a, ns, rfl, ha, k.flat s (.int _)⟩
  · cases hz
theorem cd_max (C : Ctx X W) : CallD X (.builtin "max") dMax := by
  refine ⟨_, (cr_max C.calm).or (call_max2 C.calm), fun F H xs ds z Q s h hz k => ?_⟩
  unfold dMax at hz
  split at hz
  · rename_i ds
    cases e : asInts ds with
    | none => rw [e] at hz; cases hz
    | some ns =>
      rw [e] at hz
      replace hz : (if ns = [] then none else fint (maxI ns)) = some z := hz
      split at hz
      · cases hz
      · rename_i hne
        cases hz
        obtain ⟨x, rfl, hx⟩ := dbs1 h
        obtain ⟨a, rfl, ha⟩ := hx.ints s e
        obtain ⟨m1, m2⟩ := maxI_spec hne
        refine .inl ⟨a, ns, rfl, ha, List.length_pos_iff.mpr hne, fun m h1 h2 => ?_⟩
        have em : m = maxI ns := Int.le_antisymm (m2 m h1) (h2 _ m1)
        rw [em]
        exact k.flat s (.int _)
  · cases hz
    obtain ⟨x, y, rfl, hx, hy⟩ := dbs2 h
    cases hx.int; cases hy.int
    exact .inr ⟨_, _, rfl, k.flat s (.int _)⟩
  · cases hz
theorem cd_min (C : Ctx X W) : CallD X (.builtin "min") dMin := by
  refine ⟨_, (cr_min C.calm).or (call_min2 C.calm), fun F H xs ds z Q s h hz k => ?_⟩
  unfold dMin at hz
  split at hz
  · rename_i ds
    cases e : asInts ds with
    | none => rw [e] at hz; cases hz
    | some ns =>
      rw [e] at hz
      replace hz : (if ns = [] then none else fint (minI ns)) = some z := hz
      split at hz
      · cases hz
      · rename_i hne
        cases hz
        obtain ⟨x, rfl, hx⟩ := dbs1 h
        obtain ⟨a, rfl, ha⟩ := hx.ints s e
        obtain ⟨m1, m2⟩ := minI_spec hne
        refine .inl ⟨a, ns, rfl, ha, List.length_pos_iff.mpr hne, fun m h1 h2 => ?_⟩
        have em : m = minI ns := Int.le_antisymm (h2 _ m1) (m2 m h1)
        rw [em]
        exact k.flat s (.int _)
  · cases hz
    obtain ⟨x, y, rfl, hx, hy⟩ := dbs2 h
    cases hx.int; cases hy.int
    exact .inr ⟨_, _, rfl, k.flat s (.int _)⟩
  · cases hz
theorem cd_abs : CallD X (.builtin "abs") dAbs := by
  refine ⟨_, call_abs, fun F H xs ds z Q s h hz k => ?_⟩
  unfold dAbs at hz
  split at hz
  · obtain ⟨x, rfl, hx⟩ := dbs1 h
    cases hx.int; cases hz
    exact ⟨_, rfl, k.flat s (.int _)⟩
  · cases hz
theorem cd_ord : CallD X (.builtin "ord") dOrd := by
  refine ⟨_, call_ord, fun F H xs ds z Q s h hz k => ?_⟩
  unfold dOrd at hz
  split at hz
  · obtain ⟨x, rfl, hx⟩ := dbs1 h
    cases hx.str
    split at hz
    · rename_i hl; cases hz; exact ⟨_, rfl, hl, k.flat s (.int _)⟩
    · cases hz
  · cases hz

/-! ### isinstance of a built-in type -/
inductive BT where
  | list | tuple | bool | int | str
def BT.name : BT → String
  | .list => "list" | .tuple => "tuple" | .bool => "bool" | .int => "int" | .str => "str"
def isD : BT → D → Option Bool
  | .list, .list _ => some true
  | .tuple, .tuple _ => some true
  | .bool, .bool _ => some true
  | .int, .int _ => some true
  | .int, .bool _ => some true
  | .str, .str _ => some true
  | _, .dict _ => none
  | _, _ => some false
def eIsi (T : BT) (a : Mo Rs) : Mo Rs := eUn (fun d => (isD T d).map fun b => .fr (.bool b)) a
theorem ty_dq {K : PySem.W.Frag} {F : Hp} {v : V} {d : D} {T : BT} {b : Bool} (h : Dq K F v d) (e : isD T d = some b) : ∃ t : String, TyX K F v (.type t) ∧ kitB t T.name = some b := by
  cases h with
  | non => exact ⟨"NoneType", .base .non, by cases T <;> cases e <;> decide +kernel⟩
  | bl x => exact ⟨"bool", .base (.bl x), by cases T <;> cases e <;> decide +kernel⟩
  | int x => exact ⟨"int", .base (.int x), by cases T <;> cases e <;> decide +kernel⟩
  | str x => exact ⟨"str", .base (.str x), by cases T <;> cases e <;> decide +kernel⟩
  | lst h q => exact ⟨"list", .base (.lst h), by cases T <;> cases e <;> decide +kernel⟩
  | scr h q => cases T <;> cases e
  | tup h q =>
    refine ⟨"tuple", ?_, by cases T <;> cases e <;> decide +kernel⟩
    rcases h with (h | ⟨o, h⟩) | ⟨o, its, n, h, c, _⟩
    · exact .base (.tup h)
    · exact .fTuple h
    · exact .kTuple h c
variable {a b c : Expr} {ea eb ec : Mo Rs} {pos : Pos} {es : List Expr} {ae : Mo (List Rs)}
theorem ve_isi (T : BT) {x : Str} {p q : Pos} (hm : X.mg "isinstance" = none) (hmT : X.mg x = none) (hv : bootBuiltins x = some (.type T.name)) (ha : VE X W a ea) (hg : Gl X "isinstance" := by rfl) (hgT : Gl X x := by rfl) (hn : x ≠ "__name__" := by decide) (hdb : (x == ("__debug__" : Str)) = false := by decide)
    (hs : starEach [a, .Name x q] X.env = (false, eval a X.env) :: starEach [.Name x q] X.env := by rfl) (hs2 : starEach [.Name x q] X.env = (false, eval (.Name x q) X.env) :: starEach [] X.env := by rfl) (hpl : (backTo pos (starEach [.Name x q] X.env)).any (·.1) = false := by rfl) :
    VE X W (.Call (.Name "isinstance" p) [a, .Name x q] [] pos) (eIsi T ea) := ⟨fun C => by
  obtain ⟨ta, pa, qa⟩ := ha.ex C
  have pT : PE X (.Name x q) (tC (.ty T.name)) := pe_bltn hgT hmT hv rfl hn hdb
  refine ⟨_, pe_callB call_isi hg hm (by decide +kernel) (pa_cons pa (pa_cons pT pa_nil hs2) hs) (by decide) (by decide) hs hpl, ?_⟩
  refine GdE.one (r := fun x H1 Q => rIsi X.K [x, .ty T.name] H1 Q) qa fun F H x d z Q s hx hz k => ?_
  cases e : isD T d with
  | none => rw [e] at hz; cases hz
  | some b =>
    rw [e] at hz
    cases hz
    obtain ⟨t, h1, h2⟩ := ty_dq (hx.dq s) e
    exact ⟨x, .ty T.name, .type t, .type T.name, b, rfl, .ty _, h1, kit_ty h2, k.flat s (.bl _)⟩⟩

/-! ### defs of the text -/
inductive Ret where
  | ok (r : Rs)
  | ex (c : Str)
/-- what a def promises: called with data it gives what den says, and leaves what stood before as it was -/
def jsp (K : PySem.W.Frag) (mg : Str → Option Value) (k : Nat) (den : List D → Option Ret) : Sp := fun vs H Q E => vs.length = k ∧ ∃ F ds o, Same F H ∧ DqAll K F vs ds ∧ den ds = some o ∧ match o with
  | .ok r => KN K F H Q r
  | .ex c => ∀ F' H' C, Grow F H F' H' → mg c = some (.ref C) → E (.ref C) none H'
/-- a result that holds no part of what was handed in -/
def loose : Rs → Bool
  | .fr d => flatD d
  | .ol ds => ds.all flatD
  | .bo _ => false
def eFn (den : List D → Option Ret) (av : Mo (List Rs)) : Mo Rs := Mo.bind av fun rs => fun n => match frzAll rs n with
  | some (ds, n') => match den ds with
    | some (.ok r) => some (.ok r (if loose r then n else n'))
    | some (.ex c) => some (.ex c n)
    | none => none
  | none => none
theorem Dq.flat {K : PySem.W.Frag} {F F' : Hp} {v : V} {d : D} (h : Dq K F v d) (f : flatD d = true) : Dq K F' v d := by
  cases h <;> first | exact .non | exact .bl _ | exact .int _ | exact .str _ | exact absurd f Bool.false_ne_true
theorem DqAll.flat {K : PySem.W.Frag} {F F' : Hp} : ∀ {vs : List V} {ds : List D}, DqAll K F vs ds → ds.all flatD = true → DqAll K F' vs ds
  | _, _, .nil, _ => .nil
  | _, _, .cons h t, f => by
    rw [List.all_cons, Bool.and_eq_true] at f
    exact .cons (h.flat f.1) (DqAll.flat t f.2)
theorem RN.loose {K : PySem.W.Frag} {F F' H H' : Hp} {v : V} {r : Rs} (s : Same F H) (h : RN K F' H H' v r) (l : loose r = true) : RN K F H H' v r := by
  cases r with
  | fr d => exact Dq.flat h l
  | ol ds =>
    obtain ⟨a, vs, rfl, e1, e2, e3, q⟩ := h
    exact ⟨a, vs, rfl, e1, e2, s.free e2, q.flat l⟩
  | bo i => exact h.elim
theorem GdA.fn {ta : TA} (C : Ctx X W) (ha : GdA X W ta ae) {k : Nat} {den : List D → Option Ret} (hlen : ∀ ds o, den ds = some o → ds.length = k) : GdE X W (tCallS (jsp X.K X.mg k den) (WE W) ta) (eFn den ae) := fun B F0 F H σ n Q o R e kk => by
  refine ha.seq R e (fun rs n1 vs F1 H1 R1 s1 ro1 e1 => ?_) kk.exd
  split at e1
  · rename_i ds n' hf
    obtain ⟨F2, R2, s2, q2⟩ := ROs.frz R1 ro1 hf
    split at e1
    · rename_i r hd
      cases e1
      refine ⟨by rw [q2.length, hlen _ _ hd], F2, ds, _, R2.f, q2, hd, fun v F' H' w rn => ?_⟩
      by_cases hl : loose r = true
      · rw [if_pos hl] at kk
        exact (Dem.fin kk R1 s1) v F1 H' ⟨.refl F1, w.h, R1.f.trans w.h, fun _ h => .inl h⟩ (rn.loose R1.f hl)
      · rw [if_neg hl] at kk
        exact (Dem.fin kk R2 (s1.trans s2)) v F' H' w rn
    · rename_i c hd
      cases e1
      refine ⟨by rw [q2.length, hlen _ _ hd], F2, ds, _, R2.f, q2, hd, fun F' H' C w hC => ?_⟩
      exact kk F1 H' (R1.grow ⟨.refl F1, w.h, R1.f.trans w.h, fun _ h => .inl h⟩) s1 C hC
    · cases e1
  · cases e1
theorem ve_fn {k m : Nat} {f : Addr} {fd : FuncData} {ps : List Str} {den : List D → Option Ret} {x : Str} {p : Pos} (FK : FnOk X.prog X.w X.K X.mg X.base (L2.CX X.prog X.w) k f fd ps (jsp X.K X.mg m den)) (hlen : ∀ ds o, den ds = some o → ds.length = m) (hr : Room k X.A) (hm : X.mg x = some (.ref f))
    (hk : PySem.W.keepIn X.K (.ref f) = true) (hb : Binds X.K fd ps []) (ha : VA X W (a :: es) ae) (hg : Gl X x := by rfl) (hdb : (x == ("__debug__" : Str)) = false := by decide)
    (he : starEach (a :: es) X.env = (false, eval a X.env) :: starEach es X.env := by rfl) (hpl : (backTo pos (starEach es X.env)).any (·.1) = false := by rfl) :
    VE X W (.Call (.Name x p) (a :: es) [] pos) (eFn den ae) := ⟨fun C => by
  obtain ⟨ta, pa, qa⟩ := ha.ex C
  exact ⟨_, pe_callS FK hr hg hm hk hb (fun σ => passAt C.tk σ) pa hdb he hpl, qa.fn C hlen⟩⟩
end
end J

/-! J5: targets, what is walked, comprehensions. -/
namespace J
open PySem PySem.Spec PyProof.Rows L2

/-! ### slots are stored -/
section
variable {K : PySem.W.Frag} {B F0 F F' H H' : Hp} {σ σ' : L2.St} {n : En}
theorem set_get {α : Type} {l : List α} {i j : Nat} {x y : α} (h : (l.set i x)[j]? = some y) : (j = i ∧ y = x ∧ i < l.length) ∨ (j ≠ i ∧ l[j]? = some y) := by
  by_cases e : j = i
  · subst e
    by_cases hl : j < l.length
    · rw [List.getElem?_set_self hl] at h
      exact .inl ⟨rfl, (Option.some.inj h).symm, hl⟩
    · rw [List.set_eq_of_length_le (by omega), List.getElem?_eq_none (by omega)] at h
      cases h
  · rw [List.getElem?_set_ne (Ne.symm e)] at h
    exact .inr ⟨e, h⟩
theorem Rel.set {i : Nat} {v : V} {d : D} (R : Rel K B F0 F H σ n) (q : Dq K F v d) : Rel K B F0 F H (σ.set i (some v)) (n.set i (.fr d)) := by
  refine ⟨by rw [List.length_set, List.length_set]; exact R.len, R.b, R.f, R.f0, R.g, fun j x e => ?_, fun j k ds es a h1 h2 h3 h4 => ?_⟩
  · rcases set_get e with ⟨rfl, rfl, hl⟩ | ⟨hj, e⟩
    · refine ⟨v, ?_, q⟩
      rw [List.getElem?_set_self (by rw [R.len]; exact hl)]
    · rw [List.getElem?_set_ne (Ne.symm hj)]
      exact R.s j x e
  · rcases set_get h1 with ⟨_, z, _⟩ | ⟨hj, h1⟩
    · cases z
    rcases set_get h2 with ⟨_, z, _⟩ | ⟨hk, h2⟩
    · cases z
    rw [List.getElem?_set_ne (Ne.symm hj)] at h3
    rw [List.getElem?_set_ne (Ne.symm hk)] at h4
    exact R.d j k ds es a h1 h2 h3 h4
theorem Rel.setUn {i : Nat} {v : Option V} (R : Rel K B F0 F H σ n) : Rel K B F0 F H (σ.set i v) (n.set i .un) := by
  refine ⟨by rw [List.length_set, List.length_set]; exact R.len, R.b, R.f, R.f0, R.g, fun j x e => ?_, fun j k ds es a h1 h2 h3 h4 => ?_⟩
  · rcases set_get e with ⟨rfl, rfl, hl⟩ | ⟨hj, e⟩
    · trivial
    · rw [List.getElem?_set_ne (Ne.symm hj)]
      exact R.s j x e
  · rcases set_get h1 with ⟨_, z, _⟩ | ⟨hj, h1⟩
    · cases z
    rcases set_get h2 with ⟨_, z, _⟩ | ⟨hk, h2⟩
    · cases z
    rw [List.getElem?_set_ne (Ne.symm hj)] at h3
    rw [List.getElem?_set_ne (Ne.symm hk)] at h4
    exact R.d j k ds es a h1 h2 h3 h4
/-- slot i gets a new list of one's own -/
theorem Rel.setOl {i : Nat} {a : Addr} {vs : List V} {ds : List D} (R : Rel K B F0 F H σ n) (e1 : H a = some (.lst vs)) (e2 : B a = none) (e3 : F a = none) (q : DqAll K F vs ds)
    (hn : ∀ (i : Nat) (es : List D), n[i]? = some (.ol es) → σ[i]? ≠ some (some (.ref a))) : Rel K B F0 F H (σ.set i (some (.ref a))) (n.set i (.ol ds)) := by
  refine ⟨by rw [List.length_set, List.length_set]; exact R.len, R.b, R.f, R.f0, R.g, fun j x e => ?_, fun j k ds' es c h1 h2 h3 h4 => ?_⟩
  · rcases set_get e with ⟨rfl, rfl, hl⟩ | ⟨hj, e⟩
    · refine ⟨a, vs, ?_, e1, e2, e3, q⟩
      rw [List.getElem?_set_self (by rw [R.len]; exact hl)]
    · rw [List.getElem?_set_ne (Ne.symm hj)]
      exact R.s j x e
  · rcases set_get h1 with ⟨ej, z, hl⟩ | ⟨hj, h1'⟩
    · rcases set_get h2 with ⟨ek, _, _⟩ | ⟨hk, h2'⟩
      · rw [ej, ek]
      · rw [ej, List.getElem?_set_self (by rw [R.len]; exact hl)] at h3
        cases h3
        rw [List.getElem?_set_ne (Ne.symm hk)] at h4
        exact absurd h4 (hn k es h2')
    · rw [List.getElem?_set_ne (Ne.symm hj)] at h3
      rcases set_get h2 with ⟨ek, z, hl⟩ | ⟨hk, h2'⟩
      · rw [ek, List.getElem?_set_self (by rw [R.len]; exact hl)] at h4
        cases h4
        exact absurd h3 (hn j ds' h1')
      · rw [List.getElem?_set_ne (Ne.symm hk)] at h4
        exact R.d j k ds' es c h1' h2' h3 h4
/-- the own list in slot i changes -/
theorem Rel.mut {i : Nat} {a : Addr} {vs : List V} {ds es : List D} (R : Rel K B F0 F H σ n) (hn : n[i]? = some (.ol ds)) (hs : σ[i]? = some (some (.ref a))) (q : DqAll K F vs es) : Rel K B F0 F (upd H a (.lst vs)) σ (n.set i (.ol es)) := by
  obtain ⟨c, ws, e1, e2, e3, e4, _⟩ := R.s i _ hn
  rw [hs] at e1; cases e1
  refine ⟨by rw [List.length_set]; exact R.len, fun b x e => ?_, fun b x e => ?_, R.f0, R.g, fun j x e => ?_, fun j k ds' es' c h1 h2 h3 h4 => ?_⟩
  · rw [upd_ne (ne_of_none e e3)]; exact R.b b x e
  · rw [upd_ne (ne_of_none e e4)]; exact R.f b x e
  · rcases set_get e with ⟨rfl, rfl, hl⟩ | ⟨hj, e⟩
    · exact ⟨a, vs, hs, upd_same, e3, e4, q⟩
    · have r := R.s j x e
      cases x with
      | un => trivial
      | pin a => exact r
      | fr d => exact r
      | ol fs =>
        obtain ⟨b, us, e5, e6, e7, e8, q5⟩ := r
        refine ⟨b, us, e5, ?_, e7, e8, q5⟩
        rw [upd_ne (fun z => hj (R.d j i fs ds a e hn (by rw [e5, z]) hs))]
        exact e6
  · have g : ∀ (m : Nat) (xs : List D), (n.set i (.ol es))[m]? = some (.ol xs) → ∃ ys, n[m]? = some (.ol ys) := fun m xs hm => by
      rcases set_get hm with ⟨rfl, _, _⟩ | ⟨_, hm⟩
      · exact ⟨_, hn⟩
      · exact ⟨_, hm⟩
    obtain ⟨y1, g1⟩ := g j ds' h1
    obtain ⟨y2, g2⟩ := g k es' h2
    exact R.d j k y1 y2 c g1 g2 h3 h4
theorem wipe_at {σ : L2.St} {i : Nat} : ∀ {vs : List Nat}, i ∈ vs → i < σ.length → (wipe σ vs)[i]? = some none
  | v :: vs, h, hl => by
    unfold wipe
    by_cases e : i = v
    · subst e
      rw [List.getElem?_set_self (by rw [wipe_length]; exact hl)]
    · rw [List.getElem?_set_ne (Ne.symm e)]
      rcases List.mem_cons.mp h with z | h
      · exact absurd z e
      · exact wipe_at h hl
theorem wipe_eq {vs : List Nat} (hl : σ'.length = σ.length) (h : ∀ i, i ∉ vs → σ'[i]? = σ[i]?) : wipe σ' vs = wipe σ vs := by
  apply List.ext_getElem?
  intro i
  by_cases hi : i ∈ vs
  · by_cases hlt : i < σ.length
    · rw [wipe_at hi hlt, wipe_at hi (by omega)]
    · rw [List.getElem?_eq_none (by rw [wipe_length]; omega), List.getElem?_eq_none (by rw [wipe_length]; omega)]
  · rw [wipe_out hi, wipe_out hi, h i hi]
theorem wipe_wipe {vs : List Nat} : wipe (wipe σ vs) vs = wipe σ vs := wipe_eq (wipe_length σ vs) fun i hi => wipe_out hi
end
/-- the block's slots forgotten -/
def wipeN (n : En) : List Nat → En
  | [] => n
  | v :: vs => (wipeN n vs).set v .un
/-- the block's slots as they were -/
def backN (n0 n : En) : List Nat → En
  | [] => n
  | v :: vs => (backN n0 n vs).set v (n0.getD v .un)
def notOwn (n : En) (vs : List Nat) : Bool := vs.all fun v => match n[v]? with | some (.ol _) => false | _ => true
section
variable {K : PySem.W.Frag} {B F0 F F' H H' : Hp} {σ σ' : L2.St} {n n0 : En}
theorem Rel.wipe (R : Rel K B F0 F H σ n) : ∀ vs : List Nat, Rel K B F0 F H (L2.wipe σ vs) (wipeN n vs)
  | [] => R
  | v :: vs => (Rel.wipe R vs).setUn
theorem wipeN_length : ∀ vs : List Nat, (wipeN n vs).length = n.length
  | [] => rfl
  | v :: vs => by unfold wipeN; rw [List.length_set, wipeN_length vs]
theorem backN_length : ∀ vs : List Nat, (backN n0 n vs).length = n.length
  | [] => rfl
  | v :: vs => by unfold backN; rw [List.length_set, backN_length vs]
theorem backN_out {i : Nat} : ∀ {vs : List Nat}, i ∉ vs → (backN n0 n vs)[i]? = n[i]?
  | [], _ => rfl
  | v :: vs, h => by
    have h1 : v ≠ i := fun e => h (by rw [e]; exact List.mem_cons_self)
    have h2 : i ∉ vs := fun m => h (List.mem_cons_of_mem _ m)
    unfold backN
    rw [List.getElem?_set_ne h1]
    exact backN_out h2
theorem backN_at {i : Nat} : ∀ {vs : List Nat}, i ∈ vs → i < n.length → (backN n0 n vs)[i]? = some (n0.getD i .un)
  | v :: vs, h, hl => by
    unfold backN
    by_cases e : i = v
    · subst e
      rw [List.getElem?_set_self (by rw [backN_length]; exact hl)]
    · rw [List.getElem?_set_ne (Ne.symm e)]
      rcases List.mem_cons.mp h with z | h
      · exact absurd z e
      · exact backN_at h hl
theorem notOwn_at {vs : List Nat} (h : notOwn n0 vs = true) {i : Nat} (hi : i ∈ vs) {ds : List D} : n0.getD i .un ≠ .ol ds := fun e => by
  have q := List.all_eq_true.mp h i hi
  rw [List.getD_eq_getElem?_getD] at e
  cases c : n0[i]? with
  | none => rw [c] at e; cases e
  | some x =>
    rw [c] at e q
    have e' : x = .ol ds := e
    subst e'
    cases q
/-- behind a block: its slots as they were ahead of it -/
theorem Rel.back {vs : List Nat} {B2 F1 H1 : Hp} (R0 : Rel K B2 F0 F1 H1 σ n0) (R : Rel K B F0 F H (L2.wipe σ vs) n) (s : Same F1 F) (ho : notOwn n0 vs = true) : Rel K B F0 F H σ (backN n0 n vs) := by
  have hlen : n.length = σ.length := by rw [← R.len, wipe_length]
  refine ⟨by rw [backN_length, hlen], R.b, R.f, R.f0, R.g, fun i x e => ?_, fun i j ds es a h1 h2 h3 h4 => ?_⟩
  · by_cases hi : i ∈ vs
    · by_cases hl : i < n.length
      · rw [backN_at hi hl] at e
        cases e
        have hl0 : i < n0.length := by rw [← R0.len, ← hlen]; exact hl
        have e0 : n0[i]? = some (n0.getD i .un) := by
          rw [List.getD_eq_getElem?_getD, List.getElem?_eq_getElem hl0]
          rfl
        have r := R0.s i _ e0
        cases q : n0.getD i .un with
        | un => trivial
        | pin a => rw [q] at r; exact r
        | fr d => rw [q] at r; obtain ⟨v, e1, q1⟩ := r; exact ⟨v, e1, q1.mono s⟩
        | ol ds => exact absurd q (notOwn_at ho hi)
      · rw [List.getElem?_eq_none (by rw [backN_length]; omega)] at e
        cases e
    · rw [backN_out hi] at e
      have r := R.s i x e
      rw [wipe_out hi] at r
      exact r
  · have g : ∀ (m : Nat) (xs : List D), (backN n0 n vs)[m]? = some (.ol xs) → m ∉ vs := fun m xs hm hmv => by
      by_cases hl : m < n.length
      · rw [backN_at hmv hl] at hm
        exact notOwn_at ho hmv (Option.some.inj hm)
      · rw [List.getElem?_eq_none (by rw [backN_length]; omega)] at hm
        cases hm
    have g1 := g i ds h1
    have g2 := g j es h2
    rw [backN_out g1] at h1
    rw [backN_out g2] at h2
    exact R.d i j ds es a h1 h2 (by rw [wipe_out g1]; exact h3) (by rw [wipe_out g2]; exact h4)
/-- a list that is being made is protected as what stood at the entry -/
theorem Rel.guard {a : Addr} {o : HO} (R : Rel K B F0 F H σ n) (e : H a = some o) (hB : B a = none) (hF : F a = none) (hn : ∀ (i : Nat) (es : List D), n[i]? = some (.ol es) → σ[i]? ≠ some (some (.ref a))) : Rel K (upd B a o) F0 F H σ n := by
  refine ⟨R.len, fun b x e' => ?_, R.f, R.f0, fun b hb => ?_, fun i x ei => ?_, R.d⟩
  · by_cases hba : b = a
    · subst hba; rw [upd_same] at e'; cases e'; exact e
    · rw [upd_ne hba] at e'; exact R.b b x e'
  · by_cases hba : b = a
    · subst hba; exact absurd hF hb
    · rw [upd_ne hba]; exact R.g b hb
  · have r := R.s i x ei
    cases x with
    | un => trivial
    | pin a => exact r
    | fr d => exact r
    | ol ds =>
      obtain ⟨b, vs, e1, e2, e3, e4, q⟩ := r
      refine ⟨b, vs, e1, e2, ?_, e4, q⟩
      rw [upd_ne (fun z => hn i ds ei (by rw [e1, z]))]
      exact e3
/-- .. and is no longer -/
theorem Rel.unguard {a : Addr} {o o' : HO} (R : Rel K (upd B a o) F0 F H σ n) (hB : B a = none) (hF0 : F0 a = none) : F a = none ∧ H a = some o ∧ Rel K B F0 F (upd H a o') σ n := by
  have ha : H a = some o := R.b a o upd_same
  have hF : F a = none := by
    cases q : F a with
    | none => rfl
    | some x =>
      rcases R.g a (by rw [q]; exact fun z => nomatch z) with z | z
      · exact absurd hF0 z
      · rw [upd_same] at z; cases z
  refine ⟨hF, ha, R.len, fun b x e => ?_, fun b x e => ?_, R.f0, fun b hb => ?_, fun i x ei => ?_, R.d⟩
  · have hba := ne_of_none e hB
    rw [upd_ne hba]
    exact R.b b x (by rw [upd_ne hba]; exact e)
  · rw [upd_ne (ne_of_none e hF)]; exact R.f b x e
  · rcases R.g b hb with z | z
    · exact .inl z
    · by_cases hba : b = a
      · rw [hba]; exact .inr hB
      · rw [upd_ne hba] at z; exact .inr z
  · have r := R.s i x ei
    cases x with
    | un => trivial
    | pin a => exact r
    | fr d => exact r
    | ol ds =>
      obtain ⟨b, vs, e1, e2, e3, e4, q⟩ := r
      have hba : b ≠ a := fun z => by rw [z, upd_same] at e3; cases e3
      rw [upd_ne hba] at e3
      refine ⟨b, vs, e1, ?_, e3, e4, q⟩
      rw [upd_ne hba]
      exact e2
end

/-! ### targets -/
section
variable {X : Cx} {W : WX} {B F0 F F' H H' : Hp} {σ σ' : L2.St} {n n0 : En}
/-- ts: the slots that are stored -/
def GdG (X : Cx) (ts : List Nat) (t : TG) (g : D → En → Option En) : Prop := ∀ B F0 F H σ n d n' v Q, Rel X.K B F0 F H σ n → Dq X.K F v d → g d n = some n' →
  (∀ σ', Rel X.K B F0 F H σ' n' → σ'.length = σ.length → (∀ i, i ∉ ts → σ'[i]? = σ[i]?) → Q σ' H) → t v σ H Q
def GdGs (X : Cx) (ts : List Nat) (t : TGs) (g : List D → En → Option En) : Prop := ∀ B F0 F H σ n ds n' vs Q, Rel X.K B F0 F H σ n → DqAll X.K F vs ds → g ds n = some n' →
  (∀ σ', Rel X.K B F0 F H σ' n' → σ'.length = σ.length → (∀ i, i ∉ ts → σ'[i]? = σ[i]?) → Q σ' H) → t vs σ H Q
structure VG (X : Cx) (tg : Expr) (ts : List Nat) (g : D → En → Option En) : Prop where
  ex : X.calm = true → X.N.Nodup → ∃ t : TG, PG X tg t ∧ GdG X ts t g
structure VGs (X : Cx) (tgs : List Expr) (ts : List Nat) (g : List D → En → Option En) : Prop where
  ex : X.calm = true → X.N.Nodup → ∃ t : TGs, PGs X tgs t ∧ GdGs X ts t g
def gN (i : Nat) (d : D) (n : En) : Option En := some (n.set i (.fr d))
def gT (k : Nat) (g : List D → En → Option En) (d : D) (n : En) : Option En := match d with
  | .tuple ds => if ds.length = k then g ds n else none
  | _ => none
def gs0 (ds : List D) (n : En) : Option En := match ds with
  | [] => some n
  | _ => none
def gsC (g : D → En → Option En) (gs : List D → En → Option En) (ds : List D) (n : En) : Option En := match ds with
  | d :: r => (g d n).bind fun n1 => gs r n1
  | [] => none
theorem vg_name (i : Nat) {x : Str} {pos : Pos} (hi : X.N[i]? = some x := by rfl) (hx : Loc X.env.scope x := by first | exact Or.inl rfl | exact Or.inr rfl) (hf : X.fn x = true ∨ X.env.scope.names.lookup x = some .local := by first | exact .inl rfl | exact .inr rfl | assumption) : VG X (.Name x pos) [i] (gN i) := ⟨fun hc hN => ⟨_, pg_name hN hi hx hf, fun B F0 F H σ n d n' v Q R q e k => by
  cases e
  refine k _ (R.set q) (List.length_set) fun j hj => ?_
  rw [List.getElem?_set_ne]
  exact fun z => hj (by rw [z]; exact List.mem_singleton.mpr rfl)⟩⟩
theorem vgs_nil : VGs X [] [] gs0 := ⟨fun hc hN => ⟨_, pgs_nil, fun B F0 F H σ n ds n' vs Q R q e k => by
  cases q with
  | nil => cases e; exact ⟨rfl, k σ R rfl fun _ _ => rfl⟩
  | cons _ _ => cases e⟩⟩
theorem vgs_cons {e : Expr} {es : List Expr} {t1 t2 : List Nat} {g : D → En → Option En} {gs : List D → En → Option En} (h1 : VG X e t1 g) (h2 : VGs X es t2 gs)
    (hs : (assignEach (e :: es) X.env).map (·.2) = assign e X.env :: (assignEach es X.env).map (·.2) := by rfl) : VGs X (e :: es) (t1 ++ t2) (gsC g gs) := ⟨fun hc hN => by
  obtain ⟨t, p, q⟩ := h1.ex hc hN
  obtain ⟨u, p2, q2⟩ := h2.ex hc hN
  refine ⟨_, pgs_cons p p2 hs, fun B F0 F H σ n ds n' vs Q R qd e k => ?_⟩
  cases qd with
  | nil => cases e
  | @cons v vs d ds hd ht =>
    replace e : (g d n).bind (fun n1 => gs ds n1) = some n' := e
    cases hg : g d n with
    | none => rw [hg] at e; cases e
    | some n1 =>
      rw [hg] at e
      replace e : gs ds n1 = some n' := e
      refine ⟨v, vs, rfl, q B F0 F H σ n d n1 v _ R hd hg fun σ1 R1 l1 o1 => ?_⟩
      refine q2 B F0 F H σ1 n1 ds n' vs _ R1 ht e fun σ2 R2 l2 o2 => ?_
      refine k σ2 R2 (l2.trans l1) fun i hi => ?_
      rw [o2 i (fun z => hi (List.mem_append_right _ z)), o1 i (fun z => hi (List.mem_append_left _ z))]⟩
theorem vg_tup {es : List Expr} {k : Nat} {pos : Pos} {m : Nat} {ts : List Nat} {gs : List D → En → Option En} (h : VGs X es ts gs)
    (hn : (assignEach es X.env).length = m := by rfl) (hst : (assignEach es X.env).findIdx? (·.1) = none := by rfl) : VG X (.Tuple es k pos) ts (gT m gs) := ⟨fun hc hN => by
  obtain ⟨t, p, q⟩ := h.ex hc hN
  refine ⟨_, pg_tup hc p hn hst, fun B F0 F H σ n d n' v Q R qd e kk => ?_⟩
  unfold gT at e
  split at e
  · rename_i ds
    split at e
    · rename_i hl
      cases qd with
      | tup h q' => exact ⟨_, _, rfl, SqT.mono R.f h, by rw [q'.length]; exact hl, q B F0 F H σ n ds n' _ _ R q' e kk⟩
    · cases e
  · cases e⟩

/-! ### what is walked -/
structure Walks (K : PySem.W.Frag) (J : It) (F : Hp) (ds : List D) : Prop where
  go : ∀ i H, Same F H → i < ds.length → J.go i H
  stop : ∀ H, Same F H → J.stop ds.length H
  yl : ∀ i F2 H x H', Same F F2 → Same F2 H → i < ds.length → J.yld i H x H' → ∃ d F3, ds[i]? = some d ∧ Grow F2 H F3 H' ∧ Dq K F3 x d
def DemI (X : Cx) (W : WX) (B F0 F : Hp) (σ : L2.St) (R : It → Hp → Prop) : Oc (List D) → Prop
  | .ok ds n => ∀ J F' H', Rel X.K B F0 F' H' σ n → Same F F' → Walks X.K J F' ds → R J H'
  | .ex c n => ExD X W B F0 F σ c n
def GdI (X : Cx) (W : WX) (t : TI) (ev : Mo (List D)) : Prop := ∀ B F0 F H σ n R o, Rel X.K B F0 F H σ n → ev n = some o → DemI X W B F0 F σ R o → t σ H R
structure VI (X : Cx) (W : WX) (tg e : Expr) (ev : Mo (List D)) : Prop where
  ex : Ctx X W → ∃ t : TI, PI X tg e t ∧ GdI X W t ev
def signs (x : Str) : List D := x.cps.toList.map fun c => .str ⟨#[c]⟩
/-- the items of a list, a tuple, a text -/
def itemsD : D → Option (List D)
  | .list ds => some ds
  | .tuple ds => some ds
  | .str x => some (signs x)
  | .dict [(.none, .list ds)] => some ds
  | _ => none
def iSeq (a : Mo Rs) : Mo (List D) := Mo.bind a fun r => fun n => match frz1 r n with
  | some (d, n') => (itemsD d).map fun ds => .ok ds n'
  | none => none
theorem walks_list {K : PySem.W.Frag} {a : Addr} {vs : List V} {ds : List D} (h : ∀ H, Same F H → SqL K H a vs) (q : DqAll K F vs ds) : Walks K (Itl K a) F ds where
  go := fun i H s hi => by
    obtain ⟨d, hd⟩ : ∃ d, ds[i]? = some d := ⟨_, List.getElem?_eq_getElem hi⟩
    obtain ⟨v, hv, _⟩ := q.get hd
    exact ⟨vs, v, h H s, hv⟩
  stop := fun H s => ⟨vs, h H s, Nat.le_of_eq q.length⟩
  yl := fun i F2 H x H' s s2 hi y => by
    obtain ⟨rfl, hy⟩ := y
    obtain ⟨d, hd, hq⟩ := q.getV (hy vs (h _ (s.trans s2)))
    exact ⟨d, F2, hd, .refl s2, hq.mono s⟩
theorem walks_tup {K : PySem.W.Frag} {a : Addr} {vs : List V} {ds : List D} (h : ∀ H, Same F H → SqT K H a vs) (q : DqAll K F vs ds) : Walks K (Itt K a) F ds where
  go := fun i H s hi => by
    obtain ⟨d, hd⟩ : ∃ d, ds[i]? = some d := ⟨_, List.getElem?_eq_getElem hi⟩
    obtain ⟨v, hv, _⟩ := q.get hd
    exact ⟨vs, v, h H s, hv⟩
  stop := fun H s => ⟨vs, h H s, Nat.le_of_eq q.length⟩
  yl := fun i F2 H x H' s s2 hi y => by
    obtain ⟨rfl, hy⟩ := y
    obtain ⟨d, hd, hq⟩ := q.getV (hy vs (h _ (s.trans s2)))
    exact ⟨d, F2, hd, .refl s2, hq.mono s⟩
theorem walks_str {K : PySem.W.Frag} {x : Str} : Walks K (Its x) F (signs x) where
  go := fun i H s hi => by
    show i < x.cps.size
    unfold signs at hi
    rw [List.length_map, Array.length_toList] at hi
    exact hi
  stop := fun H s => by
    show x.cps.size ≤ (signs x).length
    unfold signs
    rw [List.length_map, Array.length_toList]
    exact Nat.le_refl _
  yl := fun i F2 H v H' s s2 hi y => by
    obtain ⟨rfl, c, hc, rfl⟩ := y
    refine ⟨.str ⟨#[c]⟩, F2, ?_, .refl s2, .str _⟩
    unfold signs
    rw [List.getElem?_map, Array.getElem?_toList, hc]
    rfl
theorem pi_or {tg e : Expr} {t u : TI} (h : PI X tg e t) (h' : PI X tg e u) : PI X tg e (fun σ H R => t σ H R ∨ u σ H R) := ⟨fun pins s σ H R I w => by
  rcases w with w | w
  · exact h.run pins s σ H R I w
  · exact h'.run pins s σ H R I w⟩
variable {a b c : Expr} {ea eb ec : Mo Rs} {pos : Pos} {es : List Expr} {ae : Mo (List Rs)}
theorem vi_seq {tg : Expr} (ha : VE X W a ea) : VI X W tg a (iSeq ea) := ⟨fun C => by
  obtain ⟨ta, pa, qa⟩ := ha.ex C
  refine ⟨_, pi_or (pi_list pa) (pi_or (pi_tup pa) (pi_str pa)), fun B F0 F H σ n R o Re e k => ?_⟩
  have hex : ∀ c n1, o = .ex c n1 → ExD X W B F0 F σ c n1 := fun c n1 h => by subst h; exact k
  unfold iSeq at e
  cases he : ea n with
  | none => unfold Mo.bind at e; rw [he] at e; cases e
  | some oc =>
    cases oc with
    | ex c n1 =>
      left
      exact qa.seq Re e (fun r1 n1' x F1 H1 R1 s1 ro1 e1 => by
        exfalso
        unfold Mo.bind at e
        rw [he] at e
        cases e
        split at e1
        · rename_i d n' hf
          cases hi : itemsD d with
          | none => rw [hi] at e1; cases e1
          | some ds => rw [hi] at e1; cases e1
        · cases e1) hex
    | ok r n1 =>
      unfold Mo.bind at e
      rw [he] at e
      replace e : (match frz1 r n1 with | some (d, n') => (itemsD d).map fun ds => Oc.ok ds n' | none => none) = some o := e
      split at e
      · rename_i d n2 hf
        have run : ∀ (Q : VK), (∀ v F1 H1, Rel X.K B F0 F1 H1 σ n2 → Same F F1 → Dq X.K F1 v d → Q v H1) → ta σ H Q := fun Q hQ =>
          qa B F0 F H σ n Q _ Re he fun v F1 H1 R1 s1 rr => by
            obtain ⟨F2, R2, s2, ro⟩ := rr.ro R1
            obtain ⟨F3, R3, s3, q3⟩ := ro.frzd R2 hf
            exact hQ v F3 H1 R3 (s1.trans (s2.trans s3)) q3
        cases hi : itemsD d with
        | none => rw [hi] at e; cases e
        | some ds =>
          rw [hi] at e
          cases e
          unfold itemsD at hi
          split at hi
          · cases hi
            refine .inl (run _ fun v F1 H1 R1 s1 q => ?_)
            cases q with
            | @lst a vs ds ha qa => exact ⟨a, rfl, ⟨vs, SqL.of (R1.f _ _ ha)⟩, k _ F1 H1 R1 s1 (walks_list (fun H s => SqL.of (s _ _ ha)) qa)⟩
          · cases hi
            refine .inr (.inl (run _ fun v F1 H1 R1 s1 q => ?_))
            cases q with
            | @tup a vs ds ha qa => exact ⟨a, rfl, ⟨vs, SqT.mono R1.f ha⟩, k _ F1 H1 R1 s1 (walks_tup (fun H s => SqT.mono s ha) qa)⟩
          · cases hi
            refine .inr (.inr (run _ fun v F1 H1 R1 s1 q => ?_))
            cases q with
            | str => exact ⟨_, rfl, k _ F1 H1 R1 s1 walks_str⟩
          · cases hi
            refine .inl (run _ fun v F1 H1 R1 s1 q => ?_)
            cases q with
            | @scr a vs ds ha qa => exact ⟨a, rfl, ⟨vs, Same.seq R1.f ha⟩, k _ F1 H1 R1 s1 (walks_list (fun H s => Same.seq s ha) qa)⟩
          · cases hi
      · cases e⟩
/-! range -/
def rangeD (lo : Int) (n : Nat) : List D := (List.range n).map fun i => .int (lo + (i : Nat))
theorem rangeD_len (lo : Int) (n : Nat) : (rangeD lo n).length = n := by unfold rangeD; rw [List.length_map, List.length_range]
theorem walks_range {K : PySem.W.Frag} {lo : Int} {m : Nat} : Walks K (Itr lo m) F (rangeD lo m) where
  go := fun i H s hi => by rw [rangeD_len] at hi; exact hi
  stop := fun H s => by rw [rangeD_len]; exact Nat.le_refl _
  yl := fun i F2 H v H' s s2 hi y => by
    obtain ⟨rfl, rfl⟩ := y
    rw [rangeD_len] at hi
    refine ⟨.int (lo + (i : Nat)), F2, ?_, .refl s2, .int _⟩
    unfold rangeD
    rw [List.getElem?_map, List.getElem?_range hi]
    rfl
/-- (told so that nothing is ever computed from the bound) -/
noncomputable def rgOk (i : Int) : Bool := @decide (-(2 ^ 62) ≤ i ∧ i < 2 ^ 62) (Classical.propDecidable _)
noncomputable def iRange1 (av : Mo (List Rs)) : Mo (List D) := Mo.bind av fun rs => fun n => match rsData rs n with
  | some [.int j] => if rgOk j then some (.ok (rangeD 0 j.toNat) n) else none
  | _ => none
noncomputable def iRange2 (av : Mo (List Rs)) : Mo (List D) := Mo.bind av fun rs => fun n => match rsData rs n with
  | some [.int i, .int j] => if rgOk i && rgOk j then some (.ok (rangeD i (j - i).toNat) n) else none
  | _ => none
theorem rgOk_iff {i : Int} (h : rgOk i = true) : -(2 ^ 62) ≤ i ∧ i < 2 ^ 62 := @of_decide_eq_true _ (Classical.propDecidable _) h
theorem vi_range1 {tg : Expr} {p : Pos} (hm : X.mg "range" = none) (ha : VA X W [a] ae) (hg : Gl X "range" := by rfl) (hs : starEach [a] X.env = [(false, eval a X.env)] := by rfl) : VI X W tg (.Call (.Name "range" p) [a] [] pos) (iRange1 ae) := ⟨fun C => by
  obtain ⟨ta, pa, qa⟩ := ha.ex C
  refine ⟨_, pi_range1 hg hm pa hs, fun B F0 F H σ n R o Re e k => ?_⟩
  refine qa.seq Re e (fun rs n1 vs F1 H1 R1 s1 ro1 e1 => ?_) fun c n1 h => by subst h; exact k
  split at e1
  · rename_i j hd
    split at e1
    · rename_i hj
      cases e1
      obtain ⟨x, rfl, hx⟩ := dbs1 (ROs.db R1 ro1 hd)
      cases hx.int
      obtain ⟨h1, h2⟩ := rgOk_iff hj
      exact ⟨j, rfl, h1, h2, k _ F1 H1 R1 s1 walks_range⟩
    · cases e1
  · cases e1⟩
theorem vi_range2 {tg : Expr} {p : Pos} (hm : X.mg "range" = none) (ha : VA X W [a, b] ae) (hg : Gl X "range" := by rfl) (hs : starEach [a, b] X.env = [(false, eval a X.env), (false, eval b X.env)] := by rfl) (hs2 : starEach [b] X.env = [(false, eval b X.env)] := by rfl) : VI X W tg (.Call (.Name "range" p) [a, b] [] pos) (iRange2 ae) := ⟨fun C => by
  obtain ⟨ta, pa, qa⟩ := ha.ex C
  refine ⟨_, pi_range2 hg hm pa hs hs2, fun B F0 F H σ n R o Re e k => ?_⟩
  refine qa.seq Re e (fun rs n1 vs F1 H1 R1 s1 ro1 e1 => ?_) fun c n1 h => by subst h; exact k
  split at e1
  · rename_i i j hd
    split at e1
    · rename_i hj
      cases e1
      obtain ⟨x, y, rfl, hx, hy⟩ := dbs2 (ROs.db R1 ro1 hd)
      cases hx.int
      cases hy.int
      rw [Bool.and_eq_true] at hj
      obtain ⟨h1, h2⟩ := rgOk_iff hj.1
      obtain ⟨h3, h4⟩ := rgOk_iff hj.2
      exact ⟨i, j, rfl, ⟨h1, h2, h3, h4⟩, k _ F1 H1 R1 s1 walks_range⟩
    · cases e1
  · cases e1⟩
/-! enumerate, zip of lists -/
def enumD : Nat → List D → List D
  | _, [] => []
  | i, d :: r => .tuple [.int (i : Nat), d] :: enumD (i + 1) r
def zipD : List D → List D → List D
  | d :: r, e :: q => .tuple [d, e] :: zipD r q
  | _, _ => []
theorem enumD_len : ∀ (i : Nat) (ds : List D), (enumD i ds).length = ds.length
  | _, [] => rfl
  | i, d :: r => by unfold enumD; rw [List.length_cons, List.length_cons, enumD_len]
theorem enumD_get : ∀ (i : Nat) (ds : List D) (j : Nat) (d : D), ds[j]? = some d → (enumD i ds)[j]? = some (.tuple [.int ((i + j : Nat) : Int), d])
  | _, [], _, _, h => by simp at h
  | i, d :: r, 0, e, h => by
    cases h
    rfl
  | i, d :: r, j + 1, e, h => by
    unfold enumD
    rw [List.getElem?_cons_succ] at h ⊢
    have ih := enumD_get (i + 1) r j e h
    rw [show i + 1 + j = i + (j + 1) by omega] at ih
    exact ih
theorem zipD_len : ∀ (ds es : List D), (zipD ds es).length = min ds.length es.length
  | [], _ => by simp [zipD]
  | _ :: _, [] => by simp [zipD]
  | d :: r, e :: q => by unfold zipD; rw [List.length_cons, zipD_len]; simp only [List.length_cons]; omega
theorem zipD_get : ∀ (ds es : List D) (j : Nat) (d e : D), ds[j]? = some d → es[j]? = some e → (zipD ds es)[j]? = some (.tuple [d, e])
  | [], _, _, _, _, h, _ => by simp at h
  | _ :: _, [], _, _, _, _, h => by simp at h
  | d :: r, e :: q, 0, x, y, h, h' => by cases h; cases h'; rfl
  | d :: r, e :: q, j + 1, x, y, h, h' => by
    unfold zipD
    rw [List.getElem?_cons_succ] at h h' ⊢
    exact zipD_get r q j x y h h'
theorem pair_new {K : PySem.W.Frag} {F2 : Hp} {T : Addr} {x y : V} {d e : D} (s : Same F2 H) (hT : H T = none) (q1 : Dq K F2 x d) (q2 : Dq K F2 y e) : ∃ F3, Grow F2 H F3 (upd H T (.tup [x, y])) ∧ Dq K F3 (.ref T) (.tuple [d, e]) :=
  KN.tup (K := K) (F := F2) (H := H) (Q := fun v H' => ∃ F3, Grow F2 H F3 H' ∧ Dq K F3 v (.tuple [d, e])) (fun v F' H' w rn => ⟨F', w, rn⟩) s (.cons q1 (.cons q2 .nil)) T hT
theorem walks_enum {K : PySem.W.Frag} {a : Addr} {vs : List V} {ds : List D} (h : ∀ H, Same F H → SqL K H a vs) (q : DqAll K F vs ds) : Walks K (Ite K a) F (enumD 0 ds) where
  go := fun i H s hi => by
    rw [enumD_len] at hi
    obtain ⟨d, hd⟩ : ∃ d, ds[i]? = some d := ⟨_, List.getElem?_eq_getElem hi⟩
    obtain ⟨v, hv, _⟩ := q.get hd
    exact ⟨vs, v, h H s, hv⟩
  stop := fun H s => ⟨vs, h H s, by rw [enumD_len]; exact Nat.le_of_eq q.length⟩
  yl := fun i F2 H x H' s s2 hi y => by
    obtain ⟨T, z, rfl, hT, rfl, hy⟩ := y
    obtain ⟨d, hd, hq⟩ := q.getV (hy vs (h _ (s.trans s2)))
    obtain ⟨F3, w, r⟩ := pair_new (e := d) (x := .int (i : Nat)) (d := .int (i : Nat)) s2 hT (.int _) (hq.mono s)
    refine ⟨_, F3, enumD_get 0 ds i d hd, w, ?_⟩
    rw [Nat.zero_add]
    exact r
theorem walks_zip {K : PySem.W.Frag} {a b : Addr} {vs ws : List V} {ds es : List D} (h : ∀ H, Same F H → SqL K H a vs) (h' : ∀ H, Same F H → SqL K H b ws) (q : DqAll K F vs ds) (q' : DqAll K F ws es) : Walks K (Itz K a b) F (zipD ds es) where
  go := fun i H s hi => by
    rw [zipD_len] at hi
    obtain ⟨d, hd⟩ : ∃ d, ds[i]? = some d := ⟨_, List.getElem?_eq_getElem (by omega)⟩
    obtain ⟨e, he⟩ : ∃ e, es[i]? = some e := ⟨_, List.getElem?_eq_getElem (by omega)⟩
    obtain ⟨v, hv, _⟩ := q.get hd
    obtain ⟨w, hw, _⟩ := q'.get he
    exact ⟨vs, ws, v, w, h H s, h' H s, hv, hw⟩
  stop := fun H s => ⟨vs, ws, h H s, h' H s, by
    rw [zipD_len, ← q.length, ← q'.length]
    omega⟩
  yl := fun i F2 H x H' s s2 hi y => by
    obtain ⟨T, z, z', rfl, hT, rfl, hy, hy'⟩ := y
    obtain ⟨d, hd, hq⟩ := q.getV (hy vs (h _ (s.trans s2)))
    obtain ⟨e, he, hq'⟩ := q'.getV (hy' ws (h' _ (s.trans s2)))
    obtain ⟨F3, w, r⟩ := pair_new s2 hT (hq.mono s) (hq'.mono s)
    exact ⟨_, F3, zipD_get ds es i d e hd he, w, r⟩
def iEnumL (av : Mo (List Rs)) : Mo (List D) := Mo.bind av fun rs => fun n => match frzAll rs n with
  | some ([.list ds], n') => some (.ok (enumD 0 ds) n')
  | some ([.dict [(.none, .list ds)]], n') => some (.ok (enumD 0 ds) n')
  | _ => none
def iZipL (av : Mo (List Rs)) : Mo (List D) := Mo.bind av fun rs => fun n => match frzAll rs n with
  | some ([.list ds, .list es], n') => some (.ok (zipD ds es) n')
  | _ => none
theorem vi_enum {elts : List Expr} {kk : Nat} {p tpos : Pos} (hm : X.mg "enumerate" = none) (ha : VA X W [a] ae) (hg : Gl X "enumerate" := by rfl) (hs : starEach [a] X.env = [(false, eval a X.env)] := by rfl) : VI X W (.Tuple elts kk tpos) (.Call (.Name "enumerate" p) [a] [] pos) (iEnumL ae) := ⟨fun C => by
  obtain ⟨ta, pa, qa⟩ := ha.ex C
  refine ⟨_, pi_enum hg hm pa hs, fun B F0 F H σ n R o Re e k => ?_⟩
  refine qa.seq Re e (fun rs n1 vs F1 H1 R1 s1 ro1 e1 => ?_) fun c n1 h => by subst h; exact k
  split at e1
  · rename_i ds n' hf
    cases e1
    obtain ⟨F2, R2, s2, q2⟩ := ROs.frz R1 ro1 hf
    cases q2 with
    | cons q t =>
      cases t
      cases q with
      | lst h q => exact ⟨_, _, rfl, SqL.of (R2.f _ _ h), k _ F2 H1 R2 (s1.trans s2) (walks_enum (fun H s => SqL.of (s _ _ h)) q)⟩
  · rename_i ds n' hf
    cases e1
    obtain ⟨F2, R2, s2, q2⟩ := ROs.frz R1 ro1 hf
    cases q2 with
    | cons q t =>
      cases t
      cases q with
      | scr h q => exact ⟨_, _, rfl, Same.seq R2.f h, k _ F2 H1 R2 (s1.trans s2) (walks_enum (fun H s => Same.seq s h) q)⟩
  · cases e1⟩
theorem vi_zip {elts : List Expr} {kk : Nat} {p tpos : Pos} (hm : X.mg "zip" = none) (ha : VA X W [a, b] ae) (hg : Gl X "zip" := by rfl) (hs : starEach [a, b] X.env = (false, eval a X.env) :: starEach [b] X.env := by rfl) (hpl : (backTo pos (starEach [b] X.env)).any (·.1) = false := by rfl) : VI X W (.Tuple elts kk tpos) (.Call (.Name "zip" p) [a, b] [] pos) (iZipL ae) := ⟨fun C => by
  obtain ⟨ta, pa, qa⟩ := ha.ex C
  refine ⟨_, pi_zip hg hm pa hs hpl, fun B F0 F H σ n R o Re e k => ?_⟩
  refine qa.seq Re e (fun rs n1 vs F1 H1 R1 s1 ro1 e1 => ?_) fun c n1 h => by subst h; exact k
  split at e1
  · rename_i ds es n' hf
    cases e1
    obtain ⟨F2, R2, s2, q2⟩ := ROs.frz R1 ro1 hf
    cases q2 with
    | cons q t =>
      cases t with
      | cons q' t =>
        cases t
        cases q with
        | lst h q =>
          cases q' with
          | lst h' q' => exact ⟨_, _, _, _, rfl, SqL.of (R2.f _ _ h), SqL.of (R2.f _ _ h'), k _ F2 H1 R2 (s1.trans s2) (walks_zip (fun H s => SqL.of (s _ _ h)) (fun H s => SqL.of (s _ _ h')) q q')⟩
  · cases e1⟩
end
end J

/-! J6: list comprehensions of one and of two clauses. -/
namespace J
open PySem PySem.Spec PyProof.Rows L2

/-! ### the readings as they are told by what a run gives -/
section
variable (X : Cx) (W : WX)
def tE (ev : Mo Rs) : TE := fun σ H Q => ∃ B F0 F n o, Rel X.K B F0 F H σ n ∧ ev n = some o ∧ Dem X W B F0 F σ Q o
def tT (ev : Mo Bool) : TT := fun σ H Q => ∃ B F0 F n o, Rel X.K B F0 F H σ n ∧ ev n = some o ∧ DemT X W B F0 F σ Q o
def tI (ev : Mo (List D)) : TI := fun σ H R => ∃ B F0 F n o, Rel X.K B F0 F H σ n ∧ ev n = some o ∧ DemI X W B F0 F σ R o
def tG (ts : List Nat) (g : D → En → Option En) : TG := fun v σ H Q => ∃ B F0 F n d n', Rel X.K B F0 F H σ n ∧ Dq X.K F v d ∧ g d n = some n' ∧
  ∀ σ', Rel X.K B F0 F H σ' n' → σ'.length = σ.length → (∀ i, i ∉ ts → σ'[i]? = σ[i]?) → Q σ' H
end
section
variable {X : Cx} {W : WX}
theorem VE.pe {e : Expr} {ev : Mo Rs} (h : VE X W e ev) (C : Ctx X W) : PE X e (tE X W ev) := by
  obtain ⟨t, p, q⟩ := h.ex C
  exact ⟨fun pins s σ H Q I ⟨B, F0, F, n, o, R, e, k⟩ => p.run pins s σ H Q I (q B F0 F H σ n Q o R e k)⟩
theorem VT.pt {e : Expr} {ev : Mo Bool} (h : VT X W e ev) (C : Ctx X W) : PT X e (tT X W ev) := by
  obtain ⟨t, p, q⟩ := h.ex C
  exact ⟨fun pins s σ H Q I ⟨B, F0, F, n, o, R, e, k⟩ => p.run pins s σ H Q I (q B F0 F H σ n Q o R e k)⟩
theorem VI.pi {tg e : Expr} {ev : Mo (List D)} (h : VI X W tg e ev) (C : Ctx X W) : PI X tg e (tI X W ev) := by
  obtain ⟨t, p, q⟩ := h.ex C
  exact ⟨fun pins s σ H Q I ⟨B, F0, F, n, o, R, e, k⟩ => p.run pins s σ H Q I (q B F0 F H σ n Q o R e k)⟩
theorem VG.pg {tg : Expr} {ts : List Nat} {g : D → En → Option En} (h : VG X tg ts g) (hc : X.calm = true) (hN : X.N.Nodup) : PG X tg (tG X ts g) := by
  obtain ⟨t, p, q⟩ := h.ex hc hN
  exact ⟨fun pins s σ H v u Q I r ⟨B, F0, F, n, d, n', R, qd, e, k⟩ => p.run pins s σ H v u Q I r (q B F0 F H σ n d n' v Q R qd e k)⟩
end
/-- tests of a clause: none or one -/
structure VTs (X : Cx) (W : WX) (ifs : List Expr) (ev : Mo Bool) : Prop where
  ex : Ctx X W → PTs X ifs (tT X W ev)
def bYes : Mo Bool := Mo.ret true
theorem vts_nil {X : Cx} {W : WX} : VTs X W [] bYes := ⟨fun C => ⟨fun pins s σ H Q I ⟨B, F0, F, n, o, R, e, k⟩ => by
  cases e
  exact pts_nil.run pins s σ H Q I (k F H R (.refl F))⟩⟩
theorem vts_one {X : Cx} {W : WX} {c : Expr} {ev : Mo Bool} (h : VT X W c ev) : VTs X W [c] ev := ⟨fun C => pts_one (h.pt C)⟩
abbrev W0 : WX := fun _ _ _ _ => False

/-- the turns of a comprehension -/
def lcL (vs : List Nat) (g : D → En → Option En) (bt : Mo Bool) (ee : Mo Rs) : List D → En → List D → Option (List D × En)
  | [], n, acc => some (acc, n)
  | d :: ds, n, acc => match g d n with
    | none => none
    | some n1 => match bt n1 with
      | some (.ok true n2) => match ee n2 with
        | some (.ok r n3) => match frz1 r n3 with
          | some (e, n4) => if acc.length < sizeLine then lcL vs g bt ee ds (wipeN n4 vs) (acc ++ [e]) else none
          | none => none
        | _ => none
      | some (.ok false n2) => lcL vs g bt ee ds (wipeN n2 vs) acc
      | _ => none
def eLc (vs : List Nat) (iv : Mo (List D)) (g : D → En → Option En) (bt : Mo Bool) (ee : Mo Rs) : Mo Rs := Mo.bind iv fun ds => fun n => if notOwn n vs then
  match lcL vs g bt ee ds (wipeN n vs) [] with
  | some (out, n') => some (.ok (.ol out) (backN n n' vs))
  | none => none
  else none
theorem upd_self {H : Hp} {a : Addr} {o : HO} (h : H a = some o) : upd H a o = H := by
  funext b
  by_cases e : b = a
  · subst e; rw [upd_same, h]
  · rw [upd_ne e]
section
variable {X : Cx} {W : WX} {B F0 F F' H H' : Hp} {σ σ' : L2.St} {n n0 : En}
/-- the list that is being made at Dd has no owner among the slots -/
theorem Rel.notOf {a : Addr} {o : HO} (R : Rel X.K (upd B a o) F0 F H σ n) : ∀ (i : Nat) (es : List D), n[i]? = some (.ol es) → σ[i]? ≠ some (some (.ref a)) := fun i es hi hs => by
  obtain ⟨b, vs, e1, e2, e3, _⟩ := R.s i _ hi
  rw [hs] at e1; cases e1
  rw [upd_same] at e3; cases e3
/-- the turns of a comprehension, by the reading -/
theorem lc_loop {J : It} {F1 H1 : Hp} {ds out acc : List D} {vsD : List V} {nf : En} {vs ts : List Nat} {g : D → En → Option En} {bt : Mo Bool} {ee : Mo Rs} {Dd : Addr} (w : Walks X.K J F1 ds) (hts : ∀ i ∈ ts, i ∈ vs)
    (R : Rel X.K (upd B Dd (.lst vsD)) F0 F1 H1 (wipe σ vs) n) (qa : DqAll X.K F1 vsD acc) (hB : B Dd = none) (hF0 : F0 Dd = none) (e : lcL vs g bt ee ds n acc = some (out, nf)) (Z : Hp → Prop)
    (hZ : ∀ F2 H2 vsE, Rel X.K (upd B Dd (.lst vsE)) F0 F2 H2 (wipe σ vs) nf → Same F1 F2 → DqAll X.K F2 vsE out → Z H2) :
    ∃ Wv : Nat → Nat → Hp → Prop, (∃ m, Wv 0 m H1) ∧ ∀ i m H, Wv i m H → (J.stop i H ∧ Z H) ∨ (J.go i H ∧ ∃ Nx : Hp → Prop, (∀ H', Nx H' → ∃ m', m' < m ∧ Wv (i + 1) m' H') ∧ ∀ x H', J.yld i H x H' →
      tG X ts g x (wipe σ vs) H' fun σ2 H2 => wipe σ2 vs = wipe σ vs ∧ tT X W0 bt σ2 H2 fun b H3 => if b = true then tE X W0 ee σ2 H3 fun y H4 => ∃ acc, H4 Dd = some (.lst acc) ∧ acc.length < sizeLine ∧ Nx (upd H4 Dd (.lst (acc ++ [y]))) else Nx H3) := by
  refine ⟨fun i m H => i ≤ ds.length ∧ m = ds.length - i ∧ ∃ n F2 acc vsE, Rel X.K (upd B Dd (.lst vsE)) F0 F2 H (wipe σ vs) n ∧ Same F1 F2 ∧ DqAll X.K F2 vsE acc ∧ lcL vs g bt ee (ds.drop i) n acc = some (out, nf),
    ⟨ds.length, Nat.zero_le _, rfl, n, F1, acc, vsD, R, .refl F1, qa, e⟩, ?_⟩
  rintro i m H ⟨hi, rfl, n, F2, acc, vsE, R2, s2, q2, e2⟩
  by_cases hlt : i < ds.length
  · right
    have hd : ds.drop i = ds[i] :: ds.drop (i + 1) := List.drop_eq_getElem_cons hlt
    rw [hd] at e2
    unfold lcL at e2
    refine ⟨w.go i H (s2.trans R2.f) hlt, fun H' => (i + 1 ≤ ds.length ∧ ∃ n F2 acc vsE, Rel X.K (upd B Dd (.lst vsE)) F0 F2 H' (wipe σ vs) n ∧ Same F1 F2 ∧ DqAll X.K F2 vsE acc ∧ lcL vs g bt ee (ds.drop (i + 1)) n acc = some (out, nf)), fun H' ⟨h1, h2⟩ => ⟨ds.length - (i + 1), by omega, h1, rfl, h2⟩, fun x H' y => ?_⟩
    obtain ⟨d, F3, hdi, w3, q3⟩ := w.yl i F2 H x H' s2 R2.f hlt y
    rw [List.getElem?_eq_getElem hlt] at hdi
    cases hdi
    split at e2
    · cases e2
    · rename_i n1 hg
      refine ⟨_, _, F3, n, _, n1, R2.grow w3, q3, hg, fun σ2 R4 l4 o4 => ?_⟩
      have hw : wipe σ2 vs = wipe σ vs := (wipe_eq l4 fun j hj => o4 j fun z => hj (hts j z)).trans wipe_wipe
      refine ⟨hw, ?_⟩
      split at e2
      · rename_i n2 hb
        refine ⟨_, _, F3, n1, _, R4, hb, fun F5 H5 R5 s5 => iteT ?_⟩
        split at e2
        · rename_i r n3 he
          split at e2
          · rename_i e' n4 hf
            split at e2
            · rename_i hz
              refine ⟨_, _, F5, n2, _, R5, he, fun v F6 H6 R6 s6 rr => ?_⟩
              obtain ⟨F7, R7, s7, ro⟩ := rr.ro R6
              obtain ⟨F8, R8, s8, q8⟩ := ro.frzd R7 hf
              have sAll : Same F2 F8 := (w3.f.trans s5).trans (s6.trans (s7.trans s8))
              obtain ⟨hF8, hH6, Ru⟩ := R8.unguard (o' := .lst (vsE ++ [v])) hB hF0
              refine ⟨vsE, hH6, by rw [q2.length]; exact hz, hlt, wipeN n4 vs, F8, acc ++ [e'], vsE ++ [v], ?_, s2.trans sAll, (q2.mono sAll).append (.cons q8 .nil), e2⟩
              have Rg := (Ru.guard upd_same hB hF8 (R8.notOf)).wipe vs
              rw [hw] at Rg
              exact Rg
            · cases e2
          · cases e2
        · cases e2
      · rename_i n2 hb
        refine ⟨_, _, F3, n1, _, R4, hb, fun F5 H5 R5 s5 => iteF ?_⟩
        have Rg := R5.wipe vs
        rw [hw] at Rg
        exact ⟨hlt, wipeN n2 vs, F5, acc, vsE, Rg, (s2.trans w3.f).trans s5, q2.mono (w3.f.trans s5), e2⟩
      · cases e2
  · left
    have hi' : i = ds.length := by omega
    subst hi'
    rw [List.drop_length] at e2
    unfold lcL at e2
    cases e2
    exact ⟨w.stop H (s2.trans R2.f), hZ F2 H vsE R2 s2 q2⟩
/-- a comprehension is begun: the new list -/
theorem lc_begin {Dd : Addr} {vs : List Nat} (R : Rel X.K B F0 F H σ n) (hD : H Dd = none) : B Dd = none ∧ F0 Dd = none ∧ Rel X.K (upd B Dd (.lst [])) F0 F (upd H Dd (.lst [])) (wipe σ vs) (wipeN n vs) := by
  have hB := R.b.free hD
  have hF := R.f.free hD
  have w : Grow F H F (upd H Dd (.lst [])) := ⟨.refl F, same_upd hD, R.f.trans (same_upd hD), fun _ h => .inl h⟩
  refine ⟨hB, R.f0.free hF, ((R.grow w).guard upd_same hB hF fun i es hi hs => ?_).wipe vs⟩
  obtain ⟨b, ws, e1, e2, _⟩ := R.s i _ hi
  rw [hs] at e1; cases e1
  rw [hD] at e2; cases e2
/-- .. and it ends -/
theorem lc_end {Dd : Addr} {vs : List Nat} {F2 H2 : Hp} {vsE : List V} {nf : En} {out : List D} {Q : VK} (R : Rel X.K B F0 F H σ n) (ho : notOwn n vs = true) (hB : B Dd = none) (hF0 : F0 Dd = none)
    (R2 : Rel X.K (upd B Dd (.lst vsE)) F0 F2 H2 (wipe σ vs) nf) (s : Same F F2) (q : DqAll X.K F2 vsE out) {F9 : Hp} (s9 : Same F9 F) (k : Dem X W B F0 F9 σ Q (.ok (.ol out) (backN n nf vs))) : Q (.ref Dd) H2 := by
  have R3 := R.back R2 s ho
  obtain ⟨h1, h2, R4⟩ := R3.unguard (o' := .lst vsE) hB hF0
  rw [upd_self h2] at R4
  exact k _ F2 H2 R4 (s9.trans s) ⟨Dd, vsE, rfl, h2, hB, h1, q, R3.notOf⟩
theorem Ctx.blk (C : Ctx X W) (s : Shared) (H : Hp) (scope : Scope) (cenv : PySem.Env) (fp : List Addr) : Ctx (X.blk s H scope cenv fp) W0 :=
  ⟨takes0, PassesOwn.never, C.calm, C.nd, C.hu⟩
variable {elt tg iter : Expr} {ifs : List Expr} {scope : Scope} {own : List (Str × Nat)} {pos : Pos} {iv : Mo (List D)} {g : D → En → Option En} {bt : Mo Bool} {ee : Mo Rs} {ts : List Nat}
theorem lc_gd (hts : ∀ i ∈ ts, i ∈ own.map (·.2)) : GdE X W (tLc (tI X W iv) (tG X ts g) (tT X W0 bt) (tE X W0 ee) (own.map (·.2))) (eLc (own.map (·.2)) iv g bt ee) := fun B F0 F H σ n Q o R e k => by
  unfold eLc Mo.bind at e
  split at e
  · cases e
  · rename_i ds n1 hi
    dsimp only at e
    split at e
    · rename_i ho
      split at e
      · rename_i out nf hl
        cases e
        refine ⟨B, F0, F, n, _, R, hi, fun J F1 H1 R1 s1 w Dd hD => ?_⟩
        obtain ⟨hB, hF0, R2⟩ := lc_begin (vs := own.map (·.2)) R1 hD
        exact lc_loop w hts R2 .nil hB hF0 hl _ fun F2 H2 vsE R3 s3 q3 => lc_end R1 ho hB hF0 R3 s3 q3 s1 k
      · cases e
    · cases e
  · rename_i c n1 hi
    cases e
    exact ⟨B, F0, F, n, _, R, hi, k⟩
theorem ve_lc (own : List (Str × Nat)) (hi : VI X W tg iter iv) (ok : BlkOk X.N X.env.scope scope own)
    (hg : ∀ (s : Shared) (H : Hp) (C : Addr) (cl : List (Str × Addr)) (fp : List Addr), VG (X.blk s H scope (compEnvC scope cl C X.env) fp) tg ts g) (ht : ∀ (s : Shared) (H : Hp) (C : Addr) (cl : List (Str × Addr)) (fp : List Addr), VTs (X.blk s H scope (compEnvC scope cl C X.env) fp) W0 ifs bt)
    (he : ∀ (s : Shared) (H : Hp) (C : Addr) (cl : List (Str × Addr)) (fp : List Addr), VE (X.blk s H scope (compEnvC scope cl C X.env) fp) W0 elt ee) (hts : ∀ i ∈ ts, i ∈ own.map (·.2) := by decide) (hs : ∀ x, foldedSetIterable iter X.env x = pure x := by intro _; rfl) :
    VE X W (.ListComp elt [⟨tg, iter, ifs, 0⟩] scope pos) (eLc (own.map (·.2)) iv g bt ee) := ⟨fun C => ⟨_, pe_lc C.calm C.nd (hi.pi C) ok (fun s H c cl fp => (hg s H c cl fp).pg C.calm C.nd) (fun s H c cl fp => (ht s H c cl fp).ex (C.blk ..)) (fun s H c cl fp => (he s H c cl fp).pe (C.blk ..)) hs, lc_gd hts⟩⟩

/-! ### two clauses -/
def lcL2 (vs vs1 : List Nat) (g : D → En → Option En) (bt : Mo Bool) (iv1 : Mo (List D)) (g1 : D → En → Option En) (bt1 : Mo Bool) (ee : Mo Rs) : List D → En → List D → Option (List D × En)
  | [], n, acc => some (acc, n)
  | d :: ds, n, acc => match g d n with
    | none => none
    | some n1 => match bt n1 with
      | some (.ok true n2) => match iv1 n2 with
        | some (.ok ds1 n3) => match lcL vs1 g1 bt1 ee ds1 (wipeN n3 vs1) acc with
          | some (acc', n4) => lcL2 vs vs1 g bt iv1 g1 bt1 ee ds (wipeN n4 vs) acc'
          | none => none
        | _ => none
      | some (.ok false n2) => lcL2 vs vs1 g bt iv1 g1 bt1 ee ds (wipeN n2 vs) acc
      | _ => none
def eLc2 (vs vs1 : List Nat) (iv : Mo (List D)) (g : D → En → Option En) (bt : Mo Bool) (iv1 : Mo (List D)) (g1 : D → En → Option En) (bt1 : Mo Bool) (ee : Mo Rs) : Mo Rs := Mo.bind iv fun ds => fun n => if notOwn n vs then
  match lcL2 vs vs1 g bt iv1 g1 bt1 ee ds (wipeN n vs) [] with
  | some (out, n') => some (.ok (.ol out) (backN n n' vs))
  | none => none
  else none
variable {tg1 iter1 : Expr} {ifs1 : List Expr} {iv1 : Mo (List D)} {g1 : D → En → Option En} {bt1 : Mo Bool} {ts1 vs1 : List Nat}
theorem lc2_gd (hts : ∀ i ∈ ts, i ∈ own.map (·.2)) (hts1 : ∀ i ∈ ts1, i ∈ vs1) (hv : ∀ i ∈ vs1, i ∈ own.map (·.2)) : GdE X W (tLc2 (tI X W iv) (tG X ts g) (tT X W0 bt) (tI X W0 iv1) (tG X ts1 g1) (tT X W0 bt1) (tE X W0 ee) (own.map (·.2)) vs1)
    (eLc2 (own.map (·.2)) vs1 iv g bt iv1 g1 bt1 ee) := fun B F0 F H σ n Q o R e k => by
  unfold eLc2 Mo.bind at e
  generalize hvs : own.map (·.2) = vs at *
  split at e
  · cases e
  · rename_i ds n1 hi
    dsimp only at e
    split at e
    · rename_i ho
      split at e
      · rename_i out nf hl
        cases e
        refine ⟨B, F0, F, n, _, R, hi, fun J F1 H1 R1 s1 w Dd hD => ?_⟩
        obtain ⟨hB, hF0, R2⟩ := lc_begin (vs := vs) R1 hD
        refine ⟨fun i m H => i ≤ ds.length ∧ m = ds.length - i ∧ ∃ n F2 acc vsE, Rel X.K (upd B Dd (.lst vsE)) F0 F2 H (wipe σ vs) n ∧ Same F1 F2 ∧ DqAll X.K F2 vsE acc ∧ lcL2 vs vs1 g bt iv1 g1 bt1 ee (ds.drop i) n acc = some (out, nf),
          ⟨ds.length, Nat.zero_le _, rfl, _, F1, [], [], R2, .refl F1, .nil, hl⟩, ?_⟩
        rintro i m H ⟨hi, rfl, n, F2, acc, vsE, R2, s2, q2, e2⟩
        by_cases hlt : i < ds.length
        · right
          have hd : ds.drop i = ds[i] :: ds.drop (i + 1) := List.drop_eq_getElem_cons hlt
          rw [hd] at e2
          unfold lcL2 at e2
          refine ⟨w.go i H (s2.trans R2.f) hlt, fun H' => (i + 1 ≤ ds.length ∧ ∃ n F2 acc vsE, Rel X.K (upd B Dd (.lst vsE)) F0 F2 H' (wipe σ vs) n ∧ Same F1 F2 ∧ DqAll X.K F2 vsE acc ∧ lcL2 vs vs1 g bt iv1 g1 bt1 ee (ds.drop (i + 1)) n acc = some (out, nf)), fun H' ⟨h1, h2⟩ => ⟨ds.length - (i + 1), by omega, h1, rfl, h2⟩, fun x H' y => ?_⟩
          obtain ⟨d, F3, hdi, w3, q3⟩ := w.yl i F2 H x H' s2 R2.f hlt y
          rw [List.getElem?_eq_getElem hlt] at hdi
          cases hdi
          split at e2
          · cases e2
          · rename_i n1 hg
            refine ⟨_, _, F3, n, _, n1, R2.grow w3, q3, hg, fun σ2 R4 l4 o4 => ?_⟩
            have hw : wipe σ2 vs = wipe σ vs := (wipe_eq l4 fun j hj => o4 j fun z => hj (hts j z)).trans wipe_wipe
            refine ⟨hw, ?_⟩
            split at e2
            · rename_i n2 hb
              refine ⟨_, _, F3, n1, _, R4, hb, fun F5 H5 R5 s5 => iteT ?_⟩
              split at e2
              · rename_i ds1 n3 hi1
                split at e2
                · rename_i acc' n4 hl1
                  refine ⟨_, _, F5, n2, _, R5, hi1, fun J1 F6 H6 R6 s6 w6 => ?_⟩
                  have sA : Same F2 F6 := (w3.f.trans s5).trans s6
                  refine lc_loop w6 hts1 (R6.wipe vs1) (q2.mono sA) hB hF0 hl1 _ fun F7 H7 vsG R7 s7 q7 => ?_
                  have hw1 : wipe (wipe σ2 vs1) vs = wipe σ vs := (wipe_eq (wipe_length _ _) fun j hj => wipe_out fun z => hj (hv j z)).trans hw
                  have Rg := R7.wipe vs
                  rw [hw1] at Rg
                  exact ⟨hlt, wipeN n4 vs, F7, acc', vsG, Rg, (s2.trans sA).trans s7, q7, e2⟩
                · cases e2
              · cases e2
            · rename_i n2 hb
              refine ⟨_, _, F3, n1, _, R4, hb, fun F5 H5 R5 s5 => iteF ?_⟩
              have Rg := R5.wipe vs
              rw [hw] at Rg
              exact ⟨hlt, wipeN n2 vs, F5, acc, vsE, Rg, (s2.trans w3.f).trans s5, q2.mono (w3.f.trans s5), e2⟩
            · cases e2
        · left
          have hi' : i = ds.length := by omega
          subst hi'
          rw [List.drop_length] at e2
          unfold lcL2 at e2
          cases e2
          exact ⟨w.stop H (s2.trans R2.f), lc_end R1 ho hB hF0 R2 s2 q2 s1 k⟩
      · cases e
    · cases e
  · rename_i c n1 hi
    cases e
    exact ⟨B, F0, F, n, _, R, hi, k⟩
theorem ve_lc2 (own : List (Str × Nat)) (vs1 : List Nat) (hi : VI X W tg iter iv) (ok : BlkOk X.N X.env.scope scope own)
    (hg : ∀ (s : Shared) (H : Hp) (C : Addr) (cl : List (Str × Addr)) (fp : List Addr), VG (X.blk s H scope (compEnvC scope cl C X.env) fp) tg ts g) (ht : ∀ (s : Shared) (H : Hp) (C : Addr) (cl : List (Str × Addr)) (fp : List Addr), VTs (X.blk s H scope (compEnvC scope cl C X.env) fp) W0 ifs bt)
    (hi1 : ∀ (s : Shared) (H : Hp) (C : Addr) (cl : List (Str × Addr)) (fp : List Addr), VI (X.blk s H scope (compEnvC scope cl C X.env) fp) W0 tg1 iter1 iv1)
    (hg1 : ∀ (s : Shared) (H : Hp) (C : Addr) (cl : List (Str × Addr)) (fp : List Addr), VG (X.blk s H scope (compEnvC scope cl C X.env) fp) tg1 ts1 g1) (ht1 : ∀ (s : Shared) (H : Hp) (C : Addr) (cl : List (Str × Addr)) (fp : List Addr), VTs (X.blk s H scope (compEnvC scope cl C X.env) fp) W0 ifs1 bt1)
    (he : ∀ (s : Shared) (H : Hp) (C : Addr) (cl : List (Str × Addr)) (fp : List Addr), VE (X.blk s H scope (compEnvC scope cl C X.env) fp) W0 elt ee) (hts : ∀ i ∈ ts, i ∈ own.map (·.2) := by decide) (hts1 : ∀ i ∈ ts1, i ∈ vs1 := by decide) (hv : ∀ i ∈ vs1, i ∈ own.map (·.2) := by decide)
    (hs : ∀ x, foldedSetIterable iter X.env x = pure x := by intro _; rfl) (hs1 : ∀ env x, foldedSetIterable iter1 env x = pure x := by intro _ _; rfl) :
    VE X W (.ListComp elt [⟨tg, iter, ifs, 0⟩, ⟨tg1, iter1, ifs1, 0⟩] scope pos) (eLc2 (own.map (·.2)) vs1 iv g bt iv1 g1 bt1 ee) := ⟨fun C => ⟨_, pe_lc2 C.calm C.nd (hi.pi C) ok hv (fun s H c cl fp => (hg s H c cl fp).pg C.calm C.nd) (fun s H c cl fp => (ht s H c cl fp).ex (C.blk ..))
      (fun s H c cl fp => (hi1 s H c cl fp).pi (C.blk ..)) (fun s H c cl fp => (hg1 s H c cl fp).pg C.calm C.nd) (fun s H c cl fp => (ht1 s H c cl fp).ex (C.blk ..)) (fun s H c cl fp => (he s H c cl fp).pe (C.blk ..)) hs hs1, lc2_gd hts hts1 hv⟩⟩
end
end J

/-! J7: statements, and the promise of a def by its body. -/
namespace J
open PySem PySem.Spec PyProof.Rows L2

section
variable (X : Cx) (W : WX)
def DemS (B F0 F : Hp) (Ds : Ends) : Oc Ctl → Prop
  | .ok .nx n => ∀ σ' F' H', Rel X.K B F0 F' H' σ' n → Same F F' → Ds.nx σ' H'
  | .ok .bk n => ∀ σ' F' H', Rel X.K B F0 F' H' σ' n → Same F F' → Ds.bk σ' H'
  | .ok .ct n => ∀ σ' F' H', Rel X.K B F0 F' H' σ' n → Same F F' → Ds.ct σ' H'
  | .ok (.rt r) n => ∀ v σ' F' H', Rel X.K B F0 F' H' σ' n → Same F F' → RR X.K B F' H' σ' n v r → Ds.rt v H'
  | .ex c n => ∀ σ' F' H', Rel X.K B F0 F' H' σ' n → Same F F' → ∀ C, X.mg c = some (.ref C) → W (.ref C) none σ' H'
def GdS (t : TS) (sv : Mo Ctl) : Prop := ∀ B F0 F H σ n Ds o, Rel X.K B F0 F H σ n → sv n = some o → DemS X W B F0 F Ds o → t Ds σ H
structure VS (st : Stmt) (sv : Mo Ctl) : Prop where
  ex : Ctx X W → ∃ t : TS, PS X st t ∧ GdS X W t sv
structure VSs (st : List Stmt) (sv : Mo Ctl) : Prop where
  ex : Ctx X W → ∃ t : TS, PSs X st t ∧ GdS X W t sv
end
section
variable {X : Cx} {W : WX} {B F0 F F' H H' : Hp} {σ σ' : L2.St} {n n0 : En}
theorem DemS.mono {Ds : Ends} {o : Oc Ctl} (s : Same F F') (h : DemS X W B F0 F Ds o) : DemS X W B F0 F' Ds o := by
  cases o with
  | ok c n =>
    cases c with
    | nx => exact fun σ1 F1 H1 R1 s1 => h σ1 F1 H1 R1 (s.trans s1)
    | bk => exact fun σ1 F1 H1 R1 s1 => h σ1 F1 H1 R1 (s.trans s1)
    | ct => exact fun σ1 F1 H1 R1 s1 => h σ1 F1 H1 R1 (s.trans s1)
    | rt r => exact fun v σ1 F1 H1 R1 s1 => h v σ1 F1 H1 R1 (s.trans s1)
  | ex c n => exact fun σ1 F1 H1 R1 s1 => h σ1 F1 H1 R1 (s.trans s1)
theorem DemS.exd {Ds : Ends} {o : Oc Ctl} (h : DemS X W B F0 F Ds o) : ∀ c n1, o = .ex c n1 → ExD X W B F0 F σ c n1 := fun c n1 e => by
  subst e
  exact fun F1 H1 R1 s1 C hC => h σ F1 H1 R1 s1 C hC
def sNx : Mo Ctl := Mo.ret .nx
def sBk : Mo Ctl := Mo.ret .bk
def sCt : Mo Ctl := Mo.ret .ct
def sSeq (a b : Mo Ctl) : Mo Ctl := Mo.bind a fun c => match c with
  | .nx => b
  | c => Mo.ret c
variable {st : Stmt} {rest : List Stmt} {sa sb : Mo Ctl} {pos : Pos}
theorem vss_nil : VSs X W [] sNx := ⟨fun C => ⟨_, pss_nil, fun B F0 F H σ n Ds o R e k => by
  cases e
  exact k σ F H R (.refl F)⟩⟩
theorem vss_one (h : VS X W st sa) : VSs X W [st] sa := ⟨fun C => by
  obtain ⟨t, p, q⟩ := h.ex C
  exact ⟨_, pss_one p, q⟩⟩
theorem vss_cons (h1 : VS X W st sa) (h2 : VSs X W rest sb) : VSs X W (st :: rest) (sSeq sa sb) := ⟨fun C => by
  obtain ⟨t, p, q⟩ := h1.ex C
  obtain ⟨u, p2, q2⟩ := h2.ex C
  refine ⟨_, pss_cons p p2, fun B F0 F H σ n Ds o R e k => ?_⟩
  unfold sSeq Mo.bind at e
  split at e
  · cases e
  · rename_i c n1 h1
    cases c with
    | nx => exact q B F0 F H σ n _ _ R h1 fun σ1 F1 H1 R1 s1 => q2 B F0 F1 H1 σ1 n1 Ds o R1 e (k.mono s1)
    | bk => cases e; exact q B F0 F H σ n _ _ R h1 k
    | ct => cases e; exact q B F0 F H σ n _ _ R h1 k
    | rt r => cases e; exact q B F0 F H σ n _ _ R h1 k
  · rename_i c n1 h1
    cases e
    exact q B F0 F H σ n _ _ R h1 k⟩
theorem vs_pass : VS X W (.Pass pos) sNx := ⟨fun C => ⟨_, ps_pass, fun B F0 F H σ n Ds o R e k => by
  cases e
  exact k σ F H R (.refl F)⟩⟩
theorem vs_break : VS X W (.Break pos) sBk := ⟨fun C => ⟨_, ps_break, fun B F0 F H σ n Ds o R e k => by
  cases e
  exact k σ F H R (.refl F)⟩⟩
theorem vs_continue : VS X W (.Continue pos) sCt := ⟨fun C => ⟨_, ps_continue, fun B F0 F H σ n Ds o R e k => by
  cases e
  exact k σ F H R (.refl F)⟩⟩
/-! ### assignments -/
def putR (i : Nat) (r : Rs) (n : En) : Option En := match r with
  | .fr d => some (n.set i (.fr d))
  | .ol ds => some (n.set i (.ol ds))
  | .bo j => match frz1 (.bo j) n with
    | some (d, n') => some (n'.set i (.fr d))
    | none => none
def sSet (i : Nat) (a : Mo Rs) : Mo Ctl := Mo.bind a fun r => fun n => (putR i r n).map fun n' => .ok .nx n'
variable {a b c : Expr} {ea eb ec : Mo Rs} {es : List Expr} {ae : Mo (List Rs)} {ba : Mo Bool}
theorem put_rr {i : Nat} {r : Rs} {v : V} {n' : En} (R : Rel X.K B F0 F H σ n) (h : RR X.K B F H σ n v r) (e : putR i r n = some n') : ∃ F', Rel X.K B F0 F' H (σ.set i (some v)) n' ∧ Same F F' := by
  cases r with
  | fr d => cases e; exact ⟨F, R.set h, .refl F⟩
  | ol ds =>
    cases e
    obtain ⟨a, vs, rfl, e1, e2, e3, q, hn⟩ := h
    exact ⟨F, R.setOl e1 e2 e3 q hn, .refl F⟩
  | bo j =>
    replace e : (match frz1 (.bo j) n with | some (d, n') => some (n'.set i (.fr d)) | none => none) = some n' := e
    split at e
    · rename_i d n1 hf
      cases e
      obtain ⟨F1, R1, s1, q1⟩ := RO.frzd (r := .bo j) R h hf
      exact ⟨F1, R1.set q1, s1⟩
    · cases e
theorem set_gd {te : TE} {i : Nat} (qa : GdE X W te ea) : GdS X W (tAsg te (gName i)) (sSet i ea) := fun B F0 F H σ n Ds o R e k => by
  refine qa.seqR R e (fun r n1 v F1 H1 R1 s1 rr e1 => ?_) k.exd
  cases hp : putR i r n1 with
  | none => rw [hp] at e1; cases e1
  | some n2 =>
    rw [hp] at e1
    cases e1
    obtain ⟨F2, R2, s2⟩ := put_rr R1 rr hp
    exact k _ F2 H1 R2 (s1.trans s2)
theorem vs_set (i : Nat) {x : Str} {pos' : Pos} (ha : VE X W a ea) (hi : X.N[i]? = some x := by rfl) (hx : Loc X.env.scope x := by first | exact Or.inl rfl | exact Or.inr rfl) (hs : swapsWith a (some (.Name x pos')) pos.line X.env = pure false := by rfl) (hf : X.fn x = true ∨ X.env.scope.names.lookup x = some .local := by first | exact .inl rfl | exact .inr rfl | assumption) :
    VS X W (.Assign [.Name x pos'] a pos) (sSet i ea) := ⟨fun C => by
  obtain ⟨ta, pa, qa⟩ := ha.ex C
  exact ⟨_, ps_set C.nd hi hx pa hs hf, set_gd qa⟩⟩
/-- a, b = e -/
def sTup (g : D → En → Option En) (a : Mo Rs) : Mo Ctl := Mo.bind a fun r => fun n => match frz1 r n with
  | some (d, n') => (g d n').map fun n2 => .ok .nx n2
  | none => none
theorem vs_tup {tg : Expr} {ts : List Nat} {g : D → En → Option En} (ha : VE X W a ea) (hg : VG X tg ts g) (hs : swapsWithSole [tg] a pos.line X.env = pure false := by rfl) (hw : swappedStores [tg] a X.env = pure none := by rfl) (h1 : (assignEach [tg] X.env).map (·.2) = [assign tg X.env] := by rfl) : VS X W (.Assign [tg] a pos) (sTup g ea) := ⟨fun C => by
  obtain ⟨ta, pa, qa⟩ := ha.ex C
  obtain ⟨tg', pg, qg⟩ := hg.ex C.calm C.nd
  refine ⟨_, ps_asg pa pg hs hw (h1 := h1), fun B F0 F H σ n Ds o R e k => ?_⟩
  refine qa.seq R e (fun r n1 v F1 H1 R1 s1 ro e1 => ?_) k.exd
  split at e1
  · rename_i d n2 hf
    obtain ⟨F2, R2, s2, q2⟩ := ro.frzd R1 hf
    cases hp : g d n2 with
    | none => rw [hp] at e1; cases e1
    | some n3 =>
      rw [hp] at e1
      cases e1
      exact qg B F0 F2 H1 σ n2 d n3 v _ R2 q2 hp fun σ3 R3 _ _ => k σ3 F2 H1 R3 (s1.trans s2)
  · cases e1⟩
/-- y = [..] on one line, y a local of the def alone -/
theorem vs_setLc (i : Nat) {y : Str} {py : Pos} {elt tg iter : Expr} {ifs : List Expr} {scope : Scope} {iv : Mo (List D)} {g : D → En → Option En} {bt : Mo Bool} {ee : Mo Rs} {ts : List Nat} {spos : Pos} (own : List (Str × Nat)) (hi : VI X W tg iter iv) (ok : BlkOk X.N X.env.scope scope own)
    (hg : ∀ (s : Shared) (H : Hp) (C : Addr) (cl : List (Str × Addr)) (fp : List Addr), VG (X.blk s H scope (compEnvC scope cl C X.env) fp) tg ts g) (ht : ∀ (s : Shared) (H : Hp) (C : Addr) (cl : List (Str × Addr)) (fp : List Addr), VTs (X.blk s H scope (compEnvC scope cl C X.env) fp) W0 ifs bt)
    (he : ∀ (s : Shared) (H : Hp) (C : Addr) (cl : List (Str × Addr)) (fp : List Addr), VE (X.blk s H scope (compEnvC scope cl C X.env) fp) W0 elt ee) (hy : X.N[i]? = some y := by rfl) (hyl : X.env.scope.names.lookup y = some .local := by rfl)
    (hsw : swapsWith (.ListComp elt [⟨tg, iter, ifs, 0⟩] scope pos) (some (.Name y py)) spos.line X.env = pure true := by exact sw_true rfl rfl rfl (by decide +kernel)) (hts : ∀ i ∈ ts, i ∈ own.map (·.2) := by decide) (hs : ∀ x, foldedSetIterable iter X.env x = pure x := by intro _; rfl) :
    VS X W (.Assign [.Name y py] (.ListComp elt [⟨tg, iter, ifs, 0⟩] scope pos) spos) (sSet i (eLc (own.map (·.2)) iv g bt ee)) := ⟨fun C => ⟨_, ps_setLc C.calm C.nd hy hyl hsw (hi.pi C) ok (fun s H c cl fp => (hg s H c cl fp).pg C.calm C.nd) (fun s H c cl fp => (ht s H c cl fp).ex (C.blk ..)) (fun s H c cl fp => (he s H c cl fp).pe (C.blk ..)) hs, set_gd (lc_gd hts)⟩⟩
theorem vs_setLc2 (i : Nat) {y : Str} {py : Pos} {elt tg iter tg1 iter1 : Expr} {ifs ifs1 : List Expr} {scope : Scope} {iv iv1 : Mo (List D)} {g g1 : D → En → Option En} {bt bt1 : Mo Bool} {ee : Mo Rs} {ts ts1 : List Nat} {spos : Pos} (own : List (Str × Nat)) (vs1 : List Nat) (hi : VI X W tg iter iv) (ok : BlkOk X.N X.env.scope scope own)
    (hg : ∀ (s : Shared) (H : Hp) (C : Addr) (cl : List (Str × Addr)) (fp : List Addr), VG (X.blk s H scope (compEnvC scope cl C X.env) fp) tg ts g) (ht : ∀ (s : Shared) (H : Hp) (C : Addr) (cl : List (Str × Addr)) (fp : List Addr), VTs (X.blk s H scope (compEnvC scope cl C X.env) fp) W0 ifs bt)
    (hi1 : ∀ (s : Shared) (H : Hp) (C : Addr) (cl : List (Str × Addr)) (fp : List Addr), VI (X.blk s H scope (compEnvC scope cl C X.env) fp) W0 tg1 iter1 iv1)
    (hg1 : ∀ (s : Shared) (H : Hp) (C : Addr) (cl : List (Str × Addr)) (fp : List Addr), VG (X.blk s H scope (compEnvC scope cl C X.env) fp) tg1 ts1 g1) (ht1 : ∀ (s : Shared) (H : Hp) (C : Addr) (cl : List (Str × Addr)) (fp : List Addr), VTs (X.blk s H scope (compEnvC scope cl C X.env) fp) W0 ifs1 bt1)
    (he : ∀ (s : Shared) (H : Hp) (C : Addr) (cl : List (Str × Addr)) (fp : List Addr), VE (X.blk s H scope (compEnvC scope cl C X.env) fp) W0 elt ee) (hy : X.N[i]? = some y := by rfl) (hyl : X.env.scope.names.lookup y = some .local := by rfl)
    (hsw : swapsWith (.ListComp elt [⟨tg, iter, ifs, 0⟩, ⟨tg1, iter1, ifs1, 0⟩] scope pos) (some (.Name y py)) spos.line X.env = pure true := by exact sw_true rfl rfl rfl (by decide +kernel)) (hts : ∀ i ∈ ts, i ∈ own.map (·.2) := by decide) (hts1 : ∀ i ∈ ts1, i ∈ vs1 := by decide) (hv : ∀ i ∈ vs1, i ∈ own.map (·.2) := by decide)
    (hs : ∀ x, foldedSetIterable iter X.env x = pure x := by intro _; rfl) (hs1 : ∀ env x, foldedSetIterable iter1 env x = pure x := by intro _ _; rfl) :
    VS X W (.Assign [.Name y py] (.ListComp elt [⟨tg, iter, ifs, 0⟩, ⟨tg1, iter1, ifs1, 0⟩] scope pos) spos) (sSet i (eLc2 (own.map (·.2)) vs1 iv g bt iv1 g1 bt1 ee)) := ⟨fun C => ⟨_, ps_setLc2 C.calm C.nd hy hyl hsw (hi.pi C) ok hv (fun s H c cl fp => (hg s H c cl fp).pg C.calm C.nd) (fun s H c cl fp => (ht s H c cl fp).ex (C.blk ..))
      (fun s H c cl fp => (hi1 s H c cl fp).pi (C.blk ..)) (fun s H c cl fp => (hg1 s H c cl fp).pg C.calm C.nd) (fun s H c cl fp => (ht1 s H c cl fp).ex (C.blk ..)) (fun s H c cl fp => (he s H c cl fp).pe (C.blk ..)) hs hs1, set_gd (lc2_gd hts hts1 hv)⟩⟩
/-- x op= e, ints -/
def sAug (i : Nat) (f : Int → Int → Int) (a : Mo Rs) : Mo Ctl := fun n => match n[i]? with
  | some (.fr (.int x)) => (Mo.bind a fun r => fun n1 => match r.data n1 with
    | some (.int y) => some (.ok .nx (n1.set i (.fr (.int (f x y)))))
    | _ => none) n
  | _ => none
theorem aug_gd {te : TE} {i : Nat} {f : Int → Int → Int} (qa : GdE X W te ea) : GdS X W (tAug i te (ipI f)) (sAug i f ea) := fun B F0 F H σ n Ds o R e k => by
  unfold sAug at e
  split at e
  · rename_i x hn
    obtain ⟨v, e1, q⟩ := R.s i _ hn
    cases q
    refine ⟨_, e1, qa.seq R e (fun r n1 w F1 H1 R1 s1 ro e1 => ?_) k.exd⟩
    split at e1
    · rename_i y hd
      cases e1
      have hy := (ro.db R1 hd).int
      subst hy
      exact ⟨x, y, rfl, rfl, k _ F1 H1 (R1.set (.int _)) s1⟩
    · cases e1
  · cases e
theorem vs_augAdd (i : Nat) {x : Str} {pos' : Pos} (ha : VE X W a ea) (hi : X.N[i]? = some x := by rfl) (hx : Loc X.env.scope x := by first | exact Or.inl rfl | exact Or.inr rfl) (hf : X.fn x = true ∨ X.env.scope.names.lookup x = some .local := by first | exact .inl rfl | exact .inr rfl | assumption) :
    VS X W (.AugAssign (.Name x pos') .Add a pos) (sAug i (fun x y => x + y) ea) := ⟨fun C => by
  obtain ⟨ta, pa, qa⟩ := ha.ex C
  exact ⟨_, ps_aug C.nd hi hx pa ip_add hf, aug_gd qa⟩⟩
/-! ### return, if, expressions -/
theorem Rel.forget {i : Nat} (R : Rel X.K B F0 F H σ n) : Rel X.K B F0 F H σ (n.set i .un) := by
  refine ⟨by rw [List.length_set]; exact R.len, R.b, R.f, R.f0, R.g, fun j x e => ?_, fun j k ds es a h1 h2 h3 h4 => ?_⟩
  · rcases set_get e with ⟨rfl, rfl, hl⟩ | ⟨hj, e⟩
    · trivial
    · exact R.s j x e
  · rcases set_get h1 with ⟨_, z, _⟩ | ⟨hj, h1⟩
    · cases z
    rcases set_get h2 with ⟨_, z, _⟩ | ⟨hk, h2⟩
    · cases z
    exact R.d j k ds es a h1 h2 h3 h4
def sRet (a : Mo Rs) : Mo Ctl := Mo.bind a fun r => fun n => match r with
  | .fr d => some (.ok (.rt (.fr d)) n)
  | .ol ds => some (.ok (.rt (.ol ds)) n)
  | .bo j => match n[j]? with
    | some (.ol ds) => some (.ok (.rt (.ol ds)) (n.set j .un))
    | some (.fr d) => some (.ok (.rt (.fr d)) n)
    | _ => none
theorem vs_ret (ha : VE X W a ea) : VS X W (.Return (some a) pos) (sRet ea) := ⟨fun C => by
  obtain ⟨ta, pa, qa⟩ := ha.ex C
  refine ⟨_, ps_ret pa, fun B F0 F H σ n Ds o R e k => ?_⟩
  refine qa.seqR R e (fun r n1 v F1 H1 R1 s1 rr e1 => ?_) k.exd
  cases r with
  | fr d => cases e1; exact k v σ F1 H1 R1 s1 rr
  | ol ds => cases e1; exact k v σ F1 H1 R1 s1 rr
  | bo j =>
    replace e1 : (match n1[j]? with | some (.ol ds) => some (Oc.ok (Ctl.rt (.ol ds)) (n1.set j .un)) | some (.fr d) => some (.ok (.rt (.fr d)) n1) | _ => none) = some o := e1
    have hs : σ[j]? = some (some v) := rr
    split at e1
    · rename_i ds hn
      cases e1
      obtain ⟨a, vs, e2, e3, e4, e5, q⟩ := R1.s j _ hn
      rw [hs] at e2; cases e2
      refine k _ σ F1 H1 R1.forget s1 ⟨a, vs, rfl, e3, e4, e5, q, fun i es hi hi2 => ?_⟩
      rcases set_get hi with ⟨_, z, _⟩ | ⟨hij, hi⟩
      · cases z
      · exact hij (R1.d i j es ds a hi hn hi2 hs)
    · rename_i d hn
      cases e1
      obtain ⟨v', e2, q⟩ := R1.s j _ hn
      rw [hs] at e2; cases e2
      exact k v σ F1 H1 R1 s1 q
    · cases e1⟩
def sRetN : Mo Ctl := Mo.ret (.rt (.fr .none))
theorem vs_retN : VS X W (.Return none pos) sRetN := ⟨fun C => ⟨_, ps_retN, fun B F0 F H σ n Ds o R e k => by
  cases e
  exact k .non σ F H R (.refl F) .non⟩⟩
def sIf (t : Mo Bool) (a b : Mo Ctl) : Mo Ctl := Mo.bind t fun x => if x then a else b
theorem vs_if {sts els : List Stmt} (hc : VT X W c ba) (ha : VSs X W sts sa) (hb : VSs X W els sb) : VS X W (.If c sts els pos) (sIf ba sa sb) := ⟨fun C => by
  obtain ⟨tc, pc, qc⟩ := hc.ex C
  obtain ⟨ta, pa, qa⟩ := ha.ex C
  obtain ⟨tb, pb, qb⟩ := hb.ex C
  refine ⟨_, ps_if pc pa pb, fun B F0 F H σ n Ds o R e k => ?_⟩
  refine qc.seq R e (fun b n1 F1 H1 R1 s1 e1 => ?_) k.exd
  cases b with
  | true => exact iteT (qa B F0 F1 H1 σ n1 Ds o R1 e1 (k.mono s1))
  | false => exact iteF (qb B F0 F1 H1 σ n1 Ds o R1 e1 (k.mono s1))⟩
def sExpr (a : Mo Rs) : Mo Ctl := Mo.bind a fun _ => Mo.ret .nx
theorem vs_expr (ha : VE X W a ea) (hs : swapsWith a none pos.line X.env = pure false := by rfl) : VS X W (.Expr a pos) (sExpr ea) := ⟨fun C => by
  obtain ⟨ta, pa, qa⟩ := ha.ex C
  refine ⟨_, ps_expr pa hs, fun B F0 F H σ n Ds o R e k => ?_⟩
  refine qa.seq R e (fun r n1 v F1 H1 R1 s1 ro e1 => ?_) k.exd
  cases e1
  exact k σ F1 H1 R1 s1⟩
/-! ### loops -/
def forL (g : D → En → Option En) (body : Mo Ctl) : List D → En → Option (Oc Ctl)
  | [], n => some (.ok .nx n)
  | d :: ds, n => match g d n with
    | none => none
    | some n1 => match body n1 with
      | some (.ok .nx n2) => forL g body ds n2
      | some (.ok .ct n2) => forL g body ds n2
      | some (.ok .bk n2) => some (.ok .nx n2)
      | some (.ok (.rt r) n2) => some (.ok (.rt r) n2)
      | some (.ex c n2) => some (.ex c n2)
      | none => none
def sFor (iv : Mo (List D)) (g : D → En → Option En) (body : Mo Ctl) : Mo Ctl := Mo.bind iv fun ds => forL g body ds
theorem vs_for {tg iter : Expr} {body : List Stmt} {ts : List Nat} {iv : Mo (List D)} {g : D → En → Option En} (hi : VI X W tg iter iv) (hg : VG X tg ts g) (hb : VSs X W body sb) (hs : ∀ x, foldedSetIterable iter X.env x = pure x := by intro _; rfl) :
    VS X W (.For tg iter body [] pos) (sFor iv g sb) := ⟨fun C => by
  obtain ⟨ti, pi, qi⟩ := hi.ex C
  obtain ⟨tg', pg, qg⟩ := hg.ex C.calm C.nd
  obtain ⟨tb, pb, qb⟩ := hb.ex C
  refine ⟨_, ps_for C.po C.calm pi pg pb hs, fun B F0 F H σ n Ds o R e k => ?_⟩
  unfold sFor Mo.bind at e
  split at e
  · cases e
  · rename_i ds n1 hv
    refine qi B F0 F H σ n _ _ R hv fun J F1 H1 R1 s1 w => ?_
    refine ⟨fun i m σ H => i ≤ ds.length ∧ m = ds.length - i ∧ ∃ n F2, Rel X.K B F0 F2 H σ n ∧ Same F1 F2 ∧ forL g sb (ds.drop i) n = some o, ⟨ds.length, Nat.zero_le _, rfl, n1, F1, R1, .refl F1, e⟩, ?_⟩
    rintro i m σ2 H2 ⟨hi, rfl, n2, F2, R2, s2, e2⟩
    by_cases hlt : i < ds.length
    · right
      have hd : ds.drop i = ds[i] :: ds.drop (i + 1) := List.drop_eq_getElem_cons hlt
      rw [hd] at e2
      unfold forL at e2
      refine ⟨w.go i H2 (s2.trans R2.f) hlt, fun σ' H' => (i + 1 ≤ ds.length ∧ ∃ n F2, Rel X.K B F0 F2 H' σ' n ∧ Same F1 F2 ∧ forL g sb (ds.drop (i + 1)) n = some o), fun σ' H' ⟨h1, h2⟩ => ⟨ds.length - (i + 1), by omega, h1, rfl, h2⟩, fun x H' y => ?_⟩
      obtain ⟨d, F3, hdi, w3, q3⟩ := w.yl i F2 H2 x H' s2 R2.f hlt y
      rw [List.getElem?_eq_getElem hlt] at hdi
      cases hdi
      split at e2
      · cases e2
      · rename_i n3 hg3
        refine qg B F0 F3 H' σ2 n2 _ n3 x _ (R2.grow w3) q3 hg3 fun σ4 R4 _ _ => ?_
        have s3 : Same F1 F3 := s2.trans w3.f
        split at e2
        · rename_i n5 hb5
          exact qb B F0 F3 H' σ4 n3 _ _ R4 hb5 fun σ6 F6 H6 R6 s6 => ⟨hlt, n5, F6, R6, s3.trans s6, e2⟩
        · rename_i n5 hb5
          exact qb B F0 F3 H' σ4 n3 _ _ R4 hb5 fun σ6 F6 H6 R6 s6 => ⟨hlt, n5, F6, R6, s3.trans s6, e2⟩
        · rename_i n5 hb5
          cases e2
          exact qb B F0 F3 H' σ4 n3 _ _ R4 hb5 fun σ6 F6 H6 R6 s6 => k σ6 F6 H6 R6 ((s1.trans s3).trans s6)
        · rename_i r n5 hb5
          cases e2
          exact qb B F0 F3 H' σ4 n3 _ _ R4 hb5 fun v σ6 F6 H6 R6 s6 => k v σ6 F6 H6 R6 ((s1.trans s3).trans s6)
        · rename_i c n5 hb5
          cases e2
          exact qb B F0 F3 H' σ4 n3 _ _ R4 hb5 fun σ6 F6 H6 R6 s6 => k σ6 F6 H6 R6 ((s1.trans s3).trans s6)
        · cases e2
    · left
      have hi' : i = ds.length := by omega
      subst hi'
      rw [List.drop_length] at e2
      unfold forL at e2
      cases e2
      exact ⟨w.stop H2 (s2.trans R2.f), k σ2 F2 H2 R2 (s1.trans s2)⟩
  · rename_i c n1 hv
    cases e
    exact qi B F0 F H σ n _ _ R hv fun F1 H1 R1 s1 C hC => k σ F1 H1 R1 s1 C hC⟩
/-- a while of at most so many turns -/
def whL (t : Mo Bool) (body : Mo Ctl) : Nat → En → Option (Oc Ctl)
  | 0, _ => none
  | k + 1, n => match t n with
    | some (.ok true n1) => match body n1 with
      | some (.ok .nx n2) => whL t body k n2
      | some (.ok .ct n2) => whL t body k n2
      | some (.ok .bk n2) => some (.ok .nx n2)
      | some (.ok (.rt r) n2) => some (.ok (.rt r) n2)
      | some (.ex c n2) => some (.ex c n2)
      | none => none
    | some (.ok false n1) => some (.ok .nx n1)
    | some (.ex c n1) => some (.ex c n1)
    | none => none
open Classical in
noncomputable def sWh (t : Mo Bool) (body : Mo Ctl) : Mo Ctl := fun n => if h : ∃ k o, whL t body k n = some o then whL t body (Classical.choose h) n else none
theorem whL_mono {t : Mo Bool} {body : Mo Ctl} {o : Oc Ctl} : ∀ {k j : Nat} {n : En}, whL t body k n = some o → k ≤ j → whL t body j n = some o
  | 0, _, _, h, _ => by cases h
  | k + 1, 0, _, _, hj => absurd hj (by omega)
  | k + 1, j + 1, n, h, hj => by
    unfold whL at h ⊢
    split at h
    · split at h
      · exact whL_mono h (by omega)
      · exact whL_mono h (by omega)
      · exact h
      · exact h
      · exact h
      · cases h
    · exact h
    · exact h
    · cases h
theorem sWh_of {t : Mo Bool} {body : Mo Ctl} {k : Nat} {o : Oc Ctl} (h : whL t body k n = some o) : sWh t body n = some o := by
  unfold sWh
  have hx : ∃ k o, whL t body k n = some o := ⟨k, o, h⟩
  rw [dif_pos hx]
  obtain ⟨o', ho⟩ := Classical.choose_spec hx
  rw [ho]
  rcases Nat.le_total k (Classical.choose hx) with hk | hk
  · rw [whL_mono h hk] at ho; exact ho.symm
  · rw [whL_mono ho hk] at h; exact h
theorem sWh_some {t : Mo Bool} {body : Mo Ctl} {o : Oc Ctl} (h : sWh t body n = some o) : ∃ k, whL t body k n = some o := by
  unfold sWh at h
  split at h
  · exact ⟨_, h⟩
  · cases h
theorem vs_while {body : List Stmt} (hc : VT X W c ba) (hb : VSs X W body sb) : VS X W (.While c body [] pos) (sWh ba sb) := ⟨fun C => by
  obtain ⟨tb, pb, qb⟩ := hb.ex C
  refine ⟨_, ps_while C.po (hc.pt C) pb, fun B F0 F H σ n Ds o R e k => ?_⟩
  obtain ⟨fuel, e⟩ := sWh_some e
  refine ⟨fun m σ H => ∃ n F2, Rel X.K B F0 F2 H σ n ∧ Same F F2 ∧ whL ba sb m n = some o, ⟨fuel, n, F, R, .refl F, e⟩, ?_⟩
  rintro m σ2 H2 ⟨n2, F2, R2, s2, e2⟩
  cases m with
  | zero => cases e2
  | succ m =>
    unfold whL at e2
    split at e2
    · rename_i n3 ht
      refine ⟨B, F0, F2, n2, _, R2, ht, fun F3 H3 R3 s3 => ?_⟩
      have s4 := s2.trans s3
      refine iteT ⟨fun σ' H' => ∃ n F2, Rel X.K B F0 F2 H' σ' n ∧ Same F F2 ∧ whL ba sb m n = some o, fun σ' H' h => ⟨m, by omega, h⟩, ?_⟩
      split at e2
      · rename_i n5 hb5
        exact qb B F0 F3 H3 σ2 n3 _ _ R3 hb5 fun σ6 F6 H6 R6 s6 => ⟨n5, F6, R6, s4.trans s6, e2⟩
      · rename_i n5 hb5
        exact qb B F0 F3 H3 σ2 n3 _ _ R3 hb5 fun σ6 F6 H6 R6 s6 => ⟨n5, F6, R6, s4.trans s6, e2⟩
      · rename_i n5 hb5
        cases e2
        exact qb B F0 F3 H3 σ2 n3 _ _ R3 hb5 fun σ6 F6 H6 R6 s6 => k σ6 F6 H6 R6 (s4.trans s6)
      · rename_i r n5 hb5
        cases e2
        exact qb B F0 F3 H3 σ2 n3 _ _ R3 hb5 fun v σ6 F6 H6 R6 s6 => k v σ6 F6 H6 R6 (s4.trans s6)
      · rename_i c n5 hb5
        cases e2
        exact qb B F0 F3 H3 σ2 n3 _ _ R3 hb5 fun σ6 F6 H6 R6 s6 => k σ6 F6 H6 R6 (s4.trans s6)
      · cases e2
    · rename_i n3 ht
      cases e2
      exact ⟨B, F0, F2, n2, _, R2, ht, fun F3 H3 R3 s3 => iteF (k σ2 F3 H3 R3 (s2.trans s3))⟩
    · rename_i c n3 ht
      cases e2
      exact ⟨B, F0, F2, n2, _, R2, ht, fun F3 H3 R3 s3 C hC => k σ2 F3 H3 R3 (s2.trans s3) C hC⟩
    · cases e2⟩
/-! ### own lists that change -/
/-- the list in slot j gets one item more -/
def eApp (j : Nat) (a : Mo Rs) : Mo Rs := fun n => match n[j]? with
  | some (.ol _) => (Mo.bind a fun r => fun n1 => match frz1 r n1 with
    | some (d, n2) => match n2[j]? with
      | some (.ol ds) => if ds.length < sizeLine then some (.ok (.fr .none) (n2.set j (.ol (ds ++ [d])))) else none
      | _ => none
    | none => none) n
  | _ => none
theorem ve_app (j : Nat) {x : Str} {p apos : Pos} (ha : VE X W a ea) (hN : X.N[j]? = some x := by rfl) (hv : Vis X.env.scope x := by first | exact Or.inl rfl | exact Or.inr (Or.inl rfl) | exact Or.inr (Or.inr rfl)) (hd : (x == ("__debug__" : Str)) = false := by decide)
    (hcd : (x == ("__classdict__" : Str)) = false := by decide) (hbase : attributeBase (.Name x p) "append" X.env (eval (.Name x p) X.env) = eval (.Name x p) X.env := by rfl)
    (hfew : ((backTo pos (starEach [a] X.env)).all (fun x => !x.1) && (backToKw pos (keywordEach [] X.env)).all (fun x => x.1.isSome) && decide ([a].length + ([] : List Keyword).length + (if ([] : List Keyword).isEmpty then 0 else 1) < 30)) = true := by rfl)
    (hline : (apos.endLine == pos.line) = true := by rfl) (hs : starEach [a] X.env = (false, eval a X.env) :: starEach [] X.env := by rfl) (hplain : (backTo pos (starEach [] X.env)).any (·.1) = false := by rfl) :
    VE X W (.Call (.Attribute (.Name x p) "append" apos) [a] [] pos) (eApp j ea) := ⟨fun C => by
  obtain ⟨ta, pa, qa⟩ := ha.ex C
  refine ⟨_, pe_bm PySem.F.plainAttrs_list PySem.F.slot_list_append PySem.F.type_list_append mt_append (pe_var hN hv hd hcd) (pa_cons pa pa_nil hs) hbase hfew hline hs hplain, fun B F0 F H σ n Q o R e k => ?_⟩
  unfold eApp at e
  split at e
  · rename_i ds0 hn
    obtain ⟨l, vs0, e1, e2, _⟩ := R.s j _ hn
    refine ⟨_, e1, .inl ⟨rfl, _, SqL.of e2⟩, ?_⟩
    refine qa.seq R e (fun r n1 v F1 H1 R1 s1 ro e1' => ?_) k.exd
    split at e1'
    · rename_i d n2 hf
      obtain ⟨F2, R2, s2, q2⟩ := ro.frzd R1 hf
      split at e1'
      · rename_i ds hn2
        split at e1'
        · rename_i hz
          cases e1'
          obtain ⟨l', vs, e3, e4, e5, e6, q⟩ := R2.s j _ hn2
          rw [e1] at e3; cases e3
          refine ⟨l, vs, v, rfl, rfl, e4, by rw [q.length]; exact hz, ?_⟩
          exact k .non F2 _ (R2.mut hn2 e1 (q.append (.cons q2 .nil))) (s1.trans s2) .non
        · cases e1'
      · cases e1'
    · cases e1'
  · cases e⟩
/-- the last item of the list in slot j is taken -/
def ePop (j : Nat) : Mo Rs := fun n => match n[j]? with
  | some (.ol ds) => match ds[ds.length - 1]? with
    | some d => some (.ok (.fr d) (n.set j (.ol ds.dropLast)))
    | none => none
  | _ => none
theorem DqAll.dropLast {K : PySem.W.Frag} {vs : List V} {ds : List D} (h : DqAll K F vs ds) : DqAll K F vs.dropLast ds.dropLast := by
  rw [List.dropLast_eq_take, List.dropLast_eq_take, h.length]
  exact h.take _
theorem ve_pop (j : Nat) {x : Str} {p apos : Pos} (hN : X.N[j]? = some x := by rfl) (hv : Vis X.env.scope x := by first | exact Or.inl rfl | exact Or.inr (Or.inl rfl) | exact Or.inr (Or.inr rfl)) (hd : (x == ("__debug__" : Str)) = false := by decide)
    (hcd : (x == ("__classdict__" : Str)) = false := by decide) (hbase : attributeBase (.Name x p) "pop" X.env (eval (.Name x p) X.env) = eval (.Name x p) X.env := by rfl)
    (hline : (apos.endLine == pos.line) = true := by rfl) : VE X W (.Call (.Attribute (.Name x p) "pop" apos) [] [] pos) (ePop j) := ⟨fun C => by
  refine ⟨_, pe_bm0 PySem.F.plainAttrs_list PySem.F.slot_list_pop PySem.F.type_list_pop mt_pop (pe_var hN hv hd hcd) hbase hline, fun B F0 F H σ n Q o R e k => ?_⟩
  unfold ePop at e
  split at e
  · rename_i ds hn
    obtain ⟨l, vs, e1, e2, e3, e4, q⟩ := R.s j _ hn
    split at e
    · rename_i d hd
      cases e
      obtain ⟨v, hv, qv⟩ := q.get hd
      refine ⟨_, e1, .inl ⟨rfl, _, SqL.of e2⟩, l, vs, v, rfl, rfl, e2, by rw [q.length]; exact hv, ?_⟩
      exact k v F _ (R.mut hn e1 q.dropLast) (.refl F) qv
    · cases e
  · cases e⟩
/-- the item at a place of the list in slot j is taken -/
def ePopAt (j : Nat) (a : Mo Rs) : Mo Rs := fun n => match n[j]? with
  | some (.ol _) => (Mo.bind a fun r => fun n1 => match r.data n1, n1[j]? with
    | some (.int i), some (.ol ds) => match ixN ds.length i with
      | some m => if -(2 ^ 63) ≤ i ∧ i < 2 ^ 63 then match ds[m]? with
        | some d => some (.ok (.fr d) (n1.set j (.ol (ds.eraseIdx m))))
        | none => none
        else none
      | none => none
    | _, _ => none) n
  | _ => none
theorem ve_popAt (j : Nat) {x : Str} {p apos : Pos} (ha : VE X W a ea) (hN : X.N[j]? = some x := by rfl) (hv : Vis X.env.scope x := by first | exact Or.inl rfl | exact Or.inr (Or.inl rfl) | exact Or.inr (Or.inr rfl)) (hd : (x == ("__debug__" : Str)) = false := by decide)
    (hcd : (x == ("__classdict__" : Str)) = false := by decide) (hbase : attributeBase (.Name x p) "pop" X.env (eval (.Name x p) X.env) = eval (.Name x p) X.env := by rfl)
    (hfew : ((backTo pos (starEach [a] X.env)).all (fun x => !x.1) && (backToKw pos (keywordEach [] X.env)).all (fun x => x.1.isSome) && decide ([a].length + ([] : List Keyword).length + (if ([] : List Keyword).isEmpty then 0 else 1) < 30)) = true := by rfl)
    (hline : (apos.endLine == pos.line) = true := by rfl) (hs : starEach [a] X.env = (false, eval a X.env) :: starEach [] X.env := by rfl) (hplain : (backTo pos (starEach [] X.env)).any (·.1) = false := by rfl) :
    VE X W (.Call (.Attribute (.Name x p) "pop" apos) [a] [] pos) (ePopAt j ea) := ⟨fun C => by
  obtain ⟨ta, pa, qa⟩ := ha.ex C
  refine ⟨_, pe_bm PySem.F.plainAttrs_list PySem.F.slot_list_pop PySem.F.type_list_pop mt_popAt (pe_var hN hv hd hcd) (pa_cons pa pa_nil hs) hbase hfew hline hs hplain, fun B F0 F H σ n Q o R e k => ?_⟩
  unfold ePopAt at e
  split at e
  · rename_i ds0 hn
    obtain ⟨l, vs0, e1, e2, _⟩ := R.s j _ hn
    refine ⟨_, e1, .inl ⟨rfl, _, SqL.of e2⟩, ?_⟩
    refine qa.seq R e (fun r n1 v F1 H1 R1 s1 ro e1' => ?_) k.exd
    split at e1'
    · rename_i i ds hd hn2
      split at e1'
      · rename_i m hm
        split at e1'
        · rename_i hb
          split at e1'
          · rename_i d hdm
            cases e1'
            obtain ⟨l', vs, e3, e4, e5, e6, q⟩ := R1.s j _ hn2
            rw [e1] at e3; cases e3
            have hi := (ro.db R1 hd).int
            subst hi
            obtain ⟨w, hw, qw⟩ := q.get hdm
            refine ⟨l, vs, i, m, w, rfl, rfl, e4, hb.1, hb.2, by rw [q.length]; exact (ixN_seq hm).1, hw, ?_⟩
            exact k w F1 _ (R1.mut hn2 e1 (q.eraseIdx m)) s1 qw
          · cases e1'
        · cases e1'
      · cases e1'
    · cases e1'
  · cases e⟩
/-- xs[i] = e, xs the list in slot j -/
def sStore (j : Nat) (ei a : Mo Rs) : Mo Ctl := Mo.bind a fun r => fun n => match frz1 r n with
  | some (d, n1) => match n1[j]? with
    | some (.ol _) => (Mo.bind ei fun q => fun n2 => match q.data n2, n2[j]? with
      | some (.int i), some (.ol ds) => match ixN ds.length i with
        | some m => some (.ok .nx (n2.set j (.ol (ds.set m d))))
        | none => none
      | _, _ => none) n1
    | _ => none
  | none => none
theorem vs_store (j : Nat) {x : Str} {p tpos : Pos} (hi : VE X W b eb) (ha : VE X W a ea) (hN : X.N[j]? = some x := by rfl) (hv : Vis X.env.scope x := by first | exact Or.inl rfl | exact Or.inr (Or.inl rfl) | exact Or.inr (Or.inr rfl)) (hd : (x == ("__debug__" : Str)) = false := by decide)
    (hcd : (x == ("__classdict__" : Str)) = false := by decide) (hs : swapsWithSole [.Subscript (.Name x p) b tpos] a pos.line X.env = pure false := by rfl) (hw : swappedStores [.Subscript (.Name x p) b tpos] a X.env = pure none := by rfl)
    (hg : ∀ to ti, PE X (.Name x p) to → PE X b ti → PG X (.Subscript (.Name x p) b tpos) (gSub to ti rSetL) := by intro _ _ h1 h2; exact pg_sub h1 h2 set_list) :
    VS X W (.Assign [.Subscript (.Name x p) b tpos] a pos) (sStore j eb ea) := ⟨fun C => by
  obtain ⟨ta, pa, qa⟩ := ha.ex C
  obtain ⟨ti, pi, qi⟩ := hi.ex C
  refine ⟨_, ps_asg pa (hg _ _ (pe_var hN hv hd hcd) pi) hs hw, fun B F0 F H σ n Ds o R e k => ?_⟩
  refine qa.seq R e (fun r n1 v F1 H1 R1 s1 ro e1 => ?_) k.exd
  split at e1
  · rename_i d n2 hf
    obtain ⟨F2, R2, s2, q2⟩ := ro.frzd R1 hf
    split at e1
    · rename_i ds0 hn
      obtain ⟨l, vs0, g1, g2, _⟩ := R2.s j _ hn
      refine ⟨_, g1, ?_⟩
      refine qi.seq R2 e1 (fun r2 n3 w F3 H3 R3 s3 ro3 e3 => ?_) fun c n' h => ((k.exd (σ := σ)) c n' h).mono (s1.trans s2)
      split at e3
      · rename_i i ds hd3 hn3
        split at e3
        · rename_i m hm
          cases e3
          obtain ⟨l', vs, e5, e6, _, _, q⟩ := R3.s j _ hn3
          rw [g1] at e5; cases e5
          have hi := (ro3.db R3 hd3).int
          subst hi
          refine ⟨l, vs, i, m, rfl, rfl, e6, by rw [q.length]; exact hm, ?_⟩
          exact k σ F3 _ (R3.mut hn3 g1 (DqAll.set (q2.mono s3) m q)) ((s1.trans s2).trans s3)
        · cases e3
      · cases e3
    · cases e1
  · cases e1⟩
end

/-! ### a def by its body -/
def denB (N k : Nat) (sv : Mo Ctl) (ds : List D) : Option Ret := if ds.length = k then
  match sv (ds.map .fr ++ List.replicate (N - k) .un) with
  | some (.ok (.rt (.fr d)) _) => some (.ok (.fr d))
  | some (.ok (.rt (.ol es)) _) => some (.ok (.ol es))
  | some (.ok .nx _) => some (.ok (.fr .none))
  | some (.ex c _) => some (.ex c)
  | _ => none
  else none
theorem denB_len {N k : Nat} {sv : Mo Ctl} (ds : List D) (o : Ret) (h : denB N k sv ds = some o) : ds.length = k := by
  unfold denB at h
  split at h
  · assumption
  · cases h
section
variable {P : Program} {w : World} {K : PySem.W.Frag} {mg : Str → Option Value} {base : Heap}
theorem start_get {N : List Str} {vs : List V} {i : Nat} {v : V} (h : vs[i]? = some v) : (L2.start N vs)[i]? = some (some v) := by
  unfold L2.start
  have hl : i < vs.length := by
    rw [List.getElem?_eq_some_iff] at h
    exact h.1
  rw [List.getElem?_append_left (by rw [List.length_map]; exact hl), List.getElem?_map, h]
  rfl
theorem rel_start {F H : Hp} {N : List Str} {vs : List V} {ds : List D} (s : Same F H) (q : DqAll K F vs ds) (hk : ds.length ≤ N.length) : Rel K H F F H (L2.start N vs) (ds.map .fr ++ List.replicate (N.length - ds.length) .un) := by
  have hl := q.length
  have get : ∀ {i : Nat} {x : Sl}, (ds.map Sl.fr ++ List.replicate (N.length - ds.length) .un)[i]? = some x → (∃ d, ds[i]? = some d ∧ x = .fr d) ∨ x = .un := fun {i x} e => by
    by_cases hi : i < ds.length
    · rw [List.getElem?_append_left (by rw [List.length_map]; exact hi), List.getElem?_map, List.getElem?_eq_getElem hi] at e
      cases e
      exact .inl ⟨_, List.getElem?_eq_getElem hi, rfl⟩
    · rw [List.getElem?_append_right (by rw [List.length_map]; omega), List.getElem?_replicate] at e
      split at e
      · cases e; exact .inr rfl
      · cases e
  refine ⟨?_, .refl H, s, .refl F, fun a h => .inl h, fun i x e => ?_, fun i j ds' es a h1 => ?_⟩
  · unfold L2.start
    rw [List.length_append, List.length_append, List.length_map, List.length_map, List.length_replicate, List.length_replicate, hl]
  · rcases get e with ⟨d, hd, rfl⟩ | rfl
    · obtain ⟨v, hv, qv⟩ := q.get hd
      exact ⟨v, start_get hv, qv⟩
    · trivial
  · rcases get h1 with ⟨d, hd, z⟩ | z <;> cases z
theorem hu0 {A : Around} {k : Nat} (h : Room k A) : A.units + 100 < cLine := by
  have := h.un
  omega
/-- THE RULE for a def -/
theorem fn_j {x qual : Str} {st : Stmt} {f : Addr} {fd : FuncData} {N ps : List Str} {k nN kk : Nat} {sv : Mo Ctl} (F : Fun K x qual st f fd) (S : FnScope N ps (defScope st)) (hN : N.length = nN) (hk : ps.length = kk) (hps : kk ≤ nN)
    (hbody : ∀ (cdv : Value) (A : Around) (outer : List PySem.Env) (s : Shared) (H : Hp) (E : XK), Room k (A.deeper (envOfC qual (defScope st) s.heap.objs.size f cdv)) →
      VSs (cxOf (L2.CX P w) P w K mg base N qual (defScope st) f cdv A outer s H E) (fun cls d _ H => E cls d H) (defBody st) sv) :
    FnOk P w K mg base (L2.CX P w) (k + 1) f fd ps (jsp K mg kk (denB nN kk sv)) := by
  subst hN
  subst hk
  refine F.okX S (fun vs H Q E h => h.1) (fun cdv A outer s H vs Q E hr h => ?_)
  obtain ⟨hl, Fz, ds, o, sF, qd, hd, ko⟩ := h
  have hds : ds.length = ps.length := denB_len _ _ hd
  obtain ⟨t, p, q⟩ := (hbody cdv A outer s H E hr).ex ⟨takes_of rfl rfl rfl rfl, passes_of rfl, rfl, S.nd, hu0 hr⟩
  refine ⟨t, p, ?_⟩
  have R := rel_start (N := N) sF qd (by rw [hds]; exact hps)
  unfold denB at hd
  rw [if_pos hds, ← hds] at hd
  have gr : ∀ {F' H' : Hp} {σ' : L2.St} {n' : En}, Rel K H Fz F' H' σ' n' → Grow Fz H F' H' := fun r => ⟨r.f0, r.b, r.f, r.g⟩
  split at hd
  · rename_i d n' e
    cases hd
    exact q H Fz Fz H _ _ _ _ R e fun v σ' F' H' R' s' rr => ko v F' H' (gr R') rr
  · rename_i es n' e
    cases hd
    refine q H Fz Fz H _ _ _ _ R e fun v σ' F' H' R' s' rr => ko v F' H' (gr R') ?_
    obtain ⟨a, vs', rfl, e1, e2, e3, q', _⟩ := rr
    exact ⟨a, vs', rfl, e1, e2, e3, q'⟩
  · rename_i n' e
    cases hd
    exact q H Fz Fz H _ _ _ _ R e fun σ' F' H' R' s' => ko .non F' H' (gr R') .non
  · rename_i c n' e
    cases hd
    exact q H Fz Fz H _ _ _ _ R e fun σ' F' H' R' s' C hC => ko F' H' C (gr R') hC
  · cases hd
end
end J

/-! J8: chains of comparisons, sorted of tuples, repr, the law's own call. -/
namespace J
open PySem PySem.Spec PyProof.Rows L2

section
variable {X : Cx} {W : WX} {a b c : Expr} {ea eb ec : Mo Rs} {pos : Pos}
/-- a op b op' c -/
def eChain (g g' : D → D → Option Rs) (a b c : Mo Rs) : Mo Rs := Mo.bind a fun r => Mo.bind b fun q => fun n => match r.data n, q.data n with
  | some d, some e => match g d e with
    | some (.fr (.bool true)) => (Mo.bind c fun u => fun n1 => match q.data n1, u.data n1 with
      | some e', some f => (g' e' f).map fun z => .ok z n1
      | _, _ => none) n
    | some (.fr (.bool false)) => some (.ok (.fr (.bool false)) n)
    | _ => none
  | _, _ => none
theorem chain_gd {ta tb tc : TE} {g g' : D → D → Option Rs} {r r' : R2} (qa : GdE X W ta ea) (qb : GdE X W tb eb) (qc : GdE X W tc ec)
    (hr : ∀ F H x y d e z Q, Same F H → DB X.K F H x d → DB X.K F H y e → g d e = some z → KN X.K F H Q z → r x y H Q)
    (hr' : ∀ F H x y d e z Q, Same F H → DB X.K F H x d → DB X.K F H y e → g' d e = some z → KN X.K F H Q z → r' x y H Q) : GdE X W (tChain r r' ta tb tc) (eChain g g' ea eb ec) := fun B F0 F H σ n Q o R e k => by
  refine qa.seq R e (fun r1 n1 x F1 H1 R1 s1 ro1 e1 => ?_) k.exd
  refine qb.seq R1 e1 (fun r2 n2 y F2 H2 R2 s2 ro2 e2 => ?_) fun c n' h => (k.exd c n' h).mono s1
  split at e2
  · rename_i d e' hd he
    split at e2
    · rename_i hg
      refine hr F2 H2 x y d e' _ _ R2.f ((ro1.mono s2).db R2 hd) (ro2.db R2 he) hg fun v F3 H3 w3 rn3 => ?_
      cases rn3
      refine ⟨true, rfl, iteT ?_⟩
      have R3 := R2.grow w3
      refine qc.seq R3 e2 (fun r4 n4 z F4 H4 R4 s4 ro4 e4 => ?_) fun c n' h => (k.exd c n' h).mono ((s1.trans s2).trans w3.f)
      split at e4
      · rename_i e5 f5 h5 h6
        cases hz : g' e5 f5 with
        | none => rw [hz] at e4; cases e4
        | some zz =>
          rw [hz] at e4
          cases e4
          exact hr' F4 H4 y z e5 f5 zz Q R4.f (((ro2.mono w3.f).mono s4).db R4 h5) (ro4.db R4 h6) hz (Dem.fin k R4 (((s1.trans s2).trans w3.f).trans s4))
      · cases e4
    · rename_i hg
      cases e2
      refine hr F2 H2 x y d e' _ _ R2.f ((ro1.mono s2).db R2 hd) (ro2.db R2 he) hg fun v F3 H3 w3 rn3 => ?_
      cases rn3
      exact ⟨false, rfl, iteF (k _ F3 H3 (R2.grow w3) ((s1.trans s2).trans w3.f) (.bl false))⟩
    · cases e2
  · cases e2
theorem ve_chain {op op' : CmpOp} {g g' : D → D → Option Rs} (ho : X.A.units + 100 < cLine → OpD X (compareOp op) g) (ho' : X.A.units + 100 < cLine → OpD X (compareOp op') g') (ha : VE X W a ea) (hb : VE X W b eb) (hc : VE X W c ec)
    (hm : lastMarks [op, op'] [b, c] = false := by with_unfolding_all rfl) : VE X W (.Compare a [op, op'] [b, c] pos) (eChain g g' ea eb ec) := ⟨fun C => by
  obtain ⟨ta, pa, qa⟩ := ha.ex C
  obtain ⟨tb, pb, qb⟩ := hb.ex C
  obtain ⟨tc, pc, qc⟩ := hc.ex C
  obtain ⟨r, o, q⟩ := ho C.hu
  obtain ⟨r', o', q'⟩ := ho' C.hu
  exact ⟨_, pe_chain o o' pa pb pc hm, chain_gd qa qb qc q q'⟩⟩
theorem vt_chain {op op' : CmpOp} {g g' : D → D → Option Rs} (ho : X.A.units + 100 < cLine → OpD X (compareOp op) g) (ho' : X.A.units + 100 < cLine → OpD X (compareOp op') g') (ha : VE X W a ea) (hb : VE X W b eb) (hc : VE X W c ec)
    (hm : lastMarks [op, op'] [b, c] = false := by with_unfolding_all rfl) : VT X W (.Compare a [op, op'] [b, c] pos) (eT (eChain g g' ea eb ec)) := ⟨fun C => by
  obtain ⟨ta, pa, qa⟩ := ha.ex C
  obtain ⟨tb, pb, qb⟩ := hb.ex C
  obtain ⟨tc, pc, qc⟩ := hc.ex C
  obtain ⟨r, o, q⟩ := ho C.hu
  obtain ⟨r', o', q'⟩ := ho' C.hu
  exact ⟨_, pt_chain o o' pa pb pc hm, (chain_gd qa qb qc q q').test⟩⟩
/-! ### xs[::-1] of a list -/
def dRev : D → Option Rs
  | .list ds => some (.ol ds.reverse)
  | _ => none
theorem ve_rev {k : Nat} {p1 p2 p3 : Pos} (ha : VE X W a ea) : VE X W (.Subscript a (.Slice none none (some (.UnaryOp .USub (.Constant (.int 1) k p1) p2)) p3) pos) (eUn dRev ea) := ⟨fun C => by
  obtain ⟨ta, pa, qa⟩ := ha.ex C
  refine ⟨_, pe_revL pa, ?_⟩
  refine GdE.one (r := fun x H1 Q => ∃ a xs, x = .ref a ∧ SqL X.K H1 a xs ∧ ∀ p, H1 p = none → Q (.ref p) (upd H1 p (.lst xs.reverse))) qa fun F H x d z Q s hx hz k => ?_
  unfold dRev at hz
  split at hz
  · obtain ⟨a, vs, rfl, h, q⟩ := hx.lst s
    cases hz
    exact ⟨a, vs, rfl, SqL.of h, k.lst s q.reverse⟩
  · cases hz⟩

/-! ### sorted of a tuple -/
section
variable {prog : Program} {w : World} {A : Around} {E : Value → Shared → Prop} {s : Shared}
theorem col_tup {t : Addr} {vs : List Value} {Q : List Value → Shared → Prop} (ht : IsTup s.heap t vs.toArray) (hz : vs.length ≤ sizeLine)
    (h : Q vs { s with heap := (s.heap.push (seqObj "list" #[] 0)).update s.heap.objs.size (Obj.mapSeq (· ++ vs.toArray)) }) : wpAny (model prog w) A (collect (.ref t)) Q E s := by
  obtain ⟨o, ho, hc, n, hd⟩ := id ht
  have ho2 : (s.heap.push (seqObj "list" #[] 0)).get? t = some o := Heap.get?_push_of_some _ ho
  have hz2 : ((#[] : Array Value) ++ vs.toArray).size ≤ sizeLine + 1 := by
    simp only [Array.size_append, List.size_toArray, List.length_nil]
    omega
  unfold collect
  refine wpAny_bind (wpAny_runValue (codeAny_builtin entry_proto_collect' ?_))
  show wpAny _ _ (do again (.builtin "list.__iadd__" ⟨[← newList [], .ref t], []⟩)) _ _ s
  refine wpAny_bind (wpAny_newList (wpAny_pure ⟨Code.quiet_builtin _ (by decide +kernel), codeAny_builtin entry_list_iadd' ?_⟩))
  show wpAny _ _ (Builtin.List.listExtendWith (.ref s.heap.objs.size) (.ref t) (.ref s.heap.objs.size)) _ _ { s with heap := s.heap.push (seqObj "list" #[] 0) }
  unfold Builtin.List.listExtendWith
  refine wpAny_bind (wpAny_typeOf (T := "tuple") ⟨o, ho2, hc⟩ ?_)
  have hty : (Value.type "tuple" == Value.type "tuple") = true := by rfl
  rw [if_pos (by rw [hty]; simp)]
  refine wpAny_bind (listItems_at ho2 hd (wpAny_bind (listItems_at (xs := #[]) (n := 0) (Heap.get?_push_size _ rfl) rfl ?_)))
  rw [if_neg (by simp)]
  refine wpAny_bind (listUpdate_at (xs := #[]) (n := 0) (Heap.get?_push_size _ rfl) rfl (wpAny_pure ?_) (Nat.zero_le _) hz2)
  show wpAny (model prog w) A (load s.heap.objs.size >>= fun o => match o.data with | .seq xs _ => pure xs.toList | _ => unsupported "internal:collect") Q E { s with heap := (s.heap.push (seqObj "list" #[] 0)).update s.heap.objs.size (Obj.mapSeq (· ++ vs.toArray)) }
  refine wpAny_bind (wpAny_load (get?_update_seq (Heap.get?_push_size _ rfl) _) ?_)
  show wpAny _ _ (pure ((#[] : Array Value) ++ vs.toArray).toList) Q E _
  rw [show ((#[] : Array Value) ++ vs.toArray).toList = vs by simp]
  exact wpAny_pure h
open SrtO in
/-- sorted(t), t a tuple: the new list stands at size + 1 -/
theorem sorted_tup {t : Addr} {vs : List Value} {ltv : Value → Value → Bool} {Q : Value → Shared → Prop} (O : Swo ltv) (ht : IsTup s.heap t vs.toArray) (hz : vs.length ≤ sizeLine)
    (hS : 2 ≤ vs.length → ∀ (h₁ : Heap) (a : Addr), h₁.get? a = some (seqObj "list" vs.toArray 0) → (∀ b o, s.heap.get? b = some o → b ≠ a ∧ h₁.get? b = some o) → SortableO prog w A.in1.in1 { s with heap := h₁ } a vs ltv)
    (h : ∀ out : List Value, Srtd ltv out → Stb ltv out vs → Q (.ref (s.heap.objs.size + 1)) { s with heap := sortedAll s.heap vs out.toArray }) : wpAny (model prog w) A (call (.builtin "sorted") [.ref t]) Q E s := by
  refine Calls.call_function_entry kind_sorted plain_sorted entry_sorted (args_sorted1 _) ?_
  unfold Builtin.«sorted»
  refine wpAny_bind (m := checkCount "sorted" 1 1 _) (wpAny_pure (wpAny_bind (col_tup ht hz (wpAny_bind (wpAny_newList ?_ hz)))))
  generalize hG : (s.heap.push (seqObj "list" #[] 0)).update s.heap.objs.size (Obj.mapSeq (· ++ vs.toArray)) = G
  have hsz : G.objs.size = s.heap.objs.size + 1 := by rw [← hG, Heap.size_update, size_push']
  have hoL : (G.push (seqObj "list" vs.toArray 0)).get? (s.heap.objs.size + 1) = some (seqObj "list" vs.toArray 0) := by
    rw [← hsz]
    exact Heap.get?_push_size _ rfl
  have keep : ∀ b o, s.heap.get? b = some o → b ≠ s.heap.objs.size + 1 ∧ (G.push (seqObj "list" vs.toArray 0)).get? b = some o := fun b o q => by
    have hlt : b < s.heap.objs.size := Heap.lt_size q
    refine ⟨Nat.ne_of_lt (Nat.lt_succ_of_lt hlt), Heap.get?_push_of_some _ ?_⟩
    rw [← hG, Heap.get?_update_ne _ _ _ _ (Nat.ne_of_lt hlt)]
    exact Heap.get?_push_of_some _ q
  show wpAny _ _ _ _ _ { s with heap := G.push (seqObj "list" vs.toArray 0) }
  rw [show ({ s with heap := G } : Shared).heap.objs.size = s.heap.objs.size + 1 from hsz]
  refine wpAny_bind (wpAny_holding (wpAny_call_entry slot_list_sort ⟨_, hoL, rfl⟩ entry_list_sort (list_sort_ord O hoL hz (fun h2 => hS h2 _ _ hoL keep) fun out hs hb => ⟨_, rfl, wpAny_pure ⟨_, rfl, ?_⟩⟩) (args_list_sort _)))
  have e := h out hs hb
  unfold sortedAll at e
  rw [hG] at e
  exact e
end
def rSortedT (K : PySem.W.Frag) : List V → Hp → VK → Prop := fun vs H Q => ∃ (a : Addr) (ns : List Int), vs = [V.ref a] ∧ SqT K H a (ns.map V.int) ∧
  ∀ (ns' : List Int) (p : Addr), ns'.Perm ns → ns'.Pairwise (· ≤ ·) → H p = none → Q (.ref p) (upd H p (.lst (ns'.map V.int)))
theorem cr_sortedT : CallR X (.builtin "sorted") (rSortedT X.K) := by
  intro pins s σ H vs us Q I r h
  obtain ⟨a, ns, rfl, hs, q⟩ := h
  obtain ⟨its, rv, ht, hz⟩ := I.tuple hs
  rw [Vals.ref1 r]
  have hi := rv.ints
  refine sorted_tup SrtO.swo_int ht (by rw [← rv.length]; exact hz) (fun h2 h₁ a' _ _ => SrtO.ints_sortable hi h2) fun out h1 h2 => ?_
  obtain ⟨k1, k2, k3⟩ := SrtO.ints_out hi h1 h2
  obtain ⟨ep, he⟩ := PyProof.Rows.sortedAll_at s.heap its out.toArray
  have hlen : ((out.map SrtO.iv).map V.int).length ≤ sizeLine := by
    rw [List.length_map, k2.length_eq]
    rw [List.length_map] at hz
    exact hz
  have I2 := I.laid (a := s.heap.objs.size + 1) (o := .lst ((out.map SrtO.iv).map V.int)) (t' := s.toks) (h' := sortedAll s.heap its out.toArray) (fun _ _ => PyProof.Rows.sortedAll_old) (Nat.le_succ _) ⟨hlen, out, ep, vals_of_ints k1, he⟩
  exact ⟨.ref _, _, I2, rfl, q _ _ k2 k3 (I.hok.fresh (Nat.le_succ _))⟩
def dSortedT : List D → Option Rs
  | [.tuple ds] => (asInts ds).map fun ns => .ol ((sortI ns).map .int)
  | _ => none
theorem cd_sortedT : CallD X (.builtin "sorted") dSortedT := by
  refine ⟨_, cr_sortedT, fun F H xs ds z Q s h hz k => ?_⟩
  unfold dSortedT at hz
  split at hz
  · rename_i ds
    cases e : asInts ds with
    | none => rw [e] at hz; cases hz
    | some ns =>
      rw [e] at hz
      cases hz
      obtain ⟨x, rfl, hx⟩ := dbs1 h
      obtain ⟨a, vs, rfl, ha, _, q⟩ := hx.tup s
      rw [asInts_eq e] at q
      rw [q.ints] at ha
      exact ⟨a, ns, rfl, ha, fun ns' p h1 h2 hp => by rw [sortI_uniq h1 h2]; exact k.lst s (DqAll.of_ints _) p hp⟩
  · cases hz
/-! ### repr of data -/
def reprOk (d : D) : Bool := d.canLay0 && d.showable && decide (d.depth ≤ 60) && decide (d.shown.length ≤ sizeLine)
def dRepr : List D → Option Rs
  | [.list ds] => if reprOk (.list ds) then some (.fr (.str (PyData.shown (.list ds)))) else none
  | [.tuple ds] => if reprOk (.tuple ds) then some (.fr (.str (PyData.shown (.tuple ds)))) else none
  | _ => none
theorem call_repr (hgd : X.A.guards = some []) (hu : X.A.units + 100 < cLine) : CallR X (.builtin "repr") (fun xs H Q => ∃ a d, xs = [V.ref a] ∧ Dp X.K H (.ref a) d ∧ reprOk d = true ∧ Q (.str d.shown) H) := by
  intro pins s σ H xs us Q I r h
  obtain ⟨a, d, rfl, hd, ok, q⟩ := h
  rw [Vals.ref1 r]
  unfold reprOk at ok
  simp only [Bool.and_eq_true, decide_eq_true_eq] at ok
  obtain ⟨⟨⟨h1, h2⟩, h3⟩, h4⟩ := ok
  obtain ⟨as, rd⟩ := Dp.reads I d _ _ hd rfl
  exact PySem.repr_of_reads' rd h2 (PyData.noDict_hsm (PyData.hasDict_of_canLay d h1)) hgd (by omega) (fun _ _ e => e) (fun h' u tk hk => ⟨.str _, H, I.kept hk, ⟨_, rfl⟩, q⟩) h4
theorem cd_repr (hgd : X.A.guards = some []) (C : Ctx X W) : CallD X (.builtin "repr") dRepr := by
  refine ⟨_, call_repr hgd C.hu, fun F H xs ds z Q s h hz k => ?_⟩
  unfold dRepr at hz
  have lay : ∀ {d : D}, reprOk d = true → d.canLay0 = true := fun {d} h => by
    unfold reprOk at h
    simp only [Bool.and_eq_true] at h
    exact h.1.1.1
  split at hz
  · split at hz
    · rename_i ok
      cases hz
      obtain ⟨x, rfl, hx⟩ := dbs1 h
      have hq := hx.dq s
      obtain ⟨a, vs, rfl, _, _⟩ := hx.lst s
      exact ⟨a, _, rfl, hq.dp (lay ok), ok, k.flat s (.str _)⟩
    · cases hz
  · split at hz
    · rename_i ok
      cases hz
      obtain ⟨x, rfl, hx⟩ := dbs1 h
      have hq := hx.dq s
      obtain ⟨a, vs, rfl, _, _⟩ := hx.tup s
      exact ⟨a, _, rfl, hq.dp (lay ok), ok, k.flat s (.str _)⟩
    · cases hz
  · cases hz
end
end J

/-! J9: the law's own def, called by the claim (there no repr is under way), and the end of a row. -/
namespace J
open PySem PySem.Spec PyProof.Rows L2

section
variable {P : Program} {w : World} {K : PySem.W.Frag} {mg : Str → Option Value} {base : Heap}
theorem guards_at (env : PySem.Env) : (callerA.deeper env).guards = some [] := rfl
theorem room_at : Room 60 callerA := ⟨rfl, by decide, by decide⟩
/-- the run of a def's body, called by the claim itself -/
theorem run_at {x qual : Str} {st : Stmt} {f : Addr} {fd : FuncData} {N ps : List Str} {k nN kk : Nat} {sv : Mo Ctl} (F : Fun K x qual st f fd) (S : FnScope N ps (defScope st)) (hN : N.length = nN) (hkk : ps.length = kk) (hps : kk ≤ nN) (hk : Room (k + 1) callerA)
    (hbody : ∀ (cdv : Value) (outer : List PySem.Env) (s : Shared) (H : Hp) (E : XK), Room k (callerA.deeper (envOfC qual (defScope st) s.heap.objs.size f cdv)) →
      VSs (cxOf (L2.CX P w) P w K mg base N qual (defScope st) f cdv callerA outer s H E) (fun cls d _ H => E cls d H) (defBody st) sv)
    {outer : List PySem.Env} {s : Shared} {H : Hp} {args : Args} {us : List Value} {vs : List V} {Q : VK} {E : XK} (e0 : Env0 P w K mg base callerA outer s H) (hb : BindsTo s fd args (ps.zip us)) (r : Vals vs us) (h : jsp K mg kk (denB nN kk sv) vs H Q E) :
    codeAny (model P w) callerA (.call (.ref f) args) (CR (L2.CX P w) outer P w H s Q E) s := by
  subst hN
  subst hkk
  obtain ⟨oc, od, kV, doc, pm, an, cdv, ct, osl, rfl, lk, hcd⟩ := F.ex
  obtain ⟨hl, Fz, ds, o, sF, qd, hd, ko⟩ := h
  have keepB : ∀ b o, base.get? b = some o → s.heap.get? b = some o := fun b o e => (e0.bs b o e).1
  have KX : K.In s.heap := e0.mod.kin.keeps keepB
  have lim : s.heap.NoLimit := e0.mod.nolimit.keeps keepB
  have cells : ∀ y ∈ ps.zip us, (defScope st).names.lookup y.1 = some .local ∨ ((defScope st).names.lookup y.1 = some .cell ∧ ((cellsFrom (s.heap.objs.size + 1) (defScope st).names []).lookup y.1).isSome = true) := fun y hy => by
    rcases S.par y.1 (List.of_mem_zip hy).1 with q | q
    · exact .inl q
    · exact .inr ⟨q, PySem.W.cellsFrom_some _ _ _ (.inl q)⟩
  refine codeAny_call_function hk.depth (KX _ _ lk) rfl S.co S.gen rfl (PySem.W.codeRec_of KX hcd) (hb _ _ _ _ (wpAny_newFunctionEnv_cells S.kind cells fun env he s1 hx => ?_))
  subst he
  refine ⟨lim.keeps hx.toInCall.keep, codeAny_func ?_⟩
  have hds : ds.length = ps.length := denB_len _ _ hd
  have hr := hk.deeper (envOfC qual (defScope st) s.heap.objs.size f cdv)
  obtain ⟨t, p, q⟩ := (hbody cdv outer s H E hr).ex ⟨takes_of rfl rfl rfl rfl, passes_of rfl, rfl, S.nd, hu0 hr⟩
  have R := rel_start (N := N) sF qd (by rw [hds]; exact hps)
  have I : Inv (cxOf (L2.CX P w) P w K mg base N qual (defScope st) f cdv callerA outer s H E) [] (L2.start N vs) H s1 := inv_start S hk.hd e0 hl r hx
  have gr : ∀ {F' H' : Hp} {σ' : L2.St} {n' : En}, Rel K H Fz F' H' σ' n' → Grow Fz H F' H' := fun r => ⟨r.f0, r.b, r.f, r.g⟩
  have ends : t { nx := fun _ H' => Q .non H', rt := Q } (L2.start N vs) H := by
    unfold denB at hd
    rw [if_pos hds, ← hds] at hd
    split at hd
    · rename_i d n' e
      cases hd
      exact q H Fz Fz H _ _ _ _ R e fun v σ' F' H' R' s' rr => ko v F' H' (gr R') rr
    · rename_i es n' e
      cases hd
      refine q H Fz Fz H _ _ _ _ R e fun v σ' F' H' R' s' rr => ko v F' H' (gr R') ?_
      obtain ⟨a, vs', rfl, e1, e2, e3, q', _⟩ := rr
      exact ⟨a, vs', rfl, e1, e2, e3, q'⟩
    · rename_i n' e
      cases hd
      exact q H Fz Fz H _ _ _ _ R e fun σ' F' H' R' s' => ko .non F' H' (gr R') .non
    · rename_i c n' e
      cases hd
      exact q H Fz Fz H _ _ _ _ R e fun σ' F' H' R' s' C hC => ko F' H' C (gr R') hC
    · cases hd
  refine wpAny_mono (p.run [] s1 _ H _ I ends) (fun fl s' hs => ?_) fun e s' hs => hs
  cases fl with
  | next =>
    obtain ⟨σ', H', J, q'⟩ := hs
    exact ⟨V.non, H', J.os, J.bare, J.base, J.hok, rfl, q'⟩
  | ret u =>
    obtain ⟨v, σ', H', J, rv, q'⟩ := hs
    exact ⟨v, H', J.os, J.bare, J.base, J.hok, rv, q'⟩
  | brk =>
    obtain ⟨_, _, _, q'⟩ := hs
    exact q'.elim
  | cont =>
    obtain ⟨_, _, _, q'⟩ := hs
    exact q'.elim

/-- the law's promise at the heap behind the top -/
theorem law_at {mb : Str → Option Value} {fa a : Addr} {fd : FuncData} {x : Str} {s₁ : Shared} {vs : List Value} {ns : List Int} {den : List D → Option Ret}
    (KX : K.In s₁.heap) (hns : s₁.heap.Ns mainGlobals mg) (hb : s₁.heap.Ns builtinsNs mb) (hbb : ∀ x : Str, x ≠ "__name__" → mb x = bootBuiltins x) (hlim : s₁.heap.NoLimit) (hg : s₁.gens = #[])
    (ha : s₁.heap.get? a = some { cls := .type "list", data := .seq vs.toArray }) (hi : IntsAre vs ns) (hl : ns.length ≤ sizeLine)
    (run : ∀ base : Heap, K.In base → base.Ns mainGlobals mg → ∀ {s : Shared} {H : Hp} {args : Args} {us : List Value} {vs : List V} {Q : VK} {E : XK}, Env0 P w K mg base callerA [] s H → BindsTo s fd args ([x].zip us) → Vals vs us → jsp K mg 1 den vs H Q E →
      codeAny (model P w) callerA (.call (.ref fa) args) (CR (L2.CX P w) [] P w H s Q E) s)
    (hbind : ∀ (s : Shared) (u : Value), BindsTo s fd ⟨[u], []⟩ [(x, u)]) (hden : den [.dict [(.none, .list (ns.map .int))]] = some (.ok (.fr (.bool true)))) :
    codeAny (model P w) callerA (.call (.ref fa) ⟨[.ref a], []⟩) (fun r s' => r = .ok (.ret (.bool true)) ∧ OldK s₁.heap s'.heap ∧ s'.os = s₁.os ∧ AllBare s'.gens) s₁ := by
  have rv := vals_ints hi
  -- the abstract heap in which at most the script is tracked, and locked
  have core : ∀ H : Hp, (∀ b u, H b = some u → b = a ∧ ∃ o xs, u = .frz o (.lst xs)) → SqL K H a (ns.map V.int) → HOk P w H s₁.heap → (H a ≠ none → K.lookup a = none) →
      codeAny (model P w) callerA (.call (.ref fa) ⟨[.ref a], []⟩) (fun r s' => r = .ok (.ret (.bool true)) ∧ OldK s₁.heap s'.heap ∧ s'.os = s₁.os ∧ AllBare s'.gens) s₁ := by
    intro H hO hS hok hK
    have out : ∀ {b : Addr}, b ≠ a → H b = none := fun {b} hb => by
      cases q : H b with
      | none => rfl
      | some u => exact absurd (hO b u q).1 hb
    have nsK : ∀ {b : Addr} {m : Str → Option Value}, s₁.heap.Ns b m → (hidT s₁.heap H).Ns b m := fun {b m} ⟨o, es, ep, e, d, r⟩ => by
      refine ⟨o, es, ep, hidT_get e (out fun z => ?_), d, r⟩
      subst z
      rw [ha] at e
      cases e
      exact nomatch (show Data.seq vs.toArray _ = Data.dict es ep from d)
    have hKb : K.In (hidT s₁.heap H) := fun b o e => hidT_get (KX b o e) (by
      cases q : H b with
      | none => rfl
      | some u =>
        have eb := (hO b u q).1
        subst eb
        rw [hK (by rw [q]; exact fun z => nomatch z)] at e
        cases e)
    have hM : Mod K mg (hidT s₁.heap H) := ⟨hKb, nsK hns, ⟨mb, nsK hb, hbb⟩, let ⟨mc, h1, h2⟩ := hlim; ⟨mc, nsK h1, h2⟩⟩
    have e0 : Env0 P w K mg (hidT s₁.heap H) callerA [] s₁ H := ⟨rfl, hM, fun b o e => of_hidT e, Nat.le_of_eq (hidT_size _ _), trivial, fun b hb => absurd (show b ∈ ([] : List Addr) from hb) (by simp), hok, .of_eq hg⟩
    have pr : jsp K mg 1 den [.ref a] H (fun v _ => v = .bl true) (fun _ _ _ => False) := by
      refine ⟨rfl, H, _, _, .refl H, .cons (.scr hS (DqAll.of_ints ns)) .nil, hden, fun v F' H' w rn => ?_⟩
      cases rn
      rfl
    refine codeAny_mono (run _ hKb (nsK hns) e0 (us := [Value.ref a]) (vs := [V.ref a]) (hbind s₁ (.ref a)) (.cons rfl .nil) pr) fun r s' h => ?_
    cases r with
    | error e =>
      obtain ⟨_, _, _, _, _, _, _, _, _, _, _, _, z⟩ := (show L2.CX P w [] H s₁ (fun _ _ _ => False) e s' from h)
      exact z.elim
    | ok fl =>
      cases fl with
      | next => exact False.elim h
      | brk => exact False.elim h
      | cont => exact False.elim h
      | ret u =>
        obtain ⟨v, H', os, bare, un, hok', r', q⟩ := h
        cases (show v = .bl true from q)
        cases r'
        refine ⟨rfl, OldK.of_keep fun b o e => ?_, os, bare⟩
        cases q : H b with
        | none => exact un.keep b o e q (fun z => absurd (show b ∈ ([] : List Addr) from z) (by simp)) (by simp)
        | some u =>
          obtain ⟨_, ob, xs, rfl⟩ := hO b u q
          obtain ⟨e1, _⟩ := hok b _ q
          obtain ⟨e2, _⟩ := hok' b _ (un.frzs b ob _ q)
          rw [e] at e1
          cases e1
          exact e2
  cases hk : K.lookup a with
  | some o =>
    have e := KX a o hk
    rw [ha] at e
    cases e
    refine core (fun _ => none) (fun b u z => nomatch z) (.inr ⟨_, vs.toArray, _, hk, rfl, rfl, rfl, ?_, by simpa using rv⟩) (fun b u z => nomatch z) fun z => absurd rfl z
    rw [List.size_toArray, hi.length]
    exact hl
  | none =>
    generalize hob : ({ cls := .type "list", data := .seq vs.toArray } : Obj) = ob at ha
    have ok : ObjOk P w (upd (fun _ => none) a (.frz ob (.lst (ns.map V.int)))) s₁.heap a (.frz ob (.lst (ns.map V.int))) := ⟨ha, by rw [List.length_map]; exact hl, vs, _, rv, by rw [ha, ← hob]⟩
    refine core (upd (fun _ => none) a (.frz ob (.lst (ns.map V.int)))) (fun b u z => ?_) (.inl (.inr ⟨ob, upd_same⟩)) (fun b u z => ?_) fun _ => hk
    · by_cases hb : b = a
      · subst hb
        rw [upd_same] at z
        cases z
        exact ⟨rfl, _, _, rfl⟩
      · rw [upd_ne hb] at z
        exact nomatch z
    · by_cases hb : b = a
      · subst hb
        rw [upd_same] at z
        cases z
        exact ok
      · rw [upd_ne hb] at z
        exact nomatch z
end
theorem fn_none {P : Program} {w : World} {K : PySem.W.Frag} {mg : Str → Option Value} {base : Heap} {CX : CXT} {k m : Nat} {f : Addr} {fd : FuncData} {ps : List Str} (h : ps.length = m) : FnOk P w K mg base CX k f fd ps (jsp K mg m fun _ => none) :=
  ⟨fun vs H Q E z => z.1.trans h.symm, fun A outer s H args us vs Q E hr he hb hv z => by
    obtain ⟨_, _, _, _, _, _, e, _⟩ := z
    exact nomatch e⟩
/-- THE END of a row: from the run of the law's def and from what it gives -/
theorem walk_j {l : PySem.W.OpenLaw} {n : Nat} {q : Program} {loose : List Str} {XP : (Str → Option Value) → Heap → Prop} {YP : World → Heap → Prop} {d : DefRec} {K : Params → PySem.W.Frag} {x : Str} {den : List D → Option Ret}
    (hn : l.most = some n) (hn2 : n ≤ sizeLine) (hdf : d.params.defaults = []) (hY : ∀ (w : World) (h : Heap), YP w h → (K w.params).In h)
    (F : ∀ (w : World) (mg : Str → Option Value) (fa : Addr) (h : Heap), (K w.params).In h → h.Ns mainGlobals mg → mg d.name = some (.ref fa) →
      ∃ fd : FuncData, (∀ (s : Shared) (u : Value), BindsTo s fd ⟨[u], []⟩ [(x, u)]) ∧
        ∀ base : Heap, (K w.params).In base → base.Ns mainGlobals mg → ∀ {s : Shared} {H : Hp} {args : Args} {us : List Value} {vs : List V} {Q : VK} {E : XK}, Env0 l.prog w (K w.params) mg base callerA [] s H → BindsTo s fd args ([x].zip us) → Vals vs us → jsp (K w.params) mg 1 den vs H Q E →
          codeAny (model l.prog w) callerA (.call (.ref fa) args) (CR (L2.CX l.prog w) [] l.prog w H s Q E) s)
    (hden : ∀ ns : List Int, ns.length ≤ n → den [.dict [(.none, .list (ns.map .int))]] = some (.ok (.fr (.bool true)))) :
    PySem.W.WalkO q loose XP YP l.row.toRowW d [] (fun f vs => PySem.call f vs) := by
  refine Att.attach_call hn hdf fun w s₀ s₁ mg mb fa o pm cd doc a vs ns G Y ho hd hcd hmg hobj hints hlen hg => ?_
  have KX := hY w _ Y
  obtain ⟨fd, hb, hF⟩ := F w mg fa _ KX G.T.g hmg
  exact law_at KX G.T.g G.T.b G.T.builtins G.T.nolimit hg hobj hints (Nat.le_trans hlen hn2) hF hb (hden ns hlen)
end J

/-! J10: how the runs by value are evaluated: one equation for each combinator, told by functions that reduce on constructors alone. -/
namespace J
open PySem PySem.Spec PyProof.Rows L2

def andT {α β : Type} (o : Option (Oc α)) (f : α → En → Option (Oc β)) : Option (Oc β) := match o with
  | none => none
  | some (.ok a n) => f a n
  | some (.ex c n) => some (.ex c n)
section
variable {α β : Type}
@[simp] theorem andT_ok (a : α) (n : En) (f : α → En → Option (Oc β)) : andT (some (.ok a n)) f = f a n := (Eq.trans rfl rfl)
@[simp] theorem andT_ex (c : Str) (n : En) (f : α → En → Option (Oc β)) : andT (some (.ex c n)) f = some (.ex c n) := (Eq.trans rfl rfl)
@[simp] theorem andT_none (f : α → En → Option (Oc β)) : andT none f = none := (Eq.trans rfl rfl)
theorem andT_ite (c : Prop) [Decidable c] (x y : Option (Oc α)) (f : α → En → Option (Oc β)) : andT (if c then x else y) f = if c then andT x f else andT y f := by
  split <;> rfl
theorem bind_app (m : Mo α) (f : α → Mo β) (n : En) : Mo.bind m f n = andT (m n) f := by
  unfold Mo.bind andT
  cases m n with
  | none => rfl
  | some o => cases o <;> rfl
end
theorem ret_app {α : Type} (a : α) (n : En) : Mo.ret a n = some (.ok a n) := rfl
/-! functions by constructors -/
def finO (z : Option Rs) (n : En) : Option (Oc Rs) := z.map fun z => .ok z n
@[simp] theorem finO_some (z : Rs) (n : En) : finO (some z) n = some (.ok z n) := (Eq.trans rfl rfl)
@[simp] theorem finO_none (n : En) : finO none n = none := (Eq.trans rfl rfl)
def varO (o : Option Sl) (i : Nat) (n : En) : Option (Oc Rs) := match o with
  | some (.fr d) => some (.ok (.fr d) n)
  | some (.ol _) => some (.ok (.bo i) n)
  | _ => none
@[simp] theorem varO_fr (d : D) (i : Nat) (n : En) : varO (some (.fr d)) i n = some (.ok (.fr d) n) := (Eq.trans rfl rfl)
@[simp] theorem varO_ol (ds : List D) (i : Nat) (n : En) : varO (some (.ol ds)) i n = some (.ok (.bo i) n) := (Eq.trans rfl rfl)
def boO (o : Option Sl) : Option D := match o with
  | some (.fr d) => some d
  | some (.ol ds) => some (.list ds)
  | _ => none
@[simp] theorem boO_fr (d : D) : boO (some (.fr d)) = some d := (Eq.trans rfl rfl)
@[simp] theorem boO_ol (ds : List D) : boO (some (.ol ds)) = some (.list ds) := (Eq.trans rfl rfl)
@[simp] theorem data_fr (d : D) (n : En) : (Rs.fr d).data n = some d := (Eq.trans rfl rfl)
@[simp] theorem data_ol (ds : List D) (n : En) : (Rs.ol ds).data n = some (.list ds) := (Eq.trans rfl rfl)
@[simp] theorem data_bo (i : Nat) (n : En) : (Rs.bo i).data n = boO n[i]? := (Eq.trans rfl rfl)
def op2 (g : D → D → Option Rs) (d e : Option D) (n : En) : Option (Oc Rs) := match d, e with
  | some d, some e => finO (g d e) n
  | _, _ => none
@[simp] theorem op2_some (g : D → D → Option Rs) (d e : D) (n : En) : op2 g (some d) (some e) n = finO (g d e) n := (Eq.trans rfl rfl)
def op1 (g : D → Option Rs) (d : Option D) (n : En) : Option (Oc Rs) := match d with
  | some d => finO (g d) n
  | _ => none
@[simp] theorem op1_some (g : D → Option Rs) (d : D) (n : En) : op1 g (some d) n = finO (g d) n := (Eq.trans rfl rfl)
def bO (d : Option D) (n : En) : Option (Oc Bool) := match d with
  | some (.bool b) => some (.ok b n)
  | _ => none
@[simp] theorem bO_bool (b : Bool) (n : En) : bO (some (.bool b)) n = some (.ok b n) := (Eq.trans rfl rfl)
def tO (d : Option D) (n : En) : Option (Oc Bool) := match d with
  | some d => (truD d).map fun b => .ok b n
  | _ => none
@[simp] theorem tO_some (d : D) (n : En) : tO (some d) n = (truD d).map fun b => .ok b n := (Eq.trans rfl rfl)
def callO (g : List D → Option Rs) (ds : Option (List D)) (n : En) : Option (Oc Rs) := match ds with
  | some ds => finO (g ds) n
  | _ => none
@[simp] theorem callO_some (g : List D → Option Rs) (ds : List D) (n : En) : callO g (some ds) n = finO (g ds) n := (Eq.trans rfl rfl)
def consO (d : Option D) (ds : Option (List D)) : Option (List D) := match d, ds with
  | some d, some ds => some (d :: ds)
  | _, _ => none
@[simp] theorem consO_some (d : D) (ds : List D) : consO (some d) (some ds) = some (d :: ds) := (Eq.trans rfl rfl)
@[simp] theorem rsData_nil (n : En) : rsData [] n = some [] := (Eq.trans rfl rfl)
@[simp] theorem rsData_cons (r : Rs) (rs : List Rs) (n : En) : rsData (r :: rs) n = consO (r.data n) (rsData rs n) := (Eq.trans rfl rfl)
def frzO (o : Option Sl) (i : Nat) (n : En) : Option (D × En) := match o with
  | some (.fr d) => some (d, n)
  | some (.ol ds) => some (.list ds, n.set i (.fr (.list ds)))
  | _ => none
@[simp] theorem frzO_fr (d : D) (i : Nat) (n : En) : frzO (some (.fr d)) i n = some (d, n) := (Eq.trans rfl rfl)
@[simp] theorem frzO_ol (ds : List D) (i : Nat) (n : En) : frzO (some (.ol ds)) i n = some (.list ds, n.set i (.fr (.list ds))) := (Eq.trans rfl rfl)
@[simp] theorem frz1_fr (d : D) (n : En) : frz1 (.fr d) n = some (d, n) := (Eq.trans rfl rfl)
@[simp] theorem frz1_ol (ds : List D) (n : En) : frz1 (.ol ds) n = some (.list ds, n) := (Eq.trans rfl rfl)
@[simp] theorem frz1_bo (i : Nat) (n : En) : frz1 (.bo i) n = frzO n[i]? i n := (Eq.trans rfl rfl)
def frzC (o : Option (D × En)) (rs : List Rs) : Option (List D × En) := match o with
  | some (d, n) => match frzAll rs n with
    | some (ds, n2) => some (d :: ds, n2)
    | none => none
  | none => none
def frzC2 (d : D) (o : Option (List D × En)) : Option (List D × En) := match o with
  | some (ds, n2) => some (d :: ds, n2)
  | none => none
@[simp] theorem frzC_some (d : D) (n : En) (rs : List Rs) : frzC (some (d, n)) rs = frzC2 d (frzAll rs n) := (Eq.trans rfl rfl)
@[simp] theorem frzC2_some (d : D) (ds : List D) (n : En) : frzC2 d (some (ds, n)) = some (d :: ds, n) := (Eq.trans rfl rfl)
@[simp] theorem frzAll_nil (n : En) : frzAll [] n = some ([], n) := (Eq.trans rfl rfl)
@[simp] theorem frzAll_cons (r : Rs) (rs : List Rs) (n : En) : frzAll (r :: rs) n = frzC (frz1 r n) rs := (Eq.trans rfl rfl)
def retO (r : Ret) (l : Bool) (n n' : En) : Option (Oc Rs) := match r with
  | .ok r => some (.ok r (if loose r then n else n'))
  | .ex c => some (.ex c n)
def fnO2 (o : Option Ret) (n n' : En) : Option (Oc Rs) := match o with
  | some (.ok r) => some (.ok r (if loose r then n else n'))
  | some (.ex c) => some (.ex c n)
  | none => none
@[simp] theorem fnO2_ok (r : Rs) (n n' : En) : fnO2 (some (.ok r)) n n' = some (.ok r (if loose r then n else n')) := (Eq.trans rfl rfl)
@[simp] theorem fnO2_ex (c : Str) (n n' : En) : fnO2 (some (.ex c)) n n' = some (.ex c n) := (Eq.trans rfl rfl)
def fnO (den : List D → Option Ret) (o : Option (List D × En)) (n : En) : Option (Oc Rs) := match o with
  | some (ds, n') => fnO2 (den ds) n n'
  | none => none
@[simp] theorem fnO_some (den : List D → Option Ret) (ds : List D) (n n' : En) : fnO den (some (ds, n')) n = fnO2 (den ds) n n' := (Eq.trans rfl rfl)
def tupO (o : Option (List D × En)) : Option (Oc Rs) := match o with
  | some (ds, n') => if ds.length ≤ sizeLine then some (.ok (.fr (.tuple ds)) n') else none
  | none => none
@[simp] theorem tupO_some (ds : List D) (n : En) : tupO (some (ds, n)) = if ds.length ≤ sizeLine then some (.ok (.fr (.tuple ds)) n) else none := (Eq.trans rfl rfl)
def lstO (o : Option (List D × En)) : Option (Oc Rs) := match o with
  | some (ds, n') => if ds.length ≤ sizeLine then some (.ok (.ol ds) n') else none
  | none => none
@[simp] theorem lstO_some (ds : List D) (n : En) : lstO (some (ds, n)) = if ds.length ≤ sizeLine then some (.ok (.ol ds) n) else none := (Eq.trans rfl rfl)
def cutO (d : Option D) (l h : Option Int) (n : En) : Option (Oc Rs) := match d with
  | some d => finO (dCut d l h) n
  | none => none
@[simp] theorem cutO_some (d : D) (l h : Option Int) (n : En) : cutO (some d) l h n = finO (dCut d l h) n := (Eq.trans rfl rfl)
def partO (d : Option D) (n : En) : Option (Oc (Option Int)) := match d with
  | some (.int i) => some (.ok (some i) n)
  | _ => none
@[simp] theorem partO_int (i : Int) (n : En) : partO (some (.int i)) n = some (.ok (some i) n) := (Eq.trans rfl rfl)
def itemsO (o : Option (D × En)) : Option (Oc (List D)) := match o with
  | some (d, n') => (itemsD d).map fun ds => .ok ds n'
  | none => none
@[simp] theorem itemsO_list (ds : List D) (n : En) : itemsO (some (.list ds, n)) = some (.ok ds n) := (Eq.trans rfl rfl)
@[simp] theorem itemsO_tuple (ds : List D) (n : En) : itemsO (some (.tuple ds, n)) = some (.ok ds n) := (Eq.trans rfl rfl)
@[simp] theorem itemsO_str (x : Str) (n : En) : itemsO (some (.str x, n)) = some (.ok (signs x) n) := (Eq.trans rfl rfl)
@[simp] theorem itemsO_scr (ds : List D) (n : En) : itemsO (some (.dict [(.none, .list ds)], n)) = some (.ok ds n) := (Eq.trans rfl rfl)
noncomputable def rg1O (o : Option (List D)) (n : En) : Option (Oc (List D)) := match o with
  | some [.int j] => if rgOk j then some (.ok (rangeD 0 j.toNat) n) else none
  | _ => none
theorem rg1O_some (j : Int) (n : En) : rg1O (some [.int j]) n = if rgOk j then some (.ok (rangeD 0 j.toNat) n) else none := rfl
noncomputable def rg2O (o : Option (List D)) (n : En) : Option (Oc (List D)) := match o with
  | some [.int i, .int j] => if rgOk i && rgOk j then some (.ok (rangeD i (j - i).toNat) n) else none
  | _ => none
theorem rg2O_some (i j : Int) (n : En) : rg2O (some [.int i, .int j]) n = if rgOk i && rgOk j then some (.ok (rangeD i (j - i).toNat) n) else none := rfl
def enumO (o : Option (List D × En)) : Option (Oc (List D)) := match o with
  | some ([.list ds], n') => some (.ok (enumD 0 ds) n')
  | some ([.dict [(.none, .list ds)]], n') => some (.ok (enumD 0 ds) n')
  | _ => none
@[simp] theorem enumO_list (ds : List D) (n : En) : enumO (some ([.list ds], n)) = some (.ok (enumD 0 ds) n) := (Eq.trans rfl rfl)
def zipO (o : Option (List D × En)) : Option (Oc (List D)) := match o with
  | some ([.list ds, .list es], n') => some (.ok (zipD ds es) n')
  | _ => none
@[simp] theorem zipO_list (ds es : List D) (n : En) : zipO (some ([.list ds, .list es], n)) = some (.ok (zipD ds es) n) := (Eq.trans rfl rfl)
def lcO (o : Option (List D × En)) (n : En) (vs : List Nat) : Option (Oc Rs) := match o with
  | some (out, n') => some (.ok (.ol out) (backN n n' vs))
  | none => none
@[simp] theorem lcO_some (out : List D) (n n' : En) (vs : List Nat) : lcO (some (out, n')) n vs = some (.ok (.ol out) (backN n n' vs)) := (Eq.trans rfl rfl)
def nxO (o : Option En) : Option (Oc Ctl) := o.map fun n => .ok .nx n
@[simp] theorem nxO_some (n : En) : nxO (some n) = some (.ok .nx n) := (Eq.trans rfl rfl)
def stO (g : D → En → Option En) (o : Option (D × En)) : Option (Oc Ctl) := match o with
  | some (d, n') => nxO (g d n')
  | none => none
@[simp] theorem stO_some (g : D → En → Option En) (d : D) (n : En) : stO g (some (d, n)) = nxO (g d n) := (Eq.trans rfl rfl)
def putO (i : Nat) (o : Option (D × En)) : Option En := match o with
  | some (d, n') => some (n'.set i (.fr d))
  | none => none
@[simp] theorem putO_some (i : Nat) (d : D) (n : En) : putO i (some (d, n)) = some (n.set i (.fr d)) := (Eq.trans rfl rfl)
@[simp] theorem putR_fr (i : Nat) (d : D) (n : En) : putR i (.fr d) n = some (n.set i (.fr d)) := (Eq.trans rfl rfl)
@[simp] theorem putR_ol (i : Nat) (ds : List D) (n : En) : putR i (.ol ds) n = some (n.set i (.ol ds)) := (Eq.trans rfl rfl)
@[simp] theorem putR_bo (i j : Nat) (n : En) : putR i (.bo j) n = putO i (frzO n[j]? j n) := (Eq.trans rfl rfl)
def rtO (r : Rs) (n : En) : Option (Oc Ctl) := match r with
  | .fr d => some (.ok (.rt (.fr d)) n)
  | .ol ds => some (.ok (.rt (.ol ds)) n)
  | .bo j => match n[j]? with
    | some (.ol ds) => some (.ok (.rt (.ol ds)) (n.set j .un))
    | some (.fr d) => some (.ok (.rt (.fr d)) n)
    | _ => none
def rtB (o : Option Sl) (j : Nat) (n : En) : Option (Oc Ctl) := match o with
  | some (.ol ds) => some (.ok (.rt (.ol ds)) (n.set j .un))
  | some (.fr d) => some (.ok (.rt (.fr d)) n)
  | _ => none
@[simp] theorem rtB_ol (ds : List D) (j : Nat) (n : En) : rtB (some (.ol ds)) j n = some (.ok (.rt (.ol ds)) (n.set j .un)) := (Eq.trans rfl rfl)
@[simp] theorem rtB_fr (d : D) (j : Nat) (n : En) : rtB (some (.fr d)) j n = some (.ok (.rt (.fr d)) n) := (Eq.trans rfl rfl)
@[simp] theorem rtO_fr (d : D) (n : En) : rtO (.fr d) n = some (.ok (.rt (.fr d)) n) := (Eq.trans rfl rfl)
@[simp] theorem rtO_ol (ds : List D) (n : En) : rtO (.ol ds) n = some (.ok (.rt (.ol ds)) n) := (Eq.trans rfl rfl)
@[simp] theorem rtO_bo (j : Nat) (n : En) : rtO (.bo j) n = rtB n[j]? j n := (Eq.trans rfl rfl)
def seqO (c : Ctl) (b : Mo Ctl) (n : En) : Option (Oc Ctl) := match c with
  | .nx => b n
  | c => some (.ok c n)
@[simp] theorem seqO_nx (b : Mo Ctl) (n : En) : seqO .nx b n = b n := (Eq.trans rfl rfl)
@[simp] theorem seqO_bk (b : Mo Ctl) (n : En) : seqO .bk b n = some (.ok .bk n) := (Eq.trans rfl rfl)
@[simp] theorem seqO_ct (b : Mo Ctl) (n : En) : seqO .ct b n = some (.ok .ct n) := (Eq.trans rfl rfl)
@[simp] theorem seqO_rt (r : Rs) (b : Mo Ctl) (n : En) : seqO (.rt r) b n = some (.ok (.rt r) n) := (Eq.trans rfl rfl)
def augO (f : Int → Int → Int) (i : Nat) (x y : Option D) (n : En) : Option (Oc Ctl) := match x, y with
  | some (.int x), some (.int y) => some (.ok .nx (n.set i (.fr (.int (f x y)))))
  | _, _ => none
@[simp] theorem augO_int (f : Int → Int → Int) (i : Nat) (x y : Int) (n : En) : augO f i (some (.int x)) (some (.int y)) n = some (.ok .nx (n.set i (.fr (.int (f x y))))) := (Eq.trans rfl rfl)
/-! ### the equations -/
section
variable (n : En)
@[simp] theorem eC_app (d : D) : eC d n = some (.ok (.fr d) n) := (Eq.trans rfl rfl)
@[simp] theorem eVar_app (i : Nat) : eVar i n = varO n[i]? i n := (Eq.trans rfl rfl)
@[simp] theorem eOp_app (g : D → D → Option Rs) (a b : Mo Rs) : eOp g a b n = andT (a n) fun r n1 => andT (b n1) fun q n2 => op2 g (r.data n2) (q.data n2) n2 := by
  unfold eOp
  rw [bind_app]
  congr 1
@[simp] theorem eUn_app (g : D → Option Rs) (a : Mo Rs) : eUn g a n = andT (a n) fun r n1 => op1 g (r.data n1) n1 := by
  unfold eUn
  rw [bind_app]
  congr 1
@[simp] theorem eIsi_app (T : BT) (a : Mo Rs) : eIsi T a n = andT (a n) fun r n1 => op1 (fun d => (isD T d).map fun b => .fr (.bool b)) (r.data n1) n1 := by
  unfold eIsi
  rw [eUn_app]
@[simp] theorem eT_app (a : Mo Rs) : eT a n = andT (a n) fun r n1 => bO (r.data n1) n1 := by
  unfold eT
  rw [bind_app]
  congr 1
@[simp] theorem eTr_app (a : Mo Rs) : eTr a n = andT (a n) fun r n1 => tO (r.data n1) n1 := by
  unfold eTr
  rw [bind_app]
  congr 1
@[simp] theorem bNot_app (a : Mo Bool) : bNot a n = andT (a n) fun b n1 => some (.ok (!b) n1) := by
  unfold bNot
  rw [bind_app]
  rfl
@[simp] theorem bAnd_app (a b : Mo Bool) : bAnd a b n = andT (a n) fun x n1 => if x = true then b n1 else some (.ok false n1) := by
  unfold bAnd
  rw [bind_app]
  congr 1
  funext x n1
  cases x <;> rfl
@[simp] theorem bOr_app (a b : Mo Bool) : bOr a b n = andT (a n) fun x n1 => if x = true then some (.ok true n1) else b n1 := by
  unfold bOr
  rw [bind_app]
  congr 1
  funext x n1
  cases x <;> rfl
@[simp] theorem eAnd_app (a b : Mo Rs) : eAnd a b n = andT (a n) fun r n1 => andT (bO (r.data n1) n1) fun x n2 => if x = true then b n2 else some (.ok (.fr (.bool false)) n2) := by
  unfold eAnd
  rw [bind_app, eT_app]
  cases a n with
  | none => rfl
  | some o =>
    cases o with
    | ex c n1 => rfl
    | ok r n1 =>
      show andT (bO (r.data n1) n1) _ = andT (bO (r.data n1) n1) _
      congr 1
      funext x n2
      cases x <;> rfl
@[simp] theorem eOr_app (a b : Mo Rs) : eOr a b n = andT (a n) fun r n1 => andT (bO (r.data n1) n1) fun x n2 => if x = true then some (.ok (.fr (.bool true)) n2) else b n2 := by
  unfold eOr
  rw [bind_app, eT_app]
  cases a n with
  | none => rfl
  | some o =>
    cases o with
    | ex c n1 => rfl
    | ok r n1 =>
      show andT (bO (r.data n1) n1) _ = andT (bO (r.data n1) n1) _
      congr 1
      funext x n2
      cases x <;> rfl
def notO (d : Option D) (n : En) : Option (Oc Rs) := match d with
  | some (.bool b) => some (.ok (.fr (.bool (!b))) n)
  | _ => none
@[simp] theorem notO_bool (b : Bool) (n : En) : notO (some (.bool b)) n = some (.ok (.fr (.bool (!b))) n) := (Eq.trans rfl rfl)
@[simp] theorem eNot_app (a : Mo Rs) : eNot a n = andT (a n) fun r n1 => notO (r.data n1) n1 := by
  unfold eNot
  rw [eUn_app]
  congr 1
  funext r n1
  cases r.data n1 with
  | none => rfl
  | some d => cases d <;> rfl
@[simp] theorem eIf_app (t : Mo Bool) (a b : Mo Rs) : eIf t a b n = andT (t n) fun x n1 => if x = true then a n1 else b n1 := by
  unfold eIf
  rw [bind_app]
  congr 1
  funext x n1
  cases x <;> rfl
def chO2 (g' : D → D → Option Rs) (z : Option Rs) (q : Rs) (c : Mo Rs) (n : En) : Option (Oc Rs) := match z with
  | some (.fr (.bool true)) => andT (c n) fun u n1 => op2 g' (q.data n1) (u.data n1) n1
  | some (.fr (.bool false)) => some (.ok (.fr (.bool false)) n)
  | _ => none
@[simp] theorem chO2_bool (g' : D → D → Option Rs) (b : Bool) (q : Rs) (c : Mo Rs) (n : En) : chO2 g' (some (.fr (.bool b))) q c n = if b = true then andT (c n) fun u n1 => op2 g' (q.data n1) (u.data n1) n1 else some (.ok (.fr (.bool false)) n) := by
  cases b <;> rfl
def chO (g g' : D → D → Option Rs) (d e : Option D) (q : Rs) (c : Mo Rs) (n : En) : Option (Oc Rs) := match d, e with
  | some d, some e => chO2 g' (g d e) q c n
  | _, _ => none
@[simp] theorem chO_some (g g' : D → D → Option Rs) (d e : D) (q : Rs) (c : Mo Rs) (n : En) : chO g g' (some d) (some e) q c n = chO2 g' (g d e) q c n := (Eq.trans rfl rfl)
@[simp] theorem eChain_app (g g' : D → D → Option Rs) (a b c : Mo Rs) : eChain g g' a b c n = andT (a n) fun r n1 => andT (b n1) fun q n2 => chO g g' (r.data n2) (q.data n2) q c n2 := by
  unfold eChain
  rw [bind_app]
  congr 1
@[simp] theorem aNil_app : aNil n = some (.ok [] n) := (Eq.trans rfl rfl)
@[simp] theorem aCons_app (a : Mo Rs) (as : Mo (List Rs)) : aCons a as n = andT (a n) fun r n1 => andT (as n1) fun rs n2 => some (.ok (r :: rs) n2) := by
  unfold aCons
  rw [bind_app]
  congr 1
@[simp] theorem eCall_app (g : List D → Option Rs) (av : Mo (List Rs)) : eCall g av n = andT (av n) fun rs n1 => callO g (rsData rs n1) n1 := by
  unfold eCall
  rw [bind_app]
  congr 1
@[simp] theorem eFn_app (den : List D → Option Ret) (av : Mo (List Rs)) : eFn den av n = andT (av n) fun rs n1 => fnO den (frzAll rs n1) n1 := by
  unfold eFn
  rw [bind_app]
  congr 1
@[simp] theorem eTup_app (av : Mo (List Rs)) : eTup av n = andT (av n) fun rs n1 => tupO (frzAll rs n1) := by
  unfold eTup
  rw [bind_app]
  congr 1
@[simp] theorem eLst_app (av : Mo (List Rs)) : eLst av n = andT (av n) fun rs n1 => lstO (frzAll rs n1) := by
  unfold eLst
  rw [bind_app]
  congr 1
@[simp] theorem oNo_app : oNo n = some (.ok none n) := (Eq.trans rfl rfl)
@[simp] theorem oSome_app (a : Mo Rs) : oSome a n = andT (a n) fun r n1 => partO (r.data n1) n1 := by
  unfold oSome
  rw [bind_app]
  congr 1
@[simp] theorem eCut_app (a : Mo Rs) (l h : Mo (Option Int)) : eCut a l h n = andT (a n) fun r n1 => andT (l n1) fun lo n2 => andT (h n2) fun hi n3 => cutO (r.data n3) lo hi n3 := by
  unfold eCut
  rw [bind_app]
  congr 1
  funext r n1
  rw [bind_app]
  congr 1
  funext lo n2
  rw [bind_app]
  congr 1
  funext hi n3
  cases r.data n3 <;> rfl
@[simp] theorem iSeq_app (a : Mo Rs) : iSeq a n = andT (a n) fun r n1 => itemsO (frz1 r n1) := by
  unfold iSeq
  rw [bind_app]
  congr 1
@[simp] theorem iRange1_app (av : Mo (List Rs)) : iRange1 av n = andT (av n) fun rs n1 => rg1O (rsData rs n1) n1 := by
  unfold iRange1
  rw [bind_app]
  congr 1
@[simp] theorem iRange2_app (av : Mo (List Rs)) : iRange2 av n = andT (av n) fun rs n1 => rg2O (rsData rs n1) n1 := by
  unfold iRange2
  rw [bind_app]
  congr 1
@[simp] theorem iEnumL_app (av : Mo (List Rs)) : iEnumL av n = andT (av n) fun rs n1 => enumO (frzAll rs n1) := by
  unfold iEnumL
  rw [bind_app]
  congr 1
@[simp] theorem iZipL_app (av : Mo (List Rs)) : iZipL av n = andT (av n) fun rs n1 => zipO (frzAll rs n1) := by
  unfold iZipL
  rw [bind_app]
  congr 1
@[simp] theorem eLc_app (vs : List Nat) (iv : Mo (List D)) (g : D → En → Option En) (bt : Mo Bool) (ee : Mo Rs) : eLc vs iv g bt ee n = andT (iv n) fun ds n1 => if notOwn n1 vs = true then lcO (lcL vs g bt ee ds (wipeN n1 vs) []) n1 vs else none := by
  unfold eLc
  rw [bind_app]
  congr 1
@[simp] theorem eLc2_app (vs vs1 : List Nat) (iv : Mo (List D)) (g : D → En → Option En) (bt : Mo Bool) (iv1 : Mo (List D)) (g1 : D → En → Option En) (bt1 : Mo Bool) (ee : Mo Rs) :
    eLc2 vs vs1 iv g bt iv1 g1 bt1 ee n = andT (iv n) fun ds n1 => if notOwn n1 vs = true then lcO (lcL2 vs vs1 g bt iv1 g1 bt1 ee ds (wipeN n1 vs) []) n1 vs else none := by
  unfold eLc2
  rw [bind_app]
  congr 1
@[simp] theorem sNx_app : sNx n = some (.ok .nx n) := (Eq.trans rfl rfl)
@[simp] theorem sBk_app : sBk n = some (.ok .bk n) := (Eq.trans rfl rfl)
@[simp] theorem sCt_app : sCt n = some (.ok .ct n) := (Eq.trans rfl rfl)
@[simp] theorem sRetN_app : sRetN n = some (.ok (.rt (.fr .none)) n) := (Eq.trans rfl rfl)
@[simp] theorem sSeq_app (a b : Mo Ctl) : sSeq a b n = andT (a n) fun c n1 => seqO c b n1 := by
  unfold sSeq
  rw [bind_app]
  congr 1
  funext c n1
  cases c <;> rfl
@[simp] theorem sSet_app (i : Nat) (a : Mo Rs) : sSet i a n = andT (a n) fun r n1 => nxO (putR i r n1) := by
  unfold sSet
  rw [bind_app]
  congr 1
@[simp] theorem sTup_app (g : D → En → Option En) (a : Mo Rs) : sTup g a n = andT (a n) fun r n1 => stO g (frz1 r n1) := by
  unfold sTup
  rw [bind_app]
  congr 1
theorem sAug_app (i : Nat) (f : Int → Int → Int) (a : Mo Rs) {x : Int} (hx : n[i]? = some (.fr (.int x))) : sAug i f a n = andT (a n) fun r n1 => augO f i (some (.int x)) (r.data n1) n1 := by
  unfold sAug
  rw [hx]
  show Mo.bind a _ n = _
  rw [bind_app]
  congr 1
  funext r n1
  cases r.data n1 with
  | none => rfl
  | some d => cases d <;> rfl
@[simp] theorem sRet_app (a : Mo Rs) : sRet a n = andT (a n) fun r n1 => rtO r n1 := by
  unfold sRet
  rw [bind_app]
  congr 1
@[simp] theorem sIf_app (t : Mo Bool) (a b : Mo Ctl) : sIf t a b n = andT (t n) fun x n1 => if x = true then a n1 else b n1 := by
  unfold sIf
  rw [bind_app]
  congr 1
  funext x n1
  cases x <;> rfl
@[simp] theorem sExpr_app (a : Mo Rs) : sExpr a n = andT (a n) fun r n1 => some (.ok .nx n1) := by
  unfold sExpr
  rw [bind_app]
  rfl
@[simp] theorem sFor_app (iv : Mo (List D)) (g : D → En → Option En) (body : Mo Ctl) : sFor iv g body n = andT (iv n) fun ds n1 => forL g body ds n1 := by
  unfold sFor
  rw [bind_app]
def appO2 (o : Option Sl) (j : Nat) (d : D) (n : En) : Option (Oc Rs) := match o with
  | some (.ol ds) => if ds.length < sizeLine then some (.ok (.fr .none) (n.set j (.ol (ds ++ [d])))) else none
  | _ => none
@[simp] theorem appO2_ol (ds : List D) (j : Nat) (d : D) (n : En) : appO2 (some (.ol ds)) j d n = if ds.length < sizeLine then some (.ok (.fr .none) (n.set j (.ol (ds ++ [d])))) else none := (Eq.trans rfl rfl)
def appO (j : Nat) (o : Option (D × En)) : Option (Oc Rs) := match o with
  | some (d, n) => appO2 n[j]? j d n
  | none => none
@[simp] theorem appO_some (j : Nat) (d : D) (n : En) : appO j (some (d, n)) = appO2 n[j]? j d n := (Eq.trans rfl rfl)
def ownO {β : Type} (o : Option Sl) (x : Option (Oc β)) : Option (Oc β) := match o with
  | some (.ol _) => x
  | _ => none
@[simp] theorem ownO_ol {β : Type} (ds : List D) (x : Option (Oc β)) : ownO (some (.ol ds)) x = x := (Eq.trans rfl rfl)
@[simp] theorem eApp_app (j : Nat) (a : Mo Rs) : eApp j a n = ownO n[j]? (andT (a n) fun r n1 => appO j (frz1 r n1)) := by
  unfold eApp
  cases n[j]? with
  | none => rfl
  | some x =>
    cases x with
    | ol ds =>
      show Mo.bind a _ n = andT (a n) _
      rw [bind_app]
      congr 1
    | _ => rfl
def popO (o : Option Sl) (j : Nat) (n : En) : Option (Oc Rs) := match o with
  | some (.ol ds) => match ds[ds.length - 1]? with
    | some d => some (.ok (.fr d) (n.set j (.ol ds.dropLast)))
    | none => none
  | _ => none
@[simp] theorem ePop_app (j : Nat) : ePop j n = popO n[j]? j n := (Eq.trans rfl rfl)
def popA2 (o : Option D) (j m : Nat) (ds : List D) (n : En) : Option (Oc Rs) := match o with
  | some d => some (.ok (.fr d) (n.set j (.ol (ds.eraseIdx m))))
  | none => none
@[simp] theorem popA2_some (d : D) (j m : Nat) (ds : List D) (n : En) : popA2 (some d) j m ds n = some (.ok (.fr d) (n.set j (.ol (ds.eraseIdx m)))) := (Eq.trans rfl rfl)
def popA (d : Option D) (o : Option Sl) (j : Nat) (n : En) : Option (Oc Rs) := match d, o with
  | some (.int i), some (.ol ds) => match ixN ds.length i with
    | some m => if -(2 ^ 63) ≤ i ∧ i < 2 ^ 63 then popA2 ds[m]? j m ds n else none
    | none => none
  | _, _ => none
@[simp] theorem ePopAt_app (j : Nat) (a : Mo Rs) : ePopAt j a n = ownO n[j]? (andT (a n) fun r n1 => popA (r.data n1) n1[j]? j n1) := by
  unfold ePopAt
  cases n[j]? with
  | none => rfl
  | some x =>
    cases x with
    | ol ds =>
      show Mo.bind a _ n = andT (a n) _
      rw [bind_app]
      congr 1
    | _ => rfl
def storeO (d : D) (q : Option D) (o : Option Sl) (j : Nat) (n : En) : Option (Oc Ctl) := match q, o with
  | some (.int i), some (.ol ds) => match ixN ds.length i with
    | some m => some (.ok .nx (n.set j (.ol (ds.set m d))))
    | none => none
  | _, _ => none
def stoO (ei : Mo Rs) (j : Nat) (o : Option (D × En)) : Option (Oc Ctl) := match o with
  | some (d, n1) => ownO n1[j]? (andT (ei n1) fun q n2 => storeO d (q.data n2) n2[j]? j n2)
  | none => none
@[simp] theorem stoO_some (ei : Mo Rs) (j : Nat) (d : D) (n1 : En) : stoO ei j (some (d, n1)) = ownO n1[j]? (andT (ei n1) fun q n2 => storeO d (q.data n2) n2[j]? j n2) := (Eq.trans rfl rfl)
@[simp] theorem sStore_app (j : Nat) (ei a : Mo Rs) : sStore j ei a n = andT (a n) fun r n1 => stoO ei j (frz1 r n1) := by
  unfold sStore
  rw [bind_app]
  congr 1
end
/-! targets -/
@[simp] theorem gN_app (i : Nat) (d : D) (n : En) : gN i d n = some (n.set i (.fr d)) := (Eq.trans rfl rfl)
@[simp] theorem gT_app (k : Nat) (g : List D → En → Option En) (ds : List D) (n : En) : gT k g (.tuple ds) n = if ds.length = k then g ds n else none := (Eq.trans rfl rfl)
@[simp] theorem gs0_app (n : En) : gs0 [] n = some n := (Eq.trans rfl rfl)
@[simp] theorem gsC_app (g : D → En → Option En) (gs : List D → En → Option En) (d : D) (r : List D) (n : En) : gsC g gs (d :: r) n = (g d n).bind fun n1 => gs r n1 := (Eq.trans rfl rfl)
/-! loops -/
def turnO (o : Option (Oc Ctl)) (k : En → Option (Oc Ctl)) : Option (Oc Ctl) := match o with
  | some (.ok .nx n2) => k n2
  | some (.ok .ct n2) => k n2
  | some (.ok .bk n2) => some (.ok .nx n2)
  | some (.ok (.rt r) n2) => some (.ok (.rt r) n2)
  | some (.ex c n2) => some (.ex c n2)
  | none => none
@[simp] theorem turnO_nx (n : En) (k : En → Option (Oc Ctl)) : turnO (some (.ok .nx n)) k = k n := (Eq.trans rfl rfl)
@[simp] theorem turnO_ct (n : En) (k : En → Option (Oc Ctl)) : turnO (some (.ok .ct n)) k = k n := (Eq.trans rfl rfl)
@[simp] theorem turnO_bk (n : En) (k : En → Option (Oc Ctl)) : turnO (some (.ok .bk n)) k = some (.ok .nx n) := (Eq.trans rfl rfl)
@[simp] theorem turnO_rt (r : Rs) (n : En) (k : En → Option (Oc Ctl)) : turnO (some (.ok (.rt r) n)) k = some (.ok (.rt r) n) := (Eq.trans rfl rfl)
@[simp] theorem turnO_ex (c : Str) (n : En) (k : En → Option (Oc Ctl)) : turnO (some (.ex c n)) k = some (.ex c n) := (Eq.trans rfl rfl)
/-- one turn's run: the target, then the body -/
def turn (g : D → En → Option En) (body : Mo Ctl) (d : D) (n : En) : Option (Oc Ctl) := (g d n).bind body
@[simp] theorem forL_nil (g : D → En → Option En) (body : Mo Ctl) (n : En) : forL g body [] n = some (.ok .nx n) := (Eq.trans rfl rfl)
theorem forL_cons (g : D → En → Option En) (body : Mo Ctl) (d : D) (ds : List D) (n : En) : forL g body (d :: ds) n = turnO (turn g body d n) fun n2 => forL g body ds n2 := by
  unfold turn
  cases h1 : g d n with
  | none => simp only [forL, h1, Option.bind, turnO]
  | some n1 =>
    cases h2 : body n1 with
    | none => simp only [forL, h1, h2, Option.bind, turnO]
    | some o =>
      cases o with
      | ex c n2 => simp only [forL, h1, h2, Option.bind, turnO]
      | ok c n2 => cases c <;> simp only [forL, h1, h2, Option.bind, turnO]
/-- a loop by what holds between two turns: P tells of the items taken and of the slots -/
theorem forL_inv {g : D → En → Option En} {body : Mo Ctl} (P : List D → En → Prop) : ∀ (ds pre : List D) (n : En), P pre n →
    (∀ pre d post n, pre ++ d :: post = pre ++ d :: post → P pre n → d ∈ ds → ∃ n', (turn g body d n = some (.ok .nx n') ∨ turn g body d n = some (.ok .ct n')) ∧ P (pre ++ [d]) n') →
    ∃ n', forL g body ds n = some (.ok .nx n') ∧ P (pre ++ ds) n'
  | [], pre, n, h, _ => ⟨n, rfl, by rw [List.append_nil]; exact h⟩
  | d :: ds, pre, n, h, step => by
    obtain ⟨n1, h1, p1⟩ := step pre d ds n rfl h List.mem_cons_self
    obtain ⟨n2, h2, p2⟩ := forL_inv P ds (pre ++ [d]) n1 p1 fun pre' d' post' n' e hp hd => step pre' d' post' n' e hp (List.mem_cons_of_mem _ hd)
    refine ⟨n2, ?_, by rw [List.append_assoc] at p2; exact p2⟩
    rw [forL_cons]
    rcases h1 with h1 | h1 <;> rw [h1] <;> exact h2
/-- a loop over items that are told by a list of another kind -/
theorem forL_map {α : Type} {g : D → En → Option En} {body : Mo Ctl} (f : α → D) (P : List α → En → Prop) (xs : List α) (n : En) (h0 : P [] n)
    (step : ∀ pre x post n, xs = pre ++ x :: post → P pre n → ∃ n', (turn g body (f x) n = some (.ok .nx n') ∨ turn g body (f x) n = some (.ok .ct n')) ∧ P (pre ++ [x]) n') :
    ∃ n', forL g body (xs.map f) n = some (.ok .nx n') ∧ P xs n' := by
  have go : ∀ (ys pre : List α) (n : En), xs = pre ++ ys → P pre n → ∃ n', forL g body (ys.map f) n = some (.ok .nx n') ∧ P (pre ++ ys) n' := by
    intro ys
    induction ys with
    | nil => intro pre n _ h; exact ⟨n, rfl, by rw [List.append_nil]; exact h⟩
    | cons y ys ih =>
      intro pre n e h
      obtain ⟨n1, h1, p1⟩ := step pre y ys n e h
      obtain ⟨n2, h2, p2⟩ := ih (pre ++ [y]) n1 (by rw [e, List.append_assoc]; rfl) p1
      refine ⟨n2, ?_, by rw [List.append_assoc] at p2; exact p2⟩
      rw [List.map_cons, forL_cons]
      rcases h1 with h1 | h1 <;> rw [h1] <;> exact h2
  have := go xs [] n rfl h0
  simpa using this
/-- a loop that may leave by a return of r: s tells at which item -/
theorem forL_find {α : Type} {g : D → En → Option En} {body : Mo Ctl} (f : α → D) (P : En → Prop) (s : α → Bool) (r : Rs) : ∀ (xs : List α) (n : En), P n →
    (∀ x ∈ xs, ∀ n, P n → (s x = true → ∃ n', turn g body (f x) n = some (.ok (.rt r) n')) ∧ (s x = false → ∃ n', (turn g body (f x) n = some (.ok .nx n') ∨ turn g body (f x) n = some (.ok .ct n')) ∧ P n')) →
    ∃ n', forL g body (xs.map f) n = some (.ok (if xs.any s then .rt r else .nx) n') ∧ (xs.any s = false → P n')
  | [], n, h, _ => ⟨n, rfl, fun _ => h⟩
  | x :: xs, n, h, step => by
    obtain ⟨h1, h2⟩ := step x List.mem_cons_self n h
    rw [List.map_cons, forL_cons]
    cases e : s x with
    | true =>
      obtain ⟨n1, e1⟩ := h1 e
      refine ⟨n1, ?_, fun z => ?_⟩
      · rw [e1, List.any_cons, e]
        rfl
      · rw [List.any_cons, e] at z
        cases z
    | false =>
      obtain ⟨n1, e1, p1⟩ := h2 e
      obtain ⟨n2, e2, p2⟩ := forL_find f P s r xs n1 p1 fun y hy => step y (List.mem_cons_of_mem _ hy)
      refine ⟨n2, ?_, fun z => p2 (by rw [List.any_cons, e, Bool.false_or] at z; exact z)⟩
      rw [List.any_cons, e, Bool.false_or]
      rcases e1 with e1 | e1 <;> rw [e1] <;> exact e2
/-! comprehensions -/
/-- one turn: what is added, the slots behind it -/
def lcT (vs : List Nat) (g : D → En → Option En) (bt : Mo Bool) (ee : Mo Rs) (d : D) (n : En) : Option (Option D × En) := match g d n with
  | none => none
  | some n1 => match bt n1 with
    | some (.ok true n2) => match ee n2 with
      | some (.ok r n3) => match frz1 r n3 with
        | some (e, n4) => some (some e, wipeN n4 vs)
        | none => none
      | _ => none
    | some (.ok false n2) => some (none, wipeN n2 vs)
    | _ => none
def lcT3 (vs : List Nat) (o : Option (D × En)) : Option (Option D × En) := match o with
  | some (e, n4) => some (some e, wipeN n4 vs)
  | none => none
def lcT2 (vs : List Nat) (o : Option (Oc Rs)) : Option (Option D × En) := match o with
  | some (.ok r n3) => lcT3 vs (frz1 r n3)
  | _ => none
def lcT1 (vs : List Nat) (ee : Mo Rs) (o : Option (Oc Bool)) : Option (Option D × En) := match o with
  | some (.ok b n2) => if b = true then lcT2 vs (ee n2) else some (none, wipeN n2 vs)
  | _ => none
@[simp] theorem lcT3_some (vs : List Nat) (e : D) (n4 : En) : lcT3 vs (some (e, n4)) = some (some e, wipeN n4 vs) := (Eq.trans rfl rfl)
@[simp] theorem lcT2_some (vs : List Nat) (r : Rs) (n3 : En) : lcT2 vs (some (.ok r n3)) = lcT3 vs (frz1 r n3) := (Eq.trans rfl rfl)
@[simp] theorem lcT1_some (vs : List Nat) (ee : Mo Rs) (b : Bool) (n2 : En) : lcT1 vs ee (some (.ok b n2)) = if b = true then lcT2 vs (ee n2) else some (none, wipeN n2 vs) := (Eq.trans rfl rfl)
theorem lcT_app (vs : List Nat) (g : D → En → Option En) (bt : Mo Bool) (ee : Mo Rs) (d : D) (n : En) : lcT vs g bt ee d n = (g d n).bind fun n1 => lcT1 vs ee (bt n1) := by
  unfold lcT
  cases h1 : g d n with
  | none => rfl
  | some n1 =>
    simp only [Option.bind]
    cases h2 : bt n1 with
    | none => simp only [lcT1]
    | some o =>
      cases o with
      | ex c n2 => simp only [lcT1]
      | ok b n2 =>
        cases b with
        | false => simp [lcT1]
        | true =>
          cases h3 : ee n2 with
          | none => simp [lcT1, h3, lcT2]
          | some o =>
            cases o with
            | ex c n3 => simp [lcT1, h3, lcT2]
            | ok r n3 =>
              cases h4 : frz1 r n3 <;> simp [lcT1, h3, h4, lcT2, lcT3]
theorem lcL_cons (vs : List Nat) (g : D → En → Option En) (bt : Mo Bool) (ee : Mo Rs) (d : D) (ds : List D) (n : En) (acc : List D) : lcL vs g bt ee (d :: ds) n acc = match lcT vs g bt ee d n with
    | some (some e, n') => if acc.length < sizeLine then lcL vs g bt ee ds n' (acc ++ [e]) else none
    | some (none, n') => lcL vs g bt ee ds n' acc
    | none => none := by
  unfold lcT
  cases h1 : g d n with
  | none => simp only [lcL, h1]
  | some n1 =>
    cases h2 : bt n1 with
    | none => simp only [lcL, h1, h2]
    | some o =>
      cases o with
      | ex c n2 => simp only [lcL, h1, h2]
      | ok b n2 =>
        cases b with
        | false => simp only [lcL, h1, h2]
        | true =>
          cases h3 : ee n2 with
          | none => simp only [lcL, h1, h2, h3]
          | some o =>
            cases o with
            | ex c n3 => simp only [lcL, h1, h2, h3]
            | ok r n3 =>
              cases h4 : frz1 r n3 with
              | none => simp only [lcL, h1, h2, h3, h4]
              | some p => simp only [lcL, h1, h2, h3, h4]
/-- a comprehension whose turns leave the slots as they were -/
theorem lcL_map {α : Type} {vs : List Nat} {g : D → En → Option En} {bt : Mo Bool} {ee : Mo Rs} {n : En} (f : α → D) (out : α → Option D) : ∀ (xs : List α) (acc : List D), (∀ x ∈ xs, lcT vs g bt ee (f x) n = some (out x, n)) → acc.length + xs.length ≤ sizeLine →
    lcL vs g bt ee (xs.map f) n acc = some (acc ++ xs.filterMap out, n)
  | [], acc, _, _ => by
    rw [List.filterMap_nil, List.append_nil]
    rfl
  | x :: xs, acc, h, hl => by
    rw [List.map_cons, lcL_cons, h x List.mem_cons_self]
    rw [List.length_cons] at hl
    cases e : out x with
    | none =>
      rw [List.filterMap_cons_none e]
      exact lcL_map f out xs acc (fun y hy => h y (List.mem_cons_of_mem _ hy)) (by omega)
    | some d =>
      rw [List.filterMap_cons_some e]
      dsimp only
      rw [if_pos (by omega), lcL_map f out xs (acc ++ [d]) (fun y hy => h y (List.mem_cons_of_mem _ hy)) (by rw [List.length_append, List.length_singleton]; omega), List.append_assoc]
      rfl
/-- .. where every turn adds one -/
theorem lcL_all {α : Type} {vs : List Nat} {g : D → En → Option En} {bt : Mo Bool} {ee : Mo Rs} {n : En} (f out : α → D) (xs : List α) (h : ∀ x ∈ xs, lcT vs g bt ee (f x) n = some (some (out x), n)) (hl : xs.length ≤ sizeLine) :
    lcL vs g bt ee (xs.map f) n [] = some (xs.map out, n) := by
  rw [lcL_map f (fun x => some (out x)) xs [] h (by rw [List.length_nil]; omega), List.nil_append, List.filterMap_eq_map']
/-- .. where a turn adds the item itself or nothing -/
theorem lcL_filter {α : Type} {vs : List Nat} {g : D → En → Option En} {bt : Mo Bool} {ee : Mo Rs} {n : En} (f out : α → D) (p : α → Bool) (xs : List α) (h : ∀ x ∈ xs, lcT vs g bt ee (f x) n = some (if p x then some (out x) else none, n)) (hl : xs.length ≤ sizeLine) :
    lcL vs g bt ee (xs.map f) n [] = some ((xs.filter p).map out, n) := by
  rw [lcL_map f (fun x => if p x then some (out x) else none) xs [] h (by rw [List.length_nil]; omega), List.nil_append]
  congr 2
  induction xs with
  | nil => rfl
  | cons x xs ih =>
    have ih' := ih (fun y hy => h y (List.mem_cons_of_mem _ hy)) (by rw [List.length_cons] at hl; omega)
    cases e : p x with
    | true => rw [List.filterMap_cons_some (b := out x) (by rw [e]; rfl), List.filter_cons_of_pos e, List.map_cons, ih']
    | false => rw [List.filterMap_cons_none (by rw [e]; rfl), List.filter_cons_of_neg (by rw [e]; exact Bool.false_ne_true), ih']
/-! ### a def's end -/
theorem den_rt {N k : Nat} {sv : Mo Ctl} {ds : List D} {d : D} {n' : En} (hk : ds.length = k) (h : sv (ds.map .fr ++ List.replicate (N - k) .un) = some (.ok (.rt (.fr d)) n')) : denB N k sv ds = some (.ok (.fr d)) := by
  unfold denB
  rw [if_pos hk, h]
theorem den_ol {N k : Nat} {sv : Mo Ctl} {ds es : List D} {n' : En} (hk : ds.length = k) (h : sv (ds.map .fr ++ List.replicate (N - k) .un) = some (.ok (.rt (.ol es)) n')) : denB N k sv ds = some (.ok (.ol es)) := by
  unfold denB
  rw [if_pos hk, h]
end J

/-! J11: a loop over one's own list that stays one's own; more evaluation. -/
namespace J
open PySem PySem.Spec PyProof.Rows L2
section
variable {K : PySem.W.Frag} {B F0 F H : Hp} {σ : L2.St} {n : En}
theorem Rel.pinned {j : Nat} {ds : List D} (R : Rel K B F0 F H σ n) (hn : n[j]? = some (.ol ds)) :
    ∃ a vs, σ[j]? = some (some (.ref a)) ∧ H a = some (.lst vs) ∧ DqAll K F vs ds ∧ B a = none ∧ F a = none ∧ Rel K (upd B a (.lst vs)) F0 F H σ (n.set j (.pin a)) := by
  obtain ⟨a, vs, e1, e2, e3, e4, q⟩ := R.s j _ hn
  refine ⟨a, vs, e1, e2, q, e3, e4, by rw [List.length_set]; exact R.len, fun b x e => ?_, R.f, R.f0, fun b hb => ?_, fun i x e => ?_, fun i k ds' es' c h1 h2 h3 h4 => ?_⟩
  · by_cases hba : b = a
    · subst hba; rw [upd_same] at e; cases e; exact e2
    · rw [upd_ne hba] at e; exact R.b b x e
  · by_cases hba : b = a
    · subst hba; exact absurd e4 hb
    · rw [upd_ne hba]; exact R.g b hb
  · rcases set_get e with ⟨rfl, rfl, hl⟩ | ⟨hj, e⟩
    · exact e1
    · have r := R.s i x e
      cases x with
      | un => trivial
      | pin b => exact r
      | fr d => exact r
      | ol fs =>
        obtain ⟨b, us, e5, e6, e7, e8, q5⟩ := r
        refine ⟨b, us, e5, e6, ?_, e8, q5⟩
        rw [upd_ne (fun z => hj (R.d i j fs ds a e hn (by rw [e5, z]) e1))]
        exact e7
  · have g : ∀ (m : Nat) (xs : List D), (n.set j (.pin a))[m]? = some (.ol xs) → n[m]? = some (.ol xs) := fun m xs hm => by
      rcases set_get hm with ⟨_, z, _⟩ | ⟨_, hm⟩
      · cases z
      · exact hm
    exact R.d i k ds' es' c (g i ds' h1) (g k es' h2) h3 h4
theorem Rel.unpin {j : Nat} {a : Addr} {vs : List V} {ds : List D} (R : Rel K (upd B a (.lst vs)) F0 F H σ n) (hn : n[j]? = some (.pin a)) (hB : B a = none) (h0 : F0 a = none) (q : DqAll K F vs ds) : Rel K B F0 F H σ (n.set j (.ol ds)) := by
  have sB : Same B (upd B a (.lst vs)) := same_upd hB
  have hH : H a = some (.lst vs) := R.b a _ upd_same
  have hs : σ[j]? = some (some (.ref a)) := R.s j _ hn
  have hF : F a = none := by
    cases h : F a with
    | none => rfl
    | some o =>
      rcases R.g a (by rw [h]; exact fun z => nomatch z) with z | z
      · exact absurd h0 z
      · rw [upd_same] at z; cases z
  have other : ∀ (m : Nat) (xs : List D), m ≠ j → n[m]? = some (.ol xs) → σ[m]? ≠ some (some (.ref a)) := fun m xs hm h1 h2 => by
    obtain ⟨b, us, e5, e6, e7, e8, q5⟩ := R.s m _ h1
    rw [h2] at e5
    cases e5
    rw [upd_same] at e7
    cases e7
  refine ⟨by rw [List.length_set]; exact R.len, sB.trans R.b, R.f, R.f0, fun b hb => ?_, fun i x e => ?_, fun i k ds' es' c h1 h2 h3 h4 => ?_⟩
  · rcases R.g b hb with z | z
    · exact .inl z
    · exact .inr (sB.free z)
  · rcases set_get e with ⟨rfl, rfl, hl⟩ | ⟨hj, e⟩
    · exact ⟨a, vs, hs, hH, hB, hF, q⟩
    · have r := R.s i x e
      cases x with
      | un => trivial
      | pin b => exact r
      | fr d => exact r
      | ol fs =>
        obtain ⟨b, us, e5, e6, e7, e8, q5⟩ := r
        exact ⟨b, us, e5, e6, sB.free e7, e8, q5⟩
  · rcases set_get h1 with ⟨rfl, _, _⟩ | ⟨hi, h1'⟩
    · rw [hs] at h3
      cases h3
      rcases set_get h2 with ⟨rfl, _, _⟩ | ⟨hk, h2'⟩
      · rfl
      · exact absurd h4 (other k es' hk h2')
    · rcases set_get h2 with ⟨rfl, _, _⟩ | ⟨hk, h2'⟩
      · rw [hs] at h4
        cases h4
        exact absurd h3 (other i ds' hi h1')
      · exact R.d i k ds' es' c h1' h2' h3 h4
theorem RR.unpin {j : Nat} {a : Addr} {vs : List V} {ds : List D} {v : V} {r : Rs} (R : Rel K (upd B a (.lst vs)) F0 F H σ n) (hn : n[j]? = some (.pin a)) (hB : B a = none) (h : RR K (upd B a (.lst vs)) F H σ n v r) : RR K B F H σ (n.set j (.ol ds)) v r := by
  cases r with
  | fr d => exact h
  | bo i => exact h
  | ol es =>
    obtain ⟨b, ws, rfl, e1, e2, e3, q, ho⟩ := h
    refine ⟨b, ws, rfl, e1, (same_upd hB).free e2, e3, q, fun i fs hi hs => ?_⟩
    rcases set_get hi with ⟨rfl, _, _⟩ | ⟨_, hi⟩
    · have := R.s _ _ hn
      rw [show σ[i]? = some (some (.ref a)) from this] at hs
      cases hs
      rw [upd_same] at e2
      cases e2
    · exact ho i fs hi hs
end
/-- a loop over the list of one's own in slot j, which the body leaves alone -/
def forO (j : Nat) (g : D → En → Option En) (body : Mo Ctl) (ds : List D) (n : En) (c : Ctl) (nf : En) : Prop := ∀ a, forL g body ds (n.set j (.pin a)) = some (.ok c (nf.set j (.pin a)))
open Classical in
noncomputable def sForO (j : Nat) (g : D → En → Option En) (body : Mo Ctl) : Mo Ctl := fun n => match n[j]? with
  | some (.ol ds) => if h : ∃ p : Ctl × En, forO j g body ds n p.1 p.2 ∧ j < p.2.length then some (.ok (Classical.choose h).1 ((Classical.choose h).2.set j (.ol ds))) else none
  | _ => none
theorem set_twice {j : Nat} {x y : Sl} {n : En} : (n.set j x).set j y = n.set j y := List.set_set ..
theorem sForO_of {j : Nat} {g : D → En → Option En} {body : Mo Ctl} {ds : List D} {n nf : En} {c : Ctl} (hn : n[j]? = some (.ol ds)) (h : forO j g body ds n c nf) (hl : j < nf.length) : sForO j g body n = some (.ok c (nf.set j (.ol ds))) := by
  unfold sForO
  rw [hn]
  dsimp only
  have ex : ∃ p : Ctl × En, forO j g body ds n p.1 p.2 ∧ j < p.2.length := ⟨(c, nf), h, hl⟩
  rw [dif_pos ex]
  have sp := (Classical.choose_spec ex).1 0
  rw [h 0] at sp
  cases hp : Classical.choose ex with
  | mk c' n' =>
    rw [hp] at sp
    simp only [Option.some.injEq, Oc.ok.injEq] at sp
    rw [← sp.1]
    have e := congrArg (fun m : En => m.set j (.ol ds)) sp.2
    simp only [set_twice] at e
    rw [e]
section
variable {X : Cx} {W : WX}
theorem vs_forO (j : Nat) {tg it : Expr} {body : List Stmt} {sb : Mo Ctl} {ts : List Nat} {g : D → En → Option En} {pos : Pos} (ha : VE X W it (eVar j)) (hg : VG X tg ts g) (hb : VSs X W body sb) (hs : ∀ x, foldedSetIterable it X.env x = pure x := by intro _; rfl) :
    VS X W (.For tg it body [] pos) (sForO j g sb) := ⟨fun C => by
  obtain ⟨ta, pa, qa⟩ := ha.ex C
  obtain ⟨tg', pg, qg⟩ := hg.ex C.calm C.nd
  obtain ⟨tb, pb, qb⟩ := hb.ex C
  refine ⟨_, ps_for C.po C.calm (pi_list pa) pg pb hs, fun B F0 F H σ n Ds o R e k => ?_⟩
  unfold sForO at e
  split at e
  · rename_i ds hn
    split at e
    · rename_i hx
      obtain ⟨hf, hl⟩ := Classical.choose_spec hx
      generalize Classical.choose hx = p at e hf hl
      obtain ⟨c, nf⟩ := p
      cases e
      refine qa B F0 F H σ n _ (.ok (.bo j) n) R (by unfold eVar; rw [hn]) fun v F1 H1 R1 s1 rr => ?_
      obtain ⟨a, vs, e1, e2, qv, e3, e4, R2⟩ := R1.pinned hn
      have rr' : σ[j]? = some (some v) := rr
      rw [e1] at rr'
      cases rr'
      have h0 : F0 a = none := R1.f0.free e4
      refine ⟨a, rfl, ⟨vs, SqL.of e2⟩, ?_⟩
      refine ⟨fun i m σ H => i ≤ ds.length ∧ m = ds.length - i ∧ ∃ n F2, Rel X.K (upd B a (.lst vs)) F0 F2 H σ n ∧ Same F1 F2 ∧ forL g sb (ds.drop i) n = some (.ok c (nf.set j (.pin a))), ⟨ds.length, Nat.zero_le _, rfl, _, F1, R2, .refl F1, hf a⟩, ?_⟩
      have hnf : (nf.set j (.pin a))[j]? = some (.pin a) := List.getElem?_set_self hl
      rintro i m σ2 H2 ⟨hi, rfl, n2, F2, R2, s2, e2⟩
      have hseq : SqL X.K H2 a vs := SqL.of (R2.b a _ upd_same)
      have fin : ∀ {c' : Ctl} {F6 H6 σ6}, Rel X.K (upd B a (.lst vs)) F0 F6 H6 σ6 (nf.set j (.pin a)) → Same F1 F6 → Rel X.K B F0 F6 H6 σ6 (nf.set j (.ol ds)) := fun {c' F6 H6 σ6} R6 s6 => by
        have := R6.unpin hnf e3 h0 (qv.mono s6)
        rwa [set_twice] at this
      by_cases hlt : i < ds.length
      · right
        have hd : ds.drop i = ds[i] :: ds.drop (i + 1) := List.drop_eq_getElem_cons hlt
        rw [hd] at e2
        unfold forL at e2
        obtain ⟨v, hv, _⟩ := qv.get (List.getElem?_eq_getElem hlt)
        refine ⟨⟨vs, v, hseq, hv⟩, fun σ' H' => (i + 1 ≤ ds.length ∧ ∃ n F2, Rel X.K (upd B a (.lst vs)) F0 F2 H' σ' n ∧ Same F1 F2 ∧ forL g sb (ds.drop (i + 1)) n = some (.ok c (nf.set j (.pin a)))), fun σ' H' ⟨h1, h2⟩ => ⟨ds.length - (i + 1), by omega, h1, rfl, h2⟩, fun x H' y => ?_⟩
        obtain ⟨rfl, hy⟩ := y
        obtain ⟨d, hdi, q3⟩ := qv.getV (hy vs hseq)
        rw [List.getElem?_eq_getElem hlt] at hdi
        cases hdi
        split at e2
        · cases e2
        · rename_i n3 hg3
          refine qg _ F0 F2 _ σ2 n2 _ n3 x _ R2 (q3.mono s2) hg3 fun σ4 R4 _ _ => ?_
          split at e2
          · rename_i n5 hb5
            exact qb _ F0 F2 _ σ4 n3 _ _ R4 hb5 fun σ6 F6 H6 R6 s6 => ⟨hlt, n5, F6, R6, s2.trans s6, e2⟩
          · rename_i n5 hb5
            exact qb _ F0 F2 _ σ4 n3 _ _ R4 hb5 fun σ6 F6 H6 R6 s6 => ⟨hlt, n5, F6, R6, s2.trans s6, e2⟩
          · rename_i n5 hb5
            simp only [Option.some.injEq, Oc.ok.injEq] at e2
            obtain ⟨rfl, rfl⟩ := e2
            exact qb _ F0 F2 _ σ4 n3 _ _ R4 hb5 fun σ6 F6 H6 R6 s6 => k σ6 F6 H6 (fin (c' := .nx) R6 (s2.trans s6)) (s1.trans (s2.trans s6))
          · rename_i r n5 hb5
            simp only [Option.some.injEq, Oc.ok.injEq] at e2
            obtain ⟨rfl, rfl⟩ := e2
            refine qb _ F0 F2 _ σ4 n3 _ _ R4 hb5 fun v σ6 F6 H6 R6 s6 rr => k v σ6 F6 H6 (fin (c' := .nx) R6 (s2.trans s6)) (s1.trans (s2.trans s6)) ?_
            have := rr.unpin (ds := ds) R6 hnf e3
            rwa [set_twice] at this
          · cases e2
          · cases e2
      · left
        have hi' : i = ds.length := by omega
        subst hi'
        rw [List.drop_length] at e2
        unfold forL at e2
        simp only [Option.some.injEq, Oc.ok.injEq] at e2
        obtain ⟨rfl, rfl⟩ := e2
        exact ⟨⟨vs, hseq, Nat.le_of_eq qv.length⟩, k σ2 F2 H2 (fin (c' := .nx) R2 s2) (s1.trans s2)⟩
    · cases e
  · cases e⟩
end
end J

/-! J12: what the operators answer on data of a known kind. -/
namespace J
open PySem PySem.Spec PyProof.Rows L2
@[simp] theorem dAdd_int (i j : Int) : dAdd (.int i) (.int j) = some (.fr (.int (i + j))) := (Eq.trans rfl rfl)
@[simp] theorem dSub_int (i j : Int) : dSub (.int i) (.int j) = some (.fr (.int (i - j))) := (Eq.trans rfl rfl)
theorem mulOk_left {i : Int} (j : Int) (h : -(2 ^ 64) < i ∧ i < 2 ^ 64) : mulOk i j = true := @decide_eq_true _ (Classical.propDecidable _) (.inl h)
theorem mulOk_right (i : Int) {j : Int} (h : -(2 ^ 64) < j ∧ j < 2 ^ 64) : mulOk i j = true := @decide_eq_true _ (Classical.propDecidable _) (.inr (.inl h))
theorem dMul_int {i j : Int} (h : mulOk i j = true) : dMul (.int i) (.int j) = some (.fr (.int (i * j))) := by
  show (if mulOk i j = true then fint (i * j) else none) = _
  rw [if_pos h]
  rfl
theorem divOk_small {j : Int} (h0 : 0 < j) (h1 : j < 1073741824) : divOk j = true := by
  unfold divOk
  have : j.natAbs < 1073741824 := by omega
  have h2 : j ≠ 0 := by omega
  simp only [this, h2, ne_eq, not_false_eq_true, decide_true, Bool.true_and, Bool.true_or]
theorem dFdiv_int {i j : Int} (h : divOk j = true) : dFdiv (.int i) (.int j) = some (.fr (.int (i.fdiv j))) := by
  show (if divOk j = true then fint (i.fdiv j) else none) = _
  rw [if_pos h]
  rfl
theorem dMod_int {i j : Int} (h : j ≠ 0) : dMod (.int i) (.int j) = some (.fr (.int (i.fmod j))) := by
  show (if j ≠ 0 then fint (i.fmod j) else none) = _
  rw [if_pos h]
  rfl
@[simp] theorem dPow_10_18 : dPow (.int 10) (.int 18) = some (.fr (.int 1000000000000000000)) := by
  show (if (0 : Int) ≤ 18 ∧ (18 : Int) ≤ 1000000 ∧ (10 : Int).natAbs < 2 ^ 64 then fint ((10 : Int) ^ (18 : Int).toNat) else none) = _
  rw [if_pos (by decide)]
  rfl
@[simp] theorem dNeg_int (i : Int) : dNeg (.int i) = some (.fr (.int (-i))) := (Eq.trans rfl rfl)
@[simp] theorem dLt_int (i j : Int) : dLt (.int i) (.int j) = some (.fr (.bool (decide (i < j)))) := (Eq.trans rfl rfl)
@[simp] theorem dLe_int (i j : Int) : dLe (.int i) (.int j) = some (.fr (.bool (decide (i ≤ j)))) := (Eq.trans rfl rfl)
@[simp] theorem dGt_int (i j : Int) : dGt (.int i) (.int j) = some (.fr (.bool (decide (j < i)))) := (Eq.trans rfl rfl)
@[simp] theorem dGe_int (i j : Int) : dGe (.int i) (.int j) = some (.fr (.bool (decide (j ≤ i)))) := (Eq.trans rfl rfl)
theorem dEq_of {d e : D} (h : SeqAt.shaped d = true) (h' : SeqAt.shaped e = true) : dEq d e = some (.fr (.bool (PyData.eqv d e))) := by
  unfold dEq
  rw [if_pos ⟨h, h'⟩]
  rfl
theorem dNe_of {d e : D} (h : SeqAt.shaped d = true) (h' : SeqAt.shaped e = true) : dNe d e = some (.fr (.bool (!PyData.eqv d e))) := by
  unfold dNe
  rw [if_pos ⟨h, h'⟩]
  rfl
theorem shaped_int (i : Int) : SeqAt.shaped (.int i) = true := rfl
theorem shaped_bool (i : Bool) : SeqAt.shaped (.bool i) = true := rfl
theorem shaped_none : SeqAt.shaped .none = true := rfl
@[simp] theorem eqv_int (i j : Int) : PyData.eqv (.int i) (.int j) = (i == j) := by simp only [PyData.eqv]
@[simp] theorem eqv_bool (i j : Bool) : PyData.eqv (.bool i) (.bool j) = (i == j) := by simp only [PyData.eqv]
@[simp] theorem dEq_int (i j : Int) : dEq (.int i) (.int j) = some (.fr (.bool (decide (i = j)))) := by
  rw [dEq_of (shaped_int i) (shaped_int j), eqv_int, Bool.beq_eq_decide_eq]
@[simp] theorem dNe_int (i j : Int) : dNe (.int i) (.int j) = some (.fr (.bool (!decide (i = j)))) := by
  rw [dNe_of (shaped_int i) (shaped_int j), eqv_int, Bool.beq_eq_decide_eq]
@[simp] theorem dEq_bool (i j : Bool) : dEq (.bool i) (.bool j) = some (.fr (.bool (decide (i = j)))) := by
  rw [dEq_of (shaped_bool i) (shaped_bool j), eqv_bool, Bool.beq_eq_decide_eq]
@[simp] theorem dNe_bool (i j : Bool) : dNe (.bool i) (.bool j) = some (.fr (.bool (!decide (i = j)))) := by
  rw [dNe_of (shaped_bool i) (shaped_bool j), eqv_bool, Bool.beq_eq_decide_eq]
theorem flat_ints : ∀ ns : List Int, (ns.map PyData.int).all flatD = true
  | [] => rfl
  | _ :: ns => by rw [List.map_cons, List.all_cons, flat_ints ns]; rfl
theorem any_ints (m : Int) : ∀ ns : List Int, ((ns.map PyData.int).any fun z => PyData.eqv z (.int m)) = decide (m ∈ ns)
  | [] => by simp
  | n :: ns => by
    rw [List.map_cons, List.any_cons, any_ints m ns, eqv_int]
    by_cases h : n = m
    · subst h; simp
    · have : ¬ m = n := fun z => h z.symm
      simp [h, this]
theorem dIn_ints (m : Int) (ns : List Int) : dIn (.int m) (.tuple (ns.map .int)) = some (decide (m ∈ ns)) := by
  show (if flatD (.int m) = true ∧ (ns.map PyData.int).all flatD = true then some ((ns.map PyData.int).any fun z => PyData.eqv z (.int m)) else none) = _
  rw [if_pos ⟨rfl, flat_ints ns⟩, any_ints]
theorem dIn_intsL (m : Int) (ns : List Int) : dIn (.int m) (.list (ns.map .int)) = some (decide (m ∈ ns)) := by
  show (if (flatD (.int m) = true ∧ (ns.map PyData.int).all flatD = true) ∨ _ then some ((ns.map PyData.int).any fun z => PyData.eqv z (.int m)) else none) = _
  rw [if_pos (.inl ⟨rfl, flat_ints ns⟩), any_ints]
@[simp] theorem dInR_ints (m : Int) (ns : List Int) : dInR (.int m) (.tuple (ns.map .int)) = some (.fr (.bool (decide (m ∈ ns)))) := by
  unfold dInR; rw [dIn_ints]; rfl
@[simp] theorem dNotIn_ints (m : Int) (ns : List Int) : dNotIn (.int m) (.tuple (ns.map .int)) = some (.fr (.bool (!decide (m ∈ ns)))) := by
  unfold dNotIn; rw [dIn_ints]; rfl
@[simp] theorem dInR_intsL (m : Int) (ns : List Int) : dInR (.int m) (.list (ns.map .int)) = some (.fr (.bool (decide (m ∈ ns)))) := by
  unfold dInR; rw [dIn_intsL]; rfl
@[simp] theorem dNotIn_intsL (m : Int) (ns : List Int) : dNotIn (.int m) (.list (ns.map .int)) = some (.fr (.bool (!decide (m ∈ ns)))) := by
  unfold dNotIn; rw [dIn_intsL]; rfl
/-! places -/
theorem atI_of {α : Type} {xs : List α} {i : Int} {x : α} (h0 : 0 ≤ i) (h : xs[i.toNat]? = some x) : atI xs i = some x := by
  obtain ⟨hl, _⟩ := List.getElem?_eq_some_iff.mp h
  unfold atI ixN
  rw [if_pos h0, if_pos (by omega)]
  exact h
theorem dIdx_list {ds : List D} {i : Int} {d : D} (h0 : 0 ≤ i) (h : ds[i.toNat]? = some d) : dIdx (.list ds) (.int i) = some (.fr d) := by
  show (atI ds i).map Rs.fr = _
  rw [atI_of h0 h]
  rfl
theorem dIdx_tup {ds : List D} {i : Int} {d : D} (h0 : 0 ≤ i) (h : ds[i.toNat]? = some d) : dIdx (.tuple ds) (.int i) = some (.fr d) := by
  show (atI ds i).map Rs.fr = _
  rw [atI_of h0 h]
  rfl
theorem dIdx_scr {ds : List D} {i : Int} {d : D} (h0 : 0 ≤ i) (h : ds[i.toNat]? = some d) : dIdx (.dict [(.none, .list ds)]) (.int i) = some (.fr d) := by
  show (atI ds i).map Rs.fr = _
  rw [atI_of h0 h]
  rfl
/-- the whole number at place i, 0 where there is none -/
def at0 (ns : List Int) (i : Int) : Int := ns.getD i.toNat 0
theorem at0_get {ns : List Int} {i : Int} (h0 : 0 ≤ i) (h1 : i < ns.length) : (ns.map PyData.int)[i.toNat]? = some (.int (at0 ns i)) := by
  have h2 : i.toNat < ns.length := by omega
  unfold at0
  rw [List.getElem?_map, List.getElem?_eq_getElem h2, List.getD_eq_getElem?_getD, List.getElem?_eq_getElem h2]
  rfl
theorem dIdx_at {ns : List Int} {i : Int} (h0 : 0 ≤ i) (h1 : i < ns.length) : dIdx (.list (ns.map .int)) (.int i) = some (.fr (.int (at0 ns i))) := dIdx_list h0 (at0_get h0 h1)
theorem dIdx_atS {ns : List Int} {i : Int} (h0 : 0 ≤ i) (h1 : i < ns.length) : dIdx (.dict [(.none, .list (ns.map .int))]) (.int i) = some (.fr (.int (at0 ns i))) := dIdx_scr h0 (at0_get h0 h1)
theorem dIdx_atT {ns : List Int} {i : Int} (h0 : 0 ≤ i) (h1 : i < ns.length) : dIdx (.tuple (ns.map .int)) (.int i) = some (.fr (.int (at0 ns i))) := dIdx_tup h0 (at0_get h0 h1)
@[simp] theorem dIdx_0 (d : D) (ds : List D) : dIdx (.tuple (d :: ds)) (.int 0) = some (.fr d) := dIdx_tup (Int.le_refl 0) rfl
@[simp] theorem dIdx_1 (d e : D) (ds : List D) : dIdx (.tuple (d :: e :: ds)) (.int 1) = some (.fr e) := dIdx_tup (by decide) rfl
@[simp] theorem dIdx_2 (d e f : D) (ds : List D) : dIdx (.tuple (d :: e :: f :: ds)) (.int 2) = some (.fr f) := dIdx_tup (by decide) rfl
/-! built-in functions -/
@[simp] theorem dLen_list (ds : List D) : dLen [.list ds] = some (.fr (.int ds.length)) := (Eq.trans rfl rfl)
@[simp] theorem dLen_tuple (ds : List D) : dLen [.tuple ds] = some (.fr (.int ds.length)) := (Eq.trans rfl rfl)
@[simp] theorem dLen_scr (ds : List D) : dLen [.dict [(.none, .list ds)]] = some (.fr (.int ds.length)) := (Eq.trans rfl rfl)
@[simp] theorem dInt_int (i : Int) : dInt [.int i] = some (.fr (.int i)) := (Eq.trans rfl rfl)
@[simp] theorem dTuple_list (ds : List D) : dTuple [.list ds] = some (.fr (.tuple ds)) := (Eq.trans rfl rfl)
@[simp] theorem dTuple_tuple (ds : List D) : dTuple [.tuple ds] = some (.fr (.tuple ds)) := (Eq.trans rfl rfl)
@[simp] theorem dList_list (ds : List D) : dList [.list ds] = some (.ol ds) := (Eq.trans rfl rfl)
@[simp] theorem dList_tuple (ds : List D) : dList [.tuple ds] = some (.ol ds) := (Eq.trans rfl rfl)
@[simp] theorem dAll_bools (bs : List Bool) : dAll [.list (bs.map .bool)] = some (.fr (.bool (bs.all id))) := by
  show ((asBools (bs.map PyData.bool)).bind fun bs => fbl (bs.all id)) = _
  rw [asBools_map]
  rfl
@[simp] theorem dAny_bools (bs : List Bool) : dAny [.list (bs.map .bool)] = some (.fr (.bool (bs.any id))) := by
  show ((asBools (bs.map PyData.bool)).bind fun bs => fbl (bs.any id)) = _
  rw [asBools_map]
  rfl
@[simp] theorem dSum_ints (ns : List Int) : dSum [.list (ns.map .int)] = some (.fr (.int ns.sum)) := by
  show ((asInts (ns.map PyData.int)).bind fun ns => fint ns.sum) = _
  rw [asInts_map]
  rfl
theorem dMax_ints {ns : List Int} (h : ns ≠ []) : dMax [.list (ns.map .int)] = some (.fr (.int (maxI ns))) := by
  show ((asInts (ns.map PyData.int)).bind fun ns => if ns = [] then none else fint (maxI ns)) = _
  rw [asInts_map]
  show (if ns = [] then none else fint (maxI ns)) = _
  rw [if_neg h]
  rfl
theorem dMin_ints {ns : List Int} (h : ns ≠ []) : dMin [.list (ns.map .int)] = some (.fr (.int (minI ns))) := by
  show ((asInts (ns.map PyData.int)).bind fun ns => if ns = [] then none else fint (minI ns)) = _
  rw [asInts_map]
  show (if ns = [] then none else fint (minI ns)) = _
  rw [if_neg h]
  rfl
@[simp] theorem dSorted_ints (ns : List Int) : dSorted [.list (ns.map .int)] = some (.ol ((sortI ns).map .int)) := by
  show (asInts (ns.map PyData.int)).map (fun ns => Rs.ol ((sortI ns).map .int)) = _
  rw [asInts_map]
  rfl
@[simp] theorem dSorted_tup (ds : List D) : dSorted [.tuple ds] = none := (Eq.trans rfl rfl)
@[simp] theorem dSortedT_ints (ns : List Int) : dSortedT [.tuple (ns.map .int)] = some (.ol ((sortI ns).map .int)) := by
  show (asInts (ns.map PyData.int)).map (fun ns => Rs.ol ((sortI ns).map .int)) = _
  rw [asInts_map]
  rfl
theorem dAddT {xs ys : List D} (h : xs.length + ys.length ≤ sizeLine) : dAdd (.tuple xs) (.tuple ys) = some (.fr (.tuple (xs ++ ys))) := by
  show (if xs.length + ys.length ≤ sizeLine then some (Rs.fr (.tuple (xs ++ ys))) else none) = _
  rw [if_pos h]
theorem dAddL {xs ys : List D} (h : xs.length + ys.length ≤ sizeLine) : dAdd (.list xs) (.list ys) = some (.ol (xs ++ ys)) := by
  show (if xs.length + ys.length ≤ sizeLine then some (Rs.ol (xs ++ ys)) else none) = _
  rw [if_pos h]
@[simp] theorem truD_bool (b : Bool) : truD (.bool b) = some b := (Eq.trans rfl rfl)
theorem size_le {n : Nat} (h : n ≤ 16777216) : n ≤ sizeLine := h
theorem size_lt {n : Nat} (h : n < 16777216) : n < sizeLine := h
@[simp high] theorem tupO_0 (n : En) : tupO (some ([], n)) = some (.ok (.fr (.tuple [])) n) := by
  first | rw [tupO_some] | rw [lstO_some]
  exact if_pos (size_le (show 0 ≤ 16777216 by decide))
@[simp high] theorem lstO_0 (n : En) : lstO (some ([], n)) = some (.ok (.ol []) n) := by
  first | rw [tupO_some] | rw [lstO_some]
  exact if_pos (size_le (show 0 ≤ 16777216 by decide))
@[simp high] theorem tupO_1 (a0 : D) (n : En) : tupO (some ([a0], n)) = some (.ok (.fr (.tuple [a0])) n) := by
  first | rw [tupO_some] | rw [lstO_some]
  exact if_pos (size_le (show 1 ≤ 16777216 by decide))
@[simp high] theorem lstO_1 (a0 : D) (n : En) : lstO (some ([a0], n)) = some (.ok (.ol [a0]) n) := by
  first | rw [tupO_some] | rw [lstO_some]
  exact if_pos (size_le (show 1 ≤ 16777216 by decide))
@[simp high] theorem tupO_2 (a0 a1 : D) (n : En) : tupO (some ([a0, a1], n)) = some (.ok (.fr (.tuple [a0, a1])) n) := by
  first | rw [tupO_some] | rw [lstO_some]
  exact if_pos (size_le (show 2 ≤ 16777216 by decide))
@[simp high] theorem lstO_2 (a0 a1 : D) (n : En) : lstO (some ([a0, a1], n)) = some (.ok (.ol [a0, a1]) n) := by
  first | rw [tupO_some] | rw [lstO_some]
  exact if_pos (size_le (show 2 ≤ 16777216 by decide))
@[simp high] theorem tupO_3 (a0 a1 a2 : D) (n : En) : tupO (some ([a0, a1, a2], n)) = some (.ok (.fr (.tuple [a0, a1, a2])) n) := by
  first | rw [tupO_some] | rw [lstO_some]
  exact if_pos (size_le (show 3 ≤ 16777216 by decide))
@[simp high] theorem lstO_3 (a0 a1 a2 : D) (n : En) : lstO (some ([a0, a1, a2], n)) = some (.ok (.ol [a0, a1, a2]) n) := by
  first | rw [tupO_some] | rw [lstO_some]
  exact if_pos (size_le (show 3 ≤ 16777216 by decide))
@[simp high] theorem tupO_4 (a0 a1 a2 a3 : D) (n : En) : tupO (some ([a0, a1, a2, a3], n)) = some (.ok (.fr (.tuple [a0, a1, a2, a3])) n) := by
  first | rw [tupO_some] | rw [lstO_some]
  exact if_pos (size_le (show 4 ≤ 16777216 by decide))
@[simp high] theorem lstO_4 (a0 a1 a2 a3 : D) (n : En) : lstO (some ([a0, a1, a2, a3], n)) = some (.ok (.ol [a0, a1, a2, a3]) n) := by
  first | rw [tupO_some] | rw [lstO_some]
  exact if_pos (size_le (show 4 ≤ 16777216 by decide))
@[simp high] theorem tupO_5 (a0 a1 a2 a3 a4 : D) (n : En) : tupO (some ([a0, a1, a2, a3, a4], n)) = some (.ok (.fr (.tuple [a0, a1, a2, a3, a4])) n) := by
  first | rw [tupO_some] | rw [lstO_some]
  exact if_pos (size_le (show 5 ≤ 16777216 by decide))
@[simp high] theorem lstO_5 (a0 a1 a2 a3 a4 : D) (n : En) : lstO (some ([a0, a1, a2, a3, a4], n)) = some (.ok (.ol [a0, a1, a2, a3, a4]) n) := by
  first | rw [tupO_some] | rw [lstO_some]
  exact if_pos (size_le (show 5 ≤ 16777216 by decide))
@[simp high] theorem tupO_6 (a0 a1 a2 a3 a4 a5 : D) (n : En) : tupO (some ([a0, a1, a2, a3, a4, a5], n)) = some (.ok (.fr (.tuple [a0, a1, a2, a3, a4, a5])) n) := by
  first | rw [tupO_some] | rw [lstO_some]
  exact if_pos (size_le (show 6 ≤ 16777216 by decide))
@[simp high] theorem lstO_6 (a0 a1 a2 a3 a4 a5 : D) (n : En) : lstO (some ([a0, a1, a2, a3, a4, a5], n)) = some (.ok (.ol [a0, a1, a2, a3, a4, a5]) n) := by
  first | rw [tupO_some] | rw [lstO_some]
  exact if_pos (size_le (show 6 ≤ 16777216 by decide))
@[simp high] theorem tupO_7 (a0 a1 a2 a3 a4 a5 a6 : D) (n : En) : tupO (some ([a0, a1, a2, a3, a4, a5, a6], n)) = some (.ok (.fr (.tuple [a0, a1, a2, a3, a4, a5, a6])) n) := by
  first | rw [tupO_some] | rw [lstO_some]
  exact if_pos (size_le (show 7 ≤ 16777216 by decide))
@[simp high] theorem lstO_7 (a0 a1 a2 a3 a4 a5 a6 : D) (n : En) : lstO (some ([a0, a1, a2, a3, a4, a5, a6], n)) = some (.ok (.ol [a0, a1, a2, a3, a4, a5, a6]) n) := by
  first | rw [tupO_some] | rw [lstO_some]
  exact if_pos (size_le (show 7 ≤ 16777216 by decide))
theorem rgOk_of {i : Int} (h0 : -4611686018427387904 ≤ i) (h1 : i < 4611686018427387904) : rgOk i = true := @decide_eq_true _ (Classical.propDecidable _) ⟨by omega, by omega⟩
theorem rg1O_ok {j : Int} (h : rgOk j = true) (n : En) : rg1O (some [.int j]) n = some (.ok (rangeD 0 j.toNat) n) := by
  rw [rg1O_some]
  exact if_pos h
theorem rg2O_ok {i j : Int} (h : rgOk i = true) (h' : rgOk j = true) (n : En) : rg2O (some [.int i, .int j]) n = some (.ok (rangeD i (j - i).toNat) n) := by
  rw [rg2O_some]
  exact if_pos (by rw [h, h']; rfl)
/-- the whole numbers lo, lo + 1, .. -/
def upI (lo : Int) (n : Nat) : List Int := (List.range n).map fun i => lo + (i : Nat)
theorem rangeD_up (lo : Int) (n : Nat) : rangeD lo n = (upI lo n).map .int := by
  unfold rangeD upI
  rw [List.map_map]
  rfl
theorem upI_len (lo : Int) (n : Nat) : (upI lo n).length = n := by unfold upI; rw [List.length_map, List.length_range]
theorem mem_upI {lo i : Int} {n : Nat} : i ∈ upI lo n ↔ lo ≤ i ∧ i < lo + n := by
  unfold upI
  rw [List.mem_map]
  constructor
  · rintro ⟨k, hk, rfl⟩
    rw [List.mem_range] at hk
    omega
  · rintro ⟨h0, h1⟩
    exact ⟨(i - lo).toNat, List.mem_range.mpr (by omega), by omega⟩
theorem upI_sorted (lo : Int) (n : Nat) : (upI lo n).Pairwise (· < ·) := by
  unfold upI
  rw [List.pairwise_map]
  exact List.pairwise_lt_range.imp fun h => by omega
/-! ### repr -/
mutual
/-- at most so many signs -/
def wide : D → Nat
  | .int _ => 24
  | .bool _ => 5
  | .none => 4
  | .list ds => 3 + wides ds
  | .tuple ds => 3 + wides ds
  | _ => 0
def wides : List D → Nat
  | [] => 0
  | d :: ds => wide d + 2 + wides ds
end
mutual
/-- numbers, truth values, None, lists and tuples of these -/
def tame : D → Bool
  | .int i => decide (i.natAbs < 10 ^ 20)
  | .bool _ => true
  | .none => true
  | .list ds => tames ds
  | .tuple ds => tames ds
  | _ => false
def tames : List D → Bool
  | [] => true
  | d :: ds => tame d && tames ds
end
end J

/-! J13: what repr answers is not too long; the boxes of data that repr takes. -/
namespace J
open PySem PySem.Spec PyProof.Rows L2
theorem textFrom_size : ∀ (ts : List Str) (k : Nat) (acc : Str), (textFrom k acc ts).length ≤ acc.length + piled ts
  | [], k, acc => Nat.le_add_right _ _
  | t :: r, k, acc => by
    have h := textFrom_size r (k + 1) (acc ++ (if k > 0 then ", " else "" : String) ++ t)
    have e : (acc ++ (if k > 0 then ", " else "" : String) ++ t).length ≤ acc.length + 2 + t.length := by
      rw [strLen_append, strLen_append]
      have : (((if k > 0 then ", " else "" : String) : Str)).length ≤ 2 := by split <;> decide
      omega
    rw [piled_cons]
    show (textFrom (k + 1) (acc ++ (if k > 0 then ", " else "" : String) ++ t) r).length ≤ _
    omega
theorem int_wide {i : Int} (h : i.natAbs < 10 ^ 20) : (toString i : String).length ≤ 21 := int_text_length_le10 (by decide) h
mutual
theorem shown_wide : ∀ d : D, tame d = true → d.shown.length ≤ wide d
  | .int i, h => by
    have h1 : i.natAbs < 10 ^ 20 := of_decide_eq_true h
    have h2 := int_wide h1
    show (Str.ofString (toString i)).length ≤ 24
    rw [PySem.ofString_length]
    omega
  | .bool b, _ => by cases b <;> decide
  | .none, _ => by decide
  | .list ds, h => by
    have := textFrom_size (PyData.shownAll ds) 0 "["
    have h2 := shownAll_wide ds h
    show (textFrom 0 "[" (PyData.shownAll ds) ++ "]").length ≤ 3 + wides ds
    rw [strLen_append]
    have e1 : (("[" : String) : Str).length = 1 := rfl
    have e2 : (("]" : String) : Str).length = 1 := rfl
    omega
  | .tuple ds, h => by
    have h2 := shownAll_wide ds h
    show (("(" : Str) ++ Str.join ", " (PyData.shownAll ds) ++ (if (PyData.shownAll ds).length == 1 then ",)" else ")" : String)).length ≤ 3 + wides ds
    rw [strLen_append, strLen_append]
    have e1 : (("(" : String) : Str).length = 1 := rfl
    have e2 : ((if (PyData.shownAll ds).length == 1 then ",)" else ")" : String) : Str).length ≤ 2 := by split <;> decide
    have e3 : (Str.join ", " (PyData.shownAll ds)).length ≤ piled (PyData.shownAll ds) := by
      by_cases h : PyData.shownAll ds = []
      · rw [h]; decide
      · have := join_length_add _ h
        omega
    omega
  | .str x, h => nomatch h
  | .dict x, h => nomatch h
theorem shownAll_wide : ∀ ds : List D, tames ds = true → piled (PyData.shownAll ds) ≤ wides ds
  | [], _ => Nat.zero_le _
  | d :: ds, h => by
    have h' : (tame d && tames ds) = true := h
    rw [Bool.and_eq_true] at h'
    have h1 := shown_wide d h'.1
    have h2 := shownAll_wide ds h'.2
    show piled (PyData.shown d :: PyData.shownAll ds) ≤ wide d + 2 + wides ds
    rw [piled_cons]
    omega
end
mutual
theorem tame_lay : ∀ d : D, tame d = true → d.canLay0 = true
  | .int i, h => rfl
  | .bool b, _ => rfl
  | .none, _ => rfl
  | .list ds, h => tames_lay ds h
  | .tuple ds, h => tames_lay ds h
  | .str x, h => nomatch h
  | .dict x, h => nomatch h
theorem tames_lay : ∀ ds : List D, tames ds = true → PyData.canLayAll0 ds = true
  | [], _ => rfl
  | d :: ds, h => by
    have h' : (tame d && tames ds) = true := h
    rw [Bool.and_eq_true] at h'
    show (PyData.canLay0 d && PyData.canLayAll0 ds) = true
    rw [tame_lay d h'.1, tames_lay ds h'.2]
    rfl
end
mutual
theorem tame_show : ∀ d : D, tame d = true → d.showable = true
  | .int i, h => by
    have h1 : i.natAbs < 10 ^ 20 := of_decide_eq_true h
    show decide (i.natAbs.log2 < 1920) = true
    refine decide_eq_true ?_
    by_cases h0 : i.natAbs = 0
    · rw [h0]; decide
    · rw [Nat.log2_lt h0]
      exact Nat.lt_of_lt_of_le h1 (Nat.le_trans (show 10 ^ 20 ≤ 2 ^ 67 by decide) (Nat.pow_le_pow_right (by decide) (by decide)))
  | .bool b, _ => rfl
  | .none, _ => rfl
  | .list ds, h => tames_show ds h
  | .tuple ds, h => tames_show ds h
  | .str x, h => nomatch h
  | .dict x, h => nomatch h
theorem tames_show : ∀ ds : List D, tames ds = true → PyData.showableAll ds = true
  | [], _ => rfl
  | d :: ds, h => by
    have h' : (tame d && tames ds) = true := h
    rw [Bool.and_eq_true] at h'
    show (PyData.showable d && PyData.showableAll ds) = true
    rw [tame_show d h'.1, tames_show ds h'.2]
    rfl
end
theorem reprOk_of {d : D} (h : tame d = true) (hd : d.depth ≤ 60) (hw : wide d ≤ 16777216) : reprOk d = true := by
  unfold reprOk
  have h1 : d.shown.length ≤ sizeLine := Nat.le_trans (shown_wide d h) hw
  rw [tame_lay d h, tame_show d h, decide_eq_true hd, decide_eq_true h1]
  rfl
theorem shaped_of {d : D} (h : tame d = true) (hd : d.depth ≤ 64) : SeqAt.shaped d = true := by
  unfold SeqAt.shaped
  rw [tame_lay d h, decide_eq_true hd]
  rfl
theorem dRepr_tup {ds : List D} (h : reprOk (.tuple ds) = true) : dRepr [.tuple ds] = some (.fr (.str (PyData.shown (.tuple ds)))) := by
  show (if reprOk (.tuple ds) = true then some (Rs.fr (.str (PyData.shown (.tuple ds)))) else none) = _
  rw [if_pos h]
theorem dRepr_list {ds : List D} (h : reprOk (.list ds) = true) : dRepr [.list ds] = some (.fr (.str (PyData.shown (.list ds)))) := by
  show (if reprOk (.list ds) = true then some (Rs.fr (.str (PyData.shown (.list ds)))) else none) = _
  rw [if_pos h]
/-! lists of one kind -/
theorem tames_all : ∀ {ds : List D}, (∀ d ∈ ds, tame d = true) → tames ds = true
  | [], _ => rfl
  | d :: ds, h => by
    show (tame d && tames ds) = true
    rw [h d List.mem_cons_self, tames_all fun e he => h e (List.mem_cons_of_mem _ he)]
    rfl
theorem wides_all {k : Nat} : ∀ {ds : List D}, (∀ d ∈ ds, wide d ≤ k) → wides ds ≤ (k + 2) * ds.length
  | [], _ => Nat.zero_le _
  | d :: ds, h => by
    have h1 := h d List.mem_cons_self
    have h2 := wides_all (k := k) (ds := ds) fun e he => h e (List.mem_cons_of_mem _ he)
    show wide d + 2 + wides ds ≤ (k + 2) * (ds.length + 1)
    rw [Nat.mul_add]
    omega
theorem depthAll_le {k : Nat} : ∀ {ds : List D}, (∀ d ∈ ds, d.depth ≤ k) → PyData.depthAll ds ≤ k
  | [], _ => Nat.zero_le _
  | d :: ds, h => by
    show max (PyData.depth d) (PyData.depthAll ds) ≤ k
    exact Nat.max_le.mpr ⟨h d List.mem_cons_self, depthAll_le fun e he => h e (List.mem_cons_of_mem _ he)⟩
/-- a bounding box of data: depth and width -/
structure Box (d : D) (dp wd : Nat) : Prop where
  t : tame d = true
  dp : d.depth ≤ dp
  w : wide d ≤ wd
theorem box_int {i : Int} (h : i.natAbs < 10 ^ 20) : Box (.int i) 0 24 := ⟨decide_eq_true h, Nat.le_refl _, Nat.le_refl _⟩
theorem box_bool (b : Bool) : Box (.bool b) 0 5 := ⟨rfl, Nat.le_refl _, Nat.le_refl _⟩
theorem box_none : Box .none 0 4 := ⟨rfl, Nat.le_refl _, Nat.le_refl _⟩
theorem box_list {ds : List D} {dp wd : Nat} (h : ∀ d ∈ ds, Box d dp wd) : Box (.list ds) (dp + 1) (3 + (wd + 2) * ds.length) :=
  ⟨tames_all fun d hd => (h d hd).t, Nat.succ_le_succ (depthAll_le fun d hd => (h d hd).dp), Nat.add_le_add_left (wides_all fun d hd => (h d hd).w) 3⟩
theorem box_tuple {ds : List D} {dp wd : Nat} (h : ∀ d ∈ ds, Box d dp wd) : Box (.tuple ds) (dp + 1) (3 + (wd + 2) * ds.length) :=
  ⟨tames_all fun d hd => (h d hd).t, Nat.succ_le_succ (depthAll_le fun d hd => (h d hd).dp), Nat.add_le_add_left (wides_all fun d hd => (h d hd).w) 3⟩
theorem box_two {a b : D} {da db wa wb : Nat} (ha : Box a da wa) (hb : Box b db wb) : Box (.tuple [a, b]) (max da db + 1) (7 + wa + wb) := by
  refine ⟨?_, ?_, ?_⟩
  · show (tame a && (tame b && true)) = true
    rw [ha.t, hb.t]
    rfl
  · show max (PyData.depth a) (max (PyData.depth b) 0) + 1 ≤ _
    have h1 := ha.dp
    have h2 := hb.dp
    omega
  · show 3 + (wide a + 2 + (wide b + 2 + 0)) ≤ _
    have h1 := ha.w
    have h2 := hb.w
    omega
theorem Box.mono {d : D} {dp wd dp' wd' : Nat} (h : Box d dp wd) (h1 : dp ≤ dp') (h2 : wd ≤ wd') : Box d dp' wd' := ⟨h.t, Nat.le_trans h.dp h1, Nat.le_trans h.w h2⟩
theorem Box.repr {d : D} {dp wd : Nat} (h : Box d dp wd) (h1 : dp ≤ 60) (h2 : wd ≤ 16777216) : reprOk d = true := reprOk_of h.t (Nat.le_trans h.dp h1) (Nat.le_trans h.w h2)
theorem Box.shaped {d : D} {dp wd : Nat} (h : Box d dp wd) (h1 : dp ≤ 64) : SeqAt.shaped d = true := shaped_of h.t (Nat.le_trans h.dp h1)
end J

/-! J14: comprehensions of two clauses; data that the law's comparison takes. -/
namespace J
open PySem PySem.Spec PyProof.Rows L2
@[simp] theorem bYes_app (n : En) : bYes n = some (.ok true n) := (Eq.trans rfl rfl)
theorem lcL2_map {α : Type} {vs vs1 : List Nat} {g : D → En → Option En} {bt : Mo Bool} {iv1 : Mo (List D)} {g1 : D → En → Option En} {bt1 : Mo Bool} {ee : Mo Rs} {n : En} (f : α → D) (out : α → List D) (k cap : Nat) : ∀ (xs : List α) (acc : List D), (∀ x ∈ xs, (out x).length ≤ k) →
    (∀ x ∈ xs, ∀ acc : List D, acc.length + k ≤ cap → ∃ n1 n2 n3 ds1 n4, g (f x) n = some n1 ∧ bt n1 = some (.ok true n2) ∧ iv1 n2 = some (.ok ds1 n3) ∧ lcL vs1 g1 bt1 ee ds1 (wipeN n3 vs1) acc = some (acc ++ out x, n4) ∧ wipeN n4 vs = n) →
    acc.length + k * xs.length ≤ cap → lcL2 vs vs1 g bt iv1 g1 bt1 ee (xs.map f) n acc = some (acc ++ xs.flatMap out, n)
  | [], acc, _, _, _ => by
    rw [List.flatMap_nil, List.append_nil]
    rfl
  | x :: xs, acc, hk, h, hl => by
    rw [List.length_cons, Nat.mul_add, Nat.mul_one] at hl
    obtain ⟨n1, n2, n3, ds1, n4, e1, e2, e3, e4, e5⟩ := h x List.mem_cons_self acc (by omega)
    have hx := hk x List.mem_cons_self
    rw [List.map_cons]
    simp only [lcL2, e1, e2, e3, e4, e5]
    rw [lcL2_map f out k cap xs (acc ++ out x) (fun y hy => hk y (List.mem_cons_of_mem _ hy)) (fun y hy => h y (List.mem_cons_of_mem _ hy)) (by rw [List.length_append]; omega), List.flatMap_cons, List.append_assoc]
mutual
/-- numbers, truth values, None, not too long lists and tuples of these -/
def sm : D → Bool
  | .int _ => true
  | .bool _ => true
  | .none => true
  | .list ds => decide (ds.length ≤ 1000000) && sms ds
  | .tuple ds => decide (ds.length ≤ 1000000) && sms ds
  | _ => false
def sms : List D → Bool
  | [] => true
  | d :: ds => sm d && sms ds
end
theorem sms_at : ∀ {ds : List D} {k : Nat} {d : D}, sms ds = true → ds[k]? = some d → sm d = true ∧ d.depth ≤ PyData.depthAll ds
  | [], _, _, _, h => by cases h
  | e :: ds, 0, d, h, hk => by
    cases hk
    have h' : (sm e && sms ds) = true := h
    rw [Bool.and_eq_true] at h'
    exact ⟨h'.1, Nat.le_max_left _ _⟩
  | e :: ds, k + 1, d, h, hk => by
    have h' : (sm e && sms ds) = true := h
    rw [Bool.and_eq_true] at h'
    obtain ⟨h1, h2⟩ := sms_at (k := k) h'.2 (by rw [List.getElem?_cons_succ] at hk; exact hk)
    exact ⟨h1, Nat.le_trans h2 (Nat.le_max_right _ _)⟩
theorem sms_all : ∀ {ds : List D}, (∀ d ∈ ds, sm d = true) → sms ds = true
  | [], _ => rfl
  | d :: ds, h => by
    show (sm d && sms ds) = true
    rw [h d List.mem_cons_self, sms_all fun e he => h e (List.mem_cons_of_mem _ he)]
    rfl
end J

/-! J15: a shown text may be compared. -/
namespace J
open PySem PySem.Spec PyProof.Rows L2
theorem ok_ofString (s : String) : PyData.strOk (Str.ofString s) = true := by
  rw [Str.ofString_eq_toList]
  unfold PyData.strOk
  rw [← Array.all_toList, List.all_eq_true]
  intro x hx
  obtain ⟨c, _, rfl⟩ := List.mem_map.mp hx
  refine decide_eq_true ?_
  have h := c.valid
  show c.val.toNat < 1114112
  rcases h with h | h
  · have : c.val.toNat < 55296 := h
    omega
  · have : c.val.toNat < 1114112 := h.2
    omega
theorem ok_append {x y : Str} (hx : PyData.strOk x = true) (hy : PyData.strOk y = true) : PyData.strOk (x ++ y) = true := by
  unfold PyData.strOk at hx hy ⊢
  rw [Str.cps_append, Array.all_append, hx, hy]
  rfl
theorem textFrom_ok : ∀ (ts : List Str) (k : Nat) (acc : Str), PyData.strOk acc = true → (∀ t ∈ ts, PyData.strOk t = true) → PyData.strOk (textFrom k acc ts) = true
  | [], _, _, h, _ => h
  | t :: r, k, acc, h, ht => textFrom_ok r (k + 1) _ (ok_append (ok_append h (ok_ofString _)) (ht t List.mem_cons_self)) fun u hu => ht u (List.mem_cons_of_mem _ hu)
theorem join_ok {s : Str} (hs : PyData.strOk s = true) : ∀ (ts : List Str), (∀ t ∈ ts, PyData.strOk t = true) → PyData.strOk (Str.join s ts) = true
  | [], _ => by
    show PyData.strOk Str.empty = true
    unfold PyData.strOk
    rw [← Array.all_toList]
    rfl
  | [x], h => h x List.mem_cons_self
  | x :: y :: r, h => ok_append (ok_append (h x List.mem_cons_self) hs) (join_ok hs (y :: r) fun u hu => h u (List.mem_cons_of_mem _ hu))
mutual
theorem shown_ok : ∀ d : D, tame d = true → PyData.strOk d.shown = true
  | .int i, _ => ok_ofString _
  | .bool b, _ => by cases b <;> exact ok_ofString _
  | .none, _ => ok_ofString _
  | .list ds, h => ok_append (textFrom_ok _ 0 _ (ok_ofString _) (shownAll_ok ds h)) (ok_ofString _)
  | .tuple ds, h => ok_append (ok_append (ok_ofString _) (join_ok (ok_ofString _) _ (shownAll_ok ds h))) (ok_ofString _)
  | .str x, h => nomatch h
  | .dict x, h => nomatch h
theorem shownAll_ok : ∀ ds : List D, tames ds = true → ∀ t ∈ PyData.shownAll ds, PyData.strOk t = true
  | [], _, t, ht => nomatch ht
  | d :: ds, h, t, ht => by
    have h' : (tame d && tames ds) = true := h
    rw [Bool.and_eq_true] at h'
    rcases List.mem_cons.mp ht with rfl | ht
    · exact shown_ok d h'.1
    · exact shownAll_ok ds h'.2 t ht
end
theorem shaped_str {x : Str} (h : PyData.strOk x = true) : SeqAt.shaped (.str x) = true := by
  unfold SeqAt.shaped
  show (PyData.strOk x && decide (0 ≤ 64)) = true
  rw [h]
  rfl
theorem dNe_str {x y : Str} (hx : PyData.strOk x = true) (hy : PyData.strOk y = true) : dNe (.str x) (.str y) = some (.fr (.bool (!decide (x = y)))) := by
  rw [dNe_of (shaped_str hx) (shaped_str hy)]
  have : PyData.eqv (.str x) (.str y) = (x == y) := by simp only [PyData.eqv]
  rw [this, Bool.beq_eq_decide_eq]
theorem dEq_str {x y : Str} (hx : PyData.strOk x = true) (hy : PyData.strOk y = true) : dEq (.str x) (.str y) = some (.fr (.bool (decide (x = y)))) := by
  rw [dEq_of (shaped_str hx) (shaped_str hy)]
  have : PyData.eqv (.str x) (.str y) = (x == y) := by simp only [PyData.eqv]
  rw [this, Bool.beq_eq_decide_eq]
end J

namespace K67
open PySem PySem.Spec PyProof.Rows L2 J
set_option maxHeartbeats 4000000
/-! ### the text (printed by gen.py) -/
def topS (i : Nat) : Stmt := PySem.Challenge.pw_juriesagree_k67_earlier_cases_that_bind.main.body.getD i (.Pass ⟨0, 0, 0, 0⟩)
abbrev s_speaking : Stmt := topS 1
abbrev s_binds : Stmt := topS 2
abbrev s_clash : Stmt := topS 3
abbrev s_clashes : Stmt := topS 4
abbrev s_law_cell : Stmt := topS 6
abbrev s_law_numbers : Stmt := topS 7
abbrev s_law_same : Stmt := topS 8
abbrev s_law_marked : Stmt := topS 9
abbrev s_law_binds : Stmt := topS 10
abbrev s_law_clashes : Stmt := topS 11
abbrev s_law_all_marks : Stmt := topS 12
abbrev s_law : Stmt := topS 13
structure Txt (K : PySem.W.Frag) (mg : Str → Option Value) where
  f_speaking : Addr
  fd_speaking : FuncData
  F_speaking : Fun K "speaking" "speaking" s_speaking f_speaking fd_speaking
  g_speaking : mg "speaking" = some (.ref f_speaking)
  f_binds : Addr
  fd_binds : FuncData
  F_binds : Fun K "binds" "binds" s_binds f_binds fd_binds
  g_binds : mg "binds" = some (.ref f_binds)
  f_clash : Addr
  fd_clash : FuncData
  F_clash : Fun K "clash" "clash" s_clash f_clash fd_clash
  g_clash : mg "clash" = some (.ref f_clash)
  f_clashes : Addr
  fd_clashes : FuncData
  F_clashes : Fun K "clashes" "clashes" s_clashes f_clashes fd_clashes
  g_clashes : mg "clashes" = some (.ref f_clashes)
  f_law_cell : Addr
  fd_law_cell : FuncData
  F_law_cell : Fun K "_law_cell" "_law_cell" s_law_cell f_law_cell fd_law_cell
  g_law_cell : mg "_law_cell" = some (.ref f_law_cell)
  f_law_numbers : Addr
  fd_law_numbers : FuncData
  F_law_numbers : Fun K "_law_numbers" "_law_numbers" s_law_numbers f_law_numbers fd_law_numbers
  g_law_numbers : mg "_law_numbers" = some (.ref f_law_numbers)
  f_law_same : Addr
  fd_law_same : FuncData
  F_law_same : Fun K "_law_same" "_law_same" s_law_same f_law_same fd_law_same
  g_law_same : mg "_law_same" = some (.ref f_law_same)
  f_law_marked : Addr
  fd_law_marked : FuncData
  F_law_marked : Fun K "_law_marked" "_law_marked" s_law_marked f_law_marked fd_law_marked
  g_law_marked : mg "_law_marked" = some (.ref f_law_marked)
  f_law_binds : Addr
  fd_law_binds : FuncData
  F_law_binds : Fun K "_law_binds" "_law_binds" s_law_binds f_law_binds fd_law_binds
  g_law_binds : mg "_law_binds" = some (.ref f_law_binds)
  f_law_clashes : Addr
  fd_law_clashes : FuncData
  F_law_clashes : Fun K "_law_clashes" "_law_clashes" s_law_clashes f_law_clashes fd_law_clashes
  g_law_clashes : mg "_law_clashes" = some (.ref f_law_clashes)
  f_law_all_marks : Addr
  fd_law_all_marks : FuncData
  F_law_all_marks : Fun K "_law_all_marks" "_law_all_marks" s_law_all_marks f_law_all_marks fd_law_all_marks
  g_law_all_marks : mg "_law_all_marks" = some (.ref f_law_all_marks)
  f_law : Addr
  fd_law : FuncData
  F_law : Fun K "law" "law" s_law f_law fd_law
  g_law : mg "law" = some (.ref f_law)
  m_all : mg "all" = none
  m_bool : mg "bool" = none
  m_int : mg "int" = none
  m_isinstance : mg "isinstance" = none
  m_len : mg "len" = none
  m_list : mg "list" = none
  m_range : mg "range" = none
  m_repr : mg "repr" = none
  m_sorted : mg "sorted" = none
  m_str : mg "str" = none
  m_tuple : mg "tuple" = none
section
variable {P : Program} {w : World} {K : PySem.W.Frag} {mg : Str → Option Value} {base : Heap}
/-! speaking -/
theorem sc_speaking : FnScope ["sides", "marks", "answer", "mark"] ["sides", "marks", "answer"] (defScope s_speaking) := ⟨rfl, rfl, rfl, by decide +kernel, rfl, by decide +kernel, by decide +kernel⟩
theorem b_speaking (T : Txt K mg) : Binds K T.fd_speaking ["sides", "marks", "answer"] [] := T.F_speaking.binds (ps := ["sides", "marks", "answer"]) fun _ _ _ _ _ _ us hl => match us, hl with | [_, _, _], _ => rfl
noncomputable def v_speaking : Mo Ctl :=
    (sRet (eLc [3] (iSeq (eVar 1)) (gN 3) (eT (eOp dEq (eOp dIdx (eVar 0) (eVar 3)) (eVar 2))) (eVar 3)))
noncomputable def d_speaking : List D → Option Ret := denB 4 3 v_speaking
theorem len_speaking : ∀ ds o, d_speaking ds = some o → ds.length = 3 := fun ds o h => denB_len ds o h
theorem ok_speaking (T : Txt K mg) : FnOk P w K mg base (L2.CX P w) 1 T.f_speaking T.fd_speaking ["sides", "marks", "answer"] (jsp K mg 3 d_speaking) := by
  refine fn_j (k := 0) (sv := v_speaking) T.F_speaking sc_speaking rfl rfl (by decide) (fun cdv A outer s H E hr => ?_)
  exact (vss_one (vs_ret (ve_lc [("mark", 3)] (vi_seq (ve_var 1)) (blkOk_by (N := ["sides", "marks", "answer", "mark"]) (sc := (defScope s_speaking)) (by decide +kernel)) (fun _ _ _ _ _ => (vg_name 3)) (fun _ _ _ _ _ => (vts_one (vt_cmp od_eq (ve_ix (ve_var 0) (ve_var 3)) (ve_var 2) (nomark _)))) (fun _ _ _ _ _ => (ve_var 3)))))
/-! binds -/
theorem sc_binds : FnScope ["sides", "earlier", "marks", "known", "answer", "mark"] ["sides", "earlier", "marks"] (defScope s_binds) := ⟨rfl, rfl, rfl, by decide +kernel, rfl, by decide +kernel, by decide +kernel⟩
theorem b_binds (T : Txt K mg) : Binds K T.fd_binds ["sides", "earlier", "marks"] [] := T.F_binds.binds (ps := ["sides", "earlier", "marks"]) fun _ _ _ _ _ _ us hl => match us, hl with | [_, _, _], _ => rfl
noncomputable def v_binds : Mo Ctl :=
    (sSeq (sTup (gT 2 (gsC (gN 3) (gsC (gN 4) gs0))) (eVar 1))
    (sSeq (sIf (bNot (eTr (eCall dAll (aCons (eLc [5] (iSeq (eFn d_speaking (aCons (eVar 0) (aCons (eVar 3) (aCons (eVar 4) aNil))))) (gN 5) bYes (eOp dInR (eVar 5) (eVar 2))) aNil)))) (sRet (eC (.bool false))) sNx)
    (sRet (eCall dAll (aCons (eLc [5] (iSeq (eFn d_speaking (aCons (eVar 0) (aCons (eVar 2) (aCons (eOp dSub (eC (.int 1)) (eVar 4)) aNil))))) (gN 5) bYes (eOp dInR (eVar 5) (eVar 3))) aNil)))))
noncomputable def d_binds : List D → Option Ret := denB 6 3 v_binds
theorem len_binds : ∀ ds o, d_binds ds = some o → ds.length = 3 := fun ds o h => denB_len ds o h
theorem ok_binds (T : Txt K mg) : FnOk P w K mg base (L2.CX P w) 2 T.f_binds T.fd_binds ["sides", "earlier", "marks"] (jsp K mg 3 d_binds) := by
  refine fn_j (k := 1) (sv := v_binds) T.F_binds sc_binds rfl rfl (by decide) (fun cdv A outer s H E hr => ?_)
  exact (vss_cons (vs_tup (ve_var 1) (vg_tup (vgs_cons (vg_name 3) (vgs_cons (vg_name 4) vgs_nil))))
    (vss_cons (vs_if (vt_not (vt_truth (ve_callB cd_all T.m_all (by decide +kernel) (va_cons (ve_lc [("mark", 5)] (vi_seq (ve_fn (ok_speaking T) (len_speaking) (hr.mono (by decide)) T.g_speaking T.F_speaking.kp (b_speaking T) (va_cons (ve_var 0) (va_cons (ve_var 3) (va_cons (ve_var 4) va_nil))))) (blkOk_by (N := ["sides", "earlier", "marks", "known", "answer", "mark"]) (sc := (defScope s_binds)) (by decide +kernel)) (fun _ _ _ _ _ => (vg_name 5)) (fun _ _ _ _ _ => vts_nil) (fun _ _ _ _ _ => (ve_cmp od_in (ve_var 5) (ve_var 2) (by rfl)))) va_nil)))) (vss_one (vs_ret ve_bl)) vss_nil)
    (vss_one (vs_ret (ve_callB cd_all T.m_all (by decide +kernel) (va_cons (ve_lc [("mark", 5)] (vi_seq (ve_fn (ok_speaking T) (len_speaking) (hr.mono (by decide)) T.g_speaking T.F_speaking.kp (b_speaking T) (va_cons (ve_var 0) (va_cons (ve_var 2) (va_cons (ve_op od_sub ve_int (ve_var 4)) va_nil))))) (blkOk_by (N := ["sides", "earlier", "marks", "known", "answer", "mark"]) (sc := (defScope s_binds)) (by decide +kernel)) (fun _ _ _ _ _ => (vg_name 5)) (fun _ _ _ _ _ => vts_nil) (fun _ _ _ _ _ => (ve_cmp od_in (ve_var 5) (ve_var 3) (by rfl)))) va_nil))))))
/-! clash -/
theorem sc_clash : FnScope ["sides", "one", "other"] ["sides", "one", "other"] (defScope s_clash) := ⟨rfl, rfl, rfl, by decide +kernel, rfl, by decide +kernel, by decide +kernel⟩
theorem b_clash (T : Txt K mg) : Binds K T.fd_clash ["sides", "one", "other"] [] := T.F_clash.binds (ps := ["sides", "one", "other"]) fun _ _ _ _ _ _ us hl => match us, hl with | [_, _, _], _ => rfl
noncomputable def v_clash : Mo Ctl :=
    (sRet (eAnd (eOp dNe (eOp dIdx (eVar 1) (eC (.int 1))) (eOp dIdx (eVar 2) (eC (.int 1)))) (eFn d_binds (aCons (eVar 0) (aCons (eVar 1) (aCons (eOp dIdx (eVar 2) (eC (.int 0))) aNil))))))
noncomputable def d_clash : List D → Option Ret := denB 3 3 v_clash
theorem len_clash : ∀ ds o, d_clash ds = some o → ds.length = 3 := fun ds o h => denB_len ds o h
theorem ok_clash (T : Txt K mg) : FnOk P w K mg base (L2.CX P w) 3 T.f_clash T.fd_clash ["sides", "one", "other"] (jsp K mg 3 d_clash) := by
  refine fn_j (k := 2) (sv := v_clash) T.F_clash sc_clash rfl rfl (by decide) (fun cdv A outer s H E hr => ?_)
  exact (vss_one (vs_ret (ve_and (ve_cmp od_ne (ve_ix (ve_var 1) ve_int) (ve_ix (ve_var 2) ve_int) (nomark _)) (ve_one (ve_fn (ok_binds T) (len_binds) (hr.mono (by decide)) T.g_binds T.F_binds.kp (b_binds T) (va_cons (ve_var 0) (va_cons (ve_var 1) (va_cons (ve_ix (ve_var 2) ve_int) va_nil))))))))
/-! clashes -/
theorem sc_clashes : FnScope ["sides", "earlier", "count", "k", "j"] ["sides", "earlier"] (defScope s_clashes) := ⟨rfl, rfl, rfl, by decide +kernel, rfl, by decide +kernel, by decide +kernel⟩
theorem b_clashes (T : Txt K mg) : Binds K T.fd_clashes ["sides", "earlier"] [] := T.F_clashes.binds (ps := ["sides", "earlier"]) fun _ _ _ _ _ _ us hl => match us, hl with | [_, _], _ => rfl
noncomputable def v_clashes : Mo Ctl :=
    (sSeq (sSet 2 (eCall dLen (aCons (eVar 1) aNil)))
    (sRet (eLc2 [3, 4] [4] (iRange1 (aCons (eVar 2) aNil)) (gN 3) bYes (iRange2 (aCons (eOp dAdd (eVar 3) (eC (.int 1))) (aCons (eVar 2) aNil))) (gN 4) (eTr (eFn d_clash (aCons (eVar 0) (aCons (eOp dIdx (eVar 1) (eVar 3)) (aCons (eOp dIdx (eVar 1) (eVar 4)) aNil))))) (eTup (aCons (eVar 3) (aCons (eVar 4) aNil))))))
noncomputable def d_clashes : List D → Option Ret := denB 5 2 v_clashes
theorem len_clashes : ∀ ds o, d_clashes ds = some o → ds.length = 2 := fun ds o h => denB_len ds o h
theorem ok_clashes (T : Txt K mg) : FnOk P w K mg base (L2.CX P w) 4 T.f_clashes T.fd_clashes ["sides", "earlier"] (jsp K mg 2 d_clashes) := by
  refine fn_j (k := 3) (sv := v_clashes) T.F_clashes sc_clashes rfl rfl (by decide) (fun cdv A outer s H E hr => ?_)
  exact (vss_cons (vs_set 2 (ve_callB (fun _ => cd_len) T.m_len PySem.boot_len (va_cons (ve_var 1) va_nil)))
    (vss_one (vs_ret (ve_lc2 [("k", 3), ("j", 4)] [4] (vi_range1 T.m_range (va_cons (ve_var 2) va_nil)) (blkOk_by (N := ["sides", "earlier", "count", "k", "j"]) (sc := (defScope s_clashes)) (by decide +kernel)) (fun _ _ _ _ _ => (vg_name 3)) (fun _ _ _ _ _ => vts_nil) (fun _ _ _ _ _ => (vi_range2 T.m_range (va_cons (ve_op od_add (ve_var 3) ve_int) (va_cons (ve_var 2) va_nil)))) (fun _ _ _ _ _ => (vg_name 4)) (fun _ _ _ _ _ => (vts_one (vt_truth (ve_fn (ok_clash T) (len_clash) (hr.mono (by decide)) T.g_clash T.F_clash.kp (b_clash T) (va_cons (ve_var 0) (va_cons (ve_ix (ve_var 1) (ve_var 3)) (va_cons (ve_ix (ve_var 1) (ve_var 4)) va_nil))))))) (fun _ _ _ _ _ => (ve_tup (va_cons (ve_var 3) (va_cons (ve_var 4) va_nil))))))))
/-! _law_cell -/
theorem sc_law_cell : FnScope ["script", "k"] ["script", "k"] (defScope s_law_cell) := ⟨rfl, rfl, rfl, by decide +kernel, rfl, by decide +kernel, by decide +kernel⟩
theorem b_law_cell (T : Txt K mg) : Binds K T.fd_law_cell ["script", "k"] [] := T.F_law_cell.binds (ps := ["script", "k"]) fun _ _ _ _ _ _ us hl => match us, hl with | [_, _], _ => rfl
noncomputable def v_law_cell : Mo Ctl :=
    (sSeq (sIf (eT (eOp dLt (eVar 1) (eCall dLen (aCons (eVar 0) aNil)))) (sRet (eCall dInt (aCons (eOp dIdx (eVar 0) (eVar 1)) aNil))) sNx)
    (sRet (eC (.int 0))))
noncomputable def d_law_cell : List D → Option Ret := denB 2 2 v_law_cell
theorem len_law_cell : ∀ ds o, d_law_cell ds = some o → ds.length = 2 := fun ds o h => denB_len ds o h
theorem ok_law_cell (T : Txt K mg) : FnOk P w K mg base (L2.CX P w) 1 T.f_law_cell T.fd_law_cell ["script", "k"] (jsp K mg 2 d_law_cell) := by
  refine fn_j (k := 0) (sv := v_law_cell) T.F_law_cell sc_law_cell rfl rfl (by decide) (fun cdv A outer s H E hr => ?_)
  exact (vss_cons (vs_if (vt_cmp od_lt (ve_var 1) (ve_callB (fun _ => cd_len) T.m_len PySem.boot_len (va_cons (ve_var 0) va_nil)) (nomark _)) (vss_one (vs_ret (ve_callTy (fun _ => cd_int) T.m_int (by decide +kernel) (va_cons (ve_ix (ve_var 0) (ve_var 1)) va_nil)))) vss_nil)
    (vss_one (vs_ret ve_int)))
/-! _law_numbers -/
theorem sc_law_numbers : FnScope ["cell", "count", "limit", "found", "k", "mixed"] ["cell", "count", "limit"] (defScope s_law_numbers) := ⟨rfl, rfl, rfl, by decide +kernel, rfl, by decide +kernel, by decide +kernel⟩
theorem b_law_numbers (T : Txt K mg) : Binds K T.fd_law_numbers ["cell", "count", "limit"] [] := T.F_law_numbers.binds (ps := ["cell", "count", "limit"]) fun _ _ _ _ _ _ us hl => match us, hl with | [_, _, _], _ => rfl
noncomputable def v_law_numbers : Mo Ctl :=
    (sSeq (sSet 3 (eLst aNil))
    (sSeq (sIf (eT (eOp dGe (eVar 0) (eOp dPow (eC (.int 10)) (eC (.int 18))))) (sSeq (sFor (iRange1 (aCons (eVar 1) aNil)) (gN 4) (sSeq (sExpr (eApp 3 (eOp dMod (eCall dInt (aCons (eVar 0) aNil)) (eVar 2))))
        (sSet 0 (eOp dFdiv (eCall dInt (aCons (eVar 0) aNil)) (eVar 2)))))
      (sRet (eVar 3))) sNx)
    (sSeq (sFor (iRange1 (aCons (eVar 1) aNil)) (gN 4) (sSeq (sSet 5 (eOp dMod (eCall dInt (aCons (eOp dAdd (eOp dAdd (eOp dMul (eVar 0) (eC (.int 48271))) (eOp dMul (eVar 4) (eC (.int 69621)))) (eC (.int 7))) aNil)) (eC (.int 2147483647))))
      (sSeq (sSet 5 (eOp dMod (eCall dInt (aCons (eOp dAdd (eOp dAdd (eOp dAdd (eOp dMul (eVar 5) (eVar 5)) (eOp dMul (eVar 5) (eC (.int 40692)))) (eOp dMul (eVar 4) (eC (.int 16807)))) (eC (.int 11))) aNil)) (eC (.int 2147483399))))
      (sExpr (eApp 3 (eOp dMod (eCall dInt (aCons (eOp dFdiv (eVar 5) (eC (.int 32))) aNil)) (eVar 2)))))))
    (sRet (eVar 3)))))
noncomputable def d_law_numbers : List D → Option Ret := denB 6 3 v_law_numbers
theorem len_law_numbers : ∀ ds o, d_law_numbers ds = some o → ds.length = 3 := fun ds o h => denB_len ds o h
theorem ok_law_numbers (T : Txt K mg) : FnOk P w K mg base (L2.CX P w) 1 T.f_law_numbers T.fd_law_numbers ["cell", "count", "limit"] (jsp K mg 3 d_law_numbers) := by
  refine fn_j (k := 0) (sv := v_law_numbers) T.F_law_numbers sc_law_numbers rfl rfl (by decide) (fun cdv A outer s H E hr => ?_)
  exact (vss_cons (vs_set 3 (ve_lst va_nil))
    (vss_cons (vs_if (vt_cmp od_ge (ve_var 0) (ve_op od_pow ve_int ve_int) (nomark _)) (vss_cons (vs_for (vi_range1 T.m_range (va_cons (ve_var 1) va_nil)) (vg_name 4) (vss_cons (vs_expr (ve_app 3 (ve_op od_mod (ve_callTy (fun _ => cd_int) T.m_int (by decide +kernel) (va_cons (ve_var 0) va_nil)) (ve_var 2))))
        (vss_one (vs_set 0 (ve_op od_fdiv (ve_callTy (fun _ => cd_int) T.m_int (by decide +kernel) (va_cons (ve_var 0) va_nil)) (ve_var 2))))))
      (vss_one (vs_ret (ve_var 3)))) vss_nil)
    (vss_cons (vs_for (vi_range1 T.m_range (va_cons (ve_var 1) va_nil)) (vg_name 4) (vss_cons (vs_set 5 (ve_op od_mod (ve_callTy (fun _ => cd_int) T.m_int (by decide +kernel) (va_cons (ve_op od_add (ve_op od_add (ve_op od_mul (ve_var 0) ve_int) (ve_op od_mul (ve_var 4) ve_int)) ve_int) va_nil)) ve_int))
      (vss_cons (vs_set 5 (ve_op od_mod (ve_callTy (fun _ => cd_int) T.m_int (by decide +kernel) (va_cons (ve_op od_add (ve_op od_add (ve_op od_add (ve_op od_mul (ve_var 5) (ve_var 5)) (ve_op od_mul (ve_var 5) ve_int)) (ve_op od_mul (ve_var 4) ve_int)) ve_int) va_nil)) ve_int))
      (vss_one (vs_expr (ve_app 3 (ve_op od_mod (ve_callTy (fun _ => cd_int) T.m_int (by decide +kernel) (va_cons (ve_op od_fdiv (ve_var 5) ve_int) va_nil)) (ve_var 2))))))))
    (vss_one (vs_ret (ve_var 3))))))
/-! _law_same -/
theorem sc_law_same : FnScope ["told", "due", "k"] ["told", "due"] (defScope s_law_same) := ⟨rfl, rfl, rfl, by decide +kernel, rfl, by decide +kernel, by decide +kernel⟩
theorem b_law_same (T : Txt K mg) : Binds K T.fd_law_same ["told", "due"] [] := T.F_law_same.binds (ps := ["told", "due"]) fun _ _ _ _ _ _ us hl => match us, hl with | [_, _], _ => rfl
noncomputable def v_law_same (dr : List D → Option Ret) : Mo Ctl :=
    (sSeq (sIf (eTr (eIsi .list (eVar 1))) (sIf (bOr (bNot (eTr (eIsi .list (eVar 0)))) (eT (eOp dNe (eCall dLen (aCons (eVar 0) aNil)) (eCall dLen (aCons (eVar 1) aNil))))) (sRet (eC (.bool false))) sNx) (sIf (eTr (eIsi .tuple (eVar 1))) (sIf (bOr (bNot (eTr (eIsi .tuple (eVar 0)))) (eT (eOp dNe (eCall dLen (aCons (eVar 0) aNil)) (eCall dLen (aCons (eVar 1) aNil))))) (sRet (eC (.bool false))) sNx) (sIf (eT (eOp dIs (eVar 1) (eC .none))) (sRet (eOp dIs (eVar 0) (eC .none))) (sIf (eTr (eIsi .bool (eVar 1))) (sRet (eAnd (eIsi .bool (eVar 0)) (eOp dEq (eVar 0) (eVar 1)))) (sIf (eTr (eIsi .int (eVar 1))) (sRet (eAnd (eIsi .int (eVar 0)) (eAnd (eNot (eIsi .bool (eVar 0))) (eOp dEq (eVar 0) (eVar 1))))) (sRet (eAnd (eIsi .str (eVar 0)) (eOp dEq (eVar 0) (eVar 1)))))))))
    (sSeq (sFor (iRange1 (aCons (eCall dLen (aCons (eVar 1) aNil)) aNil)) (gN 2) (sIf (bNot (eTr (eFn dr (aCons (eOp dIdx (eVar 0) (eVar 2)) (aCons (eOp dIdx (eVar 1) (eVar 2)) aNil))))) (sRet (eC (.bool false))) sNx))
    (sRet (eC (.bool true)))))
noncomputable def d_law_same : Nat → List D → Option Ret
  | 0 => fun _ => none
  | m + 1 => denB 3 2 (v_law_same (d_law_same m))
theorem len_law_same : ∀ m ds o, d_law_same m ds = some o → ds.length = 2
  | 0, _, _, h => nomatch h
  | _ + 1, ds, o, h => denB_len ds o h
theorem ok_law_same (T : Txt K mg) : ∀ m : Nat, FnOk P w K mg base (L2.CX P w) (m + 1) T.f_law_same T.fd_law_same ["told", "due"] (jsp K mg 2 (d_law_same m))
  | 0 => fn_none rfl
  | m + 1 => by
    have Gr := ok_law_same T m
    have lr := len_law_same m
    refine fn_j (k := m + 1) (sv := v_law_same (d_law_same m)) T.F_law_same sc_law_same rfl rfl (by decide) (fun cdv A outer s H E hr => ?_)
    exact (vss_cons (vs_if (vt_truth (ve_isi .list T.m_isinstance T.m_list (by decide +kernel) (ve_var 1))) (vss_one (vs_if (VW.vt (vw_or (vt_not (vt_truth (ve_isi .list T.m_isinstance T.m_list (by decide +kernel) (ve_var 0)))) (vw_or1 (vt_cmp od_ne (ve_callB (fun _ => cd_len) T.m_len PySem.boot_len (va_cons (ve_var 0) va_nil)) (ve_callB (fun _ => cd_len) T.m_len PySem.boot_len (va_cons (ve_var 1) va_nil)) (nomark _))))) (vss_one (vs_ret ve_bl)) vss_nil)) (vss_one (vs_if (vt_truth (ve_isi .tuple T.m_isinstance T.m_tuple (by decide +kernel) (ve_var 1))) (vss_one (vs_if (VW.vt (vw_or (vt_not (vt_truth (ve_isi .tuple T.m_isinstance T.m_tuple (by decide +kernel) (ve_var 0)))) (vw_or1 (vt_cmp od_ne (ve_callB (fun _ => cd_len) T.m_len PySem.boot_len (va_cons (ve_var 0) va_nil)) (ve_callB (fun _ => cd_len) T.m_len PySem.boot_len (va_cons (ve_var 1) va_nil)) (nomark _))))) (vss_one (vs_ret ve_bl)) vss_nil)) (vss_one (vs_if (vt_cmp (fun _ => od_is) (ve_var 1) ve_non (nomark _)) (vss_one (vs_ret (ve_cmp (fun _ => od_is) (ve_var 0) ve_non (nomark _)))) (vss_one (vs_if (vt_truth (ve_isi .bool T.m_isinstance T.m_bool (by decide +kernel) (ve_var 1))) (vss_one (vs_ret (ve_and (ve_isi .bool T.m_isinstance T.m_bool (by decide +kernel) (ve_var 0)) (ve_one (ve_cmp od_eq (ve_var 0) (ve_var 1) (nomark _)))))) (vss_one (vs_if (vt_truth (ve_isi .int T.m_isinstance T.m_int (by decide +kernel) (ve_var 1))) (vss_one (vs_ret (ve_and (ve_isi .int T.m_isinstance T.m_int (by decide +kernel) (ve_var 0)) (ve_and (ve_not (ve_isi .bool T.m_isinstance T.m_bool (by decide +kernel) (ve_var 0))) (ve_one (ve_cmp od_eq (ve_var 0) (ve_var 1) (nomark _))))))) (vss_one (vs_ret (ve_and (ve_isi .str T.m_isinstance T.m_str (by decide +kernel) (ve_var 0)) (ve_one (ve_cmp od_eq (ve_var 0) (ve_var 1) (nomark _)))))))))))))))
    (vss_cons (vs_for (vi_range1 T.m_range (va_cons (ve_callB (fun _ => cd_len) T.m_len PySem.boot_len (va_cons (ve_var 1) va_nil)) va_nil)) (vg_name 2) (vss_one (vs_if (vt_not (vt_truth (ve_fn Gr (lr) (hr.mono (by omega)) T.g_law_same T.F_law_same.kp (b_law_same T) (va_cons (ve_ix (ve_var 0) (ve_var 2)) (va_cons (ve_ix (ve_var 1) (ve_var 2)) va_nil))))) (vss_one (vs_ret ve_bl)) vss_nil)))
    (vss_one (vs_ret ve_bl))))
/-! _law_marked -/
theorem sc_law_marked : FnScope ["script", "at", "draws", "count", "k", "sides", "earlier", "marks", "mark"] ["script", "at"] (defScope s_law_marked) := ⟨rfl, rfl, rfl, by decide +kernel, rfl, by decide +kernel, by decide +kernel⟩
theorem b_law_marked (T : Txt K mg) : Binds K T.fd_law_marked ["script", "at"] [] := T.F_law_marked.binds (ps := ["script", "at"]) fun _ _ _ _ _ _ us hl => match us, hl with | [_, _], _ => rfl
noncomputable def v_law_marked : Mo Ctl :=
    (sSeq (sSet 2 (eFn d_law_numbers (aCons (eFn d_law_cell (aCons (eVar 0) (aCons (eVar 1) aNil))) (aCons (eC (.int 60)) (aCons (eC (.int 5040)) aNil)))))
    (sSeq (sSet 3 (eOp dAdd (eC (.int 1)) (eOp dMod (eOp dIdx (eVar 2) (eC (.int 0))) (eC (.int 6)))))
    (sSeq (sSet 5 (eLc [4] (iRange1 (aCons (eVar 3) aNil)) (gN 4) bYes (eOp dMod (eOp dIdx (eVar 2) (eOp dAdd (eC (.int 2)) (eVar 4))) (eC (.int 2)))))
    (sSeq (sSet 6 (eLst aNil))
    (sSeq (sFor (iRange1 (aCons (eOp dMod (eOp dIdx (eVar 2) (eC (.int 1))) (eC (.int 7))) aNil)) (gN 4) (sSeq (sSet 7 (eCall dTuple (aCons (eLc [8] (iRange1 (aCons (eVar 3) aNil)) (gN 8) (eT (eOp dGt (eOp dMod (eOp dFdiv (eOp dIdx (eVar 2) (eOp dAdd (eC (.int 10)) (eVar 4))) (eOp dIdx (eLst (aCons (eC (.int 1)) (aCons (eC (.int 3)) (aCons (eC (.int 9)) (aCons (eC (.int 27)) (aCons (eC (.int 81)) (aCons (eC (.int 243)) aNil))))))) (eVar 8))) (eC (.int 3))) (eC (.int 0)))) (eVar 8)) aNil)))
      (sExpr (eApp 6 (eTup (aCons (eVar 7) (aCons (eOp dMod (eOp dIdx (eVar 2) (eOp dAdd (eC (.int 20)) (eVar 4))) (eC (.int 2))) aNil)))))))
    (sRet (eTup (aCons (eVar 5) (aCons (eVar 6) aNil)))))))))
noncomputable def d_law_marked : List D → Option Ret := denB 9 2 v_law_marked
theorem len_law_marked : ∀ ds o, d_law_marked ds = some o → ds.length = 2 := fun ds o h => denB_len ds o h
theorem ok_law_marked (T : Txt K mg) : FnOk P w K mg base (L2.CX P w) 2 T.f_law_marked T.fd_law_marked ["script", "at"] (jsp K mg 2 d_law_marked) := by
  refine fn_j (k := 1) (sv := v_law_marked) T.F_law_marked sc_law_marked rfl rfl (by decide) (fun cdv A outer s H E hr => ?_)
  exact (vss_cons (vs_set 2 (ve_fn (ok_law_numbers T) (len_law_numbers) (hr.mono (by decide)) T.g_law_numbers T.F_law_numbers.kp (b_law_numbers T) (va_cons (ve_fn (ok_law_cell T) (len_law_cell) (hr.mono (by decide)) T.g_law_cell T.F_law_cell.kp (b_law_cell T) (va_cons (ve_var 0) (va_cons (ve_var 1) va_nil))) (va_cons ve_int (va_cons ve_int va_nil)))))
    (vss_cons (vs_set 3 (ve_op od_add ve_int (ve_op od_mod (ve_ix (ve_var 2) ve_int) ve_int)))
    (vss_cons (vs_setLc 5 [("k", 4)] (vi_range1 T.m_range (va_cons (ve_var 3) va_nil)) (blkOk_by (N := ["script", "at", "draws", "count", "k", "sides", "earlier", "marks", "mark"]) (sc := (defScope s_law_marked)) (by decide +kernel)) (fun _ _ _ _ _ => (vg_name 4)) (fun _ _ _ _ _ => vts_nil) (fun _ _ _ _ _ => (ve_op od_mod (ve_ix (ve_var 2) (ve_op od_add ve_int (ve_var 4))) ve_int)))
    (vss_cons (vs_set 6 (ve_lst va_nil))
    (vss_cons (vs_for (vi_range1 T.m_range (va_cons (ve_op od_mod (ve_ix (ve_var 2) ve_int) ve_int) va_nil)) (vg_name 4) (vss_cons (vs_set 7 (ve_callTy (fun _ => cd_tuple) T.m_tuple (by decide +kernel) (va_cons (ve_lc [("mark", 8)] (vi_range1 T.m_range (va_cons (ve_var 3) va_nil)) (blkOk_by (N := ["script", "at", "draws", "count", "k", "sides", "earlier", "marks", "mark"]) (sc := (defScope s_law_marked)) (by decide +kernel)) (fun _ _ _ _ _ => (vg_name 8)) (fun _ _ _ _ _ => (vts_one (vt_cmp od_gt (ve_op od_mod (ve_op od_fdiv (ve_ix (ve_var 2) (ve_op od_add ve_int (ve_var 4))) (ve_ix (ve_lst (va_cons ve_int (va_cons ve_int (va_cons ve_int (va_cons ve_int (va_cons ve_int (va_cons ve_int va_nil))))))) (ve_var 8))) ve_int) ve_int (nomark _)))) (fun _ _ _ _ _ => (ve_var 8))) va_nil)))
      (vss_one (vs_expr (ve_app 6 (ve_tup (va_cons (ve_var 7) (va_cons (ve_op od_mod (ve_ix (ve_var 2) (ve_op od_add ve_int (ve_var 4))) ve_int) va_nil))))))))
    (vss_one (vs_ret (ve_tup (va_cons (ve_var 5) (va_cons (ve_var 6) va_nil))))))))))
/-! _law_binds -/
theorem sc_law_binds : FnScope ["sides", "one", "marks", "mark"] ["sides", "one", "marks"] (defScope s_law_binds) := ⟨rfl, rfl, rfl, by decide +kernel, rfl, by decide +kernel, by decide +kernel⟩
theorem b_law_binds (T : Txt K mg) : Binds K T.fd_law_binds ["sides", "one", "marks"] [] := T.F_law_binds.binds (ps := ["sides", "one", "marks"]) fun _ _ _ _ _ _ us hl => match us, hl with | [_, _, _], _ => rfl
noncomputable def v_law_binds : Mo Ctl :=
    (sSeq (sFor (iSeq (eOp dIdx (eVar 1) (eC (.int 0)))) (gN 3) (sIf (bAnd (eT (eOp dEq (eOp dIdx (eVar 0) (eVar 3)) (eOp dIdx (eVar 1) (eC (.int 1))))) (eT (eOp dNotIn (eVar 3) (eVar 2)))) (sRet (eC (.bool false))) sNx))
    (sSeq (sFor (iSeq (eVar 2)) (gN 3) (sIf (bAnd (eT (eOp dNe (eOp dIdx (eVar 0) (eVar 3)) (eOp dIdx (eVar 1) (eC (.int 1))))) (eT (eOp dNotIn (eVar 3) (eOp dIdx (eVar 1) (eC (.int 0)))))) (sRet (eC (.bool false))) sNx))
    (sRet (eC (.bool true)))))
noncomputable def d_law_binds : List D → Option Ret := denB 4 3 v_law_binds
theorem len_law_binds : ∀ ds o, d_law_binds ds = some o → ds.length = 3 := fun ds o h => denB_len ds o h
theorem ok_law_binds (T : Txt K mg) : FnOk P w K mg base (L2.CX P w) 1 T.f_law_binds T.fd_law_binds ["sides", "one", "marks"] (jsp K mg 3 d_law_binds) := by
  refine fn_j (k := 0) (sv := v_law_binds) T.F_law_binds sc_law_binds rfl rfl (by decide) (fun cdv A outer s H E hr => ?_)
  exact (vss_cons (vs_for (vi_seq (ve_ix (ve_var 1) ve_int)) (vg_name 3) (vss_one (vs_if (VW.vt (vw_and (vt_cmp od_eq (ve_ix (ve_var 0) (ve_var 3)) (ve_ix (ve_var 1) ve_int) (nomark _)) (vw_and1 (vt_cmp od_notin (ve_var 3) (ve_var 2) (by rfl))))) (vss_one (vs_ret ve_bl)) vss_nil)))
    (vss_cons (vs_for (vi_seq (ve_var 2)) (vg_name 3) (vss_one (vs_if (VW.vt (vw_and (vt_cmp od_ne (ve_ix (ve_var 0) (ve_var 3)) (ve_ix (ve_var 1) ve_int) (nomark _)) (vw_and1 (vt_cmp od_notin (ve_var 3) (ve_ix (ve_var 1) ve_int) (by rfl))))) (vss_one (vs_ret ve_bl)) vss_nil)))
    (vss_one (vs_ret ve_bl))))
/-! _law_clashes -/
theorem sc_law_clashes : FnScope ["sides", "earlier", "found", "k", "j"] ["sides", "earlier"] (defScope s_law_clashes) := ⟨rfl, rfl, rfl, by decide +kernel, rfl, by decide +kernel, by decide +kernel⟩
theorem b_law_clashes (T : Txt K mg) : Binds K T.fd_law_clashes ["sides", "earlier"] [] := T.F_law_clashes.binds (ps := ["sides", "earlier"]) fun _ _ _ _ _ _ us hl => match us, hl with | [_, _], _ => rfl
noncomputable def v_law_clashes : Mo Ctl :=
    (sSeq (sSet 2 (eLst aNil))
    (sSeq (sFor (iRange1 (aCons (eCall dLen (aCons (eVar 1) aNil)) aNil)) (gN 3) (sFor (iRange2 (aCons (eOp dAdd (eVar 3) (eC (.int 1))) (aCons (eCall dLen (aCons (eVar 1) aNil)) aNil))) (gN 4) (sIf (bAnd (eT (eOp dNe (eOp dIdx (eOp dIdx (eVar 1) (eVar 3)) (eC (.int 1))) (eOp dIdx (eOp dIdx (eVar 1) (eVar 4)) (eC (.int 1))))) (eTr (eFn d_law_binds (aCons (eVar 0) (aCons (eOp dIdx (eVar 1) (eVar 3)) (aCons (eOp dIdx (eOp dIdx (eVar 1) (eVar 4)) (eC (.int 0))) aNil)))))) (sExpr (eApp 2 (eTup (aCons (eVar 3) (aCons (eVar 4) aNil))))) sNx)))
    (sRet (eVar 2))))
noncomputable def d_law_clashes : List D → Option Ret := denB 5 2 v_law_clashes
theorem len_law_clashes : ∀ ds o, d_law_clashes ds = some o → ds.length = 2 := fun ds o h => denB_len ds o h
theorem ok_law_clashes (T : Txt K mg) : FnOk P w K mg base (L2.CX P w) 2 T.f_law_clashes T.fd_law_clashes ["sides", "earlier"] (jsp K mg 2 d_law_clashes) := by
  refine fn_j (k := 1) (sv := v_law_clashes) T.F_law_clashes sc_law_clashes rfl rfl (by decide) (fun cdv A outer s H E hr => ?_)
  exact (vss_cons (vs_set 2 (ve_lst va_nil))
    (vss_cons (vs_for (vi_range1 T.m_range (va_cons (ve_callB (fun _ => cd_len) T.m_len PySem.boot_len (va_cons (ve_var 1) va_nil)) va_nil)) (vg_name 3) (vss_one (vs_for (vi_range2 T.m_range (va_cons (ve_op od_add (ve_var 3) ve_int) (va_cons (ve_callB (fun _ => cd_len) T.m_len PySem.boot_len (va_cons (ve_var 1) va_nil)) va_nil))) (vg_name 4) (vss_one (vs_if (VW.vt (vw_and (vt_cmp od_ne (ve_ix (ve_ix (ve_var 1) (ve_var 3)) ve_int) (ve_ix (ve_ix (ve_var 1) (ve_var 4)) ve_int) (nomark _)) (vw_and1 (vt_truth (ve_fn (ok_law_binds T) (len_law_binds) (hr.mono (by decide)) T.g_law_binds T.F_law_binds.kp (b_law_binds T) (va_cons (ve_var 0) (va_cons (ve_ix (ve_var 1) (ve_var 3)) (va_cons (ve_ix (ve_ix (ve_var 1) (ve_var 4)) ve_int) va_nil)))))))) (vss_one (vs_expr (ve_app 2 (ve_tup (va_cons (ve_var 3) (va_cons (ve_var 4) va_nil)))))) vss_nil)))))
    (vss_one (vs_ret (ve_var 2)))))
/-! _law_all_marks -/
theorem sc_law_all_marks : FnScope ["count", "found", "mark", "some"] ["count"] (defScope s_law_all_marks) := ⟨rfl, rfl, rfl, by decide +kernel, rfl, by decide +kernel, by decide +kernel⟩
theorem b_law_all_marks (T : Txt K mg) : Binds K T.fd_law_all_marks ["count"] [] := T.F_law_all_marks.binds (ps := ["count"]) fun _ _ _ _ _ _ us hl => match us, hl with | [_], _ => rfl
noncomputable def v_law_all_marks : Mo Ctl :=
    (sSeq (sSet 1 (eLst (aCons (eTup aNil) aNil)))
    (sSeq (sFor (iRange1 (aCons (eVar 0) aNil)) (gN 2) (sSet 1 (eOp dAdd (eVar 1) (eLc [3] (iSeq (eVar 1)) (gN 3) bYes (eOp dAdd (eVar 3) (eTup (aCons (eVar 2) aNil)))))))
    (sRet (eVar 1))))
noncomputable def d_law_all_marks : List D → Option Ret := denB 4 1 v_law_all_marks
theorem len_law_all_marks : ∀ ds o, d_law_all_marks ds = some o → ds.length = 1 := fun ds o h => denB_len ds o h
theorem ok_law_all_marks (T : Txt K mg) : FnOk P w K mg base (L2.CX P w) 1 T.f_law_all_marks T.fd_law_all_marks ["count"] (jsp K mg 1 d_law_all_marks) := by
  refine fn_j (k := 0) (sv := v_law_all_marks) T.F_law_all_marks sc_law_all_marks rfl rfl (by decide) (fun cdv A outer s H E hr => ?_)
  exact (vss_cons (vs_set 1 (ve_lst (va_cons (ve_tup va_nil) va_nil)))
    (vss_cons (vs_for (vi_range1 T.m_range (va_cons (ve_var 0) va_nil)) (vg_name 2) (vss_one (vs_set 1 (ve_op od_add (ve_var 1) (ve_lc [("some", 3)] (vi_seq (ve_var 1)) (blkOk_by (N := ["count", "found", "mark", "some"]) (sc := (defScope s_law_all_marks)) (by decide +kernel)) (fun _ _ _ _ _ => (vg_name 3)) (fun _ _ _ _ _ => vts_nil) (fun _ _ _ _ _ => (ve_op od_add (ve_var 3) (ve_tup (va_cons (ve_var 2) va_nil)))))))))
    (vss_one (vs_ret (ve_var 1)))))
/-! law -/
theorem sc_law : FnScope ["script", "sides", "earlier", "kept", "every", "one", "marks", "due", "mark", "later", "turn", "told", "k", "j", "other"] ["script"] (defScope s_law) := ⟨rfl, rfl, rfl, by decide +kernel, rfl, by decide +kernel, by decide +kernel⟩
theorem b_law (T : Txt K mg) : Binds K T.fd_law ["script"] [] := T.F_law.binds (ps := ["script"]) fun _ _ _ _ _ _ us hl => match us, hl with | [_], _ => rfl
noncomputable def v_law : Mo Ctl :=
    (sSeq (sTup (gT 2 (gsC (gN 1) (gsC (gN 2) gs0))) (eFn d_law_marked (aCons (eVar 0) (aCons (eC (.int 0)) aNil))))
    (sSeq (sSet 3 (eCall dRepr (aCons (eTup (aCons (eVar 1) (aCons (eVar 2) aNil))) aNil)))
    (sSeq (sSet 4 (eFn d_law_all_marks (aCons (eCall dLen (aCons (eVar 1) aNil)) aNil)))
    (sSeq (sFor (iSeq (eVar 2)) (gN 5) (sFor (iSeq (eVar 4)) (gN 6) (sSeq (sSet 7 (eFn d_law_binds (aCons (eVar 1) (aCons (eVar 5) (aCons (eVar 6) aNil)))))
        (sSeq (sIf (bNot (eTr (eFn (d_law_same 12) (aCons (eFn d_binds (aCons (eVar 1) (aCons (eVar 5) (aCons (eVar 6) aNil)))) (aCons (eVar 7) aNil))))) (sRet (eC (.bool false))) sNx)
        (sIf (eTr (eVar 7)) (sFor (iRange1 (aCons (eCall dLen (aCons (eVar 1) aNil)) aNil)) (gN 8) (sSeq (sSet 9 (eCall dTuple (aCons (eLc [14] (iSeq (eVar 6)) (gN 14) (eT (eOp dNe (eVar 14) (eVar 8))) (eVar 14)) aNil)))
            (sSeq (sIf (eT (eOp dEq (eOp dIdx (eVar 1) (eVar 8)) (eOp dIdx (eVar 5) (eC (.int 1))))) (sSet 9 (eCall dTuple (aCons (eCall (fun ds => (dSorted ds).or (dSortedT ds)) (aCons (eOp dAdd (eVar 9) (eTup (aCons (eVar 8) aNil))) aNil)) aNil))) sNx)
            (sIf (bNot (eTr (eFn d_binds (aCons (eVar 1) (aCons (eVar 5) (aCons (eVar 9) aNil)))))) (sRet (eC (.bool false))) sNx)))) sNx)))))
    (sSeq (sFor (iRange1 (aCons (eC (.int 2)) aNil)) (gN 10) (sSeq (sSet 11 (eFn d_clashes (aCons (eVar 1) (aCons (eVar 2) aNil))))
      (sSeq (sIf (bOr (bNot (eTr (eFn (d_law_same 12) (aCons (eVar 11) (aCons (eFn d_law_clashes (aCons (eVar 1) (aCons (eVar 2) aNil))) aNil))))) (eT (eOp dNe (eCall dRepr (aCons (eTup (aCons (eVar 1) (aCons (eVar 2) aNil))) aNil)) (eVar 3)))) (sRet (eC (.bool false))) sNx)
      (sSeq (sForO 11 (gT 2 (gsC (gN 12) (gsC (gN 13) gs0))) (sIf (bOr (bNot (eTr (eFn d_binds (aCons (eVar 1) (aCons (eOp dIdx (eVar 2) (eVar 13)) (aCons (eOp dIdx (eOp dIdx (eVar 2) (eVar 12)) (eC (.int 0))) aNil)))))) (bNot (eTr (eFn d_binds (aCons (eVar 1) (aCons (eOp dIdx (eVar 2) (eVar 12)) (aCons (eOp dIdx (eOp dIdx (eVar 2) (eVar 13)) (eC (.int 0))) aNil))))))) (sRet (eC (.bool false))) sNx))
      (sExpr (eApp 11 (eTup (aCons (eC (.int 0)) (aCons (eC (.int 0)) aNil)))))))))
    (sRet (eC (.bool true))))))))
noncomputable def d_law : List D → Option Ret := denB 15 1 v_law
theorem len_law : ∀ ds o, d_law ds = some o → ds.length = 1 := fun ds o h => denB_len ds o h
theorem run_law (T : Txt K mg) : ∀ {s : Shared} {H : Hp} {args : Args} {us : List Value} {vs : List V} {Q : VK} {E : XK}, Env0 P w K mg base callerA [] s H → BindsTo s T.fd_law args ((["script"] : List Str).zip us) → Vals vs us → jsp K mg 1 d_law vs H Q E →
    codeAny (model P w) callerA (.call (.ref T.f_law) args) (CR (L2.CX P w) [] P w H s Q E) s := by
  intro s H args us vs Q E e0 hb r h
  refine run_at (k := 13) (sv := v_law) T.F_law sc_law rfl rfl (by decide) ⟨rfl, by decide, by decide⟩ (fun cdv outer s H E hr => ?_) e0 hb r h
  exact (vss_cons (vs_tup (ve_fn (ok_law_marked T) (len_law_marked) (hr.mono (by decide)) T.g_law_marked T.F_law_marked.kp (b_law_marked T) (va_cons (ve_var 0) (va_cons ve_int va_nil))) (vg_tup (vgs_cons (vg_name 1) (vgs_cons (vg_name 2) vgs_nil))))
    (vss_cons (vs_set 3 (ve_callB (cd_repr (guards_at _)) T.m_repr (by decide +kernel) (va_cons (ve_tup (va_cons (ve_var 1) (va_cons (ve_var 2) va_nil))) va_nil)))
    (vss_cons (vs_set 4 (ve_fn (ok_law_all_marks T) (len_law_all_marks) (hr.mono (by decide)) T.g_law_all_marks T.F_law_all_marks.kp (b_law_all_marks T) (va_cons (ve_callB (fun _ => cd_len) T.m_len PySem.boot_len (va_cons (ve_var 1) va_nil)) va_nil)))
    (vss_cons (vs_for (vi_seq (ve_var 2)) (vg_name 5) (vss_one (vs_for (vi_seq (ve_var 4)) (vg_name 6) (vss_cons (vs_set 7 (ve_fn (ok_law_binds T) (len_law_binds) (hr.mono (by decide)) T.g_law_binds T.F_law_binds.kp (b_law_binds T) (va_cons (ve_var 1) (va_cons (ve_var 5) (va_cons (ve_var 6) va_nil)))))
        (vss_cons (vs_if (vt_not (vt_truth (ve_fn (ok_law_same T 12) (len_law_same 12) (hr.mono (by decide)) T.g_law_same T.F_law_same.kp (b_law_same T) (va_cons (ve_fn (ok_binds T) (len_binds) (hr.mono (by decide)) T.g_binds T.F_binds.kp (b_binds T) (va_cons (ve_var 1) (va_cons (ve_var 5) (va_cons (ve_var 6) va_nil)))) (va_cons (ve_var 7) va_nil))))) (vss_one (vs_ret ve_bl)) vss_nil)
        (vss_one (vs_if (vt_truth (ve_var 7)) (vss_one (vs_for (vi_range1 T.m_range (va_cons (ve_callB (fun _ => cd_len) T.m_len PySem.boot_len (va_cons (ve_var 1) va_nil)) va_nil)) (vg_name 8) (vss_cons (vs_set 9 (ve_callTy (fun _ => cd_tuple) T.m_tuple (by decide +kernel) (va_cons (ve_lc [("other", 14)] (vi_seq (ve_var 6)) (blkOk_by (N := ["script", "sides", "earlier", "kept", "every", "one", "marks", "due", "mark", "later", "turn", "told", "k", "j", "other"]) (sc := (defScope s_law)) (by decide +kernel)) (fun _ _ _ _ _ => (vg_name 14)) (fun _ _ _ _ _ => (vts_one (vt_cmp od_ne (ve_var 14) (ve_var 8) (nomark _)))) (fun _ _ _ _ _ => (ve_var 14))) va_nil)))
            (vss_cons (vs_if (vt_cmp od_eq (ve_ix (ve_var 1) (ve_var 8)) (ve_ix (ve_var 5) ve_int) (nomark _)) (vss_one (vs_set 9 (ve_callTy (fun _ => cd_tuple) T.m_tuple (by decide +kernel) (va_cons (ve_callB (fun _ => cd_sorted.or cd_sortedT) T.m_sorted (by decide +kernel) (va_cons (ve_op od_add (ve_var 9) (ve_tup (va_cons (ve_var 8) va_nil))) va_nil)) va_nil)))) vss_nil)
            (vss_one (vs_if (vt_not (vt_truth (ve_fn (ok_binds T) (len_binds) (hr.mono (by decide)) T.g_binds T.F_binds.kp (b_binds T) (va_cons (ve_var 1) (va_cons (ve_var 5) (va_cons (ve_var 9) va_nil)))))) (vss_one (vs_ret ve_bl)) vss_nil)))))) vss_nil)))))))
    (vss_cons (vs_for (vi_range1 T.m_range (va_cons ve_int va_nil)) (vg_name 10) (vss_cons (vs_set 11 (ve_fn (ok_clashes T) (len_clashes) (hr.mono (by decide)) T.g_clashes T.F_clashes.kp (b_clashes T) (va_cons (ve_var 1) (va_cons (ve_var 2) va_nil))))
      (vss_cons (vs_if (VW.vt (vw_or (vt_not (vt_truth (ve_fn (ok_law_same T 12) (len_law_same 12) (hr.mono (by decide)) T.g_law_same T.F_law_same.kp (b_law_same T) (va_cons (ve_var 11) (va_cons (ve_fn (ok_law_clashes T) (len_law_clashes) (hr.mono (by decide)) T.g_law_clashes T.F_law_clashes.kp (b_law_clashes T) (va_cons (ve_var 1) (va_cons (ve_var 2) va_nil))) va_nil))))) (vw_or1 (vt_cmp od_ne (ve_callB (cd_repr (guards_at _)) T.m_repr (by decide +kernel) (va_cons (ve_tup (va_cons (ve_var 1) (va_cons (ve_var 2) va_nil))) va_nil)) (ve_var 3) (nomark _))))) (vss_one (vs_ret ve_bl)) vss_nil)
      (vss_cons (vs_forO 11 (ve_var 11) (vg_tup (vgs_cons (vg_name 12) (vgs_cons (vg_name 13) vgs_nil))) (vss_one (vs_if (VW.vt (vw_or (vt_not (vt_truth (ve_fn (ok_binds T) (len_binds) (hr.mono (by decide)) T.g_binds T.F_binds.kp (b_binds T) (va_cons (ve_var 1) (va_cons (ve_ix (ve_var 2) (ve_var 13)) (va_cons (ve_ix (ve_ix (ve_var 2) (ve_var 12)) ve_int) va_nil)))))) (vw_or1 (vt_not (vt_truth (ve_fn (ok_binds T) (len_binds) (hr.mono (by decide)) T.g_binds T.F_binds.kp (b_binds T) (va_cons (ve_var 1) (va_cons (ve_ix (ve_var 2) (ve_var 12)) (va_cons (ve_ix (ve_ix (ve_var 2) (ve_var 13)) ve_int) va_nil))))))))) (vss_one (vs_ret ve_bl)) vss_nil)))
      (vss_one (vs_expr (ve_app 11 (ve_tup (va_cons ve_int (va_cons ve_int va_nil))))))))))
    (vss_one (vs_ret ve_bl)))))))
end
/-! ### what the top has written -/
theorem all_mk {l : PySem.W.OpenLaw} {w : World} {K : PySem.W.Frag} {h : Heap} {mg : Str → Option Value} {fa f_speaking f_binds f_clash f_clashes f_law_cell f_law_numbers f_law_same f_law_marked f_law_binds f_law_clashes f_law_all_marks f_law : Addr} (X : K.In h) (G : h.Ns mainGlobals mg) (hfa : mg "law" = some (.ref fa))
    {od0 an0 : Option Addr} {sl0 : Array (Option Value)} {oc0 kV0 dc0 pm0 cd0 ct0 : Value}
    (a0 : PySem.W.nsIn K mainGlobals "speaking" = some (some (.ref f_speaking))) (l0 : K.lookup f_speaking = some ⟨oc0, od0, .func (PySem.W.fnOf "speaking" "speaking" (defArgs s_speaking) (defBody s_speaking) (defScope s_speaking) .none kV0 dc0 pm0 an0 cd0 ct0), sl0⟩) (c0 : PySem.W.codeIn K cd0 "speaking" = true) (k0 : PySem.W.keepIn K (.ref f_speaking) = true)
    {od1 an1 : Option Addr} {sl1 : Array (Option Value)} {oc1 kV1 dc1 pm1 cd1 ct1 : Value}
    (a1 : PySem.W.nsIn K mainGlobals "binds" = some (some (.ref f_binds))) (l1 : K.lookup f_binds = some ⟨oc1, od1, .func (PySem.W.fnOf "binds" "binds" (defArgs s_binds) (defBody s_binds) (defScope s_binds) .none kV1 dc1 pm1 an1 cd1 ct1), sl1⟩) (c1 : PySem.W.codeIn K cd1 "binds" = true) (k1 : PySem.W.keepIn K (.ref f_binds) = true)
    {od2 an2 : Option Addr} {sl2 : Array (Option Value)} {oc2 kV2 dc2 pm2 cd2 ct2 : Value}
    (a2 : PySem.W.nsIn K mainGlobals "clash" = some (some (.ref f_clash))) (l2 : K.lookup f_clash = some ⟨oc2, od2, .func (PySem.W.fnOf "clash" "clash" (defArgs s_clash) (defBody s_clash) (defScope s_clash) .none kV2 dc2 pm2 an2 cd2 ct2), sl2⟩) (c2 : PySem.W.codeIn K cd2 "clash" = true) (k2 : PySem.W.keepIn K (.ref f_clash) = true)
    {od3 an3 : Option Addr} {sl3 : Array (Option Value)} {oc3 kV3 dc3 pm3 cd3 ct3 : Value}
    (a3 : PySem.W.nsIn K mainGlobals "clashes" = some (some (.ref f_clashes))) (l3 : K.lookup f_clashes = some ⟨oc3, od3, .func (PySem.W.fnOf "clashes" "clashes" (defArgs s_clashes) (defBody s_clashes) (defScope s_clashes) .none kV3 dc3 pm3 an3 cd3 ct3), sl3⟩) (c3 : PySem.W.codeIn K cd3 "clashes" = true) (k3 : PySem.W.keepIn K (.ref f_clashes) = true)
    {od4 an4 : Option Addr} {sl4 : Array (Option Value)} {oc4 kV4 dc4 pm4 cd4 ct4 : Value}
    (a4 : PySem.W.nsIn K mainGlobals "_law_cell" = some (some (.ref f_law_cell))) (l4 : K.lookup f_law_cell = some ⟨oc4, od4, .func (PySem.W.fnOf "_law_cell" "_law_cell" (defArgs s_law_cell) (defBody s_law_cell) (defScope s_law_cell) .none kV4 dc4 pm4 an4 cd4 ct4), sl4⟩) (c4 : PySem.W.codeIn K cd4 "_law_cell" = true) (k4 : PySem.W.keepIn K (.ref f_law_cell) = true)
    {od5 an5 : Option Addr} {sl5 : Array (Option Value)} {oc5 kV5 dc5 pm5 cd5 ct5 : Value}
    (a5 : PySem.W.nsIn K mainGlobals "_law_numbers" = some (some (.ref f_law_numbers))) (l5 : K.lookup f_law_numbers = some ⟨oc5, od5, .func (PySem.W.fnOf "_law_numbers" "_law_numbers" (defArgs s_law_numbers) (defBody s_law_numbers) (defScope s_law_numbers) .none kV5 dc5 pm5 an5 cd5 ct5), sl5⟩) (c5 : PySem.W.codeIn K cd5 "_law_numbers" = true) (k5 : PySem.W.keepIn K (.ref f_law_numbers) = true)
    {od6 an6 : Option Addr} {sl6 : Array (Option Value)} {oc6 kV6 dc6 pm6 cd6 ct6 : Value}
    (a6 : PySem.W.nsIn K mainGlobals "_law_same" = some (some (.ref f_law_same))) (l6 : K.lookup f_law_same = some ⟨oc6, od6, .func (PySem.W.fnOf "_law_same" "_law_same" (defArgs s_law_same) (defBody s_law_same) (defScope s_law_same) .none kV6 dc6 pm6 an6 cd6 ct6), sl6⟩) (c6 : PySem.W.codeIn K cd6 "_law_same" = true) (k6 : PySem.W.keepIn K (.ref f_law_same) = true)
    {od7 an7 : Option Addr} {sl7 : Array (Option Value)} {oc7 kV7 dc7 pm7 cd7 ct7 : Value}
    (a7 : PySem.W.nsIn K mainGlobals "_law_marked" = some (some (.ref f_law_marked))) (l7 : K.lookup f_law_marked = some ⟨oc7, od7, .func (PySem.W.fnOf "_law_marked" "_law_marked" (defArgs s_law_marked) (defBody s_law_marked) (defScope s_law_marked) .none kV7 dc7 pm7 an7 cd7 ct7), sl7⟩) (c7 : PySem.W.codeIn K cd7 "_law_marked" = true) (k7 : PySem.W.keepIn K (.ref f_law_marked) = true)
    {od8 an8 : Option Addr} {sl8 : Array (Option Value)} {oc8 kV8 dc8 pm8 cd8 ct8 : Value}
    (a8 : PySem.W.nsIn K mainGlobals "_law_binds" = some (some (.ref f_law_binds))) (l8 : K.lookup f_law_binds = some ⟨oc8, od8, .func (PySem.W.fnOf "_law_binds" "_law_binds" (defArgs s_law_binds) (defBody s_law_binds) (defScope s_law_binds) .none kV8 dc8 pm8 an8 cd8 ct8), sl8⟩) (c8 : PySem.W.codeIn K cd8 "_law_binds" = true) (k8 : PySem.W.keepIn K (.ref f_law_binds) = true)
    {od9 an9 : Option Addr} {sl9 : Array (Option Value)} {oc9 kV9 dc9 pm9 cd9 ct9 : Value}
    (a9 : PySem.W.nsIn K mainGlobals "_law_clashes" = some (some (.ref f_law_clashes))) (l9 : K.lookup f_law_clashes = some ⟨oc9, od9, .func (PySem.W.fnOf "_law_clashes" "_law_clashes" (defArgs s_law_clashes) (defBody s_law_clashes) (defScope s_law_clashes) .none kV9 dc9 pm9 an9 cd9 ct9), sl9⟩) (c9 : PySem.W.codeIn K cd9 "_law_clashes" = true) (k9 : PySem.W.keepIn K (.ref f_law_clashes) = true)
    {od10 an10 : Option Addr} {sl10 : Array (Option Value)} {oc10 kV10 dc10 pm10 cd10 ct10 : Value}
    (a10 : PySem.W.nsIn K mainGlobals "_law_all_marks" = some (some (.ref f_law_all_marks))) (l10 : K.lookup f_law_all_marks = some ⟨oc10, od10, .func (PySem.W.fnOf "_law_all_marks" "_law_all_marks" (defArgs s_law_all_marks) (defBody s_law_all_marks) (defScope s_law_all_marks) .none kV10 dc10 pm10 an10 cd10 ct10), sl10⟩) (c10 : PySem.W.codeIn K cd10 "_law_all_marks" = true) (k10 : PySem.W.keepIn K (.ref f_law_all_marks) = true)
    {od11 an11 : Option Addr} {sl11 : Array (Option Value)} {oc11 kV11 dc11 pm11 cd11 ct11 : Value}
    (a11 : PySem.W.nsIn K mainGlobals "law" = some (some (.ref f_law))) (l11 : K.lookup f_law = some ⟨oc11, od11, .func (PySem.W.fnOf "law" "law" (defArgs s_law) (defBody s_law) (defScope s_law) .none kV11 dc11 pm11 an11 cd11 ct11), sl11⟩) (c11 : PySem.W.codeIn K cd11 "law" = true) (k11 : PySem.W.keepIn K (.ref f_law) = true)
    (z0 : PySem.W.nsIn K mainGlobals "all" = some none)
    (z1 : PySem.W.nsIn K mainGlobals "bool" = some none)
    (z2 : PySem.W.nsIn K mainGlobals "int" = some none)
    (z3 : PySem.W.nsIn K mainGlobals "isinstance" = some none)
    (z4 : PySem.W.nsIn K mainGlobals "len" = some none)
    (z5 : PySem.W.nsIn K mainGlobals "list" = some none)
    (z6 : PySem.W.nsIn K mainGlobals "range" = some none)
    (z7 : PySem.W.nsIn K mainGlobals "repr" = some none)
    (z8 : PySem.W.nsIn K mainGlobals "sorted" = some none)
    (z9 : PySem.W.nsIn K mainGlobals "str" = some none)
    (z10 : PySem.W.nsIn K mainGlobals "tuple" = some none)
    : ∃ fd : FuncData, (∀ (s : Shared) (u : Value), BindsTo s fd ⟨[u], []⟩ [("script", u)]) ∧ ∀ base : Heap, K.In base → base.Ns mainGlobals mg → ∀ {s : Shared} {H : Hp} {args : Args} {us : List Value} {vs : List V} {Q : VK} {E : XK}, Env0 l.prog w K mg base callerA [] s H → BindsTo s fd args ((["script"] : List Str).zip us) → Vals vs us → jsp K mg 1 d_law vs H Q E →
      codeAny (model l.prog w) callerA (.call (.ref fa) args) (CR (L2.CX l.prog w) [] l.prog w H s Q E) s := by
  have e := hfa.symm.trans (PySem.W.mg_of X G a11)
  cases e
  exact ⟨_, fun s v => .of_eq rfl, fun base _ _ => run_law (P := l.prog) (Txt.mk f_speaking _ (fun_mk l0 c0 k0) (PySem.W.mg_of X G a0) f_binds _ (fun_mk l1 c1 k1) (PySem.W.mg_of X G a1) f_clash _ (fun_mk l2 c2 k2) (PySem.W.mg_of X G a2) f_clashes _ (fun_mk l3 c3 k3) (PySem.W.mg_of X G a3) f_law_cell _ (fun_mk l4 c4 k4) (PySem.W.mg_of X G a4) f_law_numbers _ (fun_mk l5 c5 k5) (PySem.W.mg_of X G a5) f_law_same _ (fun_mk l6 c6 k6) (PySem.W.mg_of X G a6) f_law_marked _ (fun_mk l7 c7 k7) (PySem.W.mg_of X G a7) f_law_binds _ (fun_mk l8 c8 k8) (PySem.W.mg_of X G a8) f_law_clashes _ (fun_mk l9 c9 k9) (PySem.W.mg_of X G a9) f_law_all_marks _ (fun_mk l10 c10 k10) (PySem.W.mg_of X G a10) fa _ (fun_mk l11 c11 k11) (PySem.W.mg_of X G a11) (PySem.W.mg_none_of X G z0) (PySem.W.mg_none_of X G z1) (PySem.W.mg_none_of X G z2) (PySem.W.mg_none_of X G z3) (PySem.W.mg_none_of X G z4) (PySem.W.mg_none_of X G z5) (PySem.W.mg_none_of X G z6) (PySem.W.mg_none_of X G z7) (PySem.W.mg_none_of X G z8) (PySem.W.mg_none_of X G z9) (PySem.W.mg_none_of X G z10))⟩
end K67

namespace K67
open PySem PySem.Spec PyProof.Rows L2 J
set_option maxHeartbeats 1000000
theorem cell_law (ns : List Int) : d_law_cell [.dict [(.none, .list (ns.map .int))], .int 0] = some (.ok (.fr (.int (at0 ns 0)))) := by
  by_cases h : 0 < ns.length
  · refine den_rt (k := 2) rfl (n' := [.fr (.dict [(.none, .list (ns.map .int))]), .fr (.int 0)]) ?_
    have hi := dIdx_atS (ns := ns) (i := 0) (by decide) (by omega)
    simp [v_law_cell, hi, h]
  · refine den_rt (k := 2) rfl (n' := [.fr (.dict [(.none, .list (ns.map .int))]), .fr (.int 0)]) ?_
    have : ns = [] := by
      cases ns with
      | nil => rfl
      | cons a b => exact absurd (Nat.zero_lt_succ _) h
    subst this
    simp [v_law_cell, at0]
end K67

namespace K67
open PySem PySem.Spec PyProof.Rows L2 J
set_option maxHeartbeats 1000000
/-- numbers below a limit -/
def Below (lim : Int) (ms : List Int) : Prop := ∀ m ∈ ms, 0 ≤ m ∧ m < lim
theorem Below.snoc {lim m : Int} {ms : List Int} (h : Below lim ms) (h0 : 0 ≤ m ∧ m < lim) : Below lim (ms ++ [m]) := fun x hx => by
  rcases List.mem_append.mp hx with hx | hx
  · exact h x hx
  · rw [List.mem_singleton.mp hx]; exact h0
theorem fmod_in {i j : Int} (h : 0 < j) : 0 ≤ i.fmod j ∧ i.fmod j < j := ⟨Int.fmod_nonneg_of_pos _ h, Int.fmod_lt_of_pos _ h⟩
theorem numbers_law (cell lim : Int) (count : Nat) (hl : 0 < lim) (hl2 : lim < 1073741824) (hc : count ≤ 1000000) :
    ∃ ms : List Int, ms.length = count ∧ Below lim ms ∧ d_law_numbers [.int cell, .int count, .int lim] = some (.ok (.ol (ms.map .int))) := by
  have hlim : lim ≠ 0 := by omega
  have hrg : rgOk (count : Int) = true := rgOk_of (by omega) (by omega)
  have hdv : divOk lim = true := divOk_small hl hl2
  by_cases hb : (1000000000000000000 : Int) ≤ cell
  · obtain ⟨n1, e1, c, s4, s5, ms, rfl, hlen, hbel⟩ := forL_map (g := gN 4) (body := (sSeq (sExpr (eApp 3 (eOp dMod (eCall dInt (aCons (eVar 0) aNil)) (eVar 2)))) (sSet 0 (eOp dFdiv (eCall dInt (aCons (eVar 0) aNil)) (eVar 2)))))
      PyData.int (fun pre n => ∃ (c : Int) (s4 s5 : Sl) (ms : List Int), n = [.fr (.int c), .fr (.int count), .fr (.int lim), .ol (ms.map .int), s4, s5] ∧ ms.length = pre.length ∧ Below lim ms) (upI 0 count)
      [.fr (.int cell), .fr (.int count), .fr (.int lim), .ol [], .un, .un] ⟨cell, .un, .un, [], rfl, rfl, fun m hm => nomatch hm⟩ (by
        rintro pre x post n e ⟨c, s4, s5, ms, rfl, hlen, hbel⟩
        have hsz : ms.length < sizeLine := size_lt (by
          have := congrArg List.length e
          rw [upI_len, List.length_append] at this
          omega)
        refine ⟨_, .inl ?_, c.fdiv lim, .fr (.int x), s5, ms ++ [c.fmod lim], rfl, by rw [List.length_append, List.length_append, hlen]; rfl, hbel.snoc (fmod_in hl)⟩
        simp [turn, dMod_int hlim, dFdiv_int hdv, hsz])
    refine ⟨ms, by rw [hlen, upI_len], hbel, ?_⟩
    refine den_ol (k := 3) rfl (n' := [.fr (.int c), .fr (.int count), .fr (.int lim), .un, s4, s5]) ?_
    simp [v_law_numbers, hb, rg1O_ok hrg, rangeD_up, e1]
  · obtain ⟨n1, e1, s4, s5, ms, rfl, hlen, hbel⟩ := forL_map (g := gN 4) (body := (sSeq (sSet 5 (eOp dMod (eCall dInt (aCons (eOp dAdd (eOp dAdd (eOp dMul (eVar 0) (eC (.int 48271))) (eOp dMul (eVar 4) (eC (.int 69621)))) (eC (.int 7))) aNil)) (eC (.int 2147483647))))
      (sSeq (sSet 5 (eOp dMod (eCall dInt (aCons (eOp dAdd (eOp dAdd (eOp dAdd (eOp dMul (eVar 5) (eVar 5)) (eOp dMul (eVar 5) (eC (.int 40692)))) (eOp dMul (eVar 4) (eC (.int 16807)))) (eC (.int 11))) aNil)) (eC (.int 2147483399))))
      (sExpr (eApp 3 (eOp dMod (eCall dInt (aCons (eOp dFdiv (eVar 5) (eC (.int 32))) aNil)) (eVar 2)))))))
      PyData.int (fun pre n => ∃ (s4 s5 : Sl) (ms : List Int), n = [.fr (.int cell), .fr (.int count), .fr (.int lim), .ol (ms.map .int), s4, s5] ∧ ms.length = pre.length ∧ Below lim ms) (upI 0 count)
      [.fr (.int cell), .fr (.int count), .fr (.int lim), .ol [], .un, .un] ⟨.un, .un, [], rfl, rfl, fun m hm => nomatch hm⟩ (by
        rintro pre x post n e ⟨s4, s5, ms, rfl, hlen, hbel⟩
        have hsz : ms.length < sizeLine := size_lt (by
          have := congrArg List.length e
          rw [upI_len, List.length_append] at this
          omega)
        have h1 : ∀ i : Int, mulOk i 48271 = true := fun i => mulOk_right i (by omega)
        have h2 : ∀ i : Int, mulOk i 69621 = true := fun i => mulOk_right i (by omega)
        have h3 : ∀ i : Int, mulOk i 40692 = true := fun i => mulOk_right i (by omega)
        have h4 : ∀ i : Int, mulOk i 16807 = true := fun i => mulOk_right i (by omega)
        have hm := fmod_in (i := cell * 48271 + x * 69621 + 7) (j := 2147483647) (by omega)
        generalize hmx : (cell * 48271 + x * 69621 + 7).fmod 2147483647 = mx at hm
        have h5 : mulOk mx mx = true := mulOk_right mx ⟨by omega, by omega⟩
        have h6 : divOk 32 = true := divOk_small (by omega) (by omega)
        refine ⟨_, .inl ?_, .fr (.int x), .fr (.int ((mx * mx + mx * 40692 + x * 16807 + 11).fmod 2147483399)), ms ++ [(((mx * mx + mx * 40692 + x * 16807 + 11).fmod 2147483399).fdiv 32).fmod lim], rfl, by rw [List.length_append, List.length_append, hlen]; rfl, hbel.snoc (fmod_in hl)⟩
        simp [turn, dMul_int (h1 _), dMul_int (h2 _), dMul_int (h3 _), dMul_int (h4 _), dMul_int h5, dMod_int hlim, dMod_int (j := 2147483647) (by omega), dMod_int (j := 2147483399) (by omega), dFdiv_int h6, hsz, hmx])
    refine ⟨ms, by rw [hlen, upI_len], hbel, ?_⟩
    refine den_ol (k := 3) rfl (n' := [.fr (.int cell), .fr (.int count), .fr (.int lim), .un, s4, s5]) ?_
    simp [v_law_numbers, hb, rg1O_ok hrg, rangeD_up, e1]
end K67

namespace K67
open PySem PySem.Spec PyProof.Rows L2 J
set_option maxHeartbeats 1000000
abbrev Cs := List Int × Int
def cD (c : Cs) : D := .tuple [.tuple (c.1.map .int), .int c.2]
def bit (i : Int) : Prop := i = 0 ∨ i = 1
theorem bit_mod (i : Int) : bit (i.fmod 2) := by
  have := fmod_in (i := i) (j := 2) (by decide)
  unfold bit
  omega
structure Case (k : Nat) (c : Cs) : Prop where
  m : ∀ m ∈ c.1, 0 ≤ m ∧ m < (k : Int)
  s : c.1.Pairwise (· < ·)
  b : bit c.2
structure World (sides : List Int) (cs : List Cs) : Prop where
  l1 : 1 ≤ sides.length
  l6 : sides.length ≤ 6
  b : ∀ s ∈ sides, bit s
  c6 : cs.length ≤ 6
  c : ∀ c ∈ cs, Case sides.length c
theorem notOwn1 {n : En} {i : Nat} {s : Sl} (h : n[i]? = some s) (hs : ∀ ds, s ≠ .ol ds) : notOwn n [i] = true := by
  unfold notOwn
  rw [List.all_cons, List.all_nil, h, Bool.and_true]
  cases s with
  | ol ds => exact absurd rfl (hs ds)
  | _ => rfl
theorem marked_law (ns : List Int) : ∃ sides cs, World sides cs ∧ d_law_marked [.dict [(.none, .list (ns.map .int))], .int 0] = some (.ok (.fr (.tuple [.list (sides.map .int), .list (cs.map cD)]))) := by
  obtain ⟨ms, hlen, hbel, e0⟩ := numbers_law (at0 ns 0) 5040 60 (by decide) (by decide) (by decide)
  have e0' : d_law_numbers [.int (at0 ns 0), .int 60, .int 5040] = some (.ok (.ol (ms.map .int))) := e0
  have hix : ∀ i : Int, 0 ≤ i → i < 60 → dIdx (.list (ms.map .int)) (.int i) = some (.fr (.int (at0 ms i))) := fun i h0 h1 => dIdx_at h0 (by omega)
  have hn6 := fmod_in (i := at0 ms 0) (j := 6) (by decide)
  have hn7 := fmod_in (i := at0 ms 1) (j := 7) (by decide)
  obtain ⟨c, hc⟩ : ∃ c : Nat, 1 + (at0 ms 0).fmod 6 = (c : Int) := ⟨(1 + (at0 ms 0).fmod 6).toNat, by omega⟩
  obtain ⟨q, hq⟩ : ∃ q : Nat, (at0 ms 1).fmod 7 = (q : Int) := ⟨((at0 ms 1).fmod 7).toNat, by omega⟩
  have hc6 : c ≤ 6 := by omega
  have hrc : rgOk (c : Int) = true := rgOk_of (by omega) (by omega)
  have hrq : rgOk (q : Int) = true := rgOk_of (by omega) (by omega)
  let S : D := .dict [(.none, .list (ns.map .int))]
  let sides : List Int := (upI 0 c).map fun k => (at0 ms (2 + k)).fmod 2
  have m2 : ∀ i : Int, dMod (.int i) (.int 2) = some (.fr (.int (i.fmod 2))) := fun i => dMod_int (by decide)
  have m3 : ∀ i : Int, dMod (.int i) (.int 3) = some (.fr (.int (i.fmod 3))) := fun i => dMod_int (by decide)
  have m6 : ∀ i : Int, dMod (.int i) (.int 6) = some (.fr (.int (i.fmod 6))) := fun i => dMod_int (by decide)
  have m7 : ∀ i : Int, dMod (.int i) (.int 7) = some (.fr (.int (i.fmod 7))) := fun i => dMod_int (by decide)
  have e1 : lcL [4] (gN 4) bYes (eOp dMod (eOp dIdx (eVar 2) (eOp dAdd (eC (.int 2)) (eVar 4))) (eC (.int 2))) ((upI 0 c).map .int) [.fr S, .fr (.int 0), .ol (ms.map .int), .fr (.int c), .un, .un, .un, .un, .un] [] = some (sides.map .int, [.fr S, .fr (.int 0), .ol (ms.map .int), .fr (.int c), .un, .un, .un, .un, .un]) := by
    have := lcL_all (vs := [4]) (g := gN 4) (bt := bYes) (ee := eOp dMod (eOp dIdx (eVar 2) (eOp dAdd (eC (.int 2)) (eVar 4))) (eC (.int 2))) (n := [.fr S, .fr (.int 0), .ol (ms.map .int), .fr (.int c), .un, .un, .un, .un, .un]) PyData.int (fun k => .int ((at0 ms (2 + k)).fmod 2)) (upI 0 c) (fun x hx => by
      have hx' := mem_upI.mp hx
      simp [lcT_app, wipeN, hix (2 + x) (by omega) (by omega), m2]) (by rw [upI_len]; exact size_le (by omega))
    rw [this, List.map_map]
    rfl
  let body : Mo Ctl := (sSeq (sSet 7 (eCall dTuple (aCons (eLc [8] (iRange1 (aCons (eVar 3) aNil)) (gN 8) (eT (eOp dGt (eOp dMod (eOp dFdiv (eOp dIdx (eVar 2) (eOp dAdd (eC (.int 10)) (eVar 4))) (eOp dIdx (eLst (aCons (eC (.int 1)) (aCons (eC (.int 3)) (aCons (eC (.int 9)) (aCons (eC (.int 27)) (aCons (eC (.int 81)) (aCons (eC (.int 243)) aNil))))))) (eVar 8))) (eC (.int 3))) (eC (.int 0)))) (eVar 8)) aNil)))
      (sExpr (eApp 6 (eTup (aCons (eVar 7) (aCons (eOp dMod (eOp dIdx (eVar 2) (eOp dAdd (eC (.int 20)) (eVar 4))) (eC (.int 2))) aNil))))))
  obtain ⟨n1, e2, s4, s7, cs, rfl, hl2, hcs⟩ := forL_map (g := gN 4) (body := body) PyData.int
    (fun pre n => ∃ (s4 s7 : Sl) (cs : List Cs), n = [.fr S, .fr (.int 0), .ol (ms.map .int), .fr (.int c), s4, .ol (sides.map .int), .ol (cs.map cD), s7, .un] ∧ cs.length = pre.length ∧ ∀ d ∈ cs, Case c d) (upI 0 q)
    [.fr S, .fr (.int 0), .ol (ms.map .int), .fr (.int c), .un, .ol (sides.map .int), .ol [], .un, .un] ⟨.un, .un, [], rfl, rfl, fun m hm => nomatch hm⟩ (by
      rintro pre x post n e ⟨s4, s7, cs, rfl, hl2, hcs⟩
      have hx : x ∈ upI 0 q := by rw [e]; exact List.mem_append_right _ List.mem_cons_self
      have hx' := mem_upI.mp hx
      have hsz : cs.length < sizeLine := size_lt (by
        have := congrArg List.length e
        rw [upI_len, List.length_append] at this
        omega)
      let pw : Int → Int := at0 [1, 3, 9, 27, 81, 243]
      let on : Int → Bool := fun m => decide (0 < ((at0 ms (10 + x)).fdiv (pw m)).fmod 3)
      have hP : ∀ m : Int, 0 ≤ m → m < 6 → dIdx (.list [.int 1, .int 3, .int 9, .int 27, .int 81, .int 243]) (.int m) = some (.fr (.int (pw m))) := fun m h0 h1 => dIdx_at (ns := [1, 3, 9, 27, 81, 243]) h0 h1
      have hD : ∀ m : Int, 0 ≤ m → m < 6 → divOk (pw m) = true := fun m h0 h1 => by
        have : m = 0 ∨ m = 1 ∨ m = 2 ∨ m = 3 ∨ m = 4 ∨ m = 5 := by omega
        rcases this with rfl | rfl | rfl | rfl | rfl | rfl <;> decide
      let N : En := [.fr S, .fr (.int 0), .ol (ms.map .int), .fr (.int c), .fr (.int x), .ol (sides.map .int), .ol (cs.map cD), s7, .un]
      have e3 := lcL_filter (vs := [8]) (g := gN 8) (bt := eT (eOp dGt (eOp dMod (eOp dFdiv (eOp dIdx (eVar 2) (eOp dAdd (eC (.int 10)) (eVar 4))) (eOp dIdx (eLst (aCons (eC (.int 1)) (aCons (eC (.int 3)) (aCons (eC (.int 9)) (aCons (eC (.int 27)) (aCons (eC (.int 81)) (aCons (eC (.int 243)) aNil))))))) (eVar 8))) (eC (.int 3))) (eC (.int 0)))) (ee := eVar 8) (n := N) PyData.int PyData.int on (upI 0 c) (fun m hm => by
          have hm' := mem_upI.mp hm
          have := hP m (by omega) (by omega)
          have h2 := dFdiv_int (i := at0 ms (10 + x)) (hD m (by omega) (by omega))
          show _ = some (if decide (0 < ((at0 ms (10 + x)).fdiv (pw m)).fmod 3) = true then _ else _, _)
          by_cases hh : 0 < ((at0 ms (10 + x)).fdiv (pw m)).fmod 3 <;>
          simp [N, lcT_app, wipeN, hix (10 + x) (by omega) (by omega), m3, this, h2, hh]) (by rw [upI_len]; exact size_le (by omega))
      refine ⟨_, .inl ?_, .fr (.int x), .fr (.tuple (((upI 0 c).filter on).map .int)), cs ++ [((upI 0 c).filter on, (at0 ms (20 + x)).fmod 2)], rfl, by rw [List.length_append, List.length_append, hl2]; rfl, ?_⟩
      · simp [turn, body, rg1O_ok hrc, rangeD_up, wipeN, backN, notOwn]
        simp only [N] at e3
        simp [e3, hix (20 + x) (by omega) (by omega), m2, hsz, backN, cD]
      · intro d hd
        rcases List.mem_append.mp hd with hd | hd
        · exact hcs d hd
        · rw [List.mem_singleton.mp hd]
          exact ⟨fun m hm => by have := mem_upI.mp (List.mem_filter.mp hm).1; omega, (upI_sorted 0 c).filter _, bit_mod _⟩)
  have hls : sides.length = c := by show ((upI 0 c).map _).length = c; rw [List.length_map, upI_len]
  refine ⟨sides, cs, ⟨by omega, by omega, ?_, ?_, ?_⟩, ?_⟩
  · intro s hs
    obtain ⟨k, _, rfl⟩ := List.mem_map.mp hs
    exact bit_mod _
  · rw [hl2, upI_len]; omega
  · rw [hls]; exact hcs
  · refine den_rt (k := 2) rfl (n' := [.fr S, .fr (.int 0), .ol (ms.map .int), .fr (.int c), s4, .fr (.list (sides.map .int)), .fr (.list (cs.map cD)), s7, .un]) ?_
    simp only [body, S] at e2
    simp only [S] at e1
    simp [v_law_marked, cell_law, e0', hix 0 (by decide) (by decide), hix 1 (by decide) (by decide), m6, m7, hc, hq, rg1O_ok hrc, rg1O_ok hrq, rangeD_up, wipeN, backN, notOwn, e1, e2, S]
end K67

namespace K67
open PySem PySem.Spec PyProof.Rows L2 J
set_option maxHeartbeats 1000000
def On (k : Nat) (ms : List Int) : Prop := ∀ m ∈ ms, 0 ≤ m ∧ m < (k : Int)
def spk (ss ms : List Int) (a : Int) : List Int := ms.filter fun m => decide (at0 ss m = a)
theorem lcL_bools {vs : List Nat} {g : D → En → Option En} {bt : Mo Bool} {ee : Mo Rs} {n : En} (p : Int → Bool) (xs : List Int) (h : ∀ x ∈ xs, lcT vs g bt ee (.int x) n = some (some (.bool (p x)), n)) (hl : xs.length ≤ sizeLine) :
    lcL vs g bt ee (xs.map .int) n [] = some ((xs.map p).map .bool, n) := by
  rw [lcL_all PyData.int (fun x => .bool (p x)) xs h hl, List.map_map]
  rfl
theorem speaking_val {ss ms : List Int} {a : Int} (h : On ss.length ms) (hl : ms.length ≤ sizeLine) : d_speaking [.list (ss.map .int), .tuple (ms.map .int), .int a] = some (.ok (.ol ((spk ss ms a).map .int))) := by
  have e := lcL_filter (vs := [3]) (g := gN 3) (bt := eT (eOp dEq (eOp dIdx (eVar 0) (eVar 3)) (eVar 2))) (ee := eVar 3) (n := [.fr (.list (ss.map .int)), .fr (.tuple (ms.map .int)), .fr (.int a), .un]) PyData.int PyData.int (fun m => decide (at0 ss m = a)) ms (fun m hm => by
    have := dIdx_at (h m hm).1 (h m hm).2
    by_cases hh : at0 ss m = a <;> simp [lcT_app, wipeN, this, hh]) hl
  refine den_ol (k := 3) rfl (n' := [.fr (.list (ss.map .int)), .fr (.tuple (ms.map .int)), .fr (.int a), .un]) ?_
  simp [v_speaking, wipeN, backN, notOwn, e, spk]
def bnd (ss : List Int) (c : Cs) (ms : List Int) : Bool := (spk ss c.1 c.2).all (fun m => decide (m ∈ ms)) && (spk ss ms (1 - c.2)).all (fun m => decide (m ∈ c.1))
theorem all_id {xs : List Int} (p : Int → Bool) : (xs.map p).all id = xs.all p := by
  rw [List.all_map]
  rfl
theorem binds_val {ss ms : List Int} {c : Cs} (hc : On ss.length c.1) (hm : On ss.length ms) (hl : ms.length ≤ 100) (hl2 : c.1.length ≤ 100) : d_binds [.list (ss.map .int), cD c, .tuple (ms.map .int)] = some (.ok (.fr (.bool (bnd ss c ms)))) := by
  obtain ⟨ks, a⟩ := c
  have s1 := speaking_val (a := a) hc (size_le (by show ks.length ≤ _; have : ks.length ≤ 100 := hl2; omega))
  have s2 := speaking_val (a := 1 - a) hm (size_le (by omega))
  let n : En := [.fr (.list (ss.map .int)), .fr (cD (ks, a)), .fr (.tuple (ms.map .int)), .fr (.tuple (ks.map .int)), .fr (.int a), .un]
  have f1 : (spk ss ks a).length ≤ 100 := Nat.le_trans (List.length_filter_le ..) hl2
  have f2 : (spk ss ms (1 - a)).length ≤ 100 := Nat.le_trans (List.length_filter_le ..) hl
  have e1 := lcL_bools (vs := [5]) (g := gN 5) (bt := bYes) (ee := eOp dInR (eVar 5) (eVar 2)) (n := n) (fun m => decide (m ∈ ms)) (spk ss ks a) (fun m hm => by simp [n, lcT_app, wipeN]) (size_le (by omega))
  have e2 := lcL_bools (vs := [5]) (g := gN 5) (bt := bYes) (ee := eOp dInR (eVar 5) (eVar 3)) (n := n) (fun m => decide (m ∈ ks)) (spk ss ms (1 - a)) (fun m hm => by simp [n, lcT_app, wipeN]) (size_le (by omega))
  refine den_rt (k := 3) rfl (n' := n) ?_
  simp only [n] at e1 e2
  cases hA : (spk ss ks a).all (fun m => decide (m ∈ ms)) with
  | false =>
    have hA' : ((spk ss ks a).map (fun m => decide (m ∈ ms))).all id = false := by rw [all_id]; exact hA
    simp only [bnd, hA]
    simp [v_binds, cD, s1, wipeN, backN, notOwn]
    simp only [cD] at e1
    simp [e1, dAll_bools, hA', n, backN, cD, -List.map_map, -List.all_map]
  | true =>
    have hA' : ((spk ss ks a).map (fun m => decide (m ∈ ms))).all id = true := by rw [all_id]; exact hA
    simp only [bnd, hA]
    simp only [cD] at e1 e2
    simp [v_binds, cD, s1, s2, wipeN, backN, notOwn, e1, e2, dAll_bools, hA', all_id, n, -List.map_map, -List.all_map]
end K67

namespace K67
open PySem PySem.Spec PyProof.Rows L2 J
set_option maxHeartbeats 1000000
def f1 (ss : List Int) (a : Int) (ms : List Int) (x : Int) : Bool := decide (at0 ss x = a) && !decide (x ∈ ms)
def f2 (ss : List Int) (a : Int) (ks : List Int) (x : Int) : Bool := !decide (at0 ss x = a) && !decide (x ∈ ks)
def lbnd (ss : List Int) (c : Cs) (ms : List Int) : Bool := !(c.1.any (f1 ss c.2 ms)) && !(ms.any (f2 ss c.2 c.1))
theorem law_binds_val {ss ms : List Int} {c : Cs} (hc : On ss.length c.1) (hm : On ss.length ms) : d_law_binds [.list (ss.map .int), cD c, .tuple (ms.map .int)] = some (.ok (.fr (.bool (lbnd ss c ms)))) := by
  obtain ⟨ks, a⟩ := c
  have L1 := forL_find (g := gN 3) (body := sIf (bAnd (eT (eOp dEq (eOp dIdx (eVar 0) (eVar 3)) (eOp dIdx (eVar 1) (eC (.int 1))))) (eT (eOp dNotIn (eVar 3) (eVar 2)))) (sRet (eC (.bool false))) sNx) PyData.int
    (fun n => ∃ s3, n = [.fr (.list (ss.map .int)), .fr (cD (ks, a)), .fr (.tuple (ms.map .int)), s3]) (f1 ss a ms) (.fr (.bool false)) ks [.fr (.list (ss.map .int)), .fr (cD (ks, a)), .fr (.tuple (ms.map .int)), .un] ⟨.un, rfl⟩ (by
      rintro x hx n ⟨s3, rfl⟩
      have := dIdx_at (hc x hx).1 (hc x hx).2
      constructor
      · intro h
        unfold f1 at h
        rw [Bool.and_eq_true, decide_eq_true_eq, Bool.not_eq_true', decide_eq_false_iff_not] at h
        exact ⟨[.fr (.list (ss.map .int)), .fr (cD (ks, a)), .fr (.tuple (ms.map .int)), .fr (.int x)], by simp [turn, cD, this, h.1, h.2]⟩
      · intro h
        refine ⟨[.fr (.list (ss.map .int)), .fr (cD (ks, a)), .fr (.tuple (ms.map .int)), .fr (.int x)], .inl ?_, ⟨_, rfl⟩⟩
        unfold f1 at h
        by_cases h1 : at0 ss x = a
        · have h2 : x ∈ ms := by
            rw [decide_eq_true h1, Bool.true_and, Bool.not_eq_false', decide_eq_true_eq] at h
            exact h
          simp [turn, cD, this, h1, h2]
        · simp [turn, cD, this, h1])
  have L2 := forL_find (g := gN 3) (body := sIf (bAnd (eT (eOp dNe (eOp dIdx (eVar 0) (eVar 3)) (eOp dIdx (eVar 1) (eC (.int 1))))) (eT (eOp dNotIn (eVar 3) (eOp dIdx (eVar 1) (eC (.int 0)))))) (sRet (eC (.bool false))) sNx) PyData.int
    (fun n => ∃ s3, n = [.fr (.list (ss.map .int)), .fr (cD (ks, a)), .fr (.tuple (ms.map .int)), s3]) (f2 ss a ks) (.fr (.bool false)) ms
  have L2' : ∀ s3, _ := fun s3 => L2 [.fr (.list (ss.map .int)), .fr (cD (ks, a)), .fr (.tuple (ms.map .int)), s3] ⟨s3, rfl⟩ (by
      rintro x hx n ⟨s3, rfl⟩
      have := dIdx_at (hm x hx).1 (hm x hx).2
      constructor
      · intro h
        unfold f2 at h
        rw [Bool.and_eq_true, Bool.not_eq_true', decide_eq_false_iff_not, Bool.not_eq_true', decide_eq_false_iff_not] at h
        exact ⟨[.fr (.list (ss.map .int)), .fr (cD (ks, a)), .fr (.tuple (ms.map .int)), .fr (.int x)], by simp [turn, cD, this, h.1, h.2]⟩
      · intro h
        refine ⟨[.fr (.list (ss.map .int)), .fr (cD (ks, a)), .fr (.tuple (ms.map .int)), .fr (.int x)], .inl ?_, ⟨_, rfl⟩⟩
        unfold f2 at h
        by_cases h1 : at0 ss x = a
        · simp [turn, cD, this, h1]
        · have h2 : x ∈ ks := by
            rw [decide_eq_false h1, Bool.not_false, Bool.true_and, Bool.not_eq_false', decide_eq_true_eq] at h
            exact h
          simp [turn, cD, this, h1, h2])
  obtain ⟨n1, e1, p1⟩ := L1
  have hd : lbnd ss (ks, a) ms = (!(ks.any (f1 ss a ms)) && !(ms.any (f2 ss a ks))) := rfl
  cases h1 : ks.any (f1 ss a ms) with
  | true =>
    rw [h1] at e1
    refine den_rt (k := 3) rfl (n' := n1) ?_
    rw [hd, h1]
    simp only [cD] at e1
    simp [v_law_binds, cD, e1]
  | false =>
    obtain ⟨s3, rfl⟩ := p1 h1
    rw [h1] at e1
    obtain ⟨n2, e2, p2⟩ := L2' s3
    cases h2 : ms.any (f2 ss a ks) with
    | true =>
      rw [h2] at e2
      refine den_rt (k := 3) rfl (n' := n2) ?_
      rw [hd, h1, h2]
      simp only [cD] at e1 e2
      simp [v_law_binds, cD, e1, e2]
    | false =>
      obtain ⟨s3', rfl⟩ := p2 h2
      rw [h2] at e2
      refine den_rt (k := 3) rfl (n' := [.fr (.list (ss.map .int)), .fr (cD (ks, a)), .fr (.tuple (ms.map .int)), s3']) ?_
      rw [hd, h1, h2]
      simp only [cD] at e1 e2
      simp [v_law_binds, cD, e1, e2]
theorem bnd_eq {ss ms : List Int} {c : Cs} (hs : ∀ s ∈ ss, bit s) (hb : bit c.2) (hm : On ss.length ms) : bnd ss c ms = lbnd ss c ms := by
  have hat : ∀ m ∈ ms, bit (at0 ss m) := fun m h => by
    obtain ⟨h0, h1⟩ := hm m h
    have : m.toNat < ss.length := by omega
    unfold at0
    rw [List.getD_eq_getElem?_getD, List.getElem?_eq_getElem this]
    exact hs _ (List.getElem_mem this)
  unfold bnd lbnd spk
  congr 1
  · rw [Bool.eq_iff_iff]
    simp only [List.all_eq_true, List.mem_filter, decide_eq_true_eq, Bool.not_eq_true', List.any_eq_false, f1, Bool.and_eq_true, decide_eq_false_iff_not, not_and, Classical.not_not, and_imp]
  · rw [Bool.eq_iff_iff]
    simp only [List.all_eq_true, List.mem_filter, decide_eq_true_eq, Bool.not_eq_true', List.any_eq_false, f2, Bool.and_eq_true, decide_eq_false_iff_not, not_and, Classical.not_not, and_imp]
    constructor
    · intro h x hx hne
      refine h x hx ?_
      have h1 := hat x hx
      unfold bit at h1 hb
      omega
    · intro h x hx he
      refine h x hx ?_
      have h1 := hat x hx
      unfold bit at h1 hb
      omega
end K67

namespace K67
open PySem PySem.Spec PyProof.Rows L2 J
set_option maxHeartbeats 1000000
theorem same_val : ∀ (m : Nat) (d : D), sm d = true → d.depth < m → d_law_same m [d, d] = some (.ok (.fr (.bool true)))
  | 0, _, _, h => absurd h (Nat.not_lt_zero _)
  | m + 1, .int i, _, _ => by
    refine den_rt (k := 2) rfl (n' := [.fr (.int i), .fr (.int i), .un]) ?_
    simp [v_law_same, isD, dIs, fbl]
  | m + 1, .bool i, _, _ => by
    refine den_rt (k := 2) rfl (n' := [.fr (.bool i), .fr (.bool i), .un]) ?_
    simp [v_law_same, isD, dIs, fbl]
  | m + 1, .none, _, _ => by
    refine den_rt (k := 2) rfl (n' := [.fr .none, .fr .none, .un]) ?_
    simp [v_law_same, isD, dIs, fbl]
  | m + 1, .list ds, h, hd => by
    have h' : (decide (ds.length ≤ 1000000) && sms ds) = true := h
    rw [Bool.and_eq_true, decide_eq_true_eq] at h'
    have hd' : PyData.depthAll ds + 1 < m + 1 := hd
    obtain ⟨n1, e1, s2, rfl⟩ := forL_map (g := gN 2) (body := sIf (bNot (eTr (eFn (d_law_same m) (aCons (eOp dIdx (eVar 0) (eVar 2)) (aCons (eOp dIdx (eVar 1) (eVar 2)) aNil))))) (sRet (eC (.bool false))) sNx) PyData.int
      (fun _ n => ∃ s2, n = [.fr (.list ds), .fr (.list ds), s2]) (upI 0 ds.length) [.fr (.list ds), .fr (.list ds), .un] ⟨.un, rfl⟩ (by
        rintro pre x post n e ⟨s2, rfl⟩
        have hx : x ∈ upI 0 ds.length := by rw [e]; exact List.mem_append_right _ List.mem_cons_self
        have hx' := mem_upI.mp hx
        have hl : x.toNat < ds.length := by omega
        have hi := dIdx_list (i := x) hx'.1 (List.getElem?_eq_getElem hl)
        have hs := sms_at h'.2 (List.getElem?_eq_getElem hl)
        have := same_val m ds[x.toNat] hs.1 (by omega)
        refine ⟨[.fr (.list ds), .fr (.list ds), .fr (.int x)], .inl ?_, ⟨_, rfl⟩⟩
        simp [turn, hi, this])
    refine den_rt (k := 2) rfl (n' := [.fr (.list ds), .fr (.list ds), s2]) ?_
    have hrg : rgOk (ds.length : Int) = true := rgOk_of (by omega) (by omega)
    simp [v_law_same, isD, rg1O_ok hrg, rangeD_up, e1]
  | m + 1, .tuple ds, h, hd => by
    have h' : (decide (ds.length ≤ 1000000) && sms ds) = true := h
    rw [Bool.and_eq_true, decide_eq_true_eq] at h'
    have hd' : PyData.depthAll ds + 1 < m + 1 := hd
    obtain ⟨n1, e1, s2, rfl⟩ := forL_map (g := gN 2) (body := sIf (bNot (eTr (eFn (d_law_same m) (aCons (eOp dIdx (eVar 0) (eVar 2)) (aCons (eOp dIdx (eVar 1) (eVar 2)) aNil))))) (sRet (eC (.bool false))) sNx) PyData.int
      (fun _ n => ∃ s2, n = [.fr (.tuple ds), .fr (.tuple ds), s2]) (upI 0 ds.length) [.fr (.tuple ds), .fr (.tuple ds), .un] ⟨.un, rfl⟩ (by
        rintro pre x post n e ⟨s2, rfl⟩
        have hx : x ∈ upI 0 ds.length := by rw [e]; exact List.mem_append_right _ List.mem_cons_self
        have hx' := mem_upI.mp hx
        have hl : x.toNat < ds.length := by omega
        have hi := dIdx_tup (i := x) hx'.1 (List.getElem?_eq_getElem hl)
        have hs := sms_at h'.2 (List.getElem?_eq_getElem hl)
        have := same_val m ds[x.toNat] hs.1 (by omega)
        refine ⟨[.fr (.tuple ds), .fr (.tuple ds), .fr (.int x)], .inl ?_, ⟨_, rfl⟩⟩
        simp [turn, hi, this])
    refine den_rt (k := 2) rfl (n' := [.fr (.tuple ds), .fr (.tuple ds), s2]) ?_
    have hrg : rgOk (ds.length : Int) = true := rgOk_of (by omega) (by omega)
    simp [v_law_same, isD, rg1O_ok hrg, rangeD_up, e1]
  | _ + 1, .str _, h, _ => nomatch h
  | _ + 1, .dict _, h, _ => nomatch h
end K67

namespace K67
open PySem PySem.Spec PyProof.Rows L2 J
set_option maxHeartbeats 1000000
def mD (e : List Int) : D := .tuple (e.map .int)
theorem all_marks_val (c : Nat) (hc : c ≤ 6) : ∃ es : List (List Int), (∀ e ∈ es, On c e ∧ e.length ≤ 6) ∧ d_law_all_marks [.int c] = some (.ok (.ol (es.map mD))) := by
  have hrg : rgOk (c : Int) = true := rgOk_of (by omega) (by omega)
  obtain ⟨n1, e1, s2, es, rfl, h1, h2⟩ := forL_map (g := gN 2) (body := (sSet 1 (eOp dAdd (eVar 1) (eLc [3] (iSeq (eVar 1)) (gN 3) bYes (eOp dAdd (eVar 3) (eTup (aCons (eVar 2) aNil))))))) PyData.int
    (fun pre n => ∃ s2 es, n = [.fr (.int c), .ol (es.map mD), s2, .un] ∧ es.length ≤ 2 ^ pre.length ∧ ∀ e ∈ es, On c e ∧ e.length ≤ pre.length) (upI 0 c) [.fr (.int c), .ol [.tuple []], .un, .un]
    ⟨.un, [[]], rfl, Nat.le_refl 1, fun e he => by rw [List.mem_singleton.mp he]; exact ⟨fun m hm => (nomatch hm), Nat.le_refl 0⟩⟩ (by
      rintro pre x post n e ⟨s2, es, rfl, h1, h2⟩
      have hx : x ∈ upI 0 c := by rw [e]; exact List.mem_append_right _ List.mem_cons_self
      have hx' := mem_upI.mp hx
      have hlen : pre.length < c := by
        have := congrArg List.length e
        rw [upI_len, List.length_append, List.length_cons] at this
        omega
      have h64 : es.length ≤ 64 := Nat.le_trans h1 (Nat.le_trans (Nat.pow_le_pow_right (by decide) (show pre.length ≤ 6 by omega)) (by decide))
      have e3 := lcL_all (vs := [3]) (g := gN 3) (bt := bYes) (ee := eOp dAdd (eVar 3) (eTup (aCons (eVar 2) aNil))) (n := [.fr (.int c), .fr (.list (es.map mD)), .fr (.int x), .un]) mD (fun e => mD (e ++ [x])) es (fun e he => by
        have hh := h2 e he
        have := dAddT (xs := e.map .int) (ys := [.int x]) (size_le (by rw [List.length_map]; show e.length + 1 ≤ _; omega))
        simp only [mD, List.map_append, List.map_cons, List.map_nil]
        simp [lcT_app, wipeN, this]) (size_le (by omega))
      have e4 := dAddL (xs := es.map mD) (ys := es.map fun e => mD (e ++ [x])) (size_le (by rw [List.length_map, List.length_map]; omega))
      refine ⟨_, .inl ?_, .fr (.int x), es ++ es.map (fun e => e ++ [x]), rfl, ?_, ?_⟩
      · rw [List.map_append, List.map_map]
        have : (mD ∘ fun e => e ++ [x]) = fun e => mD (e ++ [x]) := rfl
        rw [this]
        simp [turn, wipeN, backN, notOwn, e3, e4]
      · rw [List.length_append, List.length_map, List.length_append, List.length_singleton, Nat.pow_succ]
        omega
      · intro d hd
        rw [List.length_append, List.length_singleton]
        rcases List.mem_append.mp hd with hd | hd
        · exact ⟨(h2 d hd).1, Nat.le_succ_of_le (h2 d hd).2⟩
        · obtain ⟨e', he', rfl⟩ := List.mem_map.mp hd
          refine ⟨fun m hm => ?_, by rw [List.length_append, List.length_singleton]; exact Nat.succ_le_succ (h2 e' he').2⟩
          rcases List.mem_append.mp hm with hm | hm
          · exact (h2 e' he').1 m hm
          · rw [List.mem_singleton.mp hm]
            omega)
  refine ⟨es, fun e he => ⟨(h2 e he).1, ?_⟩, ?_⟩
  · have := (h2 e he).2
    rw [upI_len] at this
    omega
  · refine den_ol (k := 1) rfl (n' := [.fr (.int c), .un, s2, .un]) ?_
    simp [v_law_all_marks, rg1O_ok hrg, rangeD_up, e1]
/-! clashes -/
def ca (cs : List Cs) (k : Int) : Cs := cs.getD k.toNat ([], 0)
theorem ca_mem {cs : List Cs} {k : Int} (h0 : 0 ≤ k) (h1 : k < cs.length) : ca cs k ∈ cs := by
  have : k.toNat < cs.length := by omega
  unfold ca
  rw [List.getD_eq_getElem?_getD, List.getElem?_eq_getElem this]
  exact List.getElem_mem this
theorem dIdx_ca {cs : List Cs} {k : Int} (h0 : 0 ≤ k) (h1 : k < cs.length) : dIdx (.list (cs.map cD)) (.int k) = some (.fr (cD (ca cs k))) := by
  have : k.toNat < cs.length := by omega
  refine dIdx_list h0 ?_
  unfold ca
  rw [List.getElem?_map, List.getElem?_eq_getElem this, List.getD_eq_getElem?_getD, List.getElem?_eq_getElem this]
  rfl
def cl (ss : List Int) (cs : List Cs) (k j : Int) : Bool := !decide ((ca cs k).2 = (ca cs j).2) && bnd ss (ca cs k) (ca cs j).1
def pD (k j : Int) : D := .tuple [.int k, .int j]
def pr (ss : List Int) (cs : List Cs) (k j : Int) : Option D := if cl ss cs k j = true then some (pD k j) else none
def prs (ss : List Int) (cs : List Cs) (k : Int) : List D := (upI (k + 1) ((cs.length : Int) - (k + 1)).toNat).filterMap (pr ss cs k)
def told (ss : List Int) (cs : List Cs) : List D := (upI 0 cs.length).flatMap (prs ss cs)
theorem mem_told {ss : List Int} {cs : List Cs} {d : D} (h : d ∈ told ss cs) : ∃ k j : Int, (0 ≤ k ∧ k < cs.length) ∧ (0 ≤ j ∧ j < cs.length) ∧ d = pD k j ∧ cl ss cs k j = true := by
  obtain ⟨k, hk, hd⟩ := List.mem_flatMap.mp h
  obtain ⟨j, hj, hp⟩ := List.mem_filterMap.mp hd
  have hk' := mem_upI.mp hk
  have hj' := mem_upI.mp hj
  unfold pr at hp
  split at hp
  · rename_i hc
    cases hp
    exact ⟨k, j, by omega, by omega, rfl, hc⟩
  · cases hp
theorem card {cs : List Cs} {k : Nat} {c : Cs} (h : Case k c) (hk : k ≤ 6) : c.1.length ≤ 100 := by
  have : ∀ (l : List Int) (lo : Int), l.Pairwise (· < ·) → (∀ m ∈ l, lo ≤ m ∧ m < k) → (l.length : Int) ≤ max 0 (k - lo) := by
    intro l
    induction l with
    | nil => intro lo _ _; show (0 : Int) ≤ _; omega
    | cons a l ih =>
      intro lo hp hm
      rw [List.pairwise_cons] at hp
      have ha := hm a List.mem_cons_self
      have := ih (a + 1) hp.2 (fun m hml => by
        have h1 := hp.1 m hml
        have h2 := hm m (List.mem_cons_of_mem _ hml)
        omega)
      rw [List.length_cons]
      omega
  have := this c.1 0 h.s h.m
  omega
section
variable {ss : List Int} {cs : List Cs}
theorem clash_val (W : World ss cs) {c d : Cs} (hc : c ∈ cs) (hd : d ∈ cs) : d_clash [.list (ss.map .int), cD c, cD d] = some (.ok (.fr (.bool (!decide (c.2 = d.2) && bnd ss c d.1)))) := by
  have b := binds_val (W.c c hc).m (W.c d hd).m (card (cs := cs) (W.c d hd) W.l6) (card (cs := cs) (W.c c hc) W.l6)
  refine den_rt (k := 3) rfl (n' := [.fr (.list (ss.map .int)), .fr (cD c), .fr (cD d)]) ?_
  simp only [cD] at b
  by_cases h : c.2 = d.2
  · simp [v_clash, cD, h]
  · simp [v_clash, cD, h, b]
theorem prs_len {ss : List Int} {cs : List Cs} (h : cs.length ≤ 6) {k : Int} (hk : 0 ≤ k) : (prs ss cs k).length ≤ 6 := by
  unfold prs
  refine Nat.le_trans (List.length_filterMap_le ..) ?_
  rw [upI_len]
  omega
theorem clashes_val (W : World ss cs) : d_clashes [.list (ss.map .int), .list (cs.map cD)] = some (.ok (.ol (told ss cs))) := by
  have hc6 := W.c6
  have hrg : rgOk (cs.length : Int) = true := rgOk_of (by omega) (by omega)
  let n : En := [.fr (.list (ss.map .int)), .fr (.list (cs.map cD)), .fr (.int cs.length), .un, .un]
  have e1 : lcL2 [3, 4] [4] (gN 3) bYes (iRange2 (aCons (eOp dAdd (eVar 3) (eC (.int 1))) (aCons (eVar 2) aNil))) (gN 4) (eTr (eFn d_clash (aCons (eVar 0) (aCons (eOp dIdx (eVar 1) (eVar 3)) (aCons (eOp dIdx (eVar 1) (eVar 4)) aNil))))) (eTup (aCons (eVar 3) (aCons (eVar 4) aNil))) ((upI 0 cs.length).map .int) n [] = some ([] ++ (upI 0 cs.length).flatMap (prs ss cs), n) := by
    refine lcL2_map PyData.int (prs ss cs) 6 36 (upI 0 cs.length) [] (fun k hk => prs_len W.c6 (mem_upI.mp hk).1) (fun k hk acc ha => ?_) (by rw [upI_len]; show 0 + 6 * cs.length ≤ 36; omega)
    have hk' := mem_upI.mp hk
    have hr2 : rgOk (k + 1) = true := rgOk_of (by omega) (by omega)
    let n3 : En := [.fr (.list (ss.map .int)), .fr (.list (cs.map cD)), .fr (.int cs.length), .fr (.int k), .un]
    refine ⟨n3, n3, n3, (upI (k + 1) ((cs.length : Int) - (k + 1)).toNat).map .int, n3, ?_, ?_, ?_, ?_, ?_⟩
    · simp [n, n3]
    · simp
    · simp [n3, rg2O_ok hr2 hrg, rangeD_up]
    · refine lcL_map PyData.int (pr ss cs k) _ acc (fun j hj => ?_) (Nat.le_trans (show _ ≤ 100 by rw [upI_len]; omega) (size_le (by omega)))
      have hj' := mem_upI.mp hj
      have v := clash_val W (ca_mem (cs := cs) (k := k) (by omega) (by omega)) (ca_mem (cs := cs) (k := j) (by omega) (by omega))
      have i1 := dIdx_ca (cs := cs) (k := k) (by omega) (by omega)
      have i2 := dIdx_ca (cs := cs) (k := j) (by omega) (by omega)
      have hcl : (!decide ((ca cs k).2 = (ca cs j).2) && bnd ss (ca cs k) (ca cs j).1) = cl ss cs k j := rfl
      rw [hcl] at v
      unfold pr
      cases hh : cl ss cs k j with
      | true => rw [hh] at v; simp [n3, lcT_app, wipeN, i1, i2, v, pD]
      | false => rw [hh] at v; simp [n3, lcT_app, wipeN, i1, i2, v]
    · simp [n3, n, wipeN]
  refine den_ol (k := 2) rfl (n' := n) ?_
  simp only [n, List.nil_append] at e1
  simp [v_clashes, wipeN, backN, notOwn, rg1O_ok hrg, rangeD_up, e1, n, told]
end
end K67

namespace K67
open PySem PySem.Spec PyProof.Rows L2 J
set_option maxHeartbeats 1000000
section
variable {ss : List Int} {cs : List Cs}
theorem law_clashes_val (W : World ss cs) : d_law_clashes [.list (ss.map .int), .list (cs.map cD)] = some (.ok (.ol (told ss cs))) := by
  have hc6 := W.c6
  have hrg : rgOk (cs.length : Int) = true := rgOk_of (by omega) (by omega)
  let inner : Mo Ctl := (sIf (bAnd (eT (eOp dNe (eOp dIdx (eOp dIdx (eVar 1) (eVar 3)) (eC (.int 1))) (eOp dIdx (eOp dIdx (eVar 1) (eVar 4)) (eC (.int 1))))) (eTr (eFn d_law_binds (aCons (eVar 0) (aCons (eOp dIdx (eVar 1) (eVar 3)) (aCons (eOp dIdx (eOp dIdx (eVar 1) (eVar 4)) (eC (.int 0))) aNil)))))) (sExpr (eApp 2 (eTup (aCons (eVar 3) (aCons (eVar 4) aNil))))) sNx)
  let body : Mo Ctl := (sFor (iRange2 (aCons (eOp dAdd (eVar 3) (eC (.int 1))) (aCons (eCall dLen (aCons (eVar 1) aNil)) aNil))) (gN 4) inner)
  obtain ⟨n1, e1, s3, s4, rfl⟩ := forL_map (g := gN 3) (body := body) PyData.int
    (fun pre n => ∃ s3 s4, n = [.fr (.list (ss.map .int)), .fr (.list (cs.map cD)), .ol (pre.flatMap (prs ss cs)), s3, s4]) (upI 0 cs.length) [.fr (.list (ss.map .int)), .fr (.list (cs.map cD)), .ol [], .un, .un]
    ⟨.un, .un, rfl⟩ (by
      rintro pre k post n e ⟨s3, s4, rfl⟩
      have hk : k ∈ upI 0 cs.length := by rw [e]; exact List.mem_append_right _ List.mem_cons_self
      have hk' := mem_upI.mp hk
      have hr2 : rgOk (k + 1) = true := rgOk_of (by omega) (by omega)
      have hpl : pre.length ≤ 6 := by
        have := congrArg List.length e
        rw [upI_len, List.length_append] at this
        omega
      have hbase : (pre.flatMap (prs ss cs)).length ≤ 36 := by
        have : ∀ l : List Int, (∀ x ∈ l, 0 ≤ x) → (l.flatMap (prs ss cs)).length ≤ 6 * l.length := by
          intro l
          induction l with
          | nil => intro _; exact Nat.le_refl 0
          | cons a l ih =>
            intro h
            have h1 := ih fun x hx => h x (List.mem_cons_of_mem _ hx)
            have h2 := prs_len (ss := ss) (cs := cs) hc6 (h a List.mem_cons_self)
            rw [List.flatMap_cons, List.length_append, List.length_cons]
            omega
        have h := this pre fun x hx => (mem_upI.mp (show x ∈ upI 0 cs.length by rw [e]; exact List.mem_append_left _ hx)).1
        omega
      obtain ⟨n2, e2, s4', rfl⟩ := forL_map (g := gN 4) (body := inner) PyData.int
        (fun pre2 n => ∃ s4, n = [.fr (.list (ss.map .int)), .fr (.list (cs.map cD)), .ol (pre.flatMap (prs ss cs) ++ pre2.filterMap (pr ss cs k)), .fr (.int k), s4]) (upI (k + 1) ((cs.length : Int) - (k + 1)).toNat)
        [.fr (.list (ss.map .int)), .fr (.list (cs.map cD)), .ol (pre.flatMap (prs ss cs)), .fr (.int k), s4] ⟨s4, by rw [List.filterMap_nil, List.append_nil]⟩ (by
          rintro pre2 j post2 n e2 ⟨s4, rfl⟩
          have hj : j ∈ upI (k + 1) ((cs.length : Int) - (k + 1)).toNat := by rw [e2]; exact List.mem_append_right _ List.mem_cons_self
          have hj' := mem_upI.mp hj
          have hp2 : pre2.length ≤ 6 := by
            have := congrArg List.length e2
            rw [upI_len, List.length_append] at this
            omega
          have mk := ca_mem (cs := cs) (k := k) (by omega) (by omega)
          have mj := ca_mem (cs := cs) (k := j) (by omega) (by omega)
          have v := law_binds_val (ss := ss) (c := ca cs k) (ms := (ca cs j).1) (W.c _ mk).m (W.c _ mj).m
          rw [← bnd_eq W.b (W.c _ mk).b (W.c _ mj).m] at v
          have i1 := dIdx_ca (cs := cs) (k := k) (by omega) (by omega)
          have i2 := dIdx_ca (cs := cs) (k := j) (by omega) (by omega)
          have hsz : (pre.flatMap (prs ss cs) ++ pre2.filterMap (pr ss cs k)).length < sizeLine := size_lt (by
            have := List.length_filterMap_le (pr ss cs k) pre2
            rw [List.length_append]
            omega)
          have hcl : cl ss cs k j = (!decide ((ca cs k).2 = (ca cs j).2) && bnd ss (ca cs k) (ca cs j).1) := rfl
          refine ⟨_, .inl ?_, .fr (.int j), rfl⟩
          rw [List.filterMap_append, ← List.append_assoc]
          simp only [cD] at v i1 i2
          by_cases ha : (ca cs k).2 = (ca cs j).2
          · have hpr : pr ss cs k j = none := by unfold pr; rw [hcl, decide_eq_true ha]; rfl
            rw [List.filterMap_cons_none hpr]
            simp [turn, inner, i1, i2, ha]
          · cases hb : bnd ss (ca cs k) (ca cs j).1 with
            | false =>
              have hpr : pr ss cs k j = none := by unfold pr; rw [hcl, hb, Bool.and_false]; rfl
              rw [List.filterMap_cons_none hpr]
              rw [hb] at v
              simp [turn, inner, i1, i2, ha, v]
            | true =>
              have hpr : pr ss cs k j = some (pD k j) := by unfold pr; rw [hcl, hb, decide_eq_false ha]; rfl
              rw [List.filterMap_cons_some hpr]
              rw [hb] at v
              generalize pre.flatMap (prs ss cs) = base at hsz ⊢
              generalize pre2.filterMap (pr ss cs k) = base2 at hsz ⊢
              rw [List.length_append] at hsz
              simp [turn, inner, i1, i2, ha, v, hsz, pD])
      refine ⟨_, .inl ?_, .fr (.int k), s4', rfl⟩
      rw [List.flatMap_append]
      simp [turn, body, rg2O_ok hr2 hrg, rangeD_up, e2, prs])
  refine den_ol (k := 2) rfl (n' := [.fr (.list (ss.map .int)), .fr (.list (cs.map cD)), .un, s3, s4]) ?_
  simp only [body, inner] at e1
  simp [v_law_clashes, rg1O_ok hrg, rangeD_up, e1, told]
end
end K67

namespace K67
open PySem PySem.Spec PyProof.Rows L2 J
set_option maxHeartbeats 2000000
section
variable {ss : List Int} {cs : List Cs}
theorem bnd_iff {c : Cs} {ms : List Int} : bnd ss c ms = true ↔ (∀ m ∈ c.1, at0 ss m = c.2 → m ∈ ms) ∧ (∀ m ∈ ms, at0 ss m = 1 - c.2 → m ∈ c.1) := by
  unfold bnd spk
  simp only [Bool.and_eq_true, List.all_eq_true, List.mem_filter, decide_eq_true_eq, and_imp]
/-- a mark that speaks for the answer added, another one taken away -/
def later (ss : List Int) (c : Cs) (ms : List Int) (x : Int) : List Int := if at0 ss x = c.2 then sortI (ms.filter (fun m => !decide (m = x)) ++ [x]) else ms.filter (fun m => !decide (m = x))
theorem mem_later {c : Cs} {ms : List Int} {x m : Int} : m ∈ later ss c ms x ↔ (m ∈ ms ∧ m ≠ x) ∨ (m = x ∧ at0 ss x = c.2) := by
  unfold later
  split
  · rename_i h
    rw [(sortI_perm _).mem_iff, List.mem_append, List.mem_singleton, List.mem_filter]
    simp [h]
  · rename_i h
    rw [List.mem_filter]
    simp [h]
theorem later_len {c : Cs} {ms : List Int} {x : Int} (h : ms.length ≤ 6) : (later ss c ms x).length ≤ 100 := by
  have := List.length_filter_le (fun m => !decide (m = x)) ms
  unfold later
  split
  · rw [(sortI_perm _).length_eq, List.length_append, List.length_singleton]
    omega
  · omega
theorem later_bnd {c : Cs} {ms : List Int} {x : Int} (hb : bit c.2) (h : bnd ss c ms = true) : bnd ss c (later ss c ms x) = true := by
  rw [bnd_iff] at h ⊢
  obtain ⟨h1, h2⟩ := h
  unfold bit at hb
  constructor
  · intro m hm ha
    rw [mem_later]
    by_cases e : m = x
    · exact .inr ⟨e, by rw [← e]; exact ha⟩
    · exact .inl ⟨h1 m hm ha, e⟩
  · intro m hm ha
    rw [mem_later] at hm
    rcases hm with ⟨hm, _⟩ | ⟨rfl, hm⟩
    · exact h2 m hm ha
    · omega
theorem clash_both (W : World ss cs) {c d : Cs} (hc : c ∈ cs) (hd : d ∈ cs) (hne : c.2 ≠ d.2) (h : bnd ss c d.1 = true) : bnd ss d c.1 = true := by
  rw [bnd_iff] at h ⊢
  have b1 := (W.c c hc).b
  have b2 := (W.c d hd).b
  unfold bit at b1 b2
  exact ⟨fun m hm ha => h.2 m hm (by omega), fun m hm ha => h.1 m hm (by omega)⟩
end
theorem sm_told (ss : List Int) (cs : List Cs) (h : (told ss cs).length ≤ 1000000) : sm (.list (told ss cs)) = true ∧ (PyData.list (told ss cs)).depth < 12 := by
  have hp : ∀ d ∈ told ss cs, ∃ k j, d = pD k j := fun d hd => by
    obtain ⟨k, j, _, _, e, _⟩ := mem_told hd
    exact ⟨k, j, e⟩
  constructor
  · show (decide ((told ss cs).length ≤ 1000000) && sms (told ss cs)) = true
    rw [decide_eq_true h, sms_all fun d hd => by
      obtain ⟨k, j, rfl⟩ := hp d hd
      rfl]
    rfl
  · show PyData.depthAll (told ss cs) + 1 < 12
    have := depthAll_le (k := 1) (ds := told ss cs) fun d hd => by
      obtain ⟨k, j, rfl⟩ := hp d hd
      exact Nat.le_refl 1
    omega
theorem told_len {ss : List Int} {cs : List Cs} (h : cs.length ≤ 6) : (told ss cs).length ≤ 36 := by
  have : ∀ l : List Int, (∀ x ∈ l, 0 ≤ x) → (l.flatMap (prs ss cs)).length ≤ 6 * l.length := by
    intro l
    induction l with
    | nil => intro _; exact Nat.le_refl 0
    | cons a l ih =>
      intro hx
      have h1 := ih fun x hm => hx x (List.mem_cons_of_mem _ hm)
      have h2 := prs_len (ss := ss) (cs := cs) h (hx a List.mem_cons_self)
      rw [List.flatMap_cons, List.length_append, List.length_cons]
      omega
  have := this (upI 0 cs.length) fun x hx => (mem_upI.mp hx).1
  rw [upI_len] at this
  show ((upI 0 cs.length).flatMap (prs ss cs)).length ≤ 36
  omega
def worldD (ss : List Int) (cs : List Cs) : List D := [.list (ss.map .int), .list (cs.map cD)]
theorem world_box {ss : List Int} {cs : List Cs} (W : World ss cs) : Box (.tuple (worldD ss cs)) 4 4000 := by
  have l6 := W.l6
  have c6 := W.c6
  have b1 : Box (.list (ss.map .int)) 1 (3 + 26 * 6) := (box_list (dp := 0) (wd := 24) (ds := ss.map .int) fun d hd => by
    obtain ⟨s, hs, rfl⟩ := List.mem_map.mp hd
    have := W.b s hs
    unfold bit at this
    exact box_int (by have : s.natAbs < 10 := by omega
                      exact Nat.lt_of_lt_of_le this (by decide))).mono (Nat.le_refl _) (by rw [List.length_map]; omega)
  have b2 : Box (.list (cs.map cD)) 3 (3 + 2800) := (box_list (dp := 2) (wd := 400) (ds := cs.map cD) fun d hd => by
    obtain ⟨c, hc, rfl⟩ := List.mem_map.mp hd
    have C := W.c c hc
    have hl := card (cs := cs) C l6
    have hl6 : c.1.length ≤ 6 := by
      have : ∀ (l : List Int) (lo : Int), l.Pairwise (· < ·) → (∀ m ∈ l, lo ≤ m ∧ m < ss.length) → (l.length : Int) ≤ max 0 (ss.length - lo) := by
        intro l
        induction l with
        | nil => intro lo _ _; show (0 : Int) ≤ _; omega
        | cons a l ih =>
          intro lo hp hm
          rw [List.pairwise_cons] at hp
          have ha := hm a List.mem_cons_self
          have := ih (a + 1) hp.2 (fun m hml => by
            have h1 := hp.1 m hml
            have h2 := hm m (List.mem_cons_of_mem _ hml)
            omega)
          rw [List.length_cons]
          omega
      have := this c.1 0 C.s C.m
      omega
    have q1 : Box (.tuple (c.1.map .int)) 1 (3 + 26 * 6) := (box_tuple (dp := 0) (wd := 24) (ds := c.1.map .int) fun d hd => by
      obtain ⟨s, hs, rfl⟩ := List.mem_map.mp hd
      have := C.m s hs
      exact box_int (by have : s.natAbs < 10 := by omega
                        exact Nat.lt_of_lt_of_le this (by decide))).mono (Nat.le_refl _) (by rw [List.length_map]; omega)
    have q2 : Box (.int c.2) 0 24 := box_int (by
      have := C.b
      unfold bit at this
      have : c.2.natAbs < 10 := by omega
      exact Nat.lt_of_lt_of_le this (by decide))
    exact (box_two q1 q2).mono (by decide) (by decide)).mono (Nat.le_refl _) (by rw [List.length_map]; omega)
  exact (box_two b1 b2).mono (by decide) (by decide)
end K67

namespace K67
open PySem PySem.Spec PyProof.Rows L2 J
set_option maxHeartbeats 4000000
noncomputable def bodyC : Mo Ctl := (sSeq (sSet 9 (eCall dTuple (aCons (eLc [14] (iSeq (eVar 6)) (gN 14) (eT (eOp dNe (eVar 14) (eVar 8))) (eVar 14)) aNil)))
            (sSeq (sIf (eT (eOp dEq (eOp dIdx (eVar 1) (eVar 8)) (eOp dIdx (eVar 5) (eC (.int 1))))) (sSet 9 (eCall dTuple (aCons (eCall (fun ds => (dSorted ds).or (dSortedT ds)) (aCons (eOp dAdd (eVar 9) (eTup (aCons (eVar 8) aNil))) aNil)) aNil))) sNx)
            (sIf (bNot (eTr (eFn d_binds (aCons (eVar 1) (aCons (eVar 5) (aCons (eVar 9) aNil)))))) (sRet (eC (.bool false))) sNx)))
noncomputable def bodyB : Mo Ctl := (sSeq (sSet 7 (eFn d_law_binds (aCons (eVar 1) (aCons (eVar 5) (aCons (eVar 6) aNil)))))
        (sSeq (sIf (bNot (eTr (eFn (d_law_same 12) (aCons (eFn d_binds (aCons (eVar 1) (aCons (eVar 5) (aCons (eVar 6) aNil)))) (aCons (eVar 7) aNil))))) (sRet (eC (.bool false))) sNx)
        (sIf (eTr (eVar 7)) (sFor (iRange1 (aCons (eCall dLen (aCons (eVar 1) aNil)) aNil)) (gN 8) bodyC) sNx)))
noncomputable def bodyA : Mo Ctl := (sFor (iSeq (eVar 4)) (gN 6) bodyB)
noncomputable def bodyE : Mo Ctl := (sIf (bOr (bNot (eTr (eFn d_binds (aCons (eVar 1) (aCons (eOp dIdx (eVar 2) (eVar 13)) (aCons (eOp dIdx (eOp dIdx (eVar 2) (eVar 12)) (eC (.int 0))) aNil)))))) (bNot (eTr (eFn d_binds (aCons (eVar 1) (aCons (eOp dIdx (eVar 2) (eVar 12)) (aCons (eOp dIdx (eOp dIdx (eVar 2) (eVar 13)) (eC (.int 0))) aNil))))))) (sRet (eC (.bool false))) sNx)
noncomputable def bodyD : Mo Ctl := (sSeq (sSet 11 (eFn d_clashes (aCons (eVar 1) (aCons (eVar 2) aNil))))
      (sSeq (sIf (bOr (bNot (eTr (eFn (d_law_same 12) (aCons (eVar 11) (aCons (eFn d_law_clashes (aCons (eVar 1) (aCons (eVar 2) aNil))) aNil))))) (eT (eOp dNe (eCall dRepr (aCons (eTup (aCons (eVar 1) (aCons (eVar 2) aNil))) aNil)) (eVar 3)))) (sRet (eC (.bool false))) sNx)
      (sSeq (sForO 11 (gT 2 (gsC (gN 12) (gsC (gN 13) gs0))) bodyE)
      (sExpr (eApp 11 (eTup (aCons (eC (.int 0)) (aCons (eC (.int 0)) aNil))))))))
section
variable {ss : List Int} {cs : List Cs} {S k3 : D} {es : List (List Int)}
/-- the slots from the fifth on -/
def env (S : D) (ss : List Int) (cs : List Cs) (k3 : D) (l : List Sl) : En := .fr S :: .fr (.list (ss.map .int)) :: .fr (.list (cs.map cD)) :: .fr k3 :: l
theorem turnC (W : World ss cs) {c : Cs} (hc : c ∈ cs) {e : List Int} (he : On ss.length e) (hl : e.length ≤ 6) (hb : bnd ss c e = true) {x : Int} (hx : 0 ≤ x ∧ x < ss.length) {s4 s7 s8 s9 : Sl} :
    turn (gN 8) bodyC (.int x) (env S ss cs k3 [s4, .fr (cD c), .fr (mD e), s7, s8, s9, .un, .un, .un, .un, .un]) = some (.ok .nx (env S ss cs k3 [s4, .fr (cD c), .fr (mD e), s7, .fr (.int x), .fr (.tuple ((later ss c e x).map .int)), .un, .un, .un, .un, .un])) := by
  have i1 := dIdx_at hx.1 hx.2
  have e1 := lcL_filter (vs := [14]) (g := gN 14) (bt := eT (eOp dNe (eVar 14) (eVar 8))) (ee := eVar 14) (n := env S ss cs k3 [s4, .fr (cD c), .fr (mD e), s7, .fr (.int x), s9, .un, .un, .un, .un, .un]) PyData.int PyData.int (fun m => !decide (m = x)) e (fun m hm => by
    by_cases h : m = x <;> simp [env, lcT_app, wipeN, h]) (size_le (by omega))
  have hon : On ss.length (later ss c e x) := fun m hm => by
    rcases mem_later.mp hm with ⟨h, _⟩ | ⟨h, _⟩
    · exact he m h
    · rw [h]; exact hx
  have v := binds_val (W.c c hc).m hon (later_len hl) (card (cs := cs) (W.c c hc) W.l6)
  rw [later_bnd (W.c c hc).b hb] at v
  have hfl : (e.filter (fun m => !decide (m = x))).length ≤ 6 := Nat.le_trans (List.length_filter_le ..) hl
  have a1 := dAddT (xs := (e.filter (fun m => !decide (m = x))).map .int) (ys := [.int x]) (size_le (by rw [List.length_map]; show _ + 1 ≤ _; omega))
  have so := dSortedT_ints (e.filter (fun m => !decide (m = x)) ++ [x])
  have sn : dSorted [.tuple ((e.filter (fun m => !decide (m = x)) ++ [x]).map .int)] = none := rfl
  rw [List.map_append] at so sn
  generalize hF : e.filter (fun m => !decide (m = x)) = F at *
  simp only [env, mD, cD] at e1 v ⊢
  by_cases h : at0 ss x = c.2
  · have hla : later ss c e x = sortI (F ++ [x]) := by unfold later; rw [if_pos h, hF]
    rw [hla] at v ⊢
    simp only [List.map_cons, List.map_nil] at so sn
    simp [turn, bodyC, wipeN, backN, notOwn, e1, i1, h, a1, so, sn, v]
  · have hla : later ss c e x = F := by unfold later; rw [if_neg h, hF]
    rw [hla] at v ⊢
    simp [turn, bodyC, wipeN, backN, notOwn, e1, i1, h, v]
theorem turnB (W : World ss cs) {c : Cs} (hc : c ∈ cs) {e : List Int} (he : On ss.length e) (hl : e.length ≤ 6) {s4 s6 s7 s8 s9 : Sl} :
    ∃ s7' s8' s9', turn (gN 6) bodyB (mD e) (env S ss cs k3 [s4, .fr (cD c), s6, s7, s8, s9, .un, .un, .un, .un, .un]) = some (.ok .nx (env S ss cs k3 [s4, .fr (cD c), .fr (mD e), s7', s8', s9', .un, .un, .un, .un, .un])) := by
  have l6 := W.l6
  have hrg : rgOk (ss.length : Int) = true := rgOk_of (by omega) (by omega)
  have v1 := law_binds_val (W.c c hc).m he
  rw [← bnd_eq W.b (W.c c hc).b he] at v1
  have v2 := binds_val (W.c c hc).m he (by omega) (card (cs := cs) (W.c c hc) W.l6)
  have v3 := same_val 12 (.bool (bnd ss c e)) rfl (Nat.zero_lt_succ 11)
  cases hb : bnd ss c e with
  | false =>
    rw [hb] at v1 v2 v3
    refine ⟨.fr (.bool false), s8, s9, ?_⟩
    simp only [cD] at v1 v2
    simp [turn, bodyB, env, mD, cD, v1, v2, v3]
  | true =>
    rw [hb] at v1 v2 v3
    obtain ⟨n1, e1, s8', s9', rfl⟩ := forL_map (g := gN 8) (body := bodyC) PyData.int
      (fun _ n => ∃ s8 s9, n = env S ss cs k3 [s4, .fr (cD c), .fr (mD e), .fr (.bool true), s8, s9, .un, .un, .un, .un, .un]) (upI 0 ss.length) (env S ss cs k3 [s4, .fr (cD c), .fr (mD e), .fr (.bool true), s8, s9, .un, .un, .un, .un, .un]) ⟨s8, s9, rfl⟩ (by
        rintro pre x post n ee ⟨s8, s9, rfl⟩
        have hx : x ∈ upI 0 ss.length := by rw [ee]; exact List.mem_append_right _ List.mem_cons_self
        have hx' := mem_upI.mp hx
        exact ⟨_, .inl (turnC W hc he hl hb (by omega)), _, _, rfl⟩)
    refine ⟨.fr (.bool true), s8', s9', ?_⟩
    simp only [cD, mD, env] at v1 v2 e1
    simp [turn, bodyB, env, mD, cD, v1, v2, v3, rg1O_ok hrg, rangeD_up, e1]
theorem turnA (W : World ss cs) {c : Cs} (hc : c ∈ cs) (hes : ∀ e ∈ es, On ss.length e ∧ e.length ≤ 6) {s4 s5 s6 s7 s8 s9 : Sl} (h4 : s4 = .ol (es.map mD) ∨ s4 = .fr (.list (es.map mD))) :
    ∃ s6' s7' s8' s9', turn (gN 5) bodyA (cD c) (env S ss cs k3 [s4, s5, s6, s7, s8, s9, .un, .un, .un, .un, .un]) = some (.ok .nx (env S ss cs k3 [.fr (.list (es.map mD)), .fr (cD c), s6', s7', s8', s9', .un, .un, .un, .un, .un])) := by
  obtain ⟨n1, e1, s6', s7', s8', s9', rfl⟩ := forL_map (g := gN 6) (body := bodyB) mD
    (fun _ n => ∃ s6 s7 s8 s9, n = env S ss cs k3 [.fr (.list (es.map mD)), .fr (cD c), s6, s7, s8, s9, .un, .un, .un, .un, .un]) es (env S ss cs k3 [.fr (.list (es.map mD)), .fr (cD c), s6, s7, s8, s9, .un, .un, .un, .un, .un]) ⟨s6, s7, s8, s9, rfl⟩ (by
      rintro pre e post n ee ⟨s6, s7, s8, s9, rfl⟩
      have he : e ∈ es := by rw [ee]; exact List.mem_append_right _ List.mem_cons_self
      obtain ⟨a, b, d, h⟩ := turnB (S := S) (k3 := k3) (s4 := .fr (.list (es.map mD))) (s6 := s6) (s7 := s7) (s8 := s8) (s9 := s9) W hc (hes e he).1 (hes e he).2
      exact ⟨_, .inl h, _, _, _, _, rfl⟩)
  refine ⟨s6', s7', s8', s9', ?_⟩
  simp only [env] at e1
  rcases h4 with rfl | rfl <;> simp [turn, bodyA, env, e1]
def nxt (d : D) (p : Sl × Sl) : Sl × Sl := match d with
  | .tuple [x, y] => (.fr x, .fr y)
  | _ => p
theorem turnE (W : World ss cs) {d : D} (hd : d ∈ told ss cs) {a : Addr} {l5 : List Sl} (hl5 : l5.length = 7) {p : Sl × Sl} :
    turn (gT 2 (gsC (gN 12) (gsC (gN 13) gs0))) bodyE d (env S ss cs k3 (l5 ++ [.pin a, p.1, p.2, .un])) = some (.ok .nx (env S ss cs k3 (l5 ++ [.pin a, (nxt d p).1, (nxt d p).2, .un]))) := by
  obtain ⟨k, j, hk, hj, rfl, hcl⟩ := mem_told hd
  have mk := ca_mem (cs := cs) hk.1 hk.2
  have mj := ca_mem (cs := cs) hj.1 hj.2
  have i1 := dIdx_ca (cs := cs) hk.1 hk.2
  have i2 := dIdx_ca (cs := cs) hj.1 hj.2
  unfold cl at hcl
  rw [Bool.and_eq_true, Bool.not_eq_true', decide_eq_false_iff_not] at hcl
  have v1 := binds_val (W.c _ mk).m (W.c _ mj).m (card (cs := cs) (W.c _ mj) W.l6) (card (cs := cs) (W.c _ mk) W.l6)
  have v2 := binds_val (W.c _ mj).m (W.c _ mk).m (card (cs := cs) (W.c _ mk) W.l6) (card (cs := cs) (W.c _ mj) W.l6)
  rw [hcl.2] at v1
  rw [clash_both W mk mj hcl.1 hcl.2] at v2
  have hn : nxt (pD k j) p = (.fr (.int k), .fr (.int j)) := rfl
  rw [hn]
  match l5, hl5 with
  | [a1, a2, a3, a4, a5, a6, a7], _ =>
    simp only [cD] at v1 v2 i1 i2
    simp [turn, bodyE, env, pD, i1, i2, v1, v2]
theorem loopE (W : World ss cs) {l5 : List Sl} (hl5 : l5.length = 7) {s12 s13 : Sl} :
    ∃ q : Sl × Sl, sForO 11 (gT 2 (gsC (gN 12) (gsC (gN 13) gs0))) bodyE (env S ss cs k3 (l5 ++ [.ol (told ss cs), s12, s13, .un])) = some (.ok .nx (env S ss cs k3 (l5 ++ [.ol (told ss cs), q.1, q.2, .un]))) := by
  refine ⟨(told ss cs).foldl (fun p d => nxt d p) (s12, s13), ?_⟩
  have key : ∀ x : Sl, ∀ y z : Sl, (env S ss cs k3 (l5 ++ [x, y, z, .un]))[11]? = some x ∧ ∀ w, (env S ss cs k3 (l5 ++ [x, y, z, .un])).set 11 w = env S ss cs k3 (l5 ++ [w, y, z, .un]) := fun x y z => by
    match l5, hl5 with
    | [a1, a2, a3, a4, a5, a6, a7], _ => exact ⟨rfl, fun _ => rfl⟩
  have h := sForO_of (j := 11) (g := gT 2 (gsC (gN 12) (gsC (gN 13) gs0))) (body := bodyE) (ds := told ss cs) (n := env S ss cs k3 (l5 ++ [.ol (told ss cs), s12, s13, .un])) (c := .nx)
    (nf := env S ss cs k3 (l5 ++ [.ol (told ss cs), ((told ss cs).foldl (fun p d => nxt d p) (s12, s13)).1, ((told ss cs).foldl (fun p d => nxt d p) (s12, s13)).2, .un])) (key _ _ _).1 (fun a => by
      rw [(key _ _ _).2, (key _ _ _).2]
      obtain ⟨n', e1, rfl⟩ := forL_inv (g := gT 2 (gsC (gN 12) (gsC (gN 13) gs0))) (body := bodyE) (fun pre n => n = env S ss cs k3 (l5 ++ [.pin a, (pre.foldl (fun p d => nxt d p) (s12, s13)).1, (pre.foldl (fun p d => nxt d p) (s12, s13)).2, .un])) (told ss cs) [] (env S ss cs k3 (l5 ++ [.pin a, s12, s13, .un])) rfl (by
        rintro pre d post n _ rfl hd
        refine ⟨_, .inl (turnE W hd hl5), ?_⟩
        rw [List.foldl_append]
        rfl)
      exact e1) (by
        match l5, hl5 with
        | [a1, a2, a3, a4, a5, a6, a7], _ => exact (by decide : 11 < 15))
  rw [(key _ _ _).2] at h
  exact h
theorem turnD (W : World ss cs) {x : Int} {s4 s5 s6 s7 s8 s9 s10 s11 s12 s13 : Sl} (hr : dRepr [.tuple (worldD ss cs)] = some (.fr k3)) (hk : dNe k3 k3 = some (.fr (.bool false))) :
    ∃ l5 s11' s12' s13', l5.length = 7 ∧ turn (gN 10) bodyD (.int x) (env S ss cs k3 ([s4, s5, s6, s7, s8, s9, s10] ++ [s11, s12, s13, .un])) = some (.ok .nx (env S ss cs k3 (l5 ++ [s11', s12', s13', .un]))) := by
  have hl := told_len (ss := ss) W.c6
  obtain ⟨h1, h2⟩ := sm_told ss cs (by omega)
  have v1 := clashes_val W
  have v2 := law_clashes_val W
  have v3 := same_val 12 _ h1 h2
  obtain ⟨q, e1⟩ := loopE (S := S) (k3 := k3) W (l5 := [s4, s5, s6, s7, s8, s9, .fr (.int x)]) rfl (s12 := s12) (s13 := s13)
  have hsz : (told ss cs).length < sizeLine := size_lt (by omega)
  refine ⟨[s4, s5, s6, s7, s8, s9, .fr (.int x)], .ol (told ss cs ++ [.tuple [.int 0, .int 0]]), q.1, q.2, rfl, ?_⟩
  simp only [env, List.cons_append, List.nil_append] at e1
  simp only [worldD] at hr
  generalize told ss cs = T at *
  simp [turn, bodyD, env, v1, v2, v3, loose, flatD, hr, hk, e1, hsz]
end
end K67

namespace K67
open PySem PySem.Spec PyProof.Rows L2 J
set_option maxHeartbeats 4000000
theorem v_law_eq : v_law = (sSeq (sTup (gT 2 (gsC (gN 1) (gsC (gN 2) gs0))) (eFn d_law_marked (aCons (eVar 0) (aCons (eC (.int 0)) aNil))))
    (sSeq (sSet 3 (eCall dRepr (aCons (eTup (aCons (eVar 1) (aCons (eVar 2) aNil))) aNil)))
    (sSeq (sSet 4 (eFn d_law_all_marks (aCons (eCall dLen (aCons (eVar 1) aNil)) aNil)))
    (sSeq (sFor (iSeq (eVar 2)) (gN 5) bodyA)
    (sSeq (sFor (iRange1 (aCons (eC (.int 2)) aNil)) (gN 10) bodyD)
    (sRet (eC (.bool true)))))))) := rfl
theorem law_true : ∀ ns : List Int, ns.length ≤ 63 → d_law [.dict [(.none, .list (ns.map .int))]] = some (.ok (.fr (.bool true))) := by
  intro ns _
  obtain ⟨ss, cs, W, e0⟩ := marked_law ns
  have l6 := W.l6
  obtain ⟨es, hes, e1⟩ := all_marks_val ss.length l6
  let S : D := .dict [(.none, .list (ns.map .int))]
  let k3 : D := .str (PyData.shown (.tuple (worldD ss cs)))
  have B := world_box W
  have hr : dRepr [.tuple (worldD ss cs)] = some (.fr k3) := dRepr_tup (B.repr (by decide) (by decide))
  have hok := shown_ok _ B.t
  have hk : dNe k3 k3 = some (.fr (.bool false)) := by
    rw [dNe_str hok hok, decide_eq_true rfl]
    rfl
  obtain ⟨n1, a1, s4, s5, s6, s7, s8, s9, h4, rfl⟩ := forL_map (g := gN 5) (body := bodyA) cD
    (fun _ n => ∃ s4 s5 s6 s7 s8 s9, (s4 = .ol (es.map mD) ∨ s4 = .fr (.list (es.map mD))) ∧ n = env S ss cs k3 [s4, s5, s6, s7, s8, s9, .un, .un, .un, .un, .un]) cs
    (env S ss cs k3 [.ol (es.map mD), .un, .un, .un, .un, .un, .un, .un, .un, .un, .un]) ⟨_, _, _, _, _, _, .inl rfl, rfl⟩ (by
      rintro pre c post n ee ⟨s4, s5, s6, s7, s8, s9, h4, rfl⟩
      have hc : c ∈ cs := by rw [ee]; exact List.mem_append_right _ List.mem_cons_self
      obtain ⟨a, b, d, f, h⟩ := turnA (S := S) (k3 := k3) (s5 := s5) (s6 := s6) (s7 := s7) (s8 := s8) (s9 := s9) W hc hes h4
      exact ⟨_, .inl h, _, _, _, _, _, _, .inr rfl, rfl⟩)
  obtain ⟨n2, a2, l5, s11, s12, s13, hl5, rfl⟩ := forL_map (g := gN 10) (body := bodyD) PyData.int
    (fun _ n => ∃ l5 s11 s12 s13, l5.length = 7 ∧ n = env S ss cs k3 (l5 ++ [s11, s12, s13, .un])) (upI 0 2)
    (env S ss cs k3 ([s4, s5, s6, s7, s8, s9, .un] ++ [.un, .un, .un, .un])) ⟨_, _, _, _, rfl, rfl⟩ (by
      rintro pre x post n ee ⟨l5, s11, s12, s13, hl5, rfl⟩
      match l5, hl5 with
      | [b4, b5, b6, b7, b8, b9, b10], _ =>
        obtain ⟨l5', s11', s12', s13', h5, h⟩ := turnD (x := x) (S := S) (k3 := k3) (s4 := b4) (s5 := b5) (s6 := b6) (s7 := b7) (s8 := b8) (s9 := b9) (s10 := b10) (s11 := s11) (s12 := s12) (s13 := s13) W hr hk
        exact ⟨_, .inl h, _, _, _, _, h5, rfl⟩)
  have hrg2 : rgOk (2 : Int) = true := rgOk_of (by decide) (by decide)
  have hT : (2 : Int).toNat = 2 := rfl
  refine den_rt (k := 1) rfl (n' := env S ss cs k3 (l5 ++ [s11, s12, s13, .un])) ?_
  rw [v_law_eq]
  simp only [env, List.cons_append, List.nil_append] at a1 a2
  simp only [worldD] at hr
  have hss : ((ss.map PyData.int).length : Int) = ss.length := by rw [List.length_map]
  simp only [S] at a1 a2 ⊢
  simp [env, e0, hr, e1, a1, rg1O_ok hrg2, rangeD_up, hT, a2]
end K67

open PySem PySem.W PyProof.Rows
set_option maxHeartbeats 0 in
theorem PySem.Challenge.cw_juriesagree_k67_earlier_cases_that_bind_holds : PySem.Challenge.rw_juriesagree_k67_earlier_cases_that_bind.Holds := by
  w_on; o_law; k_head; (case hw => w_witness2)
  k_fill
  refine J.walk_j (l := PySem.Challenge.rw_juriesagree_k67_earlier_cases_that_bind) (n := 63) (x := "script") (den := K67.d_law) rfl (by decide) rfl (fun w h Y => PySem.W.kIn_of Y) ?F K67.law_true
  case F =>
    intro w mg fa h KX G hmg
    refine' K67.all_mk KX G hmg ?a0 ?l0 ?c0 ?k0 ?a1 ?l1 ?c1 ?k1 ?a2 ?l2 ?c2 ?k2 ?a3 ?l3 ?c3 ?k3 ?a4 ?l4 ?c4 ?k4 ?a5 ?l5 ?c5 ?k5 ?a6 ?l6 ?c6 ?k6 ?a7 ?l7 ?c7 ?k7 ?a8 ?l8 ?c8 ?k8 ?a9 ?l9 ?c9 ?k9 ?a10 ?l10 ?c10 ?k10 ?a11 ?l11 ?c11 ?k11 ?z0 ?z1 ?z2 ?z3 ?z4 ?z5 ?z6 ?z7 ?z8 ?z9 ?z10
    (case a0 => k_is); (case l0 => k_is); (case c0 => k_is); (case k0 => k_is); (case a1 => k_is); (case l1 => k_is); (case c1 => k_is); (case k1 => k_is); (case a2 => k_is); (case l2 => k_is); (case c2 => k_is); (case k2 => k_is); (case a3 => k_is); (case l3 => k_is); (case c3 => k_is); (case k3 => k_is); (case a4 => k_is); (case l4 => k_is); (case c4 => k_is); (case k4 => k_is); (case a5 => k_is); (case l5 => k_is); (case c5 => k_is); (case k5 => k_is); (case a6 => k_is); (case l6 => k_is); (case c6 => k_is); (case k6 => k_is); (case a7 => k_is); (case l7 => k_is); (case c7 => k_is); (case k7 => k_is); (case a8 => k_is); (case l8 => k_is); (case c8 => k_is); (case k8 => k_is); (case a9 => k_is); (case l9 => k_is); (case c9 => k_is); (case k9 => k_is); (case a10 => k_is); (case l10 => k_is); (case c10 => k_is); (case k10 => k_is); (case a11 => k_is); (case l11 => k_is); (case c11 => k_is); (case k11 => k_is); (case z0 => k_is); (case z1 => k_is); (case z2 => k_is); (case z3 => k_is); (case z4 => k_is); (case z5 => k_is); (case z6 => k_is); (case z7 => k_is); (case z8 => k_is); (case z9 => k_is); (case z10 => k_is)
