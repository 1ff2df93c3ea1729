import PyProof.Rows.All
import Wide.All
import OpenK.AllK
import Wide.FinOn
import HandS.ForMost
import HandS.IsInst
import HandS.Gcd
import HandS.WideBits
import HandS.Style
import HandS.Property
import HandS.Defaults
import HandS.MakeKw
import HandS.FStr
import HandS.Flow
import HandS.MakeKwOnly
import KE.KOpsOwn
import KE.KMathG
import PySem.Challenge.RW_innerfractions_k34_whole_any_value_as_pl
import KE.KStateDown
import HandS.Head0
import HandS.Head1
import HandS.Head2
import HandS.Head3
import HandS.HeadHook1
import HandS.HeadHook2
import HandS.Text
import HandS.NoneIn
import HandS.EndBits
set_option Elab.async false
set_option linter.all false
set_option maxRecDepth 100000
set_option maxHeartbeats 4000000
/-! Ly1: types of values, environments, judgements. -/
namespace My
open PySem L2

/-! ### types -/
inductive Kn where | R | F | K
  deriving DecidableEq
inductive T where
  | is (v : V)
  | obj (k : Kn) (t u : T)
  | lst (ts : List T)
  | tup (ts : List T)
  | emp
  | any
structure Cs where
  cl : Kn → Addr
  K : PySem.W.Frag
def fld (v u : V) : List (Str × V) := [("own_top", v), ("own_bottom", u)]
theorem same_tup {K : PySem.W.Frag} {H H' : Hp} {a : Addr} {xs : List V} (e : Same H H') (h : SqT K H a xs) : SqT K H' a xs := by
  rcases h with (h | ⟨o, h⟩) | h
  · exact .inl (.inl (e _ _ h))
  · exact .inl (.inr ⟨o, e _ _ h⟩)
  · exact .inr h
mutual
def holds (c : Cs) : T → V → Hp → Prop
  | .is v0, v, _ => v = v0
  | .obj k t u, v, H => ∃ a dx v1 v2, v = .ref a ∧ H a = some (.ins (c.cl k) dx (fld v1 v2)) ∧ holds c t v1 H ∧ holds c u v2 H
  | .lst ts, v, H => ∃ a vs, v = .ref a ∧ H a = some (.lst vs) ∧ holdsL c ts vs H
  | .tup ts, v, H => ∃ a vs, v = .ref a ∧ SqT c.K H a vs ∧ holdsL c ts vs H
  | .emp, v, H => ∃ a, v = .ref a ∧ H a = some (.dK [])
  | .any, _, _ => True
def holdsL (c : Cs) : List T → List V → Hp → Prop
  | [], vs, _ => vs = []
  | t :: ts, vs, H => ∃ v r, vs = v :: r ∧ holds c t v H ∧ holdsL c ts r H
end
mutual
theorem holds_mono {c : Cs} {H H' : Hp} (e : Same H H') : ∀ {t : T} {v : V}, holds c t v H → holds c t v H'
  | .is _, _, h => by unfold holds at h ⊢; exact h
  | .obj k t u, v, h => by
    unfold holds at h ⊢
    obtain ⟨a, dx, v1, v2, h1, h2, h3, h4⟩ := h
    exact ⟨a, dx, v1, v2, h1, e _ _ h2, holds_mono e h3, holds_mono e h4⟩
  | .lst ts, v, h => by
    unfold holds at h ⊢
    obtain ⟨a, vs, h1, h2, h3⟩ := h
    exact ⟨a, vs, h1, e _ _ h2, holdsL_mono e h3⟩
  | .tup ts, v, h => by
    unfold holds at h ⊢
    obtain ⟨a, vs, h1, h2, h3⟩ := h
    exact ⟨a, vs, h1, same_tup e h2, holdsL_mono e h3⟩
  | .emp, v, h => by
    unfold holds at h ⊢
    obtain ⟨a, h1, h2⟩ := h
    exact ⟨a, h1, e _ _ h2⟩
  | .any, _, _ => by unfold holds; trivial
theorem holdsL_mono {c : Cs} {H H' : Hp} (e : Same H H') : ∀ {ts : List T} {vs : List V}, holdsL c ts vs H → holdsL c ts vs H'
  | [], _, h => by unfold holdsL at h ⊢; exact h
  | t :: ts, vs, h => by
    unfold holdsL at h ⊢
    obtain ⟨v, r, h1, h2, h3⟩ := h
    exact ⟨v, r, h1, holds_mono e h2, holdsL_mono e h3⟩
end
section
variable {c : Cs} {H : Hp} {t u : T} {ts us : List T} {v : V} {vs ws : List V} {k : Kn}
theorem holds_is {v0 : V} : holds c (.is v0) v H ↔ v = v0 := by unfold holds; exact Iff.rfl
theorem holds_obj : holds c (.obj k t u) v H ↔ ∃ a dx v1 v2, v = .ref a ∧ H a = some (.ins (c.cl k) dx (fld v1 v2)) ∧ holds c t v1 H ∧ holds c u v2 H := by
  constructor
  · intro h; unfold holds at h; exact h
  · intro h; unfold holds; exact h
theorem holds_lst : holds c (.lst ts) v H ↔ ∃ a vs, v = .ref a ∧ H a = some (.lst vs) ∧ holdsL c ts vs H := by
  constructor
  · intro h; unfold holds at h; exact h
  · intro h; unfold holds; exact h
theorem holds_tup : holds c (.tup ts) v H ↔ ∃ a vs, v = .ref a ∧ SqT c.K H a vs ∧ holdsL c ts vs H := by
  constructor
  · intro h; unfold holds at h; exact h
  · intro h; unfold holds; exact h
theorem holds_emp : holds c .emp v H ↔ ∃ a, v = .ref a ∧ H a = some (.dK []) := by
  constructor
  · intro h; unfold holds at h; exact h
  · intro h; unfold holds; exact h
theorem holdsL_nil : holdsL c [] vs H ↔ vs = [] := by unfold holdsL; exact Iff.rfl
theorem holdsL_cons : holdsL c (t :: ts) vs H ↔ ∃ v r, vs = v :: r ∧ holds c t v H ∧ holdsL c ts r H := by
  constructor
  · intro h; unfold holdsL at h; exact h
  · intro h; unfold holdsL; exact h
theorem holdsL_len : ∀ {ts : List T} {vs : List V}, holdsL c ts vs H → vs.length = ts.length
  | [], vs, h => by rw [holdsL_nil] at h; rw [h]; rfl
  | t :: ts, vs, h => by
    rw [holdsL_cons] at h
    obtain ⟨v, r, rfl, _, h3⟩ := h
    rw [List.length_cons, List.length_cons, holdsL_len h3]
theorem holdsL_get : ∀ {ts : List T} {vs : List V} {i : Nat} {t : T}, holdsL c ts vs H → ts[i]? = some t → ∃ v, vs[i]? = some v ∧ holds c t v H
  | [], _, _, _, _, e => by simp at e
  | t :: ts, vs, 0, _, h, e => by
    rw [holdsL_cons] at h
    obtain ⟨v, r, rfl, h2, h3⟩ := h
    simp at e; subst e
    exact ⟨v, rfl, h2⟩
  | t :: ts, vs, i + 1, u, h, e => by
    rw [holdsL_cons] at h
    obtain ⟨v, r, rfl, h2, h3⟩ := h
    obtain ⟨w, e1, e2⟩ := holdsL_get (i := i) h3 (by simpa using e)
    exact ⟨w, by simpa using e1, e2⟩
theorem holdsL_get' : ∀ {ts : List T} {vs : List V} {i : Nat} {v : V}, holdsL c ts vs H → vs[i]? = some v → ∃ t, ts[i]? = some t ∧ holds c t v H
  | ts, vs, i, v, h, e => by
    have hl := holdsL_len h
    have hi : i < ts.length := by rw [← hl]; exact (List.getElem?_eq_some_iff.mp e).1
    obtain ⟨w, e1, e2⟩ := holdsL_get h (List.getElem?_eq_getElem hi)
    rw [e] at e1; cases e1
    exact ⟨ts[i], List.getElem?_eq_getElem hi, e2⟩
theorem holdsL_set : ∀ {ts : List T} {vs : List V} {i : Nat}, holds c t v H → holdsL c ts vs H → holdsL c (ts.set i t) (vs.set i v) H
  | [], vs, i, _, h => by rw [holdsL_nil] at h; subst h; simp [holdsL_nil]
  | u :: ts, vs, 0, hv, h => by
    rw [holdsL_cons] at h
    obtain ⟨w, r, rfl, h2, h3⟩ := h
    show holdsL c (t :: ts) (v :: r) H
    rw [holdsL_cons]
    exact ⟨v, r, rfl, hv, h3⟩
  | u :: ts, vs, i + 1, hv, h => by
    rw [holdsL_cons] at h
    obtain ⟨w, r, rfl, h2, h3⟩ := h
    show holdsL c (u :: ts.set i t) (w :: r.set i v) H
    rw [holdsL_cons]
    exact ⟨w, _, rfl, h2, holdsL_set hv h3⟩
theorem holdsL_append : ∀ {ts us : List T} {vs ws : List V}, holdsL c ts vs H → holdsL c us ws H → holdsL c (ts ++ us) (vs ++ ws) H
  | [], us, vs, ws, h, g => by rw [holdsL_nil] at h; subst h; exact g
  | t :: ts, us, vs, ws, h, g => by
    rw [holdsL_cons] at h
    obtain ⟨w, r, rfl, h2, h3⟩ := h
    show holdsL c (t :: (ts ++ us)) (w :: (r ++ ws)) H
    rw [holdsL_cons]
    exact ⟨w, _, rfl, h2, holdsL_append h3 g⟩
theorem holdsL_take : ∀ {ts : List T} {vs : List V} (n : Nat), holdsL c ts vs H → holdsL c (ts.take n) (vs.take n) H
  | [], vs, n, h => by rw [holdsL_nil] at h; subst h; simp [holdsL_nil]
  | t :: ts, vs, 0, h => by simp [holdsL_nil]
  | t :: ts, vs, n + 1, h => by
    rw [holdsL_cons] at h
    obtain ⟨w, r, rfl, h2, h3⟩ := h
    show holdsL c (t :: ts.take n) (w :: r.take n) H
    rw [holdsL_cons]
    exact ⟨w, _, rfl, h2, holdsL_take n h3⟩
theorem holdsL_drop : ∀ {ts : List T} {vs : List V} (n : Nat), holdsL c ts vs H → holdsL c (ts.drop n) (vs.drop n) H
  | [], vs, n, h => by rw [holdsL_nil] at h; subst h; simp [holdsL_nil]
  | t :: ts, vs, 0, h => h
  | t :: ts, vs, n + 1, h => by
    rw [holdsL_cons] at h
    obtain ⟨w, r, rfl, h2, h3⟩ := h
    exact holdsL_drop n h3
theorem holdsL_one (h : holds c t v H) : holdsL c [t] [v] H := by
  rw [holdsL_cons]; exact ⟨v, [], rfl, h, holdsL_nil.mpr rfl⟩
theorem holdsL_rev : ∀ {ts : List T} {vs : List V}, holdsL c ts vs H → holdsL c ts.reverse vs.reverse H
  | [], vs, h => by rw [holdsL_nil] at h; subst h; exact holdsL_nil.mpr rfl
  | t :: ts, vs, h => by
    rw [holdsL_cons] at h
    obtain ⟨w, r, rfl, h2, h3⟩ := h
    rw [List.reverse_cons, List.reverse_cons]
    exact holdsL_append (holdsL_rev h3) (holdsL_one h2)
end
/-- a Ratio, a polynomial, ints, a fraction -/
abbrev T.int (n : Int) : T := .is (.int n)
abbrev T.bl (b : Bool) : T := .is (.bl b)
abbrev T.str (x : Str) : T := .is (.str x)
def T.rat (q : Rat) : T := .obj .R (.int q.num) (.int (q.den : Int))
def T.poly (f : List Rat) : T := .lst (f.map T.rat)
def T.ints (l : List Int) : T := .lst (l.map T.int)
def T.frac (f g : List Rat) : T := .obj .F (.poly f) (.poly g)
def T.known (f g : List Rat) : T := .obj .K (.poly f) (.poly g)

/-! ### environments -/
inductive En where
  | no
  | sh (t : T)
  | mu (ts : List T)
  | pt
  | bi (k : Kn) (ts : List T)
structure Bs where
  c : Cs
  B : Hp
  R : Hp
  pot : Option Addr
def flds : List V → List (Str × V)
  | [] => []
  | [v] => [("own_top", v)]
  | v :: u :: _ => fld v u
/-- the draws' pot: two ints in their bounds -/
def PotAt (H : Hp) (p : Addr) : Prop := ∃ a b : Int, 0 ≤ a ∧ a.natAbs < 2 ^ 1048577 ∧ 0 ≤ b ∧ b ≤ 2147483587 ∧ H p = some (.lst [.int a, .int b])
def EnOk (b : Bs) (x : Option (Option V)) (H Hr : Hp) : En → Prop
  | .no => True
  | .sh t => ∃ v, x = some (some v) ∧ holds b.c t v Hr
  | .mu ts => ∃ p vs, x = some (some (.ref p)) ∧ b.B p = none ∧ Hr p = none ∧ H p = some (.lst vs) ∧ holdsL b.c ts vs Hr
  | .pt => ∃ p, b.pot = some p ∧ x = some (some (.ref p)) ∧ PotAt H p
  | .bi k ts => ∃ p dx vs, b.pot = some p ∧ x = some (some (.ref p)) ∧ H p = some (.ins (b.c.cl k) dx (flds vs)) ∧ holdsL b.c ts vs Hr
structure Sat0 (b : Bs) (H Hr : Hp) : Prop where
  r1 : Same b.R Hr
  r2 : Same Hr H
  old : ∀ a, b.B a ≠ none → H a ≠ none
  keep : ∀ a, b.R a = none → b.B a ≠ none → Hr a = none
  bx : ∀ a o, b.pot ≠ some a → b.B a = some o → H a = some o
  ptw : ∀ p, b.pot = some p → b.R p = none ∧ b.B p ≠ none
structure Sat (b : Bs) (G : List En) (σ : L2.St) (H Hr : Hp) : Prop extends Sat0 b H Hr where
  ln : G.length = σ.length
  slot : ∀ (i : Nat) (e : En), G[i]? = some e → EnOk b σ[i]? H Hr e
  apart : ∀ (i j : Nat) (p : Addr) (ts us : List T), i ≠ j → G[i]? = some (.mu ts) → G[j]? = some (.mu us) → σ[i]? = some (some (.ref p)) → σ[j]? ≠ some (some (.ref p))
def SatE (b : Bs) (G : List En) (σ : L2.St) (H : Hp) : Prop := ∃ Hr, Sat b G σ H Hr

theorem EnOk.mono {b : Bs} {x : Option (Option V)} {H Hr H' Hr' : Hp} {e : En} (h : EnOk b x H Hr e) (r : Same Hr Hr') (hm : ∀ p vs ts, e = .mu ts → x = some (some (.ref p)) → H p = some (.lst vs) → Hr p = none → Hr' p = none ∧ H' p = some (.lst vs))
    (hp : ∀ p, b.pot = some p → PotAt H p → PotAt H' p) (hi : ∀ p o, b.pot = some p → H p = some o → H' p = some o) : EnOk b x H' Hr' e := by
  cases e with
  | no => trivial
  | sh t => obtain ⟨v, h1, h2⟩ := h; exact ⟨v, h1, holds_mono r h2⟩
  | mu ts =>
    obtain ⟨p, vs, h1, h2, h3, h4, h5⟩ := h
    obtain ⟨q1, q2⟩ := hm p vs ts rfl h1 h4 h3
    exact ⟨p, vs, h1, h2, q1, q2, holdsL_mono r h5⟩
  | pt => obtain ⟨p, h1, h2, h3⟩ := h; exact ⟨p, h1, h2, hp p h1 h3⟩
  | bi k ts => obtain ⟨p, dx, vs, h1, h2, h3, h4⟩ := h; exact ⟨p, dx, vs, h1, h2, hi p _ h1 h3, holdsL_mono r h4⟩

/-- all that was tracked is kept; what was not readable stays so -/
structure Stp (H Hr H' Hr' : Hp) : Prop where
  h : Same H H'
  r : Same Hr Hr'
  r2 : Same Hr' H'
  g : ∀ a, H a ≠ none → Hr a = none → Hr' a = none
theorem Sat0.stp {b : Bs} {H Hr H' Hr' : Hp} (s : Sat0 b H Hr) (t : Stp H Hr H' Hr') : Sat0 b H' Hr' where
  r1 := s.r1.trans t.r
  r2 := t.r2
  old := fun a h q => by
    cases e : H a with
    | none => exact s.old a h e
    | some o => rw [t.h a o e] at q; cases q
  keep := fun a h1 h2 => t.g a (s.old a h2) (s.keep a h1 h2)
  bx := fun a o h1 h2 => t.h _ _ (s.bx a o h1 h2)
  ptw := s.ptw
theorem Sat.stp {b : Bs} {G : List En} {σ : L2.St} {H Hr H' Hr' : Hp} (s : Sat b G σ H Hr) (t : Stp H Hr H' Hr') : Sat b G σ H' Hr' where
  toSat0 := s.toSat0.stp t
  ln := s.ln
  slot := fun i e h => (s.slot i e h).mono t.r (fun p vs ts _ _ h1 h2 => ⟨t.g p (by rw [h1]; simp) h2, t.h _ _ h1⟩) (fun p _ ⟨x, y, h1, h2, h3, h4, h5⟩ => ⟨x, y, h1, h2, h3, h4, t.h _ _ h5⟩) fun p o _ h1 => t.h _ _ h1
  apart := s.apart
theorem Stp.refl {H Hr : Hp} (h : Same Hr H) : Stp H Hr H Hr := ⟨Same.refl _, Same.refl _, h, fun _ _ q => q⟩
theorem Stp.trans {H Hr H1 Hr1 H2 Hr2 : Hp} (a : Stp H Hr H1 Hr1) (c : Stp H1 Hr1 H2 Hr2) : Stp H Hr H2 Hr2 :=
  ⟨a.h.trans c.h, a.r.trans c.r, c.r2, fun x h q => c.g x (fun e => by
    cases e' : H x with
    | none => exact h e'
    | some o => rw [a.h x o e'] at e; cases e) (a.g x h q)⟩
theorem same_new {H : Hp} {p : Addr} {o : HO} (h : H p = none) : Same H (upd H p o) := fun a u e => by rw [upd_ne (ne_of_none e h)]; exact e
/-- a new object, readable -/
theorem Stp.new {H Hr : Hp} {p : Addr} {o : HO} (r2 : Same Hr H) (h : H p = none) : Stp H Hr (upd H p o) (upd Hr p o) where
  h := same_new h
  r := same_new (r2.free h)
  r2 := fun a u e => by
    by_cases q : a = p
    · subst q; rw [upd_same] at e ⊢; exact e
    · rw [upd_ne q] at e ⊢; exact r2 _ _ e
  g := fun a h1 h2 => by
    have q : a ≠ p := fun q => by subst q; exact h1 h
    rw [upd_ne q]; exact h2
/-- a new object that is one's own -/
theorem Stp.own {H Hr : Hp} {p : Addr} {o : HO} (r2 : Same Hr H) (h : H p = none) : Stp H Hr (upd H p o) Hr where
  h := same_new h
  r := Same.refl _
  r2 := r2.trans (same_new h)
  g := fun _ _ q => q

/-- what an expression may do: nothing that stood changes but the pot -/
structure Evo (b : Bs) (H Hr H' Hr' : Hp) : Prop where
  h : ∀ a o, b.pot ≠ some a → H a = some o → H' a = some o
  r : Same Hr Hr'
  g : ∀ a, H a ≠ none → Hr a = none → Hr' a = none
  o : ∀ a, H a ≠ none → H' a ≠ none
theorem Evo.refl {b : Bs} {H Hr : Hp} : Evo b H Hr H Hr := ⟨fun _ _ _ h => h, Same.refl _, fun _ _ h => h, fun _ h => h⟩
theorem Evo.trans {b : Bs} {H Hr H1 Hr1 H2 Hr2 : Hp} (a : Evo b H Hr H1 Hr1) (c : Evo b H1 Hr1 H2 Hr2) : Evo b H Hr H2 Hr2 :=
  ⟨fun x u h1 h2 => c.h x u h1 (a.h x u h1 h2), a.r.trans c.r, fun x h1 h2 => c.g x (a.o x h1) (a.g x h1 h2), fun x h => c.o x (a.o x h)⟩
theorem Stp.evo {b : Bs} {H Hr H' Hr' : Hp} (t : Stp H Hr H' Hr') : Evo b H Hr H' Hr' := ⟨fun a o _ h => t.h a o h, t.r, t.g, fun a h q => by
  cases e : H a with
  | none => exact h e
  | some o => rw [t.h a o e] at q; cases q⟩

/-! ### semantic readings -/
def WE (X : Cx) (e : Expr) : TE := fun σ H Q => ∀ (pins : List (Addr × Obj)) (s : Shared), Inv X pins σ H s → wpAny (model X.prog X.w) X.A (eval e X.env) (EP X pins σ Q) X.xe s
def WT (X : Cx) (e : Expr) : TT := fun σ H Q => ∀ (pins : List (Addr × Obj)) (s : Shared), Inv X pins σ H s → wpAny (model X.prog X.w) X.A (isTrue e X.env (eval e X.env)) (TP X pins σ Q) X.xe s
def WA (X : Cx) (es : List Expr) : TA := fun σ H Q => ∀ (pos : Pos) (pins : List (Addr × Obj)) (s : Shared), Inv X pins σ H s → wpAny (model X.prog X.w) X.A (spliced (backTo pos (starEach es X.env))) (AP X pins σ Q) X.xe s
def WS (X : Cx) (st : Stmt) : TS := fun D σ H => ∀ (pins : List (Addr × Obj)) (s : Shared), Inv X pins σ H s → wpAny (model X.prog X.w) X.A (exec st X.env) (SP X pins D) X.xe s
def WB (X : Cx) (st : List Stmt) : TS := fun D σ H => ∀ (pins : List (Addr × Obj)) (s : Shared), Inv X pins σ H s → wpAny (model X.prog X.w) X.A (execs st X.env) (SP X pins D) X.xe s
theorem pe_self {X : Cx} {e : Expr} : PE X e (WE X e) := ⟨fun pins s σ H Q I h => h pins s I⟩
theorem pt_self {X : Cx} {e : Expr} : PT X e (WT X e) := ⟨fun pins s σ H Q I h => h pins s I⟩
theorem pa_self {X : Cx} {es : List Expr} : PA X es (WA X es) := ⟨fun pos pins s σ H Q I h => h pos pins s I⟩
theorem ps_self {X : Cx} {st : Stmt} : PS X st (WS X st) := ⟨fun pins s σ H D I h => h pins s I⟩
theorem pss_self {X : Cx} {st : List Stmt} : PSs X st (WB X st) := ⟨fun pins s σ H D I h => h pins s I⟩
theorem we_of {X : Cx} {e : Expr} {t : TE} {σ : L2.St} {H : Hp} {Q : VK} (h : PE X e t) (q : t σ H Q) : WE X e σ H Q := fun pins s I => h.run pins s σ H Q I q
theorem wt_of {X : Cx} {e : Expr} {t : TT} {σ : L2.St} {H : Hp} {Q : Bool → Hp → Prop} (h : PT X e t) (q : t σ H Q) : WT X e σ H Q := fun pins s I => h.run pins s σ H Q I q
theorem wa_of {X : Cx} {e : List Expr} {t : TA} {σ : L2.St} {H : Hp} {Q : List V → Hp → Prop} (h : PA X e t) (q : t σ H Q) : WA X e σ H Q := fun pos pins s I => h.run pos pins s σ H Q I q
theorem ws_of {X : Cx} {st : Stmt} {t : TS} {σ : L2.St} {H : Hp} {D : Ends} (h : PS X st t) (q : t D σ H) : WS X st D σ H := fun pins s I => h.run pins s σ H D I q
theorem wb_of {X : Cx} {st : List Stmt} {t : TS} {σ : L2.St} {H : Hp} {D : Ends} (h : PSs X st t) (q : t D σ H) : WB X st D σ H := fun pins s I => h.run pins s σ H D I q
theorem we_imp {X : Cx} {e : Expr} {σ : L2.St} {H : Hp} {Q Q' : VK} (h : WE X e σ H Q) (q : ∀ v H', Q v H' → Q' v H') : WE X e σ H Q' := fun pins s I =>
  thn (h pins s I) fun _ _ ⟨v, H', I', r, p⟩ => ⟨v, H', I', r, q v H' p⟩

/-! ### judgements -/
/-- e gives a value of some type of Phi -/
def EG (b : Bs) (X : Cx) (G : List En) (e : Expr) (Phi : T → Prop) : Prop :=
  ∀ σ H Hr, Sat b G σ H Hr → ∀ Q : VK, (∀ t v H' Hr', Phi t → Evo b H Hr H' Hr' → Sat b G σ H' Hr' → holds b.c t v Hr' → Q v H') → WE X e σ H Q
/-- e gives a new list of one's own -/
def FG (b : Bs) (X : Cx) (G : List En) (e : Expr) (Phi : List T → Prop) : Prop :=
  ∀ σ H Hr, Sat b G σ H Hr → ∀ Q : VK, (∀ ts p vs H' Hr', Phi ts → Evo b H Hr H' Hr' → Sat b G σ H' Hr' → H p = none → b.B p = none → Hr' p = none → H' p = some (.lst vs) → holdsL b.c ts vs Hr' →
    (∀ (i : Nat) (us : List T), G[i]? = some (.mu us) → σ[i]? ≠ some (some (.ref p))) → Q (.ref p) H') → WE X e σ H Q
def TG (b : Bs) (X : Cx) (G : List En) (e : Expr) (Phi : Bool → Prop) : Prop :=
  ∀ σ H Hr, Sat b G σ H Hr → ∀ Q : Bool → Hp → Prop, (∀ d H' Hr', Phi d → Evo b H Hr H' Hr' → Sat b G σ H' Hr' → Q d H') → WT X e σ H Q
def AG (b : Bs) (X : Cx) (G : List En) (es : List Expr) (Phi : List T → Prop) : Prop :=
  ∀ σ H Hr, Sat b G σ H Hr → ∀ Q : List V → Hp → Prop, (∀ ts vs H' Hr', Phi ts → Evo b H Hr H' Hr' → Sat b G σ H' Hr' → holdsL b.c ts vs Hr' → Q vs H') → WA X es σ H Q
def WG (b : Bs) (X : Cx) (G : List En) (sts : List Stmt) (D : Ends) : Prop := ∀ σ H Hr, Sat b G σ H Hr → WB X sts D σ H

section
variable {b : Bs} {X : Cx} {G : List En} {e : Expr} {es : List Expr} {pos : Pos}
theorem EG.imp {P Q : T → Prop} (h : EG b X G e P) (i : ∀ t, P t → Q t) : EG b X G e Q := fun σ H Hr s K q => h σ H Hr s K fun t v H' Hr' p => q t v H' Hr' (i t p)
theorem TG.imp {P Q : Bool → Prop} (h : TG b X G e P) (i : ∀ t, P t → Q t) : TG b X G e Q := fun σ H Hr s K q => h σ H Hr s K fun t H' Hr' p => q t H' Hr' (i t p)
theorem FG.imp {P Q : List T → Prop} (h : FG b X G e P) (i : ∀ t, P t → Q t) : FG b X G e Q := fun σ H Hr s K q => h σ H Hr s K fun t p vs H' Hr' x => q t p vs H' Hr' (i t x)
/-- a name -/
theorem eg_var (i : Nat) {x : Str} {t : T} {Phi : T → Prop} (hG : G[i]? = some (.sh t)) (hP : Phi t) (hN : X.N[i]? = some x := by rfl) (hv : Vis X.env.scope x := by first | exact Or.inl rfl | exact Or.inr (Or.inl rfl) | exact Or.inr (Or.inr rfl))
    (hd : (x == ("__debug__" : Str)) = false := by decide) (hcd : (x == ("__classdict__" : Str)) = false := by decide) : EG b X G (.Name x pos) Phi := fun σ H Hr s Q q => by
  obtain ⟨v, h1, h2⟩ := s.slot i _ hG
  exact we_of (pe_var hN hv hd hcd) ⟨v, h1, q t v H Hr hP Evo.refl s h2⟩
theorem eg_c {j : Option Str} {v : V} {Phi : T → Prop} (h : PE X e (tC v)) (hP : Phi (.is v)) : EG b X G e Phi := fun σ H Hr s Q q =>
  we_of h (q (.is v) v H Hr hP Evo.refl s (holds_is.mpr rfl))
theorem eg_int {n : Int} {j : Nat} {Phi : T → Prop} (hP : Phi (.int n)) : EG b X G (.Constant (.int n) j pos) Phi := eg_c (j := none) pe_int hP
theorem eg_bl {n : Bool} {j : Nat} {Phi : T → Prop} (hP : Phi (.bl n)) : EG b X G (.Constant (.bool n) j pos) Phi := eg_c (j := none) pe_bl hP
theorem eg_str {n : Str} {j : Nat} {Phi : T → Prop} (hP : Phi (.str n)) : EG b X G (.Constant (.str n) j pos) Phi := eg_c (j := none) pe_str hP
theorem eg_non {j : Nat} {Phi : T → Prop} (hP : Phi (.is .non)) : EG b X G (.Constant .none j pos) Phi := eg_c (j := none) pe_non hP
end
/-- an object of one's own is made readable -/
theorem Sat.open {b : Bs} {G : List En} {σ : L2.St} {H Hr : Hp} {p : Addr} {o : HO} (s : Sat b G σ H Hr) (hb : b.B p = none) (hr : Hr p = none) (hh : H p = some o)
    (ha : ∀ (i : Nat) (us : List T), G[i]? = some (.mu us) → σ[i]? ≠ some (some (.ref p))) : Sat b G σ H (upd Hr p o) where
  r1 := s.r1.trans (same_new hr)
  r2 := fun a u e => by
    by_cases z : a = p
    · subst z; rw [upd_same] at e; rw [hh]; exact e
    · rw [upd_ne z] at e; exact s.r2 _ _ e
  old := s.old
  keep := fun a h1 h2 => by
    have z : a ≠ p := fun z => by subst z; exact h2 hb
    rw [upd_ne z]; exact s.keep a h1 h2
  bx := s.bx
  ptw := s.ptw
  ln := s.ln
  slot := fun i e h => by
    have k := s.slot i e h
    cases e with
    | mu ts =>
      obtain ⟨q, vs, h1, h2, h3, h4, h5⟩ := k
      have z : q ≠ p := fun z => by subst z; exact ha i ts h h1
      exact ⟨q, vs, h1, h2, by rw [upd_ne z]; exact h3, h4, holdsL_mono (same_new hr) h5⟩
    | no => trivial
    | sh t => obtain ⟨v, h1, h2⟩ := k; exact ⟨v, h1, holds_mono (same_new hr) h2⟩
    | pt => exact k
    | bi k' ts => obtain ⟨q, dx, vs, h1, h2, h3, h4⟩ := k; exact ⟨q, dx, vs, h1, h2, h3, holdsL_mono (same_new hr) h4⟩
  apart := s.apart
section
variable {b : Bs} {X : Cx} {G : List En} {e : Expr} {es : List Expr} {pos : Pos}
/-- a list that is one's own, read as a list -/
theorem eg_fr {P : List T → Prop} {Q : T → Prop} (h : FG b X G e P) (i : ∀ ts, P ts → Q (.lst ts)) : EG b X G e Q := fun σ H Hr s K q => h σ H Hr s K fun ts p vs H' Hr' p1 e1 s1 hn hb hr hh hl ha => by
  have e2 : Evo b H Hr H' (upd Hr' p (.lst vs)) := ⟨e1.h, e1.r.trans (same_new hr), fun a g1 g2 => by
    have z : a ≠ p := fun z => by subst z; exact g1 hn
    rw [upd_ne z]; exact e1.g a g1 g2, e1.o⟩
  exact q (.lst ts) (.ref p) H' _ (i ts p1) e2 (s1.open hb hr hh ha) (holds_lst.mpr ⟨p, vs, rfl, upd_same, holdsL_mono (same_new hr) hl⟩)
/-- .. at a slot, for good -/
theorem wg_frz (i : Nat) {ts : List T} {sts : List Stmt} {D : Ends} (hG : G[i]? = some (.mu ts)) (h : WG b X (G.set i (.sh (.lst ts))) sts D) : WG b X G sts D := fun σ H Hr s => by
  obtain ⟨p, vs, h1, h2, h3, h4, h5⟩ := s.slot i _ hG
  have iG : i < G.length := (List.getElem?_eq_some_iff.mp hG).1
  have st : Sat b (G.set i .no) σ H Hr := by
    refine { s with ln := by rw [List.length_set]; exact s.ln, slot := fun j e hj => ?_, apart := fun j k q ts us n e1 e2 => ?_ }
    · by_cases z : j = i
      · subst z; rw [List.getElem?_set_self iG] at hj; cases hj; trivial
      · rw [List.getElem?_set_ne (Ne.symm z)] at hj; exact s.slot j e hj
    · by_cases z : j = i
      · subst z; rw [List.getElem?_set_self iG] at e1; cases e1
      · by_cases y : k = i
        · subst y; rw [List.getElem?_set_self iG] at e2; cases e2
        · rw [List.getElem?_set_ne (Ne.symm z)] at e1; rw [List.getElem?_set_ne (Ne.symm y)] at e2
          exact s.apart j k q ts us n e1 e2
  have so := st.open (p := p) h2 h3 h4 fun j us hj hx => by
    by_cases z : j = i
    · subst z; rw [List.getElem?_set_self iG] at hj; cases hj
    · rw [List.getElem?_set_ne (Ne.symm z)] at hj
      exact s.apart i j p _ _ (Ne.symm z) hG hj h1 hx
  refine h σ H (upd Hr p (.lst vs)) { so with ln := by rw [List.length_set]; exact s.ln, slot := fun j e hj => ?_, apart := fun j k q ts us n e1 e2 => ?_ }
  · by_cases z : j = i
    · subst z; rw [List.getElem?_set_self iG] at hj; cases hj
      exact ⟨_, h1, holds_lst.mpr ⟨p, vs, rfl, upd_same, holdsL_mono (same_new h3) h5⟩⟩
    · rw [List.getElem?_set_ne (Ne.symm z)] at hj
      exact so.slot j e (by rw [List.getElem?_set_ne (Ne.symm z)]; exact hj)
  · by_cases z : j = i
    · subst z; rw [List.getElem?_set_self iG] at e1; cases e1
    · by_cases y : k = i
      · subst y; rw [List.getElem?_set_self iG] at e2; cases e2
      · rw [List.getElem?_set_ne (Ne.symm z)] at e1; rw [List.getElem?_set_ne (Ne.symm y)] at e2
        exact s.apart j k q ts us n e1 e2
/-- a stored name -/
theorem Sat.put {σ : L2.St} {H Hr : Hp} (i : Nat) {t : T} {v : V} (s : Sat b G σ H Hr) (hi0 : i < G.length) (h : holds b.c t v Hr) : Sat b (G.set i (.sh t)) (σ.set i (some v)) H Hr := by
  have hi : i < σ.length := by rw [← s.ln]; exact hi0
  refine { s with ln := by rw [List.length_set, List.length_set]; exact s.ln, slot := fun j e hj => ?_, apart := fun j k q ts us n e1 e2 h1 => ?_ }
  · by_cases z : j = i
    · subst z
      have iG : j < G.length := by
        have := (List.getElem?_eq_some_iff.mp hj).1
        rw [List.length_set] at this; exact this
      rw [List.getElem?_set_self iG] at hj; cases hj
      rw [List.getElem?_set_self hi]
      exact ⟨v, rfl, h⟩
    · rw [List.getElem?_set_ne (Ne.symm z)] at hj
      rw [List.getElem?_set_ne (Ne.symm z)]
      exact s.slot j e hj
  · by_cases z : j = i
    · subst z
      have iG : j < G.length := by
        have := (List.getElem?_eq_some_iff.mp e1).1
        rw [List.length_set] at this; exact this
      rw [List.getElem?_set_self iG] at e1; cases e1
    · by_cases y : k = i
      · subst y
        have iG : k < G.length := by
          have := (List.getElem?_eq_some_iff.mp e2).1
          rw [List.length_set] at this; exact this
        rw [List.getElem?_set_self iG] at e2; cases e2
      · rw [List.getElem?_set_ne (Ne.symm z)] at e1 h1; rw [List.getElem?_set_ne (Ne.symm y)] at e2 ⊢
        exact s.apart j k q ts us n e1 e2 h1
theorem Sat.putM {σ : L2.St} {H Hr : Hp} (i : Nat) {ts : List T} {p : Addr} {vs : List V} (s : Sat b G σ H Hr) (hi0 : i < G.length) (hb : b.B p = none) (hr : Hr p = none) (hh : H p = some (.lst vs)) (h : holdsL b.c ts vs Hr)
    (ha : ∀ (j : Nat) (us : List T), j ≠ i → G[j]? = some (.mu us) → σ[j]? ≠ some (some (.ref p))) : Sat b (G.set i (.mu ts)) (σ.set i (some (.ref p))) H Hr := by
  have hi : i < σ.length := by rw [← s.ln]; exact hi0
  refine { s with ln := by rw [List.length_set, List.length_set]; exact s.ln, slot := fun j e hj => ?_, apart := fun j k q ts' us n e1 e2 h1 => ?_ }
  · by_cases z : j = i
    · subst z
      have iG : j < G.length := by
        have := (List.getElem?_eq_some_iff.mp hj).1
        rw [List.length_set] at this; exact this
      rw [List.getElem?_set_self iG] at hj; cases hj
      rw [List.getElem?_set_self hi]
      exact ⟨p, vs, rfl, hb, hr, hh, h⟩
    · rw [List.getElem?_set_ne (Ne.symm z)] at hj
      rw [List.getElem?_set_ne (Ne.symm z)]
      exact s.slot j e hj
  · by_cases z : j = i
    · subst z
      rw [List.getElem?_set_self hi] at h1
      cases h1
      have y : k ≠ j := Ne.symm n
      rw [List.getElem?_set_ne (Ne.symm y)] at e2 ⊢
      exact ha k us y e2
    · rw [List.getElem?_set_ne (Ne.symm z)] at e1 h1
      by_cases y : k = i
      · subst y
        rw [List.getElem?_set_self hi]
        intro h2
        have h2 : q = p := by injection h2 with h2; injection h2 with h2; injection h2 with h2; exact h2.symm
        subst h2
        exact ha j ts' z e1 h1
      · rw [List.getElem?_set_ne (Ne.symm y)] at e2 ⊢
        exact s.apart j k q ts' us n e1 e2 h1
end
end My

set_option Elab.async false
set_option linter.all false
set_option maxRecDepth 100000
set_option maxHeartbeats 4000000
/-! Ly2: expressions. -/
namespace My
open PySem L2

/-- how an operation on values types -/
def RG (b : Bs) (r : R2) (ta tb : T) (Phi : T → Prop) : Prop := ∀ x y H Hr (Q : VK), Same Hr H → holds b.c ta x Hr → holds b.c tb y Hr → (∀ t v H' Hr', Phi t → Stp H Hr H' Hr' → holds b.c t v Hr' → Q v H') → r x y H Q
section
variable {b : Bs} {X : Cx} {G : List En} {a e c : Expr} {es : List Expr} {pos p p' apos : Pos} {Phi Pa Pb : T → Prop} {r : R2} {ta tb : T} {i j : Int}
theorem rg_I0 {g : Int → Int → V} (hP : Phi (.is (g i j))) : RG b (rI0 g) (.int i) (.int j) Phi := fun x y H Hr Q r2 hx hy q => ⟨i, j, holds_is.mp hx, holds_is.mp hy, q (.is (g i j)) _ H Hr hP (Stp.refl r2) (holds_is.mpr rfl)⟩
theorem rg_I {C : Int → Int → Prop} {g : Int → Int → V} (hC : C i j) (hP : Phi (.is (g i j))) : RG b (rI C g) (.int i) (.int j) Phi := fun x y H Hr Q r2 hx hy q => ⟨i, j, holds_is.mp hx, holds_is.mp hy, hC, q (.is (g i j)) _ H Hr hP (Stp.refl r2) (holds_is.mpr rfl)⟩
theorem rg_eq {v w : V} (hs : scal v w = true) (hP : Phi (.bl (decide (v = w)))) : RG b rEq (.is v) (.is w) Phi := fun x y H Hr Q r2 hx hy q => by
  rw [holds_is.mp hx, holds_is.mp hy]
  exact ⟨hs, q (.bl (decide (v = w))) _ H Hr hP (Stp.refl r2) (holds_is.mpr rfl)⟩
theorem rg_ne {v w : V} (hs : scal v w = true) (hP : Phi (.bl (!decide (v = w)))) : RG b rNe (.is v) (.is w) Phi := fun x y H Hr Q r2 hx hy q => by
  rw [holds_is.mp hx, holds_is.mp hy]
  exact ⟨hs, q (.bl (!decide (v = w))) _ H Hr hP (Stp.refl r2) (holds_is.mpr rfl)⟩
/-- two values in a row -/
theorem we_two (ha : EG b X G a Pa) (hc : EG b X G c Pb) {σ : L2.St} {H Hr : Hp} (s : Sat b G σ H Hr) {R : V → V → Hp → Prop}
    (q : ∀ ta tb x y H2 Hr2, Pa ta → Pb tb → Evo b H Hr H2 Hr2 → Sat b G σ H2 Hr2 → holds b.c ta x Hr2 → holds b.c tb y Hr2 → R x y H2) : WE X a σ H fun x H1 => WE X c σ H1 fun y H2 => R x y H2 :=
  ha σ H Hr s _ fun ta x H1 Hr1 p1 e1 s1 h1 => hc σ H1 Hr1 s1 _ fun tb y H2 Hr2 p2 e2 s2 h2 => q ta tb x y H2 Hr2 p1 p2 (e1.trans e2) s2 (holds_mono e2.r h1) h2
theorem eg_bin {op : Operator} (hr : OpR X (binaryOp op) r) (ha : EG b X G a Pa) (hc : EG b X G c Pb) (h : ∀ ta tb, Pa ta → Pb tb → RG b r ta tb Phi) : EG b X G (.BinOp a op c pos) Phi := fun σ H Hr s Q q =>
  we_of (pe_op hr pe_self pe_self) (we_two ha hc s fun ta tb x y H2 Hr2 p1 p2 e2 s2 h1 h2 => h ta tb p1 p2 x y H2 Hr2 Q s2.r2 h1 h2 fun t v H3 Hr3 p3 st h3 => q t v H3 Hr3 p3 (e2.trans st.evo) (s2.stp st) h3)
theorem eg_add (ha : EG b X G a (· = .int i)) (hc : EG b X G c (· = .int j)) (hP : Phi (.int (i + j))) : EG b X G (.BinOp a .Add c pos) Phi := eg_bin op_add ha hc (by rintro _ _ rfl rfl; exact rg_I0 hP)
theorem eg_sub (ha : EG b X G a (· = .int i)) (hc : EG b X G c (· = .int j)) (hP : Phi (.int (i - j))) : EG b X G (.BinOp a .Sub c pos) Phi := eg_bin op_sub ha hc (by rintro _ _ rfl rfl; exact rg_I0 hP)
theorem eg_mul (ha : EG b X G a (· = .int i)) (hc : EG b X G c (· = .int j)) (hz : CMulX i j) (hP : Phi (.int (i * j))) : EG b X G (.BinOp a .Mult c pos) Phi := eg_bin op_mulX ha hc (by rintro _ _ rfl rfl; exact rg_I hz hP)
theorem eg_mod (ha : EG b X G a (· = .int i)) (hc : EG b X G c (· = .int j)) (hz : 0 < j) (hP : Phi (.int (i % j))) : EG b X G (.BinOp a .Mod c pos) Phi := eg_bin op_mod ha hc (by rintro _ _ rfl rfl; exact rg_I hz hP)
theorem eg_divW (ha : EG b X G a (· = .int i)) (hc : EG b X G c (· = .int j)) (hz : CDivW i j) (hP : Phi (.int (i / j))) : EG b X G (.BinOp a .FloorDiv c pos) Phi := eg_bin op_fdivW ha hc (by rintro _ _ rfl rfl; exact rg_I hz hP)
theorem eg_pow (ha : EG b X G a (· = .int i)) (hc : EG b X G c (· = .int j)) (hz : CPow i j) (hP : Phi (.int (i ^ j.toNat))) : EG b X G (.BinOp a .Pow c pos) Phi := eg_bin op_pow ha hc (by rintro _ _ rfl rfl; exact rg_I hz hP)
/-- an open int on the left -/
theorem eg_subN (ha : EG b X G a Pa) (hc : EG b X G c (· = .int j)) (h : ∀ t, Pa t → ∃ i, t = .int i ∧ Phi (.int (i - j))) : EG b X G (.BinOp a .Sub c pos) Phi := eg_bin op_sub ha hc (by rintro t _ ht rfl; obtain ⟨i, rfl, hP⟩ := h t ht; exact rg_I0 hP)
/-- comparisons -/
theorem tg_cmp {op : CmpOp} {P : Bool → Prop} (hr : OpR X (compareOp op) r) (hm : behindInMarks op c = false) (ha : EG b X G a Pa) (hc : EG b X G c Pb) (h : ∀ ta tb, Pa ta → Pb tb → RG b r ta tb (fun t => ∃ d, t = .bl d ∧ P d)) : TG b X G (.Compare a [op] [c] pos) P := fun σ H Hr s Q q =>
  wt_of (pt_cmpR hr pe_self pe_self hm) (we_two ha hc s fun ta tb x y H2 Hr2 p1 p2 e2 s2 h1 h2 => h ta tb p1 p2 x y H2 Hr2 _ s2.r2 h1 h2 fun t v H3 Hr3 p3 st h3 => by
    obtain ⟨d, rfl, pd⟩ := p3
    exact ⟨d, holds_is.mp h3, q d H3 Hr3 pd (e2.trans st.evo) (s2.stp st)⟩)
theorem eg_cmp {op : CmpOp} (hr : OpR X (compareOp op) r) (hm : behindInMarks op c = false) (ha : EG b X G a Pa) (hc : EG b X G c Pb) (h : ∀ ta tb, Pa ta → Pb tb → RG b r ta tb Phi) : EG b X G (.Compare a [op] [c] pos) Phi := fun σ H Hr s Q q =>
  we_of (pe_cmpR hr pe_self pe_self hm) (we_two ha hc s fun ta tb x y H2 Hr2 p1 p2 e2 s2 h1 h2 => h ta tb p1 p2 x y H2 Hr2 Q s2.r2 h1 h2 fun t v H3 Hr3 p3 st h3 => q t v H3 Hr3 p3 (e2.trans st.evo) (s2.stp st) h3)
variable {P : Bool → Prop}
theorem tg_lt (ha : EG b X G a (· = .int i)) (hc : EG b X G c (· = .int j)) (hP : P (decide (i < j))) : TG b X G (.Compare a [.Lt] [c] pos) P := tg_cmp op_lt (nomark _) ha hc (by rintro _ _ rfl rfl; exact rg_I0 ⟨_, rfl, hP⟩)
theorem tg_le (ha : EG b X G a (· = .int i)) (hc : EG b X G c (· = .int j)) (hP : P (decide (i ≤ j))) : TG b X G (.Compare a [.LtE] [c] pos) P := tg_cmp op_le (nomark _) ha hc (by rintro _ _ rfl rfl; exact rg_I0 ⟨_, rfl, hP⟩)
theorem tg_gt (ha : EG b X G a (· = .int i)) (hc : EG b X G c (· = .int j)) (hP : P (decide (j < i))) : TG b X G (.Compare a [.Gt] [c] pos) P := tg_cmp op_gt (nomark _) ha hc (by rintro _ _ rfl rfl; exact rg_I0 ⟨_, rfl, hP⟩)
theorem tg_ge (ha : EG b X G a (· = .int i)) (hc : EG b X G c (· = .int j)) (hP : P (decide (j ≤ i))) : TG b X G (.Compare a [.GtE] [c] pos) P := tg_cmp op_ge (nomark _) ha hc (by rintro _ _ rfl rfl; exact rg_I0 ⟨_, rfl, hP⟩)
theorem tg_gtN (ha : EG b X G a Pa) (hc : EG b X G c (· = .int j)) (hP : ∀ t, Pa t → ∃ i, t = .int i ∧ P (decide (j < i))) : TG b X G (.Compare a [.Gt] [c] pos) P := tg_cmp op_gt (nomark _) ha hc (by rintro t _ ht rfl; obtain ⟨i, rfl, h⟩ := hP t ht; exact rg_I0 ⟨_, rfl, h⟩)
theorem tg_eq {v w : V} (ha : EG b X G a (· = .is v)) (hc : EG b X G c (· = .is w)) (hs : scal v w = true) (hP : P (decide (v = w))) : TG b X G (.Compare a [.Eq] [c] pos) P := tg_cmp op_eq (nomark _) ha hc (by rintro _ _ rfl rfl; exact rg_eq hs ⟨_, rfl, hP⟩)
theorem tg_eqN {w : V} (ha : EG b X G a Pa) (hc : EG b X G c (· = .is w)) (h : ∀ t, Pa t → ∃ v, t = .is v ∧ scal v w = true ∧ P (decide (v = w))) : TG b X G (.Compare a [.Eq] [c] pos) P := tg_cmp op_eq (nomark _) ha hc (by rintro t _ ht rfl; obtain ⟨v, rfl, hs, hP⟩ := h t ht; exact rg_eq hs ⟨_, rfl, hP⟩)
theorem tg_ne {v w : V} (ha : EG b X G a (· = .is v)) (hc : EG b X G c (· = .is w)) (hs : scal v w = true) (hP : P (!decide (v = w))) : TG b X G (.Compare a [.NotEq] [c] pos) P := tg_cmp op_ne (nomark _) ha hc (by rintro _ _ rfl rfl; exact rg_ne hs ⟨_, rfl, hP⟩)
theorem eg_le (ha : EG b X G a (· = .int i)) (hc : EG b X G c (· = .int j)) (hP : Phi (.bl (decide (i ≤ j)))) : EG b X G (.Compare a [.LtE] [c] pos) Phi := eg_cmp op_le (nomark _) ha hc (by rintro _ _ rfl rfl; exact rg_I0 hP)
theorem eg_gt (ha : EG b X G a (· = .int i)) (hc : EG b X G c (· = .int j)) (hP : Phi (.bl (decide (j < i)))) : EG b X G (.Compare a [.Gt] [c] pos) Phi := eg_cmp op_gt (nomark _) ha hc (by rintro _ _ rfl rfl; exact rg_I0 hP)
theorem eg_lt (ha : EG b X G a (· = .int i)) (hc : EG b X G c (· = .int j)) (hP : Phi (.bl (decide (i < j)))) : EG b X G (.Compare a [.Lt] [c] pos) Phi := eg_cmp op_lt (nomark _) ha hc (by rintro _ _ rfl rfl; exact rg_I0 hP)
theorem eg_eq {v w : V} (ha : EG b X G a (· = .is v)) (hc : EG b X G c (· = .is w)) (hs : scal v w = true) (hP : Phi (.bl (decide (v = w)))) : EG b X G (.Compare a [.Eq] [c] pos) Phi := eg_cmp op_eq (nomark _) ha hc (by rintro _ _ rfl rfl; exact rg_eq hs hP)
/-- a value as a test -/
theorem tg_val (he : EG b X G e Pa) (h : ∀ t, Pa t → ∃ d, t = .bl d ∧ P d) (hw : ∀ whole, isTrue e X.env whole = (do let v ← whole; standAt e.pos; holding [v] (truthy v)) := by intro _; rfl) : TG b X G e P := fun σ H Hr s Q q =>
  wt_of (pt_val pe_self hw) (he σ H Hr s _ fun t v H' Hr' p e1 s1 h1 => by
    obtain ⟨d, rfl, pd⟩ := h t p
    exact ⟨d, holds_is.mp h1, q d H' Hr' pd e1 s1⟩)
/-! ### and, or, not -/
/-- a test whatever its whole is -/
def UG (b : Bs) (X : Cx) (G : List En) (e : Expr) (P : Bool → Prop) : Prop := ∃ t, PW X e t ∧ ∀ σ H Hr, Sat b G σ H Hr → ∀ Q : Bool → Hp → Prop, (∀ d H' Hr', P d → Evo b H Hr H' Hr' → Sat b G σ H' Hr' → Q d H') → t σ H Q
theorem UG.tg (h : UG b X G e P) : TG b X G e P := by
  obtain ⟨t, h1, h2⟩ := h
  exact fun σ H Hr s Q q => wt_of h1.pt (h2 σ H Hr s Q q)
variable {Pt : Bool → Prop} {rest : List Expr}
theorem ug_and1 (ha : TG b X G a P) : UG b X G (.BoolOp .And [a] pos) P := ⟨_, pw_and1 pt_self, fun σ H Hr s Q q => ha σ H Hr s Q q⟩
theorem ug_or1 (ha : TG b X G a P) : UG b X G (.BoolOp .Or [a] pos) P := ⟨_, pw_or1 pt_self, fun σ H Hr s Q q => ha σ H Hr s Q q⟩
theorem ug_and (ha : TG b X G a Pt) (hb : Pt true → UG b X G (.BoolOp .And (c :: rest) pos) P) (hf : Pt false → P false) : UG b X G (.BoolOp .And (a :: c :: rest) pos) P := by
  by_cases h : Pt true
  · obtain ⟨t, h1, h2⟩ := hb h
    refine ⟨_, pw_and pt_self h1, fun σ H Hr s Q q => ha σ H Hr s _ fun d H1 Hr1 p1 e1 s1 => ?_⟩
    cases d with
    | true => rw [if_pos rfl]; exact h2 σ H1 Hr1 s1 Q fun d H2 Hr2 p2 e2 s2 => q d H2 Hr2 p2 (e1.trans e2) s2
    | false => rw [if_neg Bool.false_ne_true]; exact q false H1 Hr1 (hf p1) e1 s1
  · refine ⟨_, pw_and (tB' := fun _ _ _ => False) pt_self ⟨fun _ _ _ _ _ _ _ z => z.elim⟩, fun σ H Hr s Q q => ha σ H Hr s _ fun d H1 Hr1 p1 e1 s1 => ?_⟩
    cases d with
    | true => exact absurd p1 h
    | false => rw [if_neg Bool.false_ne_true]; exact q false H1 Hr1 (hf p1) e1 s1
theorem ug_or (ha : TG b X G a Pt) (hb : Pt false → UG b X G (.BoolOp .Or (c :: rest) pos) P) (hf : Pt true → P true) : UG b X G (.BoolOp .Or (a :: c :: rest) pos) P := by
  by_cases h : Pt false
  · obtain ⟨t, h1, h2⟩ := hb h
    refine ⟨_, pw_or pt_self h1, fun σ H Hr s Q q => ha σ H Hr s _ fun d H1 Hr1 p1 e1 s1 => ?_⟩
    cases d with
    | false => rw [if_neg Bool.false_ne_true]; exact h2 σ H1 Hr1 s1 Q fun d H2 Hr2 p2 e2 s2 => q d H2 Hr2 p2 (e1.trans e2) s2
    | true => rw [if_pos rfl]; exact q true H1 Hr1 (hf p1) e1 s1
  · refine ⟨_, pw_or (tB' := fun _ _ _ => False) pt_self ⟨fun _ _ _ _ _ _ _ z => z.elim⟩, fun σ H Hr s Q q => ha σ H Hr s _ fun d H1 Hr1 p1 e1 s1 => ?_⟩
    cases d with
    | false => exact absurd p1 h
    | true => rw [if_pos rfl]; exact q true H1 Hr1 (hf p1) e1 s1
theorem tg_not (ha : TG b X G a Pt) (h : ∀ d, Pt d → P (!d)) : TG b X G (.UnaryOp .Not a pos) P := fun σ H Hr s Q q =>
  wt_of (pt_not pt_self) (ha σ H Hr s _ fun d H1 Hr1 p1 e1 s1 => q (!d) H1 Hr1 (h d p1) e1 s1)
theorem eg_one {op : BoolOp} (h : EG b X G a Phi) : EG b X G (.BoolOp op [a] pos) Phi := fun σ H Hr s Q q => we_of (pe_one pe_self) (h σ H Hr s Q q)
theorem eg_and {d : Bool} (ha : EG b X G a (· = .bl d)) (hb : d = true → EG b X G (.BoolOp .And (c :: rest) pos) Phi) (hf : d = false → Phi (.bl false)) : EG b X G (.BoolOp .And (a :: c :: rest) pos) Phi := fun σ H Hr s Q q =>
  we_of (pe_and pe_self pe_self) (ha σ H Hr s _ fun t v H1 Hr1 p1 e1 s1 h1 => by
    subst p1
    refine ⟨d, holds_is.mp h1, ?_⟩
    cases d with
    | true => rw [if_pos rfl]; exact hb rfl σ H1 Hr1 s1 Q fun t v H2 Hr2 p2 e2 s2 h2 => q t v H2 Hr2 p2 (e1.trans e2) s2 h2
    | false => rw [if_neg Bool.false_ne_true]; exact q (.bl false) _ H1 Hr1 (hf rfl) e1 s1 (holds_is.mpr rfl))
theorem eg_or {d : Bool} (ha : EG b X G a (· = .bl d)) (hb : d = false → EG b X G (.BoolOp .Or (c :: rest) pos) Phi) (hf : d = true → Phi (.bl true)) : EG b X G (.BoolOp .Or (a :: c :: rest) pos) Phi := fun σ H Hr s Q q =>
  we_of (pe_or pe_self pe_self) (ha σ H Hr s _ fun t v H1 Hr1 p1 e1 s1 h1 => by
    subst p1
    refine ⟨d, holds_is.mp h1, ?_⟩
    cases d with
    | false => rw [if_neg Bool.false_ne_true]; exact hb rfl σ H1 Hr1 s1 Q fun t v H2 Hr2 p2 e2 s2 h2 => q t v H2 Hr2 p2 (e1.trans e2) s2 h2
    | true => rw [if_pos rfl]; exact q (.bl true) _ H1 Hr1 (hf rfl) e1 s1 (holds_is.mpr rfl))
theorem eg_not {d : Bool} (ha : EG b X G a (· = .bl d)) (hP : Phi (.bl (!d))) : EG b X G (.UnaryOp .Not a pos) Phi := fun σ H Hr s Q q =>
  we_of (pe_not pe_self) (ha σ H Hr s _ fun t v H1 Hr1 p1 e1 s1 h1 => by
    subst p1
    exact ⟨d, holds_is.mp h1, q (.bl (!d)) _ H1 Hr1 hP e1 s1 (holds_is.mpr rfl)⟩)
theorem eg_if (hc : TG b X G c Pt) (ha : Pt true → EG b X G a Phi) (he : Pt false → EG b X G e Phi) : EG b X G (.IfExp c a e pos) Phi := fun σ H Hr s Q q =>
  we_of (pe_ifExp pt_self pe_self pe_self) (hc σ H Hr s _ fun d H1 Hr1 p1 e1 s1 => by
    cases d with
    | true => rw [if_pos rfl]; exact ha p1 σ H1 Hr1 s1 Q fun t v H2 Hr2 p2 e2 s2 h2 => q t v H2 Hr2 p2 (e1.trans e2) s2 h2
    | false => rw [if_neg Bool.false_ne_true]; exact he p1 σ H1 Hr1 s1 Q fun t v H2 Hr2 p2 e2 s2 h2 => q t v H2 Hr2 p2 (e1.trans e2) s2 h2)
/-! ### arguments, displays -/
variable {A1 A2 : List T → Prop}
theorem ag_nil (h : A1 []) : AG b X G [] A1 := fun σ H Hr s Q q => wa_of pa_nil (q [] [] H Hr h Evo.refl s (holdsL_nil.mpr rfl))
theorem ag_consN (ha : EG b X G e Pa) (hr : AG b X G es A2) (h : ∀ t ts, Pa t → A2 ts → A1 (t :: ts)) (hs : starEach (e :: es) X.env = (false, eval e X.env) :: starEach es X.env := by rfl) : AG b X G (e :: es) A1 := fun σ H Hr s Q q =>
  wa_of (pa_cons pe_self pa_self hs) (ha σ H Hr s _ fun t v H1 Hr1 p1 e1 s1 h1 => hr σ H1 Hr1 s1 _ fun ts vs H2 Hr2 p2 e2 s2 h2 => q (t :: ts) (v :: vs) H2 Hr2 (h t ts p1 p2) (e1.trans e2) s2 (holdsL_cons.mpr ⟨v, vs, rfl, holds_mono e2.r h1, h2⟩))
theorem ag_cons {t : T} {ts : List T} (ha : EG b X G e (· = t)) (hr : AG b X G es (· = ts)) (hs : starEach (e :: es) X.env = (false, eval e X.env) :: starEach es X.env := by rfl) : AG b X G (e :: es) (· = t :: ts) := ag_consN ha hr (fun _ _ h1 h2 => by rw [h1, h2]) hs
theorem ag_one {t : T} (ha : EG b X G e (· = t)) (hs : starEach [e] X.env = (false, eval e X.env) :: starEach [] X.env := by rfl) : AG b X G [e] (· = [t]) := ag_cons ha (ag_nil rfl) hs
theorem same_down {b : Bs} {H Hr : Hp} {p : Addr} (s : Sat0 b H Hr) (h : H p = none) : b.B p = none ∧ Hr p = none := by
  constructor
  · cases e : b.B p with
    | none => rfl
    | some o => exact absurd h (s.old p (by rw [e]; simp))
  · exact s.r2.free h
theorem Sat.fresh {σ : L2.St} {H Hr : Hp} {p : Addr} (s : Sat b G σ H Hr) (h : H p = none) (i : Nat) (us : List T) (hG : G[i]? = some (.mu us)) : σ[i]? ≠ some (some (.ref p)) := by
  obtain ⟨q, vs, h1, _, _, h4, _⟩ := s.slot i _ hG
  intro z
  rw [h1] at z
  have z2 : q = p := by injection z with z; injection z with z; injection z
  subst z2
  rw [h] at h4; cases h4
theorem evo_down {b : Bs} {H Hr H' Hr' : Hp} {p : Addr} (e : Evo b H Hr H' Hr') (h : H' p = none) : H p = none := by
  cases q : H p with
  | none => rfl
  | some o => exact absurd h (e.o p (by rw [q]; simp))
theorem fg_lst (ha : AG b X G es A1) (hz : ∀ ts, A1 ts → ts.length ≤ 1000) : FG b X G (.List es pos) A1 := fun σ H Hr s Q q =>
  we_of (pe_lst pa_self) (ha σ H Hr s _ fun ts vs H1 Hr1 p1 e1 s1 h1 => ⟨Nat.le_trans (by rw [holdsL_len h1]; exact hz ts p1) (by decide), fun p hp => by
    obtain ⟨z1, z2⟩ := same_down s1.toSat0 hp
    exact q ts p vs _ Hr1 p1 (e1.trans (Stp.own s1.r2 hp).evo) (s1.stp (Stp.own s1.r2 hp)) (evo_down e1 hp) z1 z2 upd_same h1 fun i us hG => s1.fresh hp i us hG⟩)
theorem eg_tup {x1 : Nat} (ha : AG b X G es A1) (h : ∀ ts, A1 ts → ts.length ≤ 1000 ∧ Phi (.tup ts)) : EG b X G (.Tuple es x1 pos) Phi := fun σ H Hr s Q q =>
  we_of (pe_tup pa_self) (ha σ H Hr s _ fun ts vs H1 Hr1 p1 e1 s1 h1 => ⟨Nat.le_trans (by rw [holdsL_len h1]; exact (h ts p1).1) (by decide), fun p hp => by
    have st := Stp.new (o := .tup vs) s1.r2 hp
    exact q (.tup ts) (.ref p) _ _ (h ts p1).2 (e1.trans st.evo) (s1.stp st) (holds_tup.mpr ⟨p, vs, rfl, SqT.of upd_same, holdsL_mono st.r h1⟩)⟩)
/-! ### items, lengths, slices -/
def tAt (ts : List T) (i : Int) : Option T := (ixN ts.length i).bind fun j => ts[j]?
theorem tAt_get {c : Cs} {H : Hp} {ts : List T} {vs : List V} {i : Int} {t : T} (h : holdsL c ts vs H) (e : tAt ts i = some t) : ∃ v, atI vs i = some v ∧ holds c t v H := by
  unfold tAt at e
  unfold atI
  rw [holdsL_len h]
  cases q : ixN ts.length i with
  | none => rw [q] at e; cases e
  | some j =>
    rw [q] at e
    exact holdsL_get h e
theorem tAt_nat {ts : List T} {i : Nat} {t : T} (h : ts[i]? = some t) : tAt ts (i : Int) = some t := by
  have hi := (List.getElem?_eq_some_iff.mp h).1
  unfold tAt ixN
  rw [if_pos (Int.natCast_nonneg _), if_pos (by omega)]
  exact h
theorem tAt_last {ts : List T} {t : T} (h : ts.getLast? = some t) : tAt ts (-1) = some t := by
  have hp : 0 < ts.length := by
    cases ts with
    | nil => simp at h
    | cons a r => simp
  unfold tAt ixN
  rw [if_neg (by decide), if_pos (by omega)]
  show ts[(-1 + (ts.length : Int)).toNat]? = some t
  rw [show (-1 + (ts.length : Int)).toNat = ts.length - 1 by omega, ← List.getLast?_eq_getElem?]
  exact h
theorem eg_ixN {Pi : T → Prop} {ts : List T} (hK : b.c.K = X.K) (ha : EG b X G a (· = .lst ts)) (hi : EG b X G c Pi) (hx : PlainIx c) (h : ∀ t, Pi t → ∃ n u, t = .int n ∧ tAt ts n = some u ∧ Phi u) : EG b X G (.Subscript a c pos) Phi := fun σ H Hr s Q q =>
  we_of (pe_ix ix_list pe_self pe_self hx) (we_two ha hi s fun ta tb x y H2 Hr2 p1 p2 e2 s2 h1 h2 => by
    subst p1
    obtain ⟨n, u, rfl, hu, hP⟩ := h tb p2
    obtain ⟨l, vs, rfl, hl, hv⟩ := holds_lst.mp h1
    obtain ⟨v, hv1, hv2⟩ := tAt_get hv hu
    exact ⟨l, vs, n, v, rfl, holds_is.mp h2, SqL.of (s2.r2 _ _ hl), hv1, q u v H2 Hr2 hP e2 s2 hv2⟩)
theorem eg_ixL {ts : List T} {n : Int} {u : T} (hK : b.c.K = X.K) (ha : EG b X G a (· = .lst ts)) (hi : EG b X G c (· = .int n)) (hx : PlainIx c) (hu : tAt ts n = some u) (hP : Phi u) : EG b X G (.Subscript a c pos) Phi :=
  eg_ixN hK ha hi hx fun t ht => ⟨n, u, ht, hu, hP⟩
theorem eg_ixT {ts : List T} {n : Int} {u : T} (hK : b.c.K = X.K) (ha : EG b X G a (· = .tup ts)) (hi : EG b X G c (· = .int n)) (hx : PlainIx c) (hu : tAt ts n = some u) (hP : Phi u) : EG b X G (.Subscript a c pos) Phi := fun σ H Hr s Q q =>
  we_of (pe_ix ix_tup pe_self pe_self hx) (we_two ha hi s fun ta tb x y H2 Hr2 p1 p2 e2 s2 h1 h2 => by
    subst p1; subst p2
    obtain ⟨l, vs, rfl, hl, hv⟩ := holds_tup.mp h1
    obtain ⟨v, hv1, hv2⟩ := tAt_get hv hu
    exact ⟨l, vs, n, v, rfl, holds_is.mp h2, hK ▸ same_tup s2.r2 hl, hv1, q u v H2 Hr2 hP e2 s2 hv2⟩)
/-- an item of a list of one's own -/
theorem eg_ixM (k : Nat) {x : Str} {ts : List T} {n : Int} {u : T} (hG : G[k]? = some (.mu ts)) (hi : EG b X G c (· = .int n)) (hx : PlainIx c) (hu : tAt ts n = some u) (hP : Phi u)
    (hN : X.N[k]? = some x := by rfl) (hv : Vis X.env.scope x := by first | exact Or.inl rfl | exact Or.inr (Or.inl rfl) | exact Or.inr (Or.inr rfl)) (hd : (x == ("__debug__" : Str)) = false := by decide) (hcd : (x == ("__classdict__" : Str)) = false := by decide) :
    EG b X G (.Subscript (.Name x p) c pos) Phi := fun σ H Hr s Q q => by
  obtain ⟨l, vs, h1, h2, h3, h4, h5⟩ := s.slot k _ hG
  refine we_of (pe_ix ix_list (pe_var hN hv hd hcd) pe_self hx) ⟨_, h1, hi σ H Hr s _ fun t y H1 Hr1 p1 e1 s1 hy => ?_⟩
  subst p1
  obtain ⟨l', vs', h1', h2', h3', h4', h5'⟩ := s1.slot k _ hG
  rw [h1] at h1'
  have z : l = l' := by injection h1' with z; injection z with z; injection z
  subst z
  obtain ⟨v, hv1, hv2⟩ := tAt_get h5' hu
  exact ⟨l, vs', n, v, rfl, holds_is.mp hy, SqL.of h4', hv1, q u v H1 Hr1 hP e1 s1 hv2⟩
theorem eg_lenL {ts : List T} (ha : EG b X G a (· = .lst ts)) (hg : Gl X "len") (hm : X.mg "len" = none) (hP : Phi (.int (ts.length : Int))) (he : starEach [a] X.env = (false, eval a X.env) :: starEach [] X.env := by rfl) : EG b X G (.Call (.Name "len" p) [a] [] pos) Phi := fun σ H Hr s Q q =>
  we_of (pe_callB call_len_seq hg hm PySem.boot_len (pa_cons pe_self pa_nil he) (he := he)) (ha σ H Hr s _ fun t v H1 Hr1 p1 e1 s1 h1 => by
    subst p1
    obtain ⟨l, vs, rfl, hl, hv⟩ := holds_lst.mp h1
    refine ⟨l, vs, rfl, .inl (SqL.of (s1.r2 _ _ hl)), ?_⟩
    rw [holdsL_len hv]
    exact q (.int (ts.length : Int)) _ H1 Hr1 hP e1 s1 (holds_is.mpr rfl))
theorem eg_lenT {ts : List T} (hK : b.c.K = X.K) (ha : EG b X G a (· = .tup ts)) (hg : Gl X "len") (hm : X.mg "len" = none) (hP : Phi (.int (ts.length : Int))) (he : starEach [a] X.env = (false, eval a X.env) :: starEach [] X.env := by rfl) : EG b X G (.Call (.Name "len" p) [a] [] pos) Phi := fun σ H Hr s Q q =>
  we_of (pe_callB call_len_seq hg hm PySem.boot_len (pa_cons pe_self pa_nil he) (he := he)) (ha σ H Hr s _ fun t v H1 Hr1 p1 e1 s1 h1 => by
    subst p1
    obtain ⟨l, vs, rfl, hl, hv⟩ := holds_tup.mp h1
    refine ⟨l, vs, rfl, .inr (hK ▸ same_tup s1.r2 hl), ?_⟩
    rw [holdsL_len hv]
    exact q (.int (ts.length : Int)) _ H1 Hr1 hP e1 s1 (holds_is.mpr rfl))
theorem eg_lenM (k : Nat) {x : Str} {ts : List T} (hG : G[k]? = some (.mu ts)) (hg : Gl X "len") (hm : X.mg "len" = none) (hP : Phi (.int (ts.length : Int))) (hN : X.N[k]? = some x := by rfl) (hv : Vis X.env.scope x := by first | exact Or.inl rfl | exact Or.inr (Or.inl rfl) | exact Or.inr (Or.inr rfl)) (hd : (x == ("__debug__" : Str)) = false := by decide) (hcd : (x == ("__classdict__" : Str)) = false := by decide)
    (he : starEach [.Name x p'] X.env = (false, eval (.Name x p') X.env) :: starEach [] X.env := by rfl) : EG b X G (.Call (.Name "len" p) [.Name x p'] [] pos) Phi := fun σ H Hr s Q q => by
  obtain ⟨l, vs, h1, h2, h3, h4, h5⟩ := s.slot k _ hG
  refine we_of (pe_callB call_len_seq hg hm PySem.boot_len (pa_cons (pe_var hN hv hd hcd) pa_nil he) (he := he)) ⟨_, h1, l, vs, rfl, .inl (SqL.of h4), ?_⟩
  rw [holdsL_len h5]
  exact q (.int (ts.length : Int)) _ H Hr hP Evo.refl s (holds_is.mpr rfl)
theorem fresh_of {σ : L2.St} {H Hr : Hp} {ts : List T} {vs : List V} {Q : VK} {H0 Hr0 : Hp} (s : Sat b G σ H Hr) (h : holdsL b.c ts vs Hr) (e : Evo b H0 Hr0 H Hr) {A : List T → Prop} (hA : A ts)
    (q : ∀ ts p vs H' Hr', A ts → Evo b H0 Hr0 H' Hr' → Sat b G σ H' Hr' → H0 p = none → b.B p = none → Hr' p = none → H' p = some (.lst vs) → holdsL b.c ts vs Hr' → (∀ (i : Nat) (us : List T), G[i]? = some (.mu us) → σ[i]? ≠ some (some (.ref p))) → Q (.ref p) H')
    (p : Addr) (hp : H p = none) : Q (.ref p) (upd H p (.lst vs)) := by
  obtain ⟨z1, z2⟩ := same_down s.toSat0 hp
  exact q ts p vs _ Hr hA (e.trans (Stp.own s.r2 hp).evo) (s.stp (Stp.own s.r2 hp)) (evo_down e hp) z1 z2 upd_same h fun i us hG => s.fresh hp i us hG
/-- list(xs) -/
theorem fg_list {ts : List T} (hK : b.c.K = X.K) (ha : EG b X G a (fun t => t = .lst ts ∨ t = .tup ts)) (hg : Gl X "list") (hm : X.mg "list" = none) (hA : A1 ts) (he : starEach [a] X.env = (false, eval a X.env) :: starEach [] X.env := by rfl) : FG b X G (.Call (.Name "list" p) [a] [] pos) A1 := fun σ H Hr s Q q =>
  we_of (pe_callTy call_list_of hg hm (by decide +kernel) (pa_cons pe_self pa_nil he) (he := he)) (ha σ H Hr s _ fun t v H1 Hr1 p1 e1 s1 h1 => by
    rcases p1 with rfl | rfl
    · obtain ⟨l, vs, rfl, hl, hv⟩ := holds_lst.mp h1
      exact ⟨l, vs, rfl, .inl (SqL.of (s1.r2 _ _ hl)), fresh_of s1 hv e1 hA q⟩
    · obtain ⟨l, vs, rfl, hl, hv⟩ := holds_tup.mp h1
      exact ⟨l, vs, rfl, .inr (hK ▸ same_tup s1.r2 hl), fresh_of s1 hv e1 hA q⟩)
/-- tuple(xs), xs a list -/
theorem eg_tuple {ts : List T} (ha : EG b X G a (· = .lst ts)) (hg : Gl X "tuple") (hm : X.mg "tuple" = none) (hP : Phi (.tup ts)) (he : starEach [a] X.env = (false, eval a X.env) :: starEach [] X.env := by rfl) : EG b X G (.Call (.Name "tuple" p) [a] [] pos) Phi := fun σ H Hr s Q q =>
  we_of (pe_callTy call_tuple_of hg hm (by decide +kernel) (pa_cons pe_self pa_nil he) (he := he)) (ha σ H Hr s _ fun t v H1 Hr1 p1 e1 s1 h1 => by
    subst p1
    obtain ⟨l, vs, rfl, hl, hv⟩ := holds_lst.mp h1
    refine ⟨l, vs, rfl, .inl ⟨SqL.of (s1.r2 _ _ hl), fun q0 hp => ?_⟩⟩
    have st := Stp.new (o := .tup vs) s1.r2 hp
    exact q (.tup ts) (.ref q0) _ _ hP (e1.trans st.evo) (s1.stp st) (holds_tup.mpr ⟨q0, vs, rfl, SqT.of upd_same, holdsL_mono st.r hv⟩))
theorem cutV_take (vs : List V) (n : Nat) (h : n ≤ vs.length) : cutV vs none (some (n : Int)) = vs.take n := by
  unfold cutV
  rw [HT.sIx_none, HT.sIx_nat, Nat.min_eq_left h]
  rfl
theorem cutV_init (vs : List V) : cutV vs none (some (-1)) = vs.take (vs.length - 1) := by
  unfold cutV
  rw [HT.sIx_none]
  show List.take (HT.sIx vs.length vs.length (some (-1)) - 0) vs = _
  have e : HT.sIx vs.length vs.length (some (-1)) = vs.length - 1 := by
    have := HT.clip_eq (-1) vs.length vs.length
    rw [if_pos (by decide)] at this
    omega
  rw [e]; rfl
/-- xs[:n] -/
theorem fg_take {ts : List T} {n : Nat} (ha : EG b X G a (· = .lst ts)) (hn : EG b X G c (· = .int (n : Int))) (hz : n ≤ ts.length) (hA : A1 (ts.take n)) : FG b X G (.Subscript a (.Slice none (some c) none p) pos) A1 := fun σ H Hr s Q q =>
  we_of (pe_slice sl_list pe_self po_none (po_some pe_self)) (ha σ H Hr s _ fun t v H1 Hr1 p1 e1 s1 h1 => hn σ H1 Hr1 s1 _ fun u y H2 Hr2 p2 e2 s2 h2 => by
    subst p1; subst p2
    obtain ⟨l, vs, rfl, hl, hv⟩ := holds_lst.mp (holds_mono e2.r h1)
    refine ⟨(n : Int), holds_is.mp h2, l, vs, rfl, SqL.of (s2.r2 _ _ hl), ?_⟩
    rw [cutV_take vs n (by rw [holdsL_len hv]; exact hz)]
    exact fresh_of s2 (holdsL_take n hv) (e1.trans e2) hA q)
/-- xs[:-1] -/
theorem fg_init {ts : List T} (ha : EG b X G a (· = .lst ts)) (hn : EG b X G c (· = .int (-1))) (hA : A1 (ts.take (ts.length - 1))) : FG b X G (.Subscript a (.Slice none (some c) none p) pos) A1 := fun σ H Hr s Q q =>
  we_of (pe_slice sl_list pe_self po_none (po_some pe_self)) (ha σ H Hr s _ fun t v H1 Hr1 p1 e1 s1 h1 => hn σ H1 Hr1 s1 _ fun u y H2 Hr2 p2 e2 s2 h2 => by
    subst p1; subst p2
    obtain ⟨l, vs, rfl, hl, hv⟩ := holds_lst.mp (holds_mono e2.r h1)
    refine ⟨-1, holds_is.mp h2, l, vs, rfl, SqL.of (s2.r2 _ _ hl), ?_⟩
    rw [cutV_init, holdsL_len hv]
    exact fresh_of s2 (holdsL_take _ hv) (e1.trans e2) hA q)
/-- xs[::-1] -/
theorem fg_rev {ts : List T} {k : Nat} {q1 q2 q3 : Pos} (ha : EG b X G a (· = .lst ts)) (hA : A1 ts.reverse) : FG b X G (.Subscript a (.Slice none none (some (.UnaryOp .USub (.Constant (.int 1) k q1) q2)) q3) pos) A1 := fun σ H Hr s Q q =>
  we_of (pe_revL pe_self) (ha σ H Hr s _ fun t v H1 Hr1 p1 e1 s1 h1 => by
    subst p1
    obtain ⟨l, vs, rfl, hl, hv⟩ := holds_lst.mp h1
    exact ⟨l, vs, rfl, SqL.of (s1.r2 _ _ hl), fresh_of s1 (holdsL_rev hv) e1 hA q⟩)
/-- xs + ys -/
theorem fg_cat {ts us : List T} (ha : EG b X G a (· = .lst ts)) (hc : EG b X G c (· = .lst us)) (hz : ts.length + us.length ≤ 1000) (hA : A1 (ts ++ us)) : FG b X G (.BinOp a .Add c pos) A1 := fun σ H Hr s Q q =>
  we_of (pe_op op_cat pe_self pe_self) (we_two ha hc s fun ta tb x y H2 Hr2 p1 p2 e2 s2 h1 h2 => by
    subst p1; subst p2
    obtain ⟨l, vs, rfl, hl, hv⟩ := holds_lst.mp h1
    obtain ⟨m, ws, rfl, hm, hw⟩ := holds_lst.mp h2
    refine ⟨l, m, vs, ws, rfl, rfl, s2.r2 _ _ hl, s2.r2 _ _ hm, ?_, fresh_of s2 (holdsL_append hv hw) e2 hA q⟩
    rw [holdsL_len hv, holdsL_len hw]
    exact Nat.le_trans hz (by decide))
theorem fg_catN {ts : List T} (ha : EG b X G a (· = .lst ts)) (hc : EG b X G c Pb) (h : ∀ t, Pb t → ∃ us, t = .lst us ∧ ts.length + us.length ≤ 1000 ∧ A1 (ts ++ us)) : FG b X G (.BinOp a .Add c pos) A1 := fun σ H Hr s Q q =>
  we_of (pe_op op_cat pe_self pe_self) (we_two ha hc s fun ta tb x y H2 Hr2 p1 p2 e2 s2 h1 h2 => by
    subst p1
    obtain ⟨us, rfl, hz, hA⟩ := h tb p2
    obtain ⟨l, vs, rfl, hl, hv⟩ := holds_lst.mp h1
    obtain ⟨m, ws, rfl, hm, hw⟩ := holds_lst.mp h2
    refine ⟨l, m, vs, ws, rfl, rfl, s2.r2 _ _ hl, s2.r2 _ _ hm, ?_, fresh_of s2 (holdsL_append hv hw) e2 hA q⟩
    rw [holdsL_len hv, holdsL_len hw]
    exact Nat.le_trans hz (by decide))
theorem flat_rep {α : Type} (y : α) : ∀ n : Nat, (List.replicate n [y]).flatten = List.replicate n y
  | 0 => rfl
  | n + 1 => by rw [List.replicate_succ, List.flatten_cons, flat_rep y n]; rfl
theorem holdsL_rep {c : Cs} {H : Hp} {t : T} {v : V} (h : holds c t v H) : ∀ n : Nat, holdsL c (List.replicate n t) (List.replicate n v) H
  | 0 => holdsL_nil.mpr rfl
  | n + 1 => holdsL_cons.mpr ⟨v, _, rfl, h, holdsL_rep h n⟩
/-- [y] * n -/
theorem fg_repN {t : T} (ha : EG b X G a (· = .lst [t])) (hc : EG b X G c Pb) (h : ∀ u, Pb u → ∃ n : Int, u = .int n ∧ n ≤ 1000 ∧ -1000 ≤ n ∧ A1 (List.replicate n.toNat t)) : FG b X G (.BinOp a .Mult c pos) A1 := fun σ H Hr s Q q =>
  we_of (pe_op op_rep pe_self pe_self) (we_two ha hc s fun ta tb x y H2 Hr2 p1 p2 e2 s2 h1 h2 => by
    subst p1
    obtain ⟨n, rfl, hz, hz2, hA⟩ := h tb p2
    obtain ⟨l, vs, rfl, hl, hv⟩ := holds_lst.mp h1
    obtain ⟨v, r, rfl, hv1, hv2⟩ := holdsL_cons.mp hv
    obtain rfl := holdsL_nil.mp hv2
    refine ⟨l, n, [v], rfl, holds_is.mp h2, s2.r2 _ _ hl, by omega, by omega, ?_, ?_⟩
    · show 1 * n.toNat ≤ sizeLine
      exact Nat.le_trans (show 1 * n.toNat ≤ 1000 by omega) (by decide)
    · rw [flat_rep]
      exact fresh_of s2 (holdsL_rep hv1 _) e2 hA q)
theorem fg_rep {t : T} {n : Int} (ha : EG b X G a (· = .lst [t])) (hc : EG b X G c (· = .int n)) (hz : n ≤ 1000) (hz2 : -1000 ≤ n) (hA : A1 (List.replicate n.toNat t)) : FG b X G (.BinOp a .Mult c pos) A1 := fg_repN ha hc fun u hu => ⟨n, hu, hz, hz2, hA⟩
/-! ### built-in functions -/
theorem eg_max {i j : Int} (hc1 : X.calm = true) (ha : EG b X G a (· = .int i)) (hc : EG b X G c (· = .int j)) (hg : Gl X "max") (hm : X.mg "max" = none) (hP : Phi (.int (max i j)))
    (he : starEach [a, c] X.env = (false, eval a X.env) :: starEach [c] X.env := by rfl) (he2 : starEach [c] X.env = (false, eval c X.env) :: starEach [] X.env := by rfl) (hpl : (backTo pos (starEach [c] X.env)).any (·.1) = false := by rfl) : EG b X G (.Call (.Name "max" p) [a, c] [] pos) Phi := fun σ H Hr s Q q =>
  we_of (pe_callB (call_max2 hc1) hg hm (by decide +kernel) (pa_cons pe_self (pa_cons pe_self pa_nil he2) he) (he := he) (hpl := hpl)) (we_two ha hc s fun ta tb x y H2 Hr2 p1 p2 e2 s2 h1 h2 => by
    subst p1; subst p2
    refine ⟨i, j, by rw [holds_is.mp h1, holds_is.mp h2], ?_⟩
    have e : (if j > i then j else i) = max i j := by
      by_cases h : j > i
      · rw [if_pos h]; omega
      · rw [if_neg h]; omega
    rw [e]
    exact q (.int (max i j)) _ H2 Hr2 hP e2 s2 (holds_is.mpr rfl))
theorem eg_abs {i : Int} (ha : EG b X G a (· = .int i)) (hg : Gl X "abs") (hm : X.mg "abs" = none) (hP : Phi (.int (i.natAbs : Int))) (he : starEach [a] X.env = (false, eval a X.env) :: starEach [] X.env := by rfl) : EG b X G (.Call (.Name "abs" p) [a] [] pos) Phi := fun σ H Hr s Q q =>
  we_of (pe_callB call_abs hg hm (by decide +kernel) (pa_cons pe_self pa_nil he) (he := he)) (ha σ H Hr s _ fun t v H1 Hr1 p1 e1 s1 h1 => by
    subst p1
    refine ⟨i, by rw [holds_is.mp h1], ?_⟩
    have e : (if i < 0 then -i else i) = (i.natAbs : Int) := by
      by_cases h : i < 0
      · rw [if_pos h]; omega
      · rw [if_neg h]; omega
    rw [e]
    exact q _ _ H1 Hr1 hP e1 s1 (holds_is.mpr rfl))
theorem eg_intI {i : Int} (ha : EG b X G a (· = .int i)) (hg : Gl X "int") (hm : X.mg "int" = none) (hP : Phi (.int i)) (he : starEach [a] X.env = (false, eval a X.env) :: starEach [] X.env := by rfl) : EG b X G (.Call (.Name "int" p) [a] [] pos) Phi := fun σ H Hr s Q q =>
  we_of (pe_callTy call_int1 hg hm (by decide +kernel) (pa_cons pe_self pa_nil he) (he := he)) (ha σ H Hr s _ fun t v H1 Hr1 p1 e1 s1 h1 => by
    subst p1
    exact .inl ⟨i, by rw [holds_is.mp h1], q _ _ H1 Hr1 hP e1 s1 (holds_is.mpr rfl)⟩)
theorem eg_intB {d : Bool} (ha : EG b X G a (· = .bl d)) (hg : Gl X "int") (hm : X.mg "int" = none) (hP : Phi (.int (if d then 1 else 0))) (he : starEach [a] X.env = (false, eval a X.env) :: starEach [] X.env := by rfl) : EG b X G (.Call (.Name "int" p) [a] [] pos) Phi := fun σ H Hr s Q q =>
  we_of (pe_callTy call_int1 hg hm (by decide +kernel) (pa_cons pe_self pa_nil he) (he := he)) (ha σ H Hr s _ fun t v H1 Hr1 p1 e1 s1 h1 => by
    subst p1
    exact .inr ⟨d, by rw [holds_is.mp h1], q _ _ H1 Hr1 hP e1 s1 (holds_is.mpr rfl)⟩)
theorem holdsL_bls {c : Cs} {H : Hp} : ∀ {bs : List Bool} {vs : List V}, holdsL c (bs.map T.bl) vs H → vs = bs.map V.bl
  | [], vs, h => holdsL_nil.mp h
  | d :: bs, vs, h => by
    obtain ⟨v, r, rfl, h1, h2⟩ := holdsL_cons.mp h
    rw [holds_is.mp h1, holdsL_bls h2]; rfl
theorem eg_all {bs : List Bool} (hc1 : X.calm = true) (ha : EG b X G a (· = .lst (bs.map T.bl))) (hg : Gl X "all") (hm : X.mg "all" = none) (hP : Phi (.bl (bs.all id))) (he : starEach [a] X.env = (false, eval a X.env) :: starEach [] X.env := by rfl) : EG b X G (.Call (.Name "all" p) [a] [] pos) Phi := fun σ H Hr s Q q =>
  we_of (pe_callB (cr_all hc1) hg hm (by decide +kernel) (pa_cons pe_self pa_nil he) (he := he)) (ha σ H Hr s _ fun t v H1 Hr1 p1 e1 s1 h1 => by
    subst p1
    obtain ⟨l, vs, rfl, hl, hv⟩ := holds_lst.mp h1
    refine ⟨l, bs, rfl, SqL.of ?_, q _ _ H1 Hr1 hP e1 s1 (holds_is.mpr rfl)⟩
    rw [← holdsL_bls hv]
    exact s1.r2 _ _ hl)
theorem eg_gcd {i j : Int} {x : Str} (ha : EG b X G a (· = .int i)) (hc : EG b X G c (· = .int j)) (hg : Gl X x) (hm : X.mg x = some (.builtin "math.gcd")) (hP : Phi (.int ((Nat.gcd i.natAbs j.natAbs : Nat) : Int))) (hdb : (x == ("__debug__" : Str)) = false := by decide)
    (he : starEach [a, c] X.env = (false, eval a X.env) :: starEach [c] X.env := by rfl) (he2 : starEach [c] X.env = (false, eval c X.env) :: starEach [] X.env := by rfl) (hpl : (backTo pos (starEach [c] X.env)).any (·.1) = false := by rfl) : EG b X G (.Call (.Name x p) [a, c] [] pos) Phi := fun σ H Hr s Q q =>
  we_of (pe_callBfun cr_gcd hg hm (pa_cons pe_self (pa_cons pe_self pa_nil he2) he) hdb he hpl) (we_two ha hc s fun ta tb x y H2 Hr2 p1 p2 e2 s2 h1 h2 => by
    subst p1; subst p2
    exact ⟨i, j, by rw [holds_is.mp h1, holds_is.mp h2], q _ _ H2 Hr2 hP e2 s2 (holds_is.mpr rfl)⟩)
end
end My

set_option Elab.async false
set_option linter.all false
set_option maxRecDepth 100000
set_option maxHeartbeats 4000000
/-! Ly3: calls, own classes, isinstance, division. -/
namespace My
open PySem L2

/-! ### what a def promises -/
def spOf (c : Cs) (pre : List T → Prop) (R : List T → T → Prop) : Sp := fun vs H Q _ => ∃ Hr ts, Same Hr H ∧ holdsL c ts vs Hr ∧ pre ts ∧ ∀ t v H' Hr', R ts t → Stp H Hr H' Hr' → holds c t v Hr' → Q v H'
/-- behind a def that turned the pot -/
structure StpP (p : Addr) (H Hr H' Hr' : Hp) : Prop where
  h : ∀ a o, a ≠ p → H a = some o → H' a = some o
  pt : PotAt H' p
  r : Same Hr Hr'
  r2 : Same Hr' H'
  g : ∀ a, H a ≠ none → Hr a = none → Hr' a = none
def spPt (c : Cs) (pre : List T → Prop) (R : List T → T → Prop) : Sp := fun vs H Q _ => ∃ p Hr ts vr, vs = .ref p :: vr ∧ Same Hr H ∧ Hr p = none ∧ PotAt H p ∧ holdsL c ts vr Hr ∧ pre ts ∧ ∀ t v H' Hr', R ts t → StpP p H Hr H' Hr' → holds c t v Hr' → Q v H'
/-- an __init__ of two attributes -/
structure StpI (p : Addr) (H Hr H' Hr' : Hp) : Prop where
  h : ∀ a o, a ≠ p → H a = some o → H' a = some o
  r : Same Hr Hr'
  r2 : Same Hr' H'
  g : ∀ a, H a ≠ none → Hr a = none → Hr' a = none
def spIn (c : Cs) (k : Kn) (pre : List T → Prop) (R : List T → T → T → Prop) : Sp := fun vs H Q _ => ∃ p dx Hr ts vr, vs = .ref p :: vr ∧ Same Hr H ∧ Hr p = none ∧ H p = some (.ins (c.cl k) dx []) ∧ holdsL c ts vr Hr ∧ pre ts ∧
  ∀ t1 t2 v1 v2 dx' H' Hr', R ts t1 t2 → StpI p H Hr H' Hr' → H' p = some (.ins (c.cl k) dx' (fld v1 v2)) → holds c t1 v1 Hr' → holds c t2 v2 Hr' → Q .non H'

theorem StpP.evo {b : Bs} {H Hr H' Hr' : Hp} {p : Addr} (t : StpP p H Hr H' Hr') (hp : b.pot = some p) : Evo b H Hr H' Hr' := ⟨fun a o h1 h2 => t.h a o (fun z => h1 (by rw [z]; exact hp)) h2, t.r, t.g, fun a h q => by
  by_cases z : a = p
  · subst z
    obtain ⟨_, _, _, _, _, _, e⟩ := t.pt
    rw [e] at q; cases q
  · cases e : H a with
    | none => exact h e
    | some o => rw [t.h a o z e] at q; cases q⟩
theorem Sat.pot {b : Bs} {G : List En} {σ : L2.St} {H Hr H' Hr' : Hp} {p : Addr} (s : Sat b G σ H Hr) (hp : b.pot = some p) (hP : PotAt H p) (t : StpP p H Hr H' Hr') : Sat b G σ H' Hr' where
  r1 := s.r1.trans t.r
  r2 := t.r2
  old := fun a h q => by
    by_cases z : a = p
    · subst z
      obtain ⟨_, _, _, _, _, _, e⟩ := t.pt
      rw [e] at q; cases q
    · cases e : H a with
      | none => exact s.old a h e
      | some o => rw [t.h a o z e] at q; cases q
  keep := fun a h1 h2 => t.g a (s.old a h2) (s.keep a h1 h2)
  bx := fun a o h1 h2 => t.h _ _ (fun z => h1 (by rw [z]; exact hp)) (s.bx a o h1 h2)
  ptw := s.ptw
  ln := s.ln
  slot := fun i e h => by
    have np : ∀ q, b.B q = none → q ≠ p := fun q h1 z => (s.ptw p hp).2 (z ▸ h1)
    have k := s.slot i e h
    cases e with
    | no => trivial
    | sh u => obtain ⟨v, h1, h2⟩ := k; exact ⟨v, h1, holds_mono t.r h2⟩
    | mu ts => obtain ⟨q, vs, h1, h2, h3, h4, h5⟩ := k; exact ⟨q, vs, h1, h2, t.g q (by rw [h4]; simp) h3, t.h _ _ (np q h2) h4, holdsL_mono t.r h5⟩
    | pt => obtain ⟨q, h1, h2, _⟩ := k; exact ⟨q, h1, h2, by rw [hp] at h1; cases h1; exact t.pt⟩
    | bi k' ts =>
      obtain ⟨q, dx, vs, h1, h2, h3, h4⟩ := k
      rw [hp] at h1; cases h1
      obtain ⟨_, _, _, _, _, _, e⟩ := hP
      rw [e] at h3; cases h3
  apart := s.apart

/-! ### calls -/
/-- a def that may be called by its name: level k, defaults dts -/
structure Cal (P : Program) (w : World) (K : PySem.W.Frag) (mg : Str → Option Value) (base : Heap) (x : Str) (k : Nat) (dvs : List V) (sp : Sp) : Prop where
  ex : ∃ (f : Addr) (fd : FuncData) (ps : List Str) (ds : List Value), FnOk P w K mg base CX0 k f fd ps sp ∧ mg x = some (.ref f) ∧ PySem.W.keepIn K (.ref f) = true ∧ Binds K fd ps ds ∧ Vals dvs ds
/-- a method -/
structure MCal (P : Program) (w : World) (K : PySem.W.Frag) (mg : Str → Option Value) (base : Heap) (C : Addr) (x : Str) (k : Nat) (dvs : List V) (sp : Sp) : Prop where
  ex : ∃ (f : Addr) (fd : FuncData) (ps : List Str) (ds : List Value), FnOk P w K mg base CX0 k f fd ps sp ∧ PySem.W.findIn K (.ref C) x = some (some (.ref f)) ∧ PySem.W.isFn K (.ref f) = true ∧ PySem.W.keepIn K (.ref f) = true ∧ Binds K fd ps ds ∧ Vals dvs ds
/-- a property -/
structure PCal (P : Program) (w : World) (K : PySem.W.Frag) (mg : Str → Option Value) (base : Heap) (C : Addr) (x : Str) (k : Nat) (sp : Sp) : Prop where
  ex : ∃ (p f : Addr) (fd : FuncData) (ps : List Str), FnOk P w K mg base CX0 k f fd ps sp ∧ PropOf K C x p f ∧ Binds K fd ps []
/-- a class that may be made -/
structure KCal (P : Program) (w : World) (K : PySem.W.Frag) (mg : Str → Option Value) (base : Heap) (C : Addr) (x : Str) (k : Nat) (dvs : List V) (sp : Sp) : Prop where
  ex : ∃ (f : Addr) (fd : FuncData) (ps : List Str) (ds : List Value), Mk K C f ∧ FnOk P w K mg base CX0 k f fd ps sp ∧ mg x = some (.ref C) ∧ Binds K fd ps ds ∧ Vals dvs ds
/-- a class's facts -/
structure ClO (c : Cs) (k : Kn) : Prop where
  cls : Cls c.K (c.cl k)
  nt : NoAttr c.K (c.cl k) "own_top"
  nb : NoAttr c.K (c.cl k) "own_bottom"
theorem lk_top {v u : V} : (fld v u).lookup ("own_top" : Str) = some v := by
  unfold fld
  rw [List.lookup_cons_self]
theorem ne_tb : (("own_bottom" : Str) == "own_top") = false := by decide +kernel
theorem lk_bot {v u : V} : (fld v u).lookup ("own_bottom" : Str) = some u := by
  unfold fld
  rw [List.lookup_cons, ne_tb]
  show List.lookup _ [(("own_bottom" : Str), u)] = some u
  rw [List.lookup_cons_self]
theorem lk_no {v u : V} {m : Str} (h1 : (m == ("own_top" : Str)) = false) (h2 : (m == ("own_bottom" : Str)) = false) : (fld v u).lookup m = none := by
  unfold fld
  rw [List.lookup_cons, h1]
  show List.lookup _ [(("own_bottom" : Str), u)] = none
  rw [List.lookup_cons, h2]
  rfl
section
variable {b : Bs} {X : Cx} {G : List En} {a e o c : Expr} {es : List Expr} {pos p p' apos : Pos} {Phi Pa Pb : T → Prop} {A1 : List T → Prop} {x : Str} {k : Nat} {dvs : List V} {dts : List T} {pre : List T → Prop} {R : List T → T → Prop}
theorem eg_call {us : List T} (C : Cal X.prog X.w X.K X.mg X.base x k dvs (spOf b.c pre R)) (hr : Room k X.A) (hg : Gl X x) (ha : AG b X G (e :: es) A1) (hd : ∀ H, holdsL b.c dts dvs H) (h : ∀ ts, A1 ts → pre (ts ++ dts) ∧ ∀ t, R (ts ++ dts) t → Phi t)
    (hdb : (x == ("__debug__" : Str)) = false := by decide) (he : starEach (e :: es) X.env = (false, eval e X.env) :: starEach es X.env := by rfl) (hpl : (backTo pos (starEach es X.env)).any (·.1) = false := by rfl) : EG b X G (.Call (.Name x p) (e :: es) [] pos) Phi := fun σ H Hr s Q q => by
  obtain ⟨f, fd, ps, ds, F, hm, hk, hb, hv⟩ := C.ex
  refine we_of (pe_call F hr hg hm hk hb hv pass0 pa_self hdb he hpl) (ha σ H Hr s _ fun ts vs H1 Hr1 p1 e1 s1 h1 => ?_)
  exact ⟨Hr1, ts ++ dts, s1.r2, holdsL_append h1 (hd _), (h ts p1).1, fun t v H' Hr' hR st hv => q t v H' Hr' ((h ts p1).2 t hR) (e1.trans st.evo) (s1.stp st) hv⟩
/-- with all its arguments written, of known types -/
theorem eg_fn {ts : List T} (C : Cal X.prog X.w X.K X.mg X.base x k [] (spOf b.c pre R)) (hr : Room k X.A) (hg : Gl X x) (ha : AG b X G (e :: es) (· = ts)) (hp : pre ts) (h : ∀ t, R ts t → Phi t)
    (hdb : (x == ("__debug__" : Str)) = false := by decide) (he : starEach (e :: es) X.env = (false, eval e X.env) :: starEach es X.env := by rfl) (hpl : (backTo pos (starEach es X.env)).any (·.1) = false := by rfl) : EG b X G (.Call (.Name x p) (e :: es) [] pos) Phi :=
  eg_call (dts := []) (us := []) C hr hg ha (fun H => holdsL_nil.mpr rfl) (fun us hu => by subst hu; rw [List.append_nil]; exact ⟨hp, h⟩) hdb he hpl
/-- a call without arguments -/
theorem eg_fn0 (C : Cal X.prog X.w X.K X.mg X.base x k [] (spOf b.c pre R)) (hr : Room k X.A) (hg : Gl X x) (hp : pre []) (h : ∀ t, R [] t → Phi t) (hdb : (x == ("__debug__" : Str)) = false := by decide) : EG b X G (.Call (.Name x p) [] [] pos) Phi := fun σ H Hr s Q q => by
  obtain ⟨f, fd, ps, ds, F, hm, hk, hb, hv⟩ := C.ex
  cases hv
  refine we_of (pe_call0 F hr hg hm hk hb .nil pass0 hdb) ?_
  exact ⟨Hr, [], s.r2, holdsL_nil.mpr rfl, hp, fun t v H' Hr' hR st hv => q t v H' Hr' (h t hR) st.evo (s.stp st) hv⟩
/-- a def whose first argument is the pot, at slot i -/
theorem eg_pot (i : Nat) {pn : Str} {ts : List T} (C : Cal X.prog X.w X.K X.mg X.base x k [] (spPt b.c pre R)) (hr : Room k X.A) (hg : Gl X x) (hG : G[i]? = some .pt) (ha : AG b X G es (· = ts)) (hp : pre ts) (h : ∀ t, R ts t → Phi t)
    (hN : X.N[i]? = some pn := by rfl) (hv : Vis X.env.scope pn := by first | exact Or.inl rfl | exact Or.inr (Or.inl rfl) | exact Or.inr (Or.inr rfl)) (hd : (pn == ("__debug__" : Str)) = false := by decide) (hcd : (pn == ("__classdict__" : Str)) = false := by decide)
    (hdb : (x == ("__debug__" : Str)) = false := by decide) (he : starEach (.Name pn p' :: es) X.env = (false, eval (.Name pn p') X.env) :: starEach es X.env := by rfl) (hpl : (backTo pos (starEach es X.env)).any (·.1) = false := by rfl) : EG b X G (.Call (.Name x p) (.Name pn p' :: es) [] pos) Phi := fun σ H Hr s Q q => by
  obtain ⟨f, fd, ps, ds, F, hm, hk, hb, hvs⟩ := C.ex
  cases hvs
  obtain ⟨q0, hq1, hq2, hq3⟩ := s.slot i _ hG
  refine we_of (pe_call F hr hg hm hk hb .nil pass0 (pa_cons (pe_var hN hv hd hcd) pa_self he) hdb he hpl) ⟨_, hq2, ha σ H Hr s _ fun us vs H1 Hr1 p1 e1 s1 h1 => ?_⟩
  subst p1
  obtain ⟨q1, hr1, hr2, hr3⟩ := s1.slot i _ hG
  rw [hq1] at hr1; cases hr1
  have hnp : Hr1 q0 = none := s1.keep q0 (s1.ptw q0 hq1).1 (s1.ptw q0 hq1).2
  exact ⟨q0, Hr1, us, vs, by rw [List.append_nil], s1.r2, hnp, hr3, h1, hp, fun t v H' Hr' hR st hv => q t v H' Hr' (h t hR) (e1.trans (st.evo hq1)) (s1.pot hq1 hr3 st) hv⟩
/-! ### attributes, methods, properties -/
theorem eg_top {kn : Kn} {t u : T} (hK : b.c.K = X.K) (C : ClO b.c kn) (he : EG b X G e (· = .obj kn t u)) (hP : Phi t) (hb : attributeBase e "own_top" X.env (eval e X.env) = eval e X.env := by rfl) : EG b X G (.Attribute e "own_top" pos) Phi := fun σ H Hr s Q q =>
  we_of (pe_fld pe_self hb) (he σ H Hr s _ fun t1 v H1 Hr1 p1 e1 s1 h1 => by
    subst p1
    obtain ⟨a, dx, v1, v2, rfl, h2, h3, h4⟩ := holds_obj.mp h1
    exact ⟨a, _, dx, _, v1, rfl, s1.r2 _ _ h2, hK ▸ C.cls, hK ▸ C.nt, lk_top, q t v1 H1 Hr1 hP e1 s1 h3⟩)
theorem eg_bot {kn : Kn} {t u : T} (hK : b.c.K = X.K) (C : ClO b.c kn) (he : EG b X G e (· = .obj kn t u)) (hP : Phi u) (hb : attributeBase e "own_bottom" X.env (eval e X.env) = eval e X.env := by rfl) : EG b X G (.Attribute e "own_bottom" pos) Phi := fun σ H Hr s Q q =>
  we_of (pe_fld pe_self hb) (he σ H Hr s _ fun t1 v H1 Hr1 p1 e1 s1 h1 => by
    subst p1
    obtain ⟨a, dx, v1, v2, rfl, h2, h3, h4⟩ := holds_obj.mp h1
    exact ⟨a, _, dx, _, v2, rfl, s1.r2 _ _ h2, hK ▸ C.cls, hK ▸ C.nb, lk_bot, q u v2 H1 Hr1 hP e1 s1 h4⟩)
theorem eg_prop {kn : Kn} {t u : T} (hK : b.c.K = X.K) (C : ClO b.c kn) (M : PCal X.prog X.w X.K X.mg X.base (b.c.cl kn) x k (spOf b.c pre R)) (hr : Room (k + 1) X.A) (he : EG b X G e (· = .obj kn t u)) (hp : pre [.obj kn t u]) (h : ∀ r, R [.obj kn t u] r → Phi r)
    (hb : attributeBase e x X.env (eval e X.env) = eval e X.env := by rfl) : EG b X G (.Attribute e x pos) Phi := fun σ H Hr s Q q => by
  obtain ⟨pp, f, fd, ps, F, hp', hb'⟩ := M.ex
  refine we_of (pe_prop pe_self (hK ▸ C.cls) hp' F hr hb' .nil pass0 hb) (he σ H Hr s _ fun t1 v H1 Hr1 p1 e1 s1 h1 => ?_)
  subst p1
  obtain ⟨a, dx, v1, v2, rfl, h2, h3, h4⟩ := holds_obj.mp h1
  exact ⟨a, dx, _, rfl, s1.r2 _ _ h2, Hr1, _, s1.r2, holdsL_one h1, hp, fun r v H' Hr' hR st hv => q r v H' Hr' (h r hR) (e1.trans st.evo) (s1.stp st) hv⟩
theorem eg_meth {kn : Kn} {t u : T} {ts : List T} {pl : Sem Bool} (hK : b.c.K = X.K) (C : ClO b.c kn) (M : MCal X.prog X.w X.K X.mg X.base (b.c.cl kn) x k [] (spOf b.c pre R)) (hr : Room k X.A) (ho : EG b X G o (· = .obj kn t u)) (ha : AG b X G (e :: es) (· = ts))
    (hp : pre (.obj kn t u :: ts)) (h : ∀ r, R (.obj kn t u :: ts) r → Phi r) (h1 : (x == ("own_top" : Str)) = false := by decide +kernel) (h2 : (x == ("own_bottom" : Str)) = false := by decide +kernel)
    (hst : starEach (e :: es) X.env = (false, eval e X.env) :: starEach es X.env := by rfl) (hpl : (backTo pos (starEach es X.env)).any (·.1) = false := by rfl)
    (ht : eval (.Call (.Attribute o x apos) (e :: es) [] pos) X.env = (do
      let ov ← eval o X.env
      standAt apos.atName
      let (f, first) ← holding [ov] (getMethod ov x pl)
      callWith pos f first (backTo pos (starEach (e :: es) X.env)) (backToKw pos (keywordEach [] X.env))) := by rfl) : EG b X G (.Call (.Attribute o x apos) (e :: es) [] pos) Phi := fun σ H Hr s Q q => by
  obtain ⟨f, fd, ps, ds, F, hm, hf, hk, hb, hv⟩ := M.ex
  cases hv
  refine we_of (pe_meth pe_self (hK ▸ C.cls) ⟨hm, hf, hk⟩ F hr hb .nil pass0 pa_self hst hpl ht) (ho σ H Hr s _ fun t1 v H1 Hr1 p1 e1 s1 h1' => ?_)
  subst p1
  obtain ⟨a, dx, v1, v2, rfl, h3, h4, h5⟩ := holds_obj.mp h1'
  refine ⟨a, dx, _, rfl, s1.r2 _ _ h3, lk_no h1 h2, ha σ H1 Hr1 s1 _ fun us vs H2 Hr2 p2 e2 s2 h6 => ?_⟩
  subst p2
  refine ⟨Hr2, _, s2.r2, holdsL_cons.mpr ⟨_, _, rfl, holds_mono e2.r h1', by rw [List.append_nil]; exact h6⟩, hp, fun r v H' Hr' hR st hv => q r v H' Hr' (h r hR) ((e1.trans e2).trans st.evo) (s2.stp st) hv⟩
/-- C(..) -/
theorem eg_make {kn : Kn} {R2 : List T → T → T → Prop} (M : KCal X.prog X.w X.K X.mg X.base (b.c.cl kn) x k dvs (spIn b.c kn pre R2)) (hr : Room (k + 1) X.A) (hg : Gl X x) (ha : AG b X G (e :: es) A1) (hd : ∀ H, holdsL b.c dts dvs H) (h : ∀ ts, A1 ts → pre (ts ++ dts) ∧ ∀ t u, R2 (ts ++ dts) t u → Phi (.obj kn t u))
    (hdb : (x == ("__debug__" : Str)) = false := by decide) (he : starEach (e :: es) X.env = (false, eval e X.env) :: starEach es X.env := by rfl) (hpl : (backTo pos (starEach es X.env)).any (·.1) = false := by rfl) : EG b X G (.Call (.Name x p) (e :: es) [] pos) Phi := fun σ H Hr s Q q => by
  obtain ⟨f, fd, ps, ds, Mk, F, hm, hb, hv⟩ := M.ex
  refine we_of (pe_make Mk F hr hg hm hb hv pass0 pa_self hdb he hpl) (ha σ H Hr s _ fun ts vs H1 Hr1 p1 e1 s1 h1 => fun y dx hy hdx hne => ?_)
  have hyr := (same_down s1.toSat0 hy).2
  have hyb := (same_down s1.toSat0 hy).1
  have r2' : Same Hr1 (upd (upd H1 dx (.own y)) y (.ins (b.c.cl kn) dx [])) := fun a o hz => by
    have hz' := s1.r2 a o hz
    rw [upd_ne (ne_of_none hz' hy), upd_ne (ne_of_none hz' hdx)]; exact hz'
  refine ⟨y, dx, Hr1, ts ++ dts, _, rfl, r2', hyr, upd_same, holdsL_append h1 (hd _), (h ts p1).1, fun t1 t2 v1 v2 dx' H' Hr' hR st hf g1 g2 => ⟨rfl, ?_⟩⟩
  have hyr' : Hr' y = none := st.g y (by rw [upd_same]; simp) hyr
  have S : Stp H1 Hr1 H' (upd Hr' y (.ins (b.c.cl kn) dx' (fld v1 v2))) := by
    refine ⟨fun a o hz => ?_, st.r.trans (same_new hyr'), fun a o hz => ?_, fun a hz1 hz2 => ?_⟩
    · refine st.h a o (ne_of_none hz hy) ?_
      rw [upd_ne (ne_of_none hz hy), upd_ne (ne_of_none hz hdx)]; exact hz
    · by_cases z : a = y
      · subst z; rw [upd_same] at hz; rw [hf]; exact hz
      · rw [upd_ne z] at hz; exact st.r2 a o hz
    · have z : a ≠ y := fun z => by subst z; exact hz1 hy
      rw [upd_ne z]
      refine st.g a (fun hz3 => ?_) hz2
      rw [upd_ne z] at hz3
      by_cases z2 : a = dx
      · subst z2; rw [upd_same] at hz3; cases hz3
      · rw [upd_ne z2] at hz3; exact hz1 hz3
  exact q (.obj kn t1 t2) _ H' _ ((h ts p1).2 t1 t2 hR) (e1.trans S.evo) (s1.stp S) (holds_obj.mpr ⟨y, dx', v1, v2, rfl, upd_same, holds_mono (same_new hyr') g1, holds_mono (same_new hyr') g2⟩)
/-- the same by keywords; gV: how the values come to the parameters, the instance first -/
theorem eg_makeK {kn : Kn} {R2 : List T → T → T → Prop} {f : Addr} {fd : FuncData} {ps ks : List Str} {kws : List Keyword} {tk : TA} {g : List Value → List Value → List Value} {gV : List V → List V → List V} {gT : List T → List T} {ts : List T}
    (Mk : Mk X.K (b.c.cl kn) f) (F : FnOk X.prog X.w X.K X.mg X.base CX0 k f fd ps (spIn b.c kn pre R2)) (hr : Room (k + 1) X.A) (hg : Gl X x) (hm : X.mg x = some (.ref (b.c.cl kn))) (hb : KBn X.K fd ps 1 ks g gV) (hgV : ∀ y zs, ∃ ws, gV [y] zs = y :: ws ∧ ∀ us H, holdsL b.c us zs H → holdsL b.c (gT us) ws H)
    (hkw : PK X kws tk) (hkt : ∀ σ H Hr, Sat b G σ H Hr → ∀ Q : List V → Hp → Prop, (∀ vs H' Hr', Evo b H Hr H' Hr' → Sat b G σ H' Hr' → holdsL b.c ts vs Hr' → Q vs H') → tk σ H Q) (hl : ts.length = ks.length) (hp : pre (gT ts)) (h : ∀ t u, R2 (gT ts) t u → Phi (.obj kn t u))
    (hpe : PE X (.Call (.Name x p) [] kws pos) (tMakeK (b.c.cl kn) 0 ks.length (spIn b.c kn pre R2) gV E0 tNil tk)) : EG b X G (.Call (.Name x p) [] kws pos) Phi := fun σ H Hr s Q q => by
  refine we_of hpe (hkt σ H Hr s _ fun vs H1 Hr1 e1 s1 h1 => ⟨rfl, by rw [holdsL_len h1, hl], fun y dx hy hdx hne => ?_⟩)
  have hyr := (same_down s1.toSat0 hy).2
  have r2' : Same Hr1 (upd (upd H1 dx (.own y)) y (.ins (b.c.cl kn) dx [])) := fun a o hz => by
    have hz' := s1.r2 a o hz
    rw [upd_ne (ne_of_none hz' hy), upd_ne (ne_of_none hz' hdx)]; exact hz'
  obtain ⟨ws, hw1, hw2⟩ := hgV (.ref y) vs
  refine ⟨y, dx, Hr1, gT ts, ws, hw1, r2', hyr, upd_same, hw2 _ _ h1, hp, fun t1 t2 v1 v2 dx' H' Hr' hR st hf g1 g2 => ⟨rfl, ?_⟩⟩
  have hyr' : Hr' y = none := st.g y (by rw [upd_same]; simp) hyr
  have S : Stp H1 Hr1 H' (upd Hr' y (.ins (b.c.cl kn) dx' (fld v1 v2))) := by
    refine ⟨fun a o hz => ?_, st.r.trans (same_new hyr'), fun a o hz => ?_, fun a hz1 hz2 => ?_⟩
    · refine st.h a o (ne_of_none hz hy) ?_
      rw [upd_ne (ne_of_none hz hy), upd_ne (ne_of_none hz hdx)]; exact hz
    · by_cases z : a = y
      · subst z; rw [upd_same] at hz; rw [hf]; exact hz
      · rw [upd_ne z] at hz; exact st.r2 a o hz
    · have z : a ≠ y := fun z => by subst z; exact hz1 hy
      rw [upd_ne z]
      refine st.g a (fun hz3 => ?_) hz2
      rw [upd_ne z] at hz3
      by_cases z2 : a = dx
      · subst z2; rw [upd_same] at hz3; cases hz3
      · rw [upd_ne z2] at hz3; exact hz1 hz3
  exact q (.obj kn t1 t2) _ H' _ (h t1 t2 hR) (e1.trans S.evo) (s1.stp S) (holds_obj.mpr ⟨y, dx', v1, v2, rfl, upd_same, holds_mono (same_new hyr') g1, holds_mono (same_new hyr') g2⟩)
end
end My

set_option Elab.async false
set_option linter.all false
set_option maxRecDepth 100000
set_option maxHeartbeats 4000000
/-! Ly4: operators of own classes, isinstance, division of great ints, lcm, keywords, comprehensions. -/
namespace My
open PySem L2 PyProof.Rows

theorem not_ni {v : V} {u : Value} (r : RelV v u) : u ≠ .notImplemented := by
  cases v with
  | non => cases r; exact fun z => nomatch z
  | bl _ => cases r; exact fun z => nomatch z
  | int _ => obtain ⟨t, rfl⟩ := r; exact fun z => nomatch z
  | str _ => obtain ⟨t, rfl⟩ := r; exact fun z => nomatch z
  | byt _ => obtain ⟨t, rfl⟩ := r; exact fun z => nomatch z
  | flt _ => obtain ⟨t, rfl⟩ := r; exact fun z => nomatch z
  | ref _ => cases r; exact fun z => nomatch z
  | ty _ => cases r; exact fun z => nomatch z
theorem cmpBack_of {Q : Value → Shared → Prop} {u : Value} {s : Shared} (h : u ≠ .notImplemented) (q : Q u s) : PySem.W.CmpBack Q u s := by
  cases u <;> first | exact q | exact absurd rfl h
/-- where an instance stands in the state -/
theorem inst_at {X : Cx} {pins : List (Addr × Obj)} {σ : L2.St} {H : Hp} {s : Shared} {a C dx : Addr} {fs : List (Str × V)} (I : Inv X pins σ H s) (h : H a = some (.ins C dx fs)) : ∃ ox od, PySem.W.InstAt s.heap a ox C od := by
  obtain ⟨mm, JJ, _⟩ := ins_get I.hok h
  obtain ⟨od, J2, _⟩ := JJ.look
  exact ⟨_, _, J2⟩
section
variable {X : Cx} {k : Nat} {f C : Addr} {fd : FuncData} {ps : List Str} {sp : Sp}
/-- a op b, both of the class at C -/
theorem op_own {op : Operator} (F : FnOk X.prog X.w X.K X.mg X.base CX0 k f fd ps sp) (hr : Room k X.A) (hb : Binds X.K fd ps []) (hs : PySem.W.findIn X.K (.ref C) (PySem.dunder op.info.2) = some (some (.ref f))) (hf : PySem.W.isFn X.K (.ref f) = true) (hc : PySem.W.selfFirst X.K C = true) :
    OpR X (binaryOp op) (fun x y H Q => ∃ a dx fs a' dx' fs', x = .ref a ∧ y = .ref a' ∧ H a = some (.ins C dx fs) ∧ H a' = some (.ins C dx' fs') ∧ sp [x, y] H Q E0) := by
  intro pins s σ H x y v u Q I rx ry h
  obtain ⟨a, dx, fs, a', dx', fs', rfl, rfl, ha, ha', h⟩ := h
  cases rx; cases ry
  obtain ⟨ox, od, J⟩ := inst_at I ha
  obtain ⟨ox', od', J'⟩ := inst_at I ha'
  obtain ⟨m, hF⟩ := I.fr
  refine PySem.W.binop_K hF I.ok.mod.kin J J'.type hc hs hf ?_
  exact thn (run_fn (us := [.ref a, .ref a']) (vs := [.ref a, .ref a']) (dvs := []) F hr hb .nil pass0 I (.cons rfl (.cons rfl .nil)) h) fun r s' ⟨z, H', I', rz, q⟩ => cmpBack_of (not_ni rz) ⟨z, H', I', rz, q⟩
/-- what a class with the operator wants, an int on the right -/
structure OpI (K : PySem.W.Frag) (C f : Addr) (op : Operator) : Prop where
  at_ : PySem.W.findIn K (.ref C) (PySem.dunder op.info.2) = some (some (.ref f))
  fn : PySem.W.isFn K (.ref f) = true
  sf : PySem.W.selfFirst K C = true
  rv : ∃ rc, PySem.W.findIn K (.ref C) (dunderR op.info.2) = some rc ∧ (rc = none ∨ ∃ g : Addr, rc = some (.ref g))
  t1 : ∃ fo, PySem.W.findIn K (.type "int") (PySem.dunder op.info.2) = some fo
  t2 : ∃ ro, PySem.W.findIn K (.type "int") (dunderR op.info.2) = some ro
  sb : PySem.W.subIn K (.type "int") (.ref C) = some false
theorem op_ownI {op : Operator} (F : FnOk X.prog X.w X.K X.mg X.base CX0 k f fd ps sp) (hr : Room k X.A) (hb : Binds X.K fd ps []) (O : OpI X.K C f op) :
    OpR X (binaryOp op) (fun x y H Q => ∃ a dx fs i, x = .ref a ∧ y = .int i ∧ H a = some (.ins C dx fs) ∧ sp [x, y] H Q E0) := by
  intro pins s σ H x y v u Q I rx ry h
  obtain ⟨a, dx, fs, i, rfl, rfl, ha, h⟩ := h
  cases rx
  obtain ⟨t, rfl⟩ := ry
  obtain ⟨ox, od, J⟩ := inst_at I ha
  obtain ⟨m, hF⟩ := I.fr
  obtain ⟨rc, g1, g2⟩ := O.rv
  obtain ⟨fo, g3⟩ := O.t1
  obtain ⟨ro, g4⟩ := O.t2
  refine PySem.W.ksp_binT hF I.ok.mod.kin J rfl O.sf O.at_ O.fn g1 g2 g3 g4 O.sb ?_
  exact thn (run_fn (us := [.ref a, .int i t]) (vs := [.ref a, .int i]) (dvs := []) F hr hb .nil pass0 I (.cons rfl (.cons ⟨_, rfl⟩ .nil)) h) fun r s' ⟨z, H', I', rz, q⟩ => cmpBack_of (not_ni rz) ⟨z, H', I', rz, q⟩
end
/-- the operator as a callee, for both kinds of right sides -/
structure OCal (P : Program) (w : World) (K : PySem.W.Frag) (mg : Str → Option Value) (base : Heap) (C : Addr) (op : Operator) (k : Nat) (sp : Sp) : Prop where
  ex : ∃ (f : Addr) (fd : FuncData) (ps : List Str), FnOk P w K mg base CX0 k f fd ps sp ∧ Binds K fd ps [] ∧ OpI K C f op
section
variable {b : Bs} {X : Cx} {G : List En} {a e o c : Expr} {es : List Expr} {pos p p' : Pos} {Phi Pa Pb : T → Prop} {A1 : List T → Prop} {x : Str} {k : Nat} {pre : List T → Prop} {R : List T → T → Prop} {P : Bool → Prop}
theorem eg_own {kn : Kn} {t u t' u' : T} {op : Operator} (M : OCal X.prog X.w X.K X.mg X.base (b.c.cl kn) op k (spOf b.c pre R)) (hr : Room k X.A) (ha : EG b X G a (· = .obj kn t u)) (hc : EG b X G c (· = .obj kn t' u')) (hp : pre [.obj kn t u, .obj kn t' u']) (h : ∀ r, R [.obj kn t u, .obj kn t' u'] r → Phi r) : EG b X G (.BinOp a op c pos) Phi := by
  obtain ⟨f, fd, ps, F, hb, O⟩ := M.ex
  refine eg_bin (op_own F hr hb O.at_ O.fn O.sf) ha hc ?_
  rintro _ _ rfl rfl y z H Hr Q r2 hy hz q
  obtain ⟨a1, dx, v1, v2, rfl, h2, _⟩ := holds_obj.mp hy
  obtain ⟨a2, dx2, w1, w2, rfl, g2, _⟩ := holds_obj.mp hz
  exact ⟨a1, dx, _, a2, dx2, _, rfl, rfl, r2 _ _ h2, r2 _ _ g2, Hr, _, r2, holdsL_cons.mpr ⟨_, _, rfl, hy, holdsL_one hz⟩, hp, fun t v H' Hr' hR st hv => q t v H' Hr' (h t hR) st hv⟩
theorem eg_ownI {kn : Kn} {t u : T} {i : Int} {op : Operator} (M : OCal X.prog X.w X.K X.mg X.base (b.c.cl kn) op k (spOf b.c pre R)) (hr : Room k X.A) (ha : EG b X G a (· = .obj kn t u)) (hc : EG b X G c (· = .int i)) (hp : pre [.obj kn t u, .int i]) (h : ∀ r, R [.obj kn t u, .int i] r → Phi r) : EG b X G (.BinOp a op c pos) Phi := by
  obtain ⟨f, fd, ps, F, hb, O⟩ := M.ex
  refine eg_bin (op_ownI F hr hb O) ha hc ?_
  rintro _ _ rfl rfl y z H Hr Q r2 hy hz q
  obtain ⟨a1, dx, v1, v2, rfl, h2, _⟩ := holds_obj.mp hy
  exact ⟨a1, dx, _, i, rfl, holds_is.mp hz, r2 _ _ h2, Hr, _, r2, holdsL_cons.mpr ⟨_, _, rfl, hy, holdsL_one hz⟩, hp, fun t v H' Hr' hR st hv => q t v H' Hr' (h t hR) st hv⟩
end
/-! ### == and != of an own class -/
section
variable {X : Cx} {k : Nat} {f C : Addr} {fd : FuncData} {ps : List Str} {sp : Sp}
structure EqI (K : PySem.W.Frag) (C f : Addr) : Prop where
  at_ : PySem.W.findIn K (.ref C) "__eq__" = some (some (.ref f))
  fn : PySem.W.isFn K (.ref f) = true
  ne : PySem.W.findIn K (.ref C) "__ne__" = some (some (.builtin "object.__ne__"))
  mo : PySem.W.mroIn K C (.type "object") = some true
  n1 : PySem.W.notFirst K C (.ref C) = true
  n2 : PySem.W.notFirst K C (.type "str") = true
/-- what may stand on the right: another one, or a text -/
def RtOk (C : Addr) (H : Hp) : V → Prop
  | .ref a => ∃ dx fs, H a = some (.ins C dx fs)
  | .str _ => True
  | _ => False
theorem rt_looks {pins : List (Addr × Obj)} {σ : L2.St} {H : Hp} {s : Shared} {y : V} {u : Value} (I : Inv X pins σ H s) (ry : RelV y u) (h : RtOk C H y) (E : EqI X.K C f) : ∃ tb, PySem.W.Looks (model X.prog X.w) s.heap (typeOf u) tb ∧ PySem.W.notFirst X.K C tb = true := by
  cases y with
  | ref a =>
    cases ry
    obtain ⟨dx, fs, h⟩ := h
    obtain ⟨ox, od, J⟩ := inst_at I h
    exact ⟨_, J.type, E.n1⟩
  | str z => obtain ⟨t, rfl⟩ := ry; exact ⟨.type "str", PySem.W.Looks.of_pure rfl, E.n2⟩
  | non => exact h.elim
  | bl _ => exact h.elim
  | int _ => exact h.elim
  | byt _ => exact h.elim
  | flt _ => exact h.elim
  | ty _ => exact h.elim
theorem op_eqO (F : FnOk X.prog X.w X.K X.mg X.base CX0 k f fd ps sp) (hr : Room k X.A) (hb : Binds X.K fd ps []) (E : EqI X.K C f) :
    OpR X (compareOp .Eq) (fun x y H Q => ∃ a dx fs, x = .ref a ∧ H a = some (.ins C dx fs) ∧ RtOk C H y ∧ sp [x, y] H Q E0) := by
  intro pins s σ H x y v u Q I rx ry h
  obtain ⟨a, dx, fs, rfl, ha, hy, h⟩ := h
  cases rx
  obtain ⟨ox, od, J⟩ := inst_at I ha
  obtain ⟨tb, g1, g2⟩ := rt_looks I ry hy E
  obtain ⟨m, hF⟩ := I.fr
  show wpAny _ _ (richCompare .Eq _ _) _ _ _
  refine PySem.W.cmp_K hr.units0 hF I.ok.mod.kin J g1 g2 E.at_ E.fn ?_
  exact thn (run_fn (us := [.ref a, u]) (vs := [.ref a, y]) (dvs := []) F hr hb .nil pass0 I (.cons rfl (.cons ry .nil)) h) fun r s' ⟨z, H', I', rz, q⟩ => cmpBack_of (not_ni rz) ⟨z, H', I', rz, q⟩
open Builtin in
theorem ne_call {pins : List (Addr × Obj)} {σ : L2.St} {H : Hp} {s : Shared} {a dx : Addr} {fs : List (Str × V)} {y : V} {u : Value} {Q : VK} (F : FnOk X.prog X.w X.K X.mg X.base CX0 k f fd ps sp) (hr : Room (k + 1) X.A) (hb : Binds X.K fd ps []) (E : EqI X.K C f) (I : Inv X pins σ H s)
    (ha : H a = some (.ins C dx fs)) (ry : RelV y u) (h : sp [.ref a, y] H (fun z H' => ∃ d, z = .bl d ∧ Q (.bl (!d)) H') E0) (E1 : Value → Shared → Prop) :
    wpAny (model X.prog X.w) X.A (call (.builtin "object.__ne__") [.ref a, u]) (EP X pins σ Q) E1 s := by
  obtain ⟨ox, od, J⟩ := inst_at I ha
  refine wpAny_call (codeAny_call_builtin (by decide +kernel) PySem.F.cmpEntry_ne (PySem.W.check_slot (i := "object.__ne__") (owner := "object") (n := "__ne__") PySem.F.cmpKind_ne PySem.F.cmpSplit_ne (J.type.andThen (PySem.W.looks_mroIn I.kIn E.mo)) (PySem.F.cmpArgs_ne _ _) ?_))
  unfold Builtin.«object.__ne__»
  refine wpAny_bind (m := slotArgs "__ne__" 1 _) (wpAny_pure ?_)
  refine wpAny_bind (m := cRoomFor _ _) (wpAny_cRoomFor hr.in1.units0 ?_)
  have l2 : ([Value.ref a, u] ++ ([] : List Value)).length = ps.length := by rw [← F.len _ _ _ _ h]; rfl
  refine wpAny_bind (m := callSpecialIfBound? (.ref a) (Str.ofString "__eq__") [u]) (PySem.W.ifBound_K I.kIn J E.at_ E.fn (wpAny_call (codeAny_mono (F.run X.A.in1 X.stack s H ⟨[.ref a, u], []⟩ [.ref a, u] [.ref a, y] _ E0 hr.in1 I.env0.in1 (hb s [.ref a, u] I.kIn l2) (.cons rfl (.cons ry .nil)) h) fun r s' hq => ?_)))
  cases r with
  | error er => exact False.elim hq
  | ok fl =>
    cases fl with
    | ret w =>
      obtain ⟨z, H', I', rz, d, rfl, q⟩ := I.after hq
      cases rz
      refine wpAny_bind (m := truthy _) (wpAny_truthy_bool ?_)
      exact wpAny_pure ⟨.bl (!d), H', I', rfl, q⟩
    | next => exact False.elim hq
    | brk => exact False.elim hq
    | cont => exact False.elim hq
theorem ifBound_ne {M : Model} {A : Around} {E : Value → Shared → Prop} {s : Shared} {K : PySem.W.Frag} {x : Addr} {ox : Obj} {od : Option Obj} {arg : Value} {Q : Option Value → Shared → Prop} (hk : K.In s.heap) (J : PySem.W.InstAt s.heap x ox C od) (hs : PySem.W.findIn K (.ref C) "__ne__" = some (some (.builtin "object.__ne__")))
    (h : wpAny M A (call (.builtin "object.__ne__") [.ref x, arg]) (fun v => Q (some v)) E s) : wpAny M A (callSpecialIfBound? (.ref x) "__ne__" [arg]) Q E s := by
  have bd : bindSpecial (.builtin "object.__ne__") (.ref x) = pure (.builtin "object.__ne__", [.ref x]) := by first | rfl | exact PySem.F.slot_tuple_iterator_ne.bind _
  simp only [callSpecialIfBound?, bindSpecialIfBound?]
  refine wpAny_holding (wpAny_bind (wpAny_bind (wpAny_bind (J.type.here ((PySem.W.looks_findIn hk hs).here ?_)))))
  refine wpAny_bind (wpAny_askSetting (wpAny_ite ?_))
  have fin : wpAny M A (call (.builtin "object.__ne__") ([.ref x] ++ [arg]) >>= fun v => pure (some v)) Q E s := wpAny_bind (wpAny_mono h (fun v s' z => wpAny_pure z) fun _ _ z => z)
  split
  · exact wpAny_bind ((PySem.W.Looks.of_pure bd).here (wpAny_pure (by exact fin)))
  · exact wpAny_tryCatch (wpAny_bind ((PySem.W.Looks.of_pure bd).here (wpAny_pure (by exact fin))))
theorem op_neO (F : FnOk X.prog X.w X.K X.mg X.base CX0 k f fd ps sp) (hr : Room (k + 1) X.A) (hb : Binds X.K fd ps []) (E : EqI X.K C f) :
    OpR X (compareOp .NotEq) (fun x y H Q => ∃ a dx fs, x = .ref a ∧ H a = some (.ins C dx fs) ∧ RtOk C H y ∧ sp [x, y] H (fun z H' => ∃ d, z = .bl d ∧ Q (.bl (!d)) H') E0) := by
  intro pins s σ H x y v u Q I rx ry h
  obtain ⟨a, dx, fs, rfl, ha, hy, h⟩ := h
  cases rx
  obtain ⟨ox, od, J⟩ := inst_at I ha
  obtain ⟨tb, g1, g2⟩ := rt_looks I ry hy E
  have one : wpAny (model X.prog X.w) X.A (tryCompare (.ref a) (cmpInfo .NotEq).2.1 u) (fun r s' => ∃ v, r = some v ∧ EP X pins σ Q v s') X.xe s := by
    unfold tryCompare
    refine wpAny_bind (ifBound_ne I.kIn J E.ne (thn (ne_call F hr hb E I ha ry h X.xe) fun v s' hv => ?_))
    have nv : v ≠ .notImplemented := by obtain ⟨z, H', I', rz, q⟩ := hv; exact not_ni rz
    cases v <;> first | exact wpAny_pure ⟨_, rfl, hv⟩ | exact absurd rfl nv
  show wpAny _ _ (richCompare .NotEq _ _) _ _ _
  unfold richCompare
  simp only [oneThing_ref]
  refine wpAny_holding (wpAny_bind (wpAny_cRoomFor hr.units0 ?_))
  refine wpAny_bind (J.type.here (wpAny_bind (g1.here ?_)))
  split
  · rename_i q
    have e : PySem.W.subIn X.K tb (.ref C) = some false := by
      rcases Bool.or_eq_true_iff.mp g2 with e | e
      · rw [beq_iff_eq.mp e] at q; simp at q
      · exact beq_iff_eq.mp e
    refine wpAny_bind ((PySem.W.looks_subIn I.kIn e).here ?_)
    simp only [Bool.false_eq_true, if_false]
    refine wpAny_bind (wpAny_mono one (fun r s' z => ?_) fun _ _ e => e)
    obtain ⟨v, rfl, hq⟩ := z
    exact wpAny_pure hq
  · refine wpAny_bind (wpAny_pure ?_)
    simp only [Bool.false_eq_true, if_false]
    refine wpAny_bind (wpAny_mono one (fun r s' z => ?_) fun _ _ e => e)
    obtain ⟨v, rfl, hq⟩ := z
    exact wpAny_pure hq
end
end My

set_option Elab.async false
set_option linter.all false
set_option maxRecDepth 100000
set_option maxHeartbeats 4000000
/-! Ly5: == of own classes, isinstance, division of great ints, lcm, keywords, walks, comprehensions. -/
namespace My
open PySem L2 PyProof.Rows

structure QCal (P : Program) (w : World) (K : PySem.W.Frag) (mg : Str → Option Value) (base : Heap) (C : Addr) (k : Nat) (sp : Sp) : Prop where
  ex : ∃ (f : Addr) (fd : FuncData) (ps : List Str), FnOk P w K mg base CX0 k f fd ps sp ∧ Binds K fd ps [] ∧ EqI K C f
/-- a type that may stand on the right of == of the class kn -/
def RtT (kn : Kn) : T → Prop
  | .obj k _ _ => k = kn
  | .is (.str _) => True
  | _ => False
theorem rtT_ok {c : Cs} {kn : Kn} {t : T} {v : V} {H Hr : Hp} (r2 : Same Hr H) (h : RtT kn t) (hv : holds c t v Hr) : RtOk (c.cl kn) H v := by
  cases t with
  | obj k t u =>
    obtain ⟨a, dx, v1, v2, rfl, h2, _⟩ := holds_obj.mp hv
    have e : k = kn := h
    subst e
    exact ⟨dx, _, r2 _ _ h2⟩
  | is v0 =>
    rw [holds_is.mp hv]
    cases v0 <;> first | exact h.elim | exact True.intro
  | lst _ => exact h.elim
  | tup _ => exact h.elim
  | emp => exact h.elim
  | any => exact h.elim
section
variable {b : Bs} {X : Cx} {G : List En} {a e o c : Expr} {es : List Expr} {pos p p' : Pos} {Phi Pa Pb : T → Prop} {A1 : List T → Prop} {x : Str} {k : Nat} {pre : List T → Prop} {R : List T → T → Prop} {P : Bool → Prop}
theorem tg_eqO {kn : Kn} {t u r : T} (M : QCal X.prog X.w X.K X.mg X.base (b.c.cl kn) k (spOf b.c pre R)) (hr : Room k X.A) (ha : EG b X G a (· = .obj kn t u)) (hc : EG b X G c (· = r)) (hk : RtT kn r) (hp : pre [.obj kn t u, r]) (h : ∀ z, R [.obj kn t u, r] z → ∃ d, z = .bl d ∧ P d) : TG b X G (.Compare a [.Eq] [c] pos) P := by
  obtain ⟨f, fd, ps, F, hb, O⟩ := M.ex
  refine tg_cmp (op_eqO F hr hb O) (nomark _) ha hc ?_
  rintro _ _ rfl rfl y z H Hr Q r2 hy hz q
  obtain ⟨a1, dx, v1, v2, rfl, h2, _⟩ := holds_obj.mp hy
  exact ⟨a1, dx, _, rfl, r2 _ _ h2, rtT_ok r2 hk hz, Hr, _, r2, holdsL_cons.mpr ⟨_, _, rfl, hy, holdsL_one hz⟩, hp, fun t v H' Hr' hR st hv => q t v H' Hr' (h t hR) st hv⟩
theorem tg_neO {kn : Kn} {t u r : T} (M : QCal X.prog X.w X.K X.mg X.base (b.c.cl kn) k (spOf b.c pre R)) (hr : Room (k + 1) X.A) (ha : EG b X G a (· = .obj kn t u)) (hc : EG b X G c (· = r)) (hk : RtT kn r) (hp : pre [.obj kn t u, r]) (h : ∀ z, R [.obj kn t u, r] z → ∃ d, z = .bl d ∧ P (!d)) : TG b X G (.Compare a [.NotEq] [c] pos) P := by
  obtain ⟨f, fd, ps, F, hb, O⟩ := M.ex
  refine tg_cmp (op_neO F hr hb O) (nomark _) ha hc ?_
  rintro _ _ rfl rfl y z H Hr Q r2 hy hz q
  obtain ⟨a1, dx, v1, v2, rfl, h2, _⟩ := holds_obj.mp hy
  refine ⟨a1, dx, _, rfl, r2 _ _ h2, rtT_ok r2 hk hz, Hr, _, r2, holdsL_cons.mpr ⟨_, _, rfl, hy, holdsL_one hz⟩, hp, fun t v H' Hr' hR st hv => ?_⟩
  obtain ⟨d, rfl, pd⟩ := h t hR
  exact ⟨d, holds_is.mp hv, q (.bl (!d)) _ H' Hr' ⟨_, rfl, pd⟩ st (holds_is.mpr rfl)⟩
end
/-! ### isinstance -/
structure IsO (c : Cs) (k : Kn) : Prop where
  ha : PySem.W.findIn c.K (.ref (c.cl k)) "__class__" = some (some (.builtin "object.__class__"))
  hn : PySem.W.specialIn c.K (.builtin "object.__class__") "__get__" = some (some (.builtin "getset_descriptor.__get__"))
  tk : PySem.W.takesIn c.K (.builtin "object.__class__") = some true
  mo : PySem.W.mroIn c.K (c.cl k) (.type "object") = some true
def tyv (c : Cs) : T → Option Value
  | .is .non => some (.type "NoneType")
  | .is (.bl _) => some (.type "bool")
  | .is (.int _) => some (.type "int")
  | .is (.str _) => some (.type "str")
  | .obj k _ _ => some (.ref (c.cl k))
  | .lst _ => some (.type "list")
  | .tup _ => some (.type "tuple")
  | .emp => some (.type "dict")
  | _ => none
theorem tyx_of {c : Cs} {t : T} {u : Value} {v : V} {H : Hp} (hC : ∀ k, ClO c k) (hI : ∀ k, IsO c k) (e : tyv c t = some u) (h : holds c t v H) : TyX c.K H v u := by
  cases t with
  | is v0 =>
    rw [holds_is.mp h]
    cases v0 with
    | non => cases e; exact .base .non
    | bl d => cases e; exact .base (.bl d)
    | int d => cases e; exact .base (.int d)
    | str d => cases e; exact .base (.str d)
    | byt _ => cases e
    | flt _ => cases e
    | ref _ => cases e
    | ty _ => cases e
  | obj k t u =>
    cases e
    obtain ⟨a, dx, v1, v2, rfl, h2, _⟩ := holds_obj.mp h
    exact .base (.ins h2 (hC k).cls (hI k).ha (hI k).hn (hI k).tk (hI k).mo)
  | lst ts =>
    cases e
    obtain ⟨a, vs, rfl, h2, _⟩ := holds_lst.mp h
    exact .base (.lst h2)
  | tup ts =>
    cases e
    obtain ⟨a, vs, rfl, h2, _⟩ := holds_tup.mp h
    rcases h2 with (h2 | ⟨ob, h2⟩) | ⟨ob, its, n, h2, h3, _⟩
    · exact .base (.tup h2)
    · exact .fTuple h2
    · exact .kTuple h2 h3
  | emp =>
    cases e
    obtain ⟨a, rfl, h2⟩ := holds_emp.mp h
    exact .base (.dK h2)
  | any => cases e
section
variable {b : Bs} {X : Cx} {G : List En} {a e o c : Expr} {es : List Expr} {pos p p2 p3 p4 p' : Pos} {Phi Pa Pb : T → Prop} {A1 : List T → Prop} {x y : Str} {k : Nat} {pre : List T → Prop} {R : List T → T → Prop} {P : Bool → Prop}
theorem eg_isi {t : T} {u cu : Value} {cv : V} {d : Bool} (hK : b.c.K = X.K) (hC : ∀ k, ClO b.c k) (hI : ∀ k, IsO b.c k) (he : EG b X G e (· = t)) (ht : tyv b.c t = some u) (hc : PE X c (tC cv)) (hcv : ClsV cv cu) (hk : PySem.W.kitOne b.c.K u cu = some d) (hg : Gl X "isinstance") (hm : X.mg "isinstance" = none) (hP : Phi (.bl d))
    (hs : starEach [e, c] X.env = (false, eval e X.env) :: starEach [c] X.env := by rfl) (hs2 : starEach [c] X.env = (false, eval c X.env) :: starEach [] X.env := by rfl) (hpl : (backTo pos (starEach [c] X.env)).any (·.1) = false := by rfl) : EG b X G (.Call (.Name "isinstance" p) [e, c] [] pos) Phi := fun σ H Hr s Q q =>
  we_of (pe_callB call_isi hg hm (by decide +kernel) (pa_cons pe_self (pa_cons hc pa_nil hs2) hs) (he := hs) (hpl := hpl)) (he σ H Hr s _ fun t1 v H1 Hr1 p1 e1 s1 h1 => by
    subst p1
    exact ⟨v, cv, u, cu, d, rfl, hcv, hK ▸ tyx_of hC hI ht (holds_mono s1.r2 h1), hK ▸ hk, q (.bl d) _ H1 Hr1 hP e1 s1 (holds_is.mpr rfl)⟩)
/-- isinstance(e, T), T built in -/
theorem eg_isiB {t : T} {u : Value} {T0 : String} {d : Bool} (hK : b.c.K = X.K) (hC : ∀ k, ClO b.c k) (hI : ∀ k, IsO b.c k) (he : EG b X G e (· = t)) (ht : tyv b.c t = some u) (hk : PySem.W.kitOne b.c.K u (.type T0) = some d) (hg : Gl X "isinstance") (hm : X.mg "isinstance" = none) (hP : Phi (.bl d))
    (hgx : Gl X x) (hmx : X.mg x = none) (hb : bootBuiltins x = some (.type T0)) (hn : x ≠ "__name__" := by decide) (hd : (x == ("__debug__" : Str)) = false := by decide)
    (hs : starEach [e, .Name x p2] X.env = (false, eval e X.env) :: starEach [.Name x p2] X.env := by rfl) (hs2 : starEach [.Name x p2] X.env = (false, eval (.Name x p2) X.env) :: starEach [] X.env := by rfl) (hpl : (backTo pos (starEach [.Name x p2] X.env)).any (·.1) = false := by rfl) : EG b X G (.Call (.Name "isinstance" p) [e, .Name x p2] [] pos) Phi :=
  eg_isi hK hC hI he ht (pe_bltn (v := .ty T0) hgx hmx hb rfl hn hd) (.ty T0) hk hg hm hP hs hs2 hpl
/-- isinstance(e, C), an own class -/
theorem eg_isiO {t : T} {u : Value} {kn : Kn} {d : Bool} (hK : b.c.K = X.K) (hC : ∀ k, ClO b.c k) (hI : ∀ k, IsO b.c k) (he : EG b X G e (· = t)) (ht : tyv b.c t = some u) (hk : PySem.W.kitOne b.c.K u (.ref (b.c.cl kn)) = some d) (hg : Gl X "isinstance") (hm : X.mg "isinstance" = none) (hP : Phi (.bl d))
    (hgx : Gl X x) (hmx : X.mg x = some (.ref (b.c.cl kn))) (hd : (x == ("__debug__" : Str)) = false := by decide)
    (hs : starEach [e, .Name x p2] X.env = (false, eval e X.env) :: starEach [.Name x p2] X.env := by rfl) (hs2 : starEach [.Name x p2] X.env = (false, eval (.Name x p2) X.env) :: starEach [] X.env := by rfl) (hpl : (backTo pos (starEach [.Name x p2] X.env)).any (·.1) = false := by rfl) : EG b X G (.Call (.Name "isinstance" p) [e, .Name x p2] [] pos) Phi :=
  eg_isi hK hC hI he ht (pe_glob (v := .ref (b.c.cl kn)) hgx hmx rfl hd) (.own _) hk hg hm hP hs hs2 hpl
/-- isinstance(e, (S, T)), both built in -/
theorem eg_isi2 {t : T} {u : Value} {T1 T2 : String} {d : Bool} {kk : Nat} (hK : b.c.K = X.K) (hC : ∀ k, ClO b.c k) (hI : ∀ k, IsO b.c k) (he : EG b X G e (· = t)) (ht : tyv b.c t = some u) (hk : PySem.W.kitAny b.c.K u [.type T1, .type T2] = some d) (hg : Gl X "isinstance") (hm : X.mg "isinstance" = none) (hP : Phi (.bl d))
    (hgx : Gl X x) (hmx : X.mg x = none) (hb : bootBuiltins x = some (.type T1)) (hgy : Gl X y) (hmy : X.mg y = none) (hby : bootBuiltins y = some (.type T2)) (hn : x ≠ "__name__" := by decide) (hd : (x == ("__debug__" : Str)) = false := by decide) (hny : y ≠ "__name__" := by decide) (hdy : (y == ("__debug__" : Str)) = false := by decide)
    (hs : starEach [e, .Tuple [.Name x p2, .Name y p3] kk p4] X.env = (false, eval e X.env) :: starEach [.Tuple [.Name x p2, .Name y p3] kk p4] X.env := by rfl) (hs2 : starEach [.Tuple [.Name x p2, .Name y p3] kk p4] X.env = (false, eval (.Tuple [.Name x p2, .Name y p3] kk p4) X.env) :: starEach [] X.env := by rfl) (hpl : (backTo pos (starEach [.Tuple [.Name x p2, .Name y p3] kk p4] X.env)).any (·.1) = false := by rfl)
    (hs3 : starEach [.Name x p2, .Name y p3] X.env = (false, eval (.Name x p2) X.env) :: starEach [.Name y p3] X.env := by rfl) (hs4 : starEach [.Name y p3] X.env = (false, eval (.Name y p3) X.env) :: starEach [] X.env := by rfl) : EG b X G (.Call (.Name "isinstance" p) [e, .Tuple [.Name x p2, .Name y p3] kk p4] [] pos) Phi := fun σ H Hr s Q q =>
  we_of (pe_callB call_isiT hg hm (by decide +kernel) (pa_cons pe_self (pa_cons (pe_tup (pa_cons (pe_bltn (v := .ty T1) hgx hmx hb rfl hn hd) (pa_cons (pe_bltn (v := .ty T2) hgy hmy hby rfl hny hdy) pa_nil hs4) hs3)) pa_nil hs2) hs) (he := hs) (hpl := hpl)) (he σ H Hr s _ fun t1 v H1 Hr1 p1 e1 s1 h1 => by
    subst p1
    refine ⟨by show 2 ≤ sizeLine; decide, fun tp htp => ?_⟩
    have st := Stp.new (o := .tup [.ty T1, .ty T2]) s1.r2 htp
    exact ⟨v, tp, [.ty T1, .ty T2], u, [.type T1, .type T2], d, rfl, upd_same, .cons (.ty T1) (.cons (.ty T2) .nil), hK ▸ tyx_of hC hI ht (holds_mono (st.r.trans st.r2) h1), hK ▸ hk, q (.bl d) _ _ _ hP (e1.trans st.evo) (s1.stp st) (holds_is.mpr rfl)⟩)
end
/-! ### division of ints of any size; lcm -/
structure PyR (X : Cx) : Prop where
  st : ∃ env l, X.stack = env :: l ∧ env.scope.isGenerator = false ∧ env.scope.isCoroutine = false ∧ env.builtins = builtinsNs ∧ env.globals = mainGlobals
  ns : X.base.NoSeer
  tr : X.prog.given.tree = none
  dp : X.A.depth + Builtin.pylongFrames < recursionLimit
theorem op_fdivP {X : Cx} (P : PyR X) : OpR X (binaryOp .FloorDiv) (rI (fun _ j => j ≠ 0) fun i j => .int (i.fdiv j)) := by
  intro pins s σ H x y v u Q I rx ry h
  obtain ⟨i, j, rfl, rfl, hc, q⟩ := h
  obtain ⟨t, rfl⟩ := rx
  obtain ⟨t2, rfl⟩ := ry
  obtain ⟨env, l, e1, e2, e3, e4, e5⟩ := P.st
  have fr : X.A.frames = some (env :: l) := by rw [← e1]; exact I.ok.frames
  exact floordiv_int hc ⟨.int (i.fdiv j), H, I.tok _, ⟨_, rfl⟩, q⟩ (.inr (PylongRoom.of I.nolimit P.dp (SeerAt.of (P.ns.keeps I.bk) P.tr fr e2 e3 e4 e5)))
theorem cr_lcm {X : Cx} : CallR X (.builtin "math.lcm") (fun vs H Q => ∃ i j : Int, vs = [.int i, .int j] ∧ i.natAbs < 2 ^ 13000 ∧ j.natAbs < 2 ^ 13000 ∧ Q (.int ((Nat.lcm i.natAbs j.natAbs : Nat) : Int)) H) := by
  intro pins s σ H vs us Q I r h
  obtain ⟨i, j, rfl, hi, hj, q⟩ := h
  obtain ⟨t, u, rfl⟩ := Vals.int2 r
  have lg : ∀ {n : Nat}, n < 2 ^ 13000 → n.log2 < 13000 := fun {n} h => PySem.Flt.log2_lt_of (by decide) h
  have h1 : (max 1 i.natAbs).log2 < 13000 := lg (by
    have : 1 < 2 ^ 13000 := Nat.one_lt_two_pow (by decide)
    omega)
  have h2 : (max i.natAbs j.natAbs).log2 < 13000 := lg (by omega)
  have e : (Nat.lcm 1 i.natAbs).lcm j.natAbs = Nat.lcm i.natAbs j.natAbs := by rw [Nat.lcm_one_left]
  have h3 : (((((Nat.lcm 1 i.natAbs).lcm j.natAbs : Nat) : Int)).natAbs).log2 < bitsLine := by
    rw [e, Int.natAbs_natCast]
    have hb : bitsLine = 134217728 := by decide
    have hm : Nat.lcm i.natAbs j.natAbs ≤ i.natAbs * j.natAbs := by
      by_cases z : i.natAbs * j.natAbs = 0
      · have : Nat.lcm i.natAbs j.natAbs ∣ i.natAbs * j.natAbs := Nat.lcm_dvd_mul _ _
        rcases Nat.mul_eq_zero.mp z with z | z
        · rw [z, Nat.lcm_zero_left]; omega
        · rw [z, Nat.lcm_zero_right]; omega
      · exact Nat.le_of_dvd (Nat.pos_of_ne_zero z) (Nat.lcm_dvd_mul _ _)
    have hl : i.natAbs * j.natAbs < 2 ^ (13000 + 13000) := by
      rw [Nat.pow_add]; exact Nat.mul_lt_mul'' hi hj
    have := PySem.Flt.log2_lt_of (k := 26000) (by decide) (Nat.lt_of_le_of_lt hm hl)
    omega
  refine PySem.call_function_meets PySem.W.MGF.kind_lcm PySem.W.MGF.plain_lcm PySem.W.MGF.entry_lcm (PySem.W.MGF.args_lcm _ _) (PySem.W.mg_run_lcm i t j u (by omega) (by omega) h3).meets ?_
  rw [e]
  exact ⟨.int _, H, I.tok _, ⟨_, rfl⟩, q⟩
section
variable {b : Bs} {X : Cx} {G : List En} {a e o c : Expr} {es : List Expr} {pos p p2 p3 p4 p' : Pos} {Phi Pa Pb : T → Prop} {A1 : List T → Prop} {x y : Str} {k : Nat} {pre : List T → Prop} {R : List T → T → Prop} {P : Bool → Prop}
theorem eg_fdiv {i j : Int} (hp : PyR X) (ha : EG b X G a (· = .int i)) (hc : EG b X G c (· = .int j)) (hz : j ≠ 0) (hP : Phi (.int (i.fdiv j))) : EG b X G (.BinOp a .FloorDiv c pos) Phi := eg_bin (op_fdivP hp) ha hc (by rintro _ _ rfl rfl; exact rg_I hz hP)
theorem eg_lcm {i j : Int} (ha : EG b X G a (· = .int i)) (hc : EG b X G c (· = .int j)) (hi : i.natAbs < 2 ^ 13000) (hj : j.natAbs < 2 ^ 13000) (hg : Gl X x) (hm : X.mg x = some (.builtin "math.lcm")) (hP : Phi (.int ((Nat.lcm i.natAbs j.natAbs : Nat) : Int))) (hdb : (x == ("__debug__" : Str)) = false := by decide)
    (he : starEach [a, c] X.env = (false, eval a X.env) :: starEach [c] X.env := by rfl) (he2 : starEach [c] X.env = (false, eval c X.env) :: starEach [] X.env := by rfl) (hpl : (backTo pos (starEach [c] X.env)).any (·.1) = false := by rfl) : EG b X G (.Call (.Name x p) [a, c] [] pos) Phi := fun σ H Hr s Q q =>
  we_of (pe_callBfun cr_lcm hg hm (pa_cons pe_self (pa_cons pe_self pa_nil he2) he) hdb he hpl) (we_two ha hc s fun ta tb x y H2 Hr2 p1 p2 e2 s2 h1 h2 => by
    subst p1; subst p2
    exact ⟨i, j, by rw [holds_is.mp h1, holds_is.mp h2], hi, hj, q _ _ H2 Hr2 hP e2 s2 (holds_is.mpr rfl)⟩)
/-! ### f(k = v, ..), no value ahead -/
structure CalK (P : Program) (w : World) (K : PySem.W.Frag) (mg : Str → Option Value) (base : Heap) (x : Str) (k : Nat) (ks : List Str) (gV : List V → List V) (sp : Sp) : Prop where
  ex : ∃ (f : Addr) (fd : FuncData) (ps : List Str) (g : List Value → List Value → List Value), FnOk P w K mg base CX0 k f fd ps sp ∧ mg x = some (.ref f) ∧ PySem.W.keepIn K (.ref f) = true ∧ KBn K fd ps 0 ks g (fun _ zs => gV zs)
theorem eg_fnK {kws : List Keyword} {tk : TA} {ks : List Str} {gV : List V → List V} {gT : List T → List T} {ts : List T} (C : CalK X.prog X.w X.K X.mg X.base x k ks gV (spOf b.c pre R)) (hr : Room k X.A) (hg : Gl X x) (hkw : PK X kws tk)
    (hkt : ∀ σ H Hr, Sat b G σ H Hr → ∀ Q : List V → Hp → Prop, (∀ vs H' Hr', Evo b H Hr H' Hr' → Sat b G σ H' Hr' → holdsL b.c ts vs Hr' → Q vs H') → tk σ H Q) (hl : ts.length = ks.length) (hgV : ∀ vs H, holdsL b.c ts vs H → holdsL b.c (gT ts) (gV vs) H) (hp : pre (gT ts)) (h : ∀ t, R (gT ts) t → Phi t)
    (hall : (backToKw pos (keywordEach kws X.env)).all (·.1.isSome) = true := by rfl) (hks : (backToKw pos (keywordEach kws X.env)).filterMap (·.1) = ks := by rfl) (hdb : (x == ("__debug__" : Str)) = false := by decide)
    (hpl : ((backTo pos (starEach [] X.env)).any (·.1) || (backToKw pos (keywordEach kws X.env)).any (·.1.isNone)) = false := by rfl) : EG b X G (.Call (.Name x p) [] kws pos) Phi := fun σ H Hr s Q q => by
  obtain ⟨f, fd, ps, g, F, hm, hk, hb⟩ := C.ex
  intro pins st I
  refine wpAny_Call_Name_kw (ld_glob I hg hm ?_ hdb)
  refine PySem.W.callWith_KW0 (h₀ := X.base) I.ok.mod.kin hk hall ?_ hpl
  refine thn (hkw.run pos pins st σ H (fun vs H1 => ∃ Hr1, Evo b H Hr H1 Hr1 ∧ Sat b G σ H1 Hr1 ∧ holdsL b.c ts vs Hr1) I (hkt σ H Hr s _ fun vs H1 Hr1 e1 s1 h1 => ⟨Hr1, e1, s1, h1⟩)) fun ws s2 ⟨zs, H2, I2, rz, Hr2, e2, sa, h2⟩ => ⟨I2.kIn, ?_⟩
  rw [hks]
  exact run_fnN (us := []) (vs := []) F hr hb pass0 I2 .nil rz rfl (by rw [holdsL_len h2, hl]) ⟨Hr2, gT ts, sa.r2, hgV zs _ h2, hp, fun t v H' Hr' hR stp hv => q t v H' Hr' (h t hR) (e2.trans stp.evo) (sa.stp stp) hv⟩
end
/-! ### what a loop walks -/
def Walk (c : Cs) (J : It) (items : List T) (Hr1 : Hp) : Prop :=
  (∀ i H Hr, Same Hr1 Hr → Same Hr H → i < items.length → J.go i H) ∧
  (∀ i H Hr x H', Same Hr1 Hr → Same Hr H → i < items.length → J.yld i H x H' → ∃ Hr' t, items[i]? = some t ∧ Stp H Hr H' Hr' ∧ holds c t x Hr') ∧
  (∀ H Hr, Same Hr1 Hr → Same Hr H → J.stop items.length H)
def IG (b : Bs) (X : Cx) (G : List En) (tg iter : Expr) (P : List T → Prop) : Prop := ∃ wi, PI X tg iter wi ∧ ∀ σ H Hr, Sat b G σ H Hr → ∀ R : It → Hp → Prop, (∀ J items H1 Hr1, P items → Evo b H Hr H1 Hr1 → Sat b G σ H1 Hr1 → Walk b.c J items Hr1 → R J H1) → wi σ H R
theorem walk_lst {c : Cs} {K : PySem.W.Frag} {a : Addr} {vs : List V} {ts : List T} {Hr1 : Hp} (h : Hr1 a = some (.lst vs)) (hv : holdsL c ts vs Hr1) : Walk c (Itl K a) ts Hr1 := by
  have hl := holdsL_len hv
  refine ⟨fun i H Hr r1 r2 hi => ⟨vs, vs[i]'(by omega), SqL.of (r2 _ _ (r1 _ _ h)), by simp [hl, hi]⟩, fun i H Hr x H' r1 r2 hi hy => ?_, fun H Hr r1 r2 => ⟨vs, SqL.of (r2 _ _ (r1 _ _ h)), by omega⟩⟩
  obtain ⟨rfl, hy⟩ := hy
  have hx := hy vs (SqL.of (r2 _ _ (r1 _ _ h)))
  obtain ⟨t, e1, e2⟩ := holdsL_get' hv hx
  exact ⟨Hr, t, e1, Stp.refl r2, holds_mono r1 e2⟩
theorem walk_tup {c : Cs} {K : PySem.W.Frag} (hK : c.K = K) {a : Addr} {vs : List V} {ts : List T} {Hr1 : Hp} (h : SqT c.K Hr1 a vs) (hv : holdsL c ts vs Hr1) : Walk c (Itt K a) ts Hr1 := by
  subst hK
  have hl := holdsL_len hv
  refine ⟨fun i H Hr r1 r2 hi => ⟨vs, vs[i]'(by omega), same_tup r2 (same_tup r1 h), by simp [hl, hi]⟩, fun i H Hr x H' r1 r2 hi hy => ?_, fun H Hr r1 r2 => ⟨vs, same_tup r2 (same_tup r1 h), by omega⟩⟩
  obtain ⟨rfl, hy⟩ := hy
  have hx := hy vs (same_tup r2 (same_tup r1 h))
  obtain ⟨t, e1, e2⟩ := holdsL_get' hv hx
  exact ⟨Hr, t, e1, Stp.refl r2, holds_mono r1 e2⟩
theorem walk_rng {c : Cs} {lo cc : Int} {n : Nat} {Hr1 : Hp} : Walk c (Itc lo cc n) ((List.range n).map fun i => T.int (lo + (i : Nat) * cc)) Hr1 := by
  refine ⟨fun i H Hr r1 r2 hi => by show i < n; simpa using hi, fun i H Hr x H' r1 r2 hi hy => ?_, fun H Hr r1 r2 => by show n ≤ _; simp⟩
  obtain ⟨rfl, rfl⟩ := hy
  have hi' : i < n := by simpa using hi
  exact ⟨Hr, .int (lo + (i : Nat) * cc), by simp [hi'], Stp.refl r2, holds_is.mpr rfl⟩
theorem walk_r1 {c : Cs} {lo : Int} {n : Nat} {Hr1 : Hp} : Walk c (Itr lo n) ((List.range n).map fun i => T.int (lo + (i : Nat))) Hr1 := by
  refine ⟨fun i H Hr r1 r2 hi => by show i < n; simpa using hi, fun i H Hr x H' r1 r2 hi hy => ?_, fun H Hr r1 r2 => by show n ≤ _; simp⟩
  obtain ⟨rfl, rfl⟩ := hy
  have hi' : i < n := by simpa using hi
  exact ⟨Hr, .int (lo + (i : Nat)), by simp [hi'], Stp.refl r2, holds_is.mpr rfl⟩
def enumT : Nat → List T → List T
  | _, [] => []
  | k, t :: ts => .tup [.int (k : Int), t] :: enumT (k + 1) ts
theorem enumT_len : ∀ (k : Nat) (ts : List T), (enumT k ts).length = ts.length
  | _, [] => rfl
  | k, t :: ts => by unfold enumT; rw [List.length_cons, List.length_cons, enumT_len]
theorem enumT_get : ∀ (k : Nat) (ts : List T) (i : Nat) (t : T), ts[i]? = some t → (enumT k ts)[i]? = some (.tup [.int ((k + i : Nat) : Int), t])
  | _, [], _, _, h => by simp at h
  | k, u :: ts, 0, t, h => by simp at h; subst h; rfl
  | k, u :: ts, i + 1, t, h => by
    have := enumT_get (k + 1) ts i t (by simpa using h)
    unfold enumT
    rw [show k + (i + 1) = k + 1 + i by omega]
    simpa using this
theorem walk_enum {c : Cs} {K : PySem.W.Frag} {a : Addr} {vs : List V} {ts : List T} {Hr1 : Hp} (h : Hr1 a = some (.lst vs)) (hv : holdsL c ts vs Hr1) : Walk c (Ite K a) (enumT 0 ts) Hr1 := by
  have hl := holdsL_len hv
  refine ⟨fun i H Hr r1 r2 hi => ⟨vs, vs[i]'(by rw [enumT_len] at hi; omega), SqL.of (r2 _ _ (r1 _ _ h)), by rw [enumT_len] at hi; simp [hl, hi]⟩, fun i H Hr x H' r1 r2 hi hy => ?_, fun H Hr r1 r2 => ⟨vs, SqL.of (r2 _ _ (r1 _ _ h)), by rw [enumT_len]; omega⟩⟩
  obtain ⟨TT, y, rfl, hT, rfl, hy⟩ := hy
  have hx := hy vs (SqL.of (r2 _ _ (r1 _ _ h)))
  obtain ⟨t, e1, e2⟩ := holdsL_get' hv hx
  have st := Stp.new (o := .tup [.int ((i : Nat) : Int), y]) r2 hT
  refine ⟨_, .tup [.int ((i : Nat) : Int), t], by have := enumT_get 0 ts i t e1; rwa [Nat.zero_add] at this, st, holds_tup.mpr ⟨TT, _, rfl, SqT.of upd_same, holdsL_cons.mpr ⟨_, _, rfl, holds_is.mpr rfl, holdsL_one (holds_mono (r1.trans st.r) e2)⟩⟩⟩
theorem walk_zip {c : Cs} {K : PySem.W.Frag} {a a2 : Addr} {vs ws : List V} {ts us : List T} {Hr1 : Hp} (h : Hr1 a = some (.lst vs)) (hv : holdsL c ts vs Hr1) (h2 : Hr1 a2 = some (.lst ws)) (hw : holdsL c us ws Hr1) (hlen : ts.length = us.length) : Walk c (Itz K a a2) ((ts.zip us).map fun q => .tup [q.1, q.2]) Hr1 := by
  have hl := holdsL_len hv
  have hl2 := holdsL_len hw
  have hn : ((ts.zip us).map fun q => T.tup [q.1, q.2]).length = ts.length := by rw [List.length_map, List.length_zip]; omega
  refine ⟨fun i H Hr r1 r2 hi => ?_, fun i H Hr x H' r1 r2 hi hy => ?_, fun H Hr r1 r2 => ⟨vs, ws, SqL.of (r2 _ _ (r1 _ _ h)), SqL.of (r2 _ _ (r1 _ _ h2)), .inl (by rw [hn]; omega)⟩⟩
  · rw [hn] at hi
    exact ⟨vs, ws, vs[i]'(by omega), ws[i]'(by omega), SqL.of (r2 _ _ (r1 _ _ h)), SqL.of (r2 _ _ (r1 _ _ h2)), by simp [hl, hi], by simp [hl2, ← hlen, hi]⟩
  · rw [hn] at hi
    obtain ⟨TT, y, z, rfl, hT, rfl, hy, hz⟩ := hy
    have hx := hy vs (SqL.of (r2 _ _ (r1 _ _ h)))
    have hx2 := hz ws (SqL.of (r2 _ _ (r1 _ _ h2)))
    obtain ⟨t, e1, e2⟩ := holdsL_get' hv hx
    obtain ⟨t2, g1, g2⟩ := holdsL_get' hw hx2
    have st := Stp.new (o := .tup [y, z]) r2 hT
    refine ⟨_, .tup [t, t2], by rw [List.getElem?_map, (List.getElem?_zip_eq_some (z := (t, t2))).mpr ⟨e1, g1⟩]; rfl, st, holds_tup.mpr ⟨TT, _, rfl, SqT.of upd_same, holdsL_cons.mpr ⟨_, _, rfl, holds_mono (r1.trans st.r) e2, holdsL_one (holds_mono (r1.trans st.r) g2)⟩⟩⟩
section
variable {b : Bs} {X : Cx} {G : List En} {a e o c d tg : Expr} {es elts : List Expr} {pos p p2 tpos : Pos} {kk : Nat} {Phi Pa Pb : T → Prop} {P : List T → Prop}
theorem ig_lst (he : EG b X G e Pa) (h : ∀ t, Pa t → ∃ ts, t = .lst ts ∧ P ts) : IG b X G tg e P := ⟨_, pi_list pe_self, fun σ H Hr s R q => he σ H Hr s _ fun t v H1 Hr1 p1 e1 s1 h1 => by
  obtain ⟨ts, rfl, hP⟩ := h t p1
  obtain ⟨l, vs, rfl, hl, hv⟩ := holds_lst.mp h1
  exact ⟨l, rfl, ⟨vs, SqL.of (s1.r2 _ _ hl)⟩, q _ ts H1 Hr1 hP e1 s1 (walk_lst hl hv)⟩⟩
theorem ig_tup {ts : List T} (hK : b.c.K = X.K) (he : EG b X G e (· = .tup ts)) (hP : P ts) : IG b X G tg e P := ⟨_, pi_tup pe_self, fun σ H Hr s R q => he σ H Hr s _ fun t v H1 Hr1 p1 e1 s1 h1 => by
  subst p1
  obtain ⟨l, vs, rfl, hl, hv⟩ := holds_tup.mp h1
  exact ⟨l, rfl, ⟨vs, hK ▸ same_tup s1.r2 hl⟩, q _ ts H1 Hr1 hP e1 s1 (walk_tup hK hl hv)⟩⟩
theorem ig_rng (he : EG b X G e Pa) (h : ∀ t, Pa t → ∃ n : Int, t = .int n ∧ n < 1000 ∧ -1000 < n ∧ P ((List.range n.toNat).map fun i => T.int ((i : Nat) : Int))) (hg : Gl X "range") (hm : X.mg "range" = none) (hs : starEach [e] X.env = [(false, eval e X.env)] := by rfl) : IG b X G tg (.Call (.Name "range" p) [e] [] pos) P :=
  ⟨_, pi_range1 hg hm (pa_cons pe_self pa_nil hs) hs, fun σ H Hr s R q => he σ H Hr s _ fun t v H1 Hr1 p1 e1 s1 h1 => by
    obtain ⟨n, rfl, h2, h3, hP⟩ := h t p1
    refine ⟨n, by rw [holds_is.mp h1], by omega, by omega, q _ _ H1 Hr1 hP e1 s1 ?_⟩
    have := walk_r1 (c := b.c) (lo := 0) (n := n.toNat) (Hr1 := Hr1)
    simpa using this⟩
/-- range(a, -1, -1) -/
theorem ig_down {n : Int} {k1 : Nat} (ha : EG b X G a (· = .int n)) (hc : EG b X G c (· = .int (-1))) (hd : EG b X G d (· = .int (-1))) (h1 : n < 1000) (h2 : -1 ≤ n) (hP : P ((List.range (n + 1).toNat).map fun i => T.int (n + ((i : Nat) : Int) * (-1)))) (hg : Gl X "range") (hm : X.mg "range" = none)
    (hs : starEach [a, c, d] X.env = (false, eval a X.env) :: starEach [c, d] X.env := by rfl) (hs2 : starEach [c, d] X.env = (false, eval c X.env) :: starEach [d] X.env := by rfl) (hs3 : starEach [d] X.env = (false, eval d X.env) :: starEach [] X.env := by rfl) (hpl : (backTo pos (starEach [c, d] X.env)).any (·.1) = false := by rfl) : IG b X G tg (.Call (.Name "range" p) [a, c, d] [] pos) P :=
  ⟨_, pi_range3 hg hm (pa_cons pe_self (pa_cons pe_self (pa_cons pe_self pa_nil hs3) hs2) hs) hs hpl, fun σ H Hr s R q => ha σ H Hr s _ fun t1 v1 H1 Hr1 p1 e1 s1 g1 => hc σ H1 Hr1 s1 _ fun t2 v2 H2 Hr2 p2 e2 s2 g2 => hd σ H2 Hr2 s2 _ fun t3 v3 H3 Hr3 p3 e3 s3 g3 => by
    subst p1; subst p2; subst p3
    refine ⟨n, -1, -1, (n - (-1)).toNat, by rw [holds_is.mp g1, holds_is.mp g2, holds_is.mp g3], RgC.neg (by omega) (by omega) (by omega) (by omega), q _ _ H3 Hr3 hP ((e1.trans e2).trans e3) s3 ?_⟩
    rw [show (n - (-1)).toNat = (n + 1).toNat by omega]
    exact walk_rng⟩
theorem ig_enum {ts : List T} (he : EG b X G e (· = .lst ts)) (hP : P (enumT 0 ts)) (hg : Gl X "enumerate") (hm : X.mg "enumerate" = none) (hs : starEach [e] X.env = [(false, eval e X.env)] := by rfl) : IG b X G (.Tuple elts kk tpos) (.Call (.Name "enumerate" p) [e] [] pos) P :=
  ⟨_, pi_enum hg hm (pa_cons pe_self pa_nil hs) hs, fun σ H Hr s R q => he σ H Hr s _ fun t v H1 Hr1 p1 e1 s1 h1 => by
    subst p1
    obtain ⟨l, vs, rfl, hl, hv⟩ := holds_lst.mp h1
    exact ⟨l, vs, rfl, SqL.of (s1.r2 _ _ hl), q _ _ H1 Hr1 hP e1 s1 (walk_enum hl hv)⟩⟩
theorem ig_zip {ts us : List T} (he : EG b X G e (· = .lst ts)) (hc : EG b X G c (· = .lst us)) (hlen : ts.length = us.length) (hP : P ((ts.zip us).map fun q => .tup [q.1, q.2])) (hg : Gl X "zip") (hm : X.mg "zip" = none)
    (hs : starEach [e, c] X.env = (false, eval e X.env) :: starEach [c] X.env := by rfl) (hs2 : starEach [c] X.env = (false, eval c X.env) :: starEach [] X.env := by rfl) (hpl : (backTo pos (starEach [c] X.env)).any (·.1) = false := by rfl) : IG b X G (.Tuple elts kk tpos) (.Call (.Name "zip" p) [e, c] [] pos) P :=
  ⟨_, pi_zip hg hm (pa_cons pe_self (pa_cons pe_self pa_nil hs2) hs) hs hpl, fun σ H Hr s R q => we_two he hc s fun ta tb x y H2 Hr2 p1 p2 e2 s2 h1 h2 => by
    subst p1; subst p2
    obtain ⟨l, vs, rfl, hl, hv⟩ := holds_lst.mp h1
    obtain ⟨m, ws, rfl, hm', hw⟩ := holds_lst.mp h2
    exact ⟨l, m, vs, ws, rfl, SqL.of (s2.r2 _ _ hl), SqL.of (s2.r2 _ _ hm'), q _ _ H2 Hr2 hP e2 s2 (walk_zip hl hv hm' hw hlen)⟩⟩
end
end My

set_option Elab.async false
set_option linter.all false
set_option maxRecDepth 100000
set_option maxHeartbeats 4000000
/-! Ly6: comprehensions, statements, the rules of a def. -/
namespace My
open PySem L2 PyProof.Rows

/-- an object of one's own, at no slot, changes -/
theorem Sat.grow {b : Bs} {G : List En} {σ : L2.St} {H Hr : Hp} {D : Addr} {o o' : HO} (s : Sat b G σ H Hr) (hb : b.B D = none) (hr : Hr D = none) (hd : H D = some o) (ha : ∀ (i : Nat) (us : List T), G[i]? = some (.mu us) → σ[i]? ≠ some (some (.ref D))) : Sat b G σ (upd H D o') Hr where
  r1 := s.r1
  r2 := fun a u e => by
    have z : a ≠ D := fun z => by subst z; rw [hr] at e; cases e
    rw [upd_ne z]; exact s.r2 a u e
  old := fun a h => by
    have z : a ≠ D := fun z => by subst z; exact h hb
    rw [upd_ne z]; exact s.old a h
  keep := s.keep
  bx := fun a u h1 h2 => by
    have z : a ≠ D := fun z => by subst z; rw [hb] at h2; cases h2
    rw [upd_ne z]; exact s.bx a u h1 h2
  ptw := s.ptw
  ln := s.ln
  slot := fun i e h => by
    have np : ∀ q, b.pot = some q → q ≠ D := fun q h1 z => by subst z; exact (s.ptw q h1).2 hb
    have k := s.slot i e h
    cases e with
    | no => trivial
    | sh t => exact k
    | mu ts =>
      obtain ⟨q, vs, h1, h2, h3, h4, h5⟩ := k
      have z : q ≠ D := fun z => by subst z; exact ha i ts h h1
      exact ⟨q, vs, h1, h2, h3, by rw [upd_ne z]; exact h4, h5⟩
    | pt =>
      obtain ⟨q, h1, h2, x, y, h3, h4, h5, h6, h7⟩ := k
      exact ⟨q, h1, h2, x, y, h3, h4, h5, h6, by rw [upd_ne (np q h1)]; exact h7⟩
    | bi k' ts =>
      obtain ⟨q, dx, vs, h1, h2, h3, h4⟩ := k
      exact ⟨q, dx, vs, h1, h2, by rw [upd_ne (np q h1)]; exact h3, h4⟩
  apart := s.apart
/-- the base read further -/
theorem Sat.up {b : Bs} {G : List En} {σ : L2.St} {H Hr H1 Hr1 : Hp} {σ1 : L2.St} {G1 : List En} (s1 : Sat b G1 σ1 H1 Hr1) (s : Sat b G σ H Hr) (e : Same Hr1 Hr) : Sat { b with R := Hr1 } G σ H Hr where
  r1 := e
  r2 := s.r2
  old := s.old
  keep := fun a h1 h2 => by
    refine s.keep a ?_ h2
    cases q : b.R a with
    | none => rfl
    | some o => have h1' : Hr1 a = none := h1; rw [s1.r1 a o q] at h1'; cases h1'
  bx := s.bx
  ptw := fun p hp => ⟨s1.keep p (s1.ptw p hp).1 (s1.ptw p hp).2, (s.ptw p hp).2⟩
  ln := s.ln
  slot := s.slot
  apart := s.apart
theorem Sat0.down {b : Bs} {H Hr H1 Hr1 : Hp} {σ1 : L2.St} {G1 : List En} (s1 : Sat b G1 σ1 H1 Hr1) (s : Sat0 { b with R := Hr1 } H Hr) : Sat0 b H Hr where
  r1 := s1.r1.trans s.r1
  r2 := s.r2
  old := s.old
  keep := fun a h1 h2 => s.keep a (s1.keep a h1 h2) h2
  bx := s.bx
  ptw := s1.ptw
theorem Sat.down {b : Bs} {G : List En} {σ : L2.St} {H Hr H1 Hr1 : Hp} {σ1 : L2.St} {G1 : List En} (s1 : Sat b G1 σ1 H1 Hr1) (s : Sat { b with R := Hr1 } G σ H Hr) : Sat b G σ H Hr where
  toSat0 := Sat0.down s1 s.toSat0
  ln := s.ln
  slot := s.slot
  apart := s.apart
section
variable {b : Bs} {X : Cx} {G : List En} {a e o c elt iter : Expr} {es : List Expr} {pos p p' py : Pos} {Phi Pa Pb : T → Prop} {A1 P : List T → Prop} {x y : Str} {i j : Nat} {scope : Scope} {f : T → T}
/-- a comprehension's reading: one name, no test -/
theorem lc_read {tg : Expr} {g : L2.TG} {own : List (Str × Nat)} (hi : IG b X G tg iter P)
    (he : ∀ items, P items → ∀ R', ∀ t ∈ items, ∀ σ H Hr v, Sat { b with R := R' } G σ H Hr → holds b.c t v Hr → ∀ Q : VK, (∀ w H' Hr', Evo b H Hr H' Hr' → Sat { b with R := R' } G σ H' Hr' → holds b.c (f t) w Hr' → Q w H') →
      g v (wipe σ (own.map (·.2))) H fun σ2 H2 => wipe σ2 (own.map (·.2)) = wipe σ (own.map (·.2)) ∧ (∀ s H C cl fp, WE (X.blk s H scope (compEnvC scope cl C X.env) fp) elt σ2 H2 Q))
    (hz : ∀ items, P items → items.length < 1000) {wi : TI} {σ : L2.St} {H Hr : Hp} (s : Sat b G σ H Hr) (hwi : ∀ R : It → Hp → Prop, (∀ J items H1 Hr1, P items → Evo b H Hr H1 Hr1 → Sat b G σ H1 Hr1 → Walk b.c J items Hr1 → R J H1) → wi σ H R) {Q : VK}
    (q : ∀ items p vs H' Hr', P items → Evo b H Hr H' Hr' → Sat b G σ H' Hr' → H p = none → b.B p = none → Hr' p = none → H' p = some (.lst vs) → holdsL b.c (items.map f) vs Hr' → (∀ (i : Nat) (us : List T), G[i]? = some (.mu us) → σ[i]? ≠ some (some (.ref p))) → Q (.ref p) H') :
    tLc wi g tYes (fun σ2 H2 Q => ∀ s H C cl fp, WE (X.blk s H scope (compEnvC scope cl C X.env) fp) elt σ2 H2 Q) (own.map (·.2)) σ H Q := by
  refine hwi _ fun J items H1 Hr1 hP e1 s1 hw D hD => ?_
  obtain ⟨w1, w2, w3⟩ := hw
  have hBD := (same_down s1.toSat0 hD).1
  have hRD := (same_down s1.toSat0 hD).2
  have hH0 := evo_down e1 hD
  have hmu := s1.fresh hD
  have hlen := hz items hP
  refine ⟨fun i m H' => m = items.length - i ∧ i ≤ items.length ∧ ∃ Hr' vs, Evo b H Hr H' Hr' ∧ Sat { b with R := Hr1 } G σ H' Hr' ∧ H' D = some (.lst vs) ∧ Hr' D = none ∧ holdsL b.c ((items.take i).map f) vs Hr', ⟨items.length, by simp, Nat.zero_le _, Hr1, [], ?_, ?_, upd_same, hRD, by simp [holdsL_nil]⟩, ?_⟩
  · exact e1.trans (Stp.own s1.r2 hD).evo
  · exact Sat.up s1 (s1.stp (Stp.own s1.r2 hD)) (Same.refl _)
  · rintro i m H' ⟨rfl, hi', Hr', vs, e2, s2, hD2, hR2, hv⟩
    by_cases hlt : i < items.length
    · refine .inr ⟨w1 i H' Hr' s2.r1 s2.r2 hlt, fun H9 => ∃ Hr9 us, Evo b H Hr H9 Hr9 ∧ Sat { b with R := Hr1 } G σ H9 Hr9 ∧ H9 D = some (.lst us) ∧ Hr9 D = none ∧ holdsL b.c ((items.take (i + 1)).map f) us Hr9, fun H9 h9 => ⟨items.length - (i + 1), by omega, rfl, hlt, h9⟩, fun x H3 hy => ?_⟩
      obtain ⟨Hr3, t, ht, st3, hx⟩ := w2 i H' Hr' x H3 s2.r1 s2.r2 hlt hy
      have s3 := s2.stp st3
      have hmem : t ∈ items := List.mem_of_getElem? ht
      have hD3 : H3 D = some (.lst vs) := st3.h _ _ hD2
      have hR3 : Hr3 D = none := st3.g D (by rw [hD2]; simp) hR2
      have e3 := e2.trans (st3.evo (b := b))
      have := he items hP Hr1 t hmem σ H3 Hr3 x s3 hx (fun y H4 => ∃ acc, H4 D = some (.lst acc) ∧ acc.length < sizeLine ∧ ∃ Hr9 us, Evo b H Hr (upd H4 D (.lst (acc ++ [y]))) Hr9 ∧ Sat { b with R := Hr1 } G σ (upd H4 D (.lst (acc ++ [y]))) Hr9 ∧ (upd H4 D (.lst (acc ++ [y]))) D = some (.lst us) ∧ Hr9 D = none ∧ holdsL b.c ((items.take (i + 1)).map f) us Hr9) fun y H4 Hr4 e4 s4 hy4 => ?_
      · exact this
      · have hpD : b.pot ≠ some D := fun z => (s.ptw D z).2 hBD
        have hD4 : H4 D = some (.lst vs) := e4.h D _ hpD hD3
        have hR4 : Hr4 D = none := e4.g D (by rw [hD3]; simp) hR3
        have hvl : vs.length = i := by
          rw [holdsL_len hv, List.length_map, List.length_take]; omega
        refine ⟨vs, hD4, by rw [hvl]; exact Nat.lt_trans (Nat.lt_trans hlt hlen) (by decide), Hr4, vs ++ [y], ?_, s4.grow hBD hR4 hD4 (fun k us hk => hmu k us hk), upd_same, hR4, ?_⟩
        · have e5 := e3.trans e4
          refine ⟨fun a u h1 h2 => ?_, e5.r, e5.g, fun a h1 => ?_⟩
          · have z : a ≠ D := fun z => by subst z; rw [hH0] at h2; cases h2
            rw [upd_ne z]; exact e5.h a u h1 h2
          · by_cases z : a = D
            · subst z; rw [upd_same]; simp
            · rw [upd_ne z]; exact e5.o a h1
        · have e6 : (items.take (i + 1)).map f = (items.take i).map f ++ [f t] := by
            rw [List.take_add_one, ht, List.map_append]; rfl
          rw [e6]
          exact holdsL_append (holdsL_mono (st3.r.trans e4.r) hv) (holdsL_one hy4)
    · have hi2 : i = items.length := by omega
      subst hi2
      rw [List.take_length] at hv
      exact .inl ⟨w3 H' Hr' s2.r1 s2.r2, q items D vs H' Hr' hP e2 (Sat.down s1 s2) hH0 hBD hR2 hD2 hv hmu⟩
/-- the turn of a comprehension over one name -/
theorem lc_turn {Pt : T → Prop} (hl : i < G.length) (he : ∀ t R' s H C cl fp, Pt t → EG { b with R := R' } (X.blk s H scope (compEnvC scope cl C X.env) fp) (G.set i (.sh t)) elt (· = f t)) (hG : G[i]? = some .no) :
    ∀ R' t, Pt t → ∀ σ H Hr v, Sat { b with R := R' } G σ H Hr → holds b.c t v Hr → ∀ Q : VK, (∀ w H' Hr', Evo b H Hr H' Hr' → Sat { b with R := R' } G σ H' Hr' → holds b.c (f t) w Hr' → Q w H') →
      gName i v (wipe σ ([(x, i)].map (·.2))) H fun σ2 H2 => wipe σ2 ([(x, i)].map (·.2)) = wipe σ ([(x, i)].map (·.2)) ∧ (∀ s H C cl fp, WE (X.blk s H scope (compEnvC scope cl C X.env) fp) elt σ2 H2 Q) := by
  intro R' t hP σ H Hr v s hv Q q
  have e1 : (wipe σ ([(x, i)].map (·.2))).set i (some v) = σ.set i (some v) := by
    show (σ.set i none).set i (some v) = _
    rw [List.set_set]
  refine ⟨?_, fun s0 H0 C cl fp => ?_⟩
  · show ((σ.set i none).set i (some v)).set i none = σ.set i none
    rw [List.set_set, List.set_set]
  · rw [e1]
    refine he t R' s0 H0 C cl fp hP _ H Hr (s.put i hl hv) Q fun u w H' Hr' hu e2 s2 hw => ?_
    subst hu
    refine q w H' Hr' ⟨e2.h, e2.r, e2.g, e2.o⟩ ?_ hw
    refine { s2 with ln := s.ln, slot := fun k e hk => ?_, apart := fun k l pp ts us n g1 g2 h1 => ?_ }
    · by_cases z : k = i
      · subst z; rw [hG] at hk; cases hk; trivial
      · have := s2.slot k e (by rw [List.getElem?_set_ne (Ne.symm z)]; exact hk)
        rwa [List.getElem?_set_ne (Ne.symm z)] at this
    · exact s.apart k l pp ts us n g1 g2 h1
end
end My

set_option Elab.async false
set_option linter.all false
set_option maxRecDepth 100000
set_option maxHeartbeats 4000000
/-! Ly7: comprehensions and statements. -/
namespace My
open PySem L2 PyProof.Rows
section
variable {b : Bs} {X : Cx} {G : List En} {a e o c elt iter : Expr} {es : List Expr} {pos spos p p' py : Pos} {Phi Pa Pb Pt : T → Prop} {A1 P : List T → Prop} {x y z : Str} {i j : Nat} {scope : Scope} {f : T → T} {rest body els : List Stmt} {D : Ends}
abbrev blkOf (X : Cx) (scope : Scope) (s : Shared) (H : Hp) (C : Addr) (cl : List (Str × Addr)) (fp : List Addr) : Cx := X.blk s H scope (compEnvC scope cl C X.env) fp
/-- [elt for x in iter] -/
theorem fg_lc (i : Nat) {own : List (Str × Nat)} (hown : own = [(x, i)]) (hc : X.calm = true) (hN : X.N.Nodup) (hi : IG b X G (.Name x p) iter P) (ok : BlkOk X.N X.env.scope scope own) (hl : i < G.length) (hG : G[i]? = some .no)
    (hg : ∀ (s : Shared) (H : Hp) (C : Addr) (cl : List (Str × Addr)) (fp : List Addr), PG (blkOf X scope s H C cl fp) (.Name x p) (gName i))
    (hz : ∀ ts, P ts → ts.length < 1000 ∧ (∀ t ∈ ts, Pt t) ∧ A1 (ts.map f))
    (he : ∀ t R' s H C cl fp, Pt t → EG { b with R := R' } (blkOf X scope s H C cl fp) (G.set i (.sh t)) elt (· = f t))
    (hs : ∀ x, foldedSetIterable iter X.env x = pure x := by intro _; rfl) : FG b X G (.ListComp elt [⟨.Name x p, iter, [], 0⟩] scope pos) A1 := by
  subst hown
  obtain ⟨wi, hpi, hwi⟩ := hi
  refine fun σ H Hr s Q q => we_of (pe_lc (g := gName i) (tt := tYes) (te := fun σ2 H2 Q => ∀ s H C cl fp, WE (X.blk s H scope (compEnvC scope cl C X.env) fp) elt σ2 H2 Q) hc hN hpi ok hg (fun _ _ _ _ _ => pts_nil) (fun s H C cl fp => ⟨fun pins s1 σ H1 Q I h => h s H C cl fp pins s1 I⟩) hs) ?_
  refine lc_read (f := f) ⟨wi, hpi, hwi⟩ (fun items hP R' t ht => lc_turn hl (fun t R' s H C cl fp => he t R' s H C cl fp) hG R' t ((hz items hP).2.1 t ht)) (fun items hP => (hz items hP).1) s (hwi σ H Hr s) fun items D vs H' Hr' hP e1 s1 h1 h2 h3 h4 h5 h6 => q _ D vs H' Hr' (hz items hP).2.2 e1 s1 h1 h2 h3 h4 h5 h6
/-- y = [elt for x in iter], kept as a list that is read alone -/
theorem wg_setLc (i j : Nat) {own : List (Str × Nat)} (hown : own = [(x, i)]) (hc : X.calm = true) (hN : X.N.Nodup) (hy : X.N[j]? = some y) (hyl : X.env.scope.names.lookup y = some .local)
    (hsw : swapsWith (.ListComp elt [⟨.Name x p, iter, [], 0⟩] scope pos) (some (.Name y py)) spos.line X.env = pure true) (hi : IG b X G (.Name x p) iter P) (ok : BlkOk X.N X.env.scope scope own) (hl : i < G.length) (hlj : j < G.length) (hG : G[i]? = some .no)
    (hg : ∀ (s : Shared) (H : Hp) (C : Addr) (cl : List (Str × Addr)) (fp : List Addr), PG (blkOf X scope s H C cl fp) (.Name x p) (gName i))
    (hz : ∀ ts, P ts → ts.length < 1000 ∧ (∀ t ∈ ts, Pt t))
    (he : ∀ t R' s H C cl fp, Pt t → EG { b with R := R' } (blkOf X scope s H C cl fp) (G.set i (.sh t)) elt (· = f t))
    (h : ∀ ts, P ts → WG b X (G.set j (.mu (ts.map f))) rest D)
    (hs : ∀ x, foldedSetIterable iter X.env x = pure x := by intro _; rfl) : WG b X G (.Assign [.Name y py] (.ListComp elt [⟨.Name x p, iter, [], 0⟩] scope pos) spos :: rest) D := by
  subst hown
  obtain ⟨wi, hpi, hwi⟩ := hi
  refine fun σ H Hr s => wb_of (pss_cons (ps_setLc (g := gName i) (tt := tYes) (te := fun σ2 H2 Q => ∀ s H C cl fp, WE (X.blk s H scope (compEnvC scope cl C X.env) fp) elt σ2 H2 Q) hc hN hy hyl hsw hpi ok hg (fun _ _ _ _ _ => pts_nil) (fun s H C cl fp => ⟨fun pins s1 σ H1 Q I h => h s H C cl fp pins s1 I⟩) hs) pss_self) ?_
  refine lc_read (f := f) (Q := fun x H1 => gName j x σ H1 _) ⟨wi, hpi, hwi⟩ (fun items hP R' t ht => lc_turn hl (fun t R' s H C cl fp => he t R' s H C cl fp) hG R' t ((hz items hP).2 t ht)) (fun items hP => (hz items hP).1) s (hwi σ H Hr s) fun items D vs H' Hr' hP e1 s1 h1 h2 h3 h4 h5 h6 => ?_
  exact h items hP _ H' Hr' (s1.putM j hlj h2 h3 h4 h5 fun k us _ hk => h6 k us hk)
/-- [elt for x, y in iter] -/
theorem fg_lc2 (i j : Nat) {own : List (Str × Nat)} {ft : T → T → T} {k : Nat} {tpos p2 : Pos} (hown : own = [(x, i), (y, j)]) (hij : i ≠ j) (hc : X.calm = true) (hN : X.N.Nodup) (hK : b.c.K = X.K) (hi : IG b X G (.Tuple [.Name x p, .Name y p2] k tpos) iter P) (ok : BlkOk X.N X.env.scope scope own) (hl : i < G.length) (hlj : j < G.length) (hG : G[i]? = some .no) (hGj : G[j]? = some .no)
    (hg : ∀ (s : Shared) (H : Hp) (C : Addr) (cl : List (Str × Addr)) (fp : List Addr), PG (blkOf X scope s H C cl fp) (.Tuple [.Name x p, .Name y p2] k tpos) (gTup X.K 2 (gCons (gName i) (gCons (gName j) gNil))))
    {Pt2 : T → T → Prop} {g2 : T → T} (hz : ∀ ts, P ts → ts.length < 1000 ∧ (∀ t ∈ ts, ∃ u v, t = .tup [u, v] ∧ Pt2 u v ∧ g2 t = ft u v) ∧ A1 (ts.map g2))
    (he : ∀ u v R' s H C cl fp, Pt2 u v → EG { b with R := R' } (blkOf X scope s H C cl fp) ((G.set i (.sh u)).set j (.sh v)) elt (· = ft u v))
    (hs : ∀ x, foldedSetIterable iter X.env x = pure x := by intro _; rfl) : FG b X G (.ListComp elt [⟨.Tuple [.Name x p, .Name y p2] k tpos, iter, [], 0⟩] scope pos) A1 := by
  subst hown
  obtain ⟨wi, hpi, hwi⟩ := hi
  refine fun σ H Hr s Q q => we_of (pe_lc (g := gTup X.K 2 (gCons (gName i) (gCons (gName j) gNil))) (tt := tYes) (te := fun σ2 H2 Q => ∀ s H C cl fp, WE (X.blk s H scope (compEnvC scope cl C X.env) fp) elt σ2 H2 Q) hc hN hpi ok hg (fun _ _ _ _ _ => pts_nil) (fun s H C cl fp => ⟨fun pins s1 σ H1 Q I h => h s H C cl fp pins s1 I⟩) hs) ?_
  refine lc_read (f := g2) ⟨wi, hpi, hwi⟩ (fun items hP R' t ht σ H Hr v s hv Q q => ?_) (fun items hP => (hz items hP).1) s (hwi σ H Hr s) fun items D vs H' Hr' hP e1 s1 h1 h2 h3 h4 h5 h6 => q _ D vs H' Hr' (hz items hP).2.2 e1 s1 h1 h2 h3 h4 h5 h6
  obtain ⟨u, w, rfl, hp2, hgt⟩ := (hz items hP).2.1 t ht
  obtain ⟨l, vs, rfl, h1, h2⟩ := holds_tup.mp hv
  obtain ⟨v1, r1, rfl, hv1, h3⟩ := holdsL_cons.mp h2
  obtain ⟨v2, r2, rfl, hv2, h4⟩ := holdsL_cons.mp h3
  obtain rfl := holdsL_nil.mp h4
  refine ⟨l, _, rfl, hK ▸ same_tup s.r2 h1, rfl, v1, [v2], rfl, v2, [], rfl, rfl, ?_⟩
  have ew : wipe σ ([(x, i), (y, j)].map (·.2)) = (σ.set j none).set i none := rfl
  have e1 : ((wipe σ ([(x, i), (y, j)].map (·.2))).set i (some v1)).set j (some v2) = (σ.set i (some v1)).set j (some v2) := by
    rw [ew, List.set_set, List.set_comm _ _ (Ne.symm hij), List.set_set]
  refine ⟨?_, fun s0 H0 C cl fp => ?_⟩
  · rw [e1]
    show ((((σ.set i (some v1)).set j (some v2)).set j none).set i none) = (σ.set j none).set i none
    rw [List.set_set, List.set_comm _ _ hij, List.set_set]
  · rw [e1]
    have s2 := (s.put i (t := u) hl hv1).put j (t := w) (by rw [List.length_set]; exact hlj) hv2
    refine he u w R' s0 H0 C cl fp hp2 _ H Hr s2 Q fun t' w' H' Hr' hu e2 s3 hw => ?_
    subst hu
    refine q w' H' Hr' ⟨e2.h, e2.r, e2.g, e2.o⟩ ?_ (by rw [hgt]; exact hw)
    refine { s3 with ln := s.ln, slot := fun k e hk => ?_, apart := fun k l pp ts us n g1 g2 h1 => ?_ }
    · by_cases z1 : k = i
      · subst z1; rw [hG] at hk; cases hk; trivial
      · by_cases z2 : k = j
        · subst z2; rw [hGj] at hk; cases hk; trivial
        · have := s3.slot k e (by rw [List.getElem?_set_ne (Ne.symm z2), List.getElem?_set_ne (Ne.symm z1)]; exact hk)
          rwa [List.getElem?_set_ne (Ne.symm z2), List.getElem?_set_ne (Ne.symm z1)] at this
    · exact s.apart k l pp ts us n g1 g2 h1
/-! ### statements -/
theorem wg_set (i : Nat) (hN : X.N.Nodup) (he : EG b X G e Pa) (h : ∀ t, Pa t → WG b X (G.set i (.sh t)) rest D) (hl : i < G.length := by exact of_decide_eq_true rfl) (hi : X.N[i]? = some x := by rfl) (hx : Loc X.env.scope x := by first | exact .inl rfl | exact .inr rfl)
    (hs : swapsWith e (some (.Name x p')) pos.line X.env = pure false := by rfl) (hf : X.fn x = true ∨ X.env.scope.names.lookup x = some .local := by first | exact .inl rfl | exact .inr rfl) : WG b X G (.Assign [.Name x p'] e pos :: rest) D := fun σ H Hr s =>
  wb_of (pss_cons (ps_set hN hi hx pe_self hs hf) pss_self) (he σ H Hr s _ fun t v H1 Hr1 p1 e1 s1 h1 => h t p1 _ H1 Hr1 (s1.put i hl h1))
theorem wg_setF (i : Nat) (hN : X.N.Nodup) (he : FG b X G e P) (h : ∀ ts, P ts → WG b X (G.set i (.mu ts)) rest D) (hl : i < G.length := by exact of_decide_eq_true rfl) (hi : X.N[i]? = some x := by rfl) (hx : Loc X.env.scope x := by first | exact .inl rfl | exact .inr rfl)
    (hs : swapsWith e (some (.Name x p')) pos.line X.env = pure false := by rfl) (hf : X.fn x = true ∨ X.env.scope.names.lookup x = some .local := by first | exact .inl rfl | exact .inr rfl) : WG b X G (.Assign [.Name x p'] e pos :: rest) D := fun σ H Hr s =>
  wb_of (pss_cons (ps_set hN hi hx pe_self hs hf) pss_self) (he σ H Hr s _ fun ts q vs H1 Hr1 p1 e1 s1 h0 h1 h2 h3 h4 h5 => h ts p1 _ H1 Hr1 (s1.putM i hl h1 h2 h3 h4 fun k us _ hk => h5 k us hk))
/-- x, y = a, c -/
theorem wg_par (i j : Nat) {px py2 pt pt2 : Pos} {kt k2 : Nat} (hij : i ≠ j) (hc1 : X.calm = true) (hN : X.N.Nodup) (ha : EG b X G a Pa) (hc : EG b X G c Pb) (h : ∀ t u, Pa t → Pb u → WG b X ((G.set i (.sh t)).set j (.sh u)) rest D) (hl : i < G.length := by exact of_decide_eq_true rfl) (hlj : j < G.length := by exact of_decide_eq_true rfl)
    (hi : X.N[i]? = some x := by rfl) (hj : X.N[j]? = some y := by rfl) (hx : X.env.scope.names.lookup x = some .local := by rfl) (hy : X.env.scope.names.lookup y = some .local := by rfl)
    (hw : swappedStores [.Tuple [.Name x px, .Name y py2] kt pt] (.Tuple [a, c] k2 pt2) X.env = pure (some [x, y]) := by rfl)
    (hs : swapsWithSole [.Tuple [.Name x px, .Name y py2] kt pt] (.Tuple [a, c] k2 pt2) pos.line X.env = pure false := by rfl)
    (he : starEach [a, c] X.env = (false, eval a X.env) :: starEach [c] X.env := by rfl) (he2 : starEach [c] X.env = (false, eval c X.env) :: starEach [] X.env := by rfl) : WG b X G (.Assign [.Tuple [.Name x px, .Name y py2] kt pt] (.Tuple [a, c] k2 pt2) pos :: rest) D := fun σ H Hr s =>
  wb_of (pss_cons (ps_par hc1 hN hi hj hij hx hy (pa_cons pe_self (pa_cons pe_self pa_nil he2) he) hw hs) pss_self) (we_two ha hc s fun ta tb v w H2 Hr2 p1 p2 e2 s2 h1 h2 =>
    ⟨v, w, rfl, h ta tb p1 p2 _ H2 Hr2 ((s2.put i hl h1).put j (by rw [List.length_set]; exact hlj) h2)⟩)
/-- the second a list of one's own -/
theorem wg_parF (i j : Nat) {px py2 pt pt2 : Pos} {kt k2 : Nat} (hij : i ≠ j) (hc1 : X.calm = true) (hN : X.N.Nodup) (ha : EG b X G a Pa) (hc : FG b X G c P) (h : ∀ t us, Pa t → P us → WG b X ((G.set i (.sh t)).set j (.mu us)) rest D) (hl : i < G.length := by exact of_decide_eq_true rfl) (hlj : j < G.length := by exact of_decide_eq_true rfl)
    (hi : X.N[i]? = some x := by rfl) (hj : X.N[j]? = some y := by rfl) (hx : X.env.scope.names.lookup x = some .local := by rfl) (hy : X.env.scope.names.lookup y = some .local := by rfl)
    (hw : swappedStores [.Tuple [.Name x px, .Name y py2] kt pt] (.Tuple [a, c] k2 pt2) X.env = pure (some [x, y]) := by rfl)
    (hs : swapsWithSole [.Tuple [.Name x px, .Name y py2] kt pt] (.Tuple [a, c] k2 pt2) pos.line X.env = pure false := by rfl)
    (he : starEach [a, c] X.env = (false, eval a X.env) :: starEach [c] X.env := by rfl) (he2 : starEach [c] X.env = (false, eval c X.env) :: starEach [] X.env := by rfl) : WG b X G (.Assign [.Tuple [.Name x px, .Name y py2] kt pt] (.Tuple [a, c] k2 pt2) pos :: rest) D := fun σ H Hr s =>
  wb_of (pss_cons (ps_par hc1 hN hi hj hij hx hy (pa_cons pe_self (pa_cons pe_self pa_nil he2) he) hw hs) pss_self) (ha σ H Hr s _ fun t v H1 Hr1 p1 e1 s1 h1 => hc σ H1 Hr1 s1 _ fun us q ws H2 Hr2 p2 e2 s2 g0 g1 g2 g3 g4 g5 =>
    ⟨v, .ref q, rfl, h t us p1 p2 _ H2 Hr2 ((s2.put i hl (holds_mono e2.r h1)).putM j (by rw [List.length_set]; exact hlj) g1 g2 g3 g4 fun k vs hkj hk => by
      by_cases z : k = i
      · subst z; rw [List.getElem?_set_self hl] at hk; cases hk
      · rw [List.getElem?_set_ne (Ne.symm z)] at hk ⊢
        exact g5 k vs hk)⟩)
/-- x, y = e, a tuple of two -/
theorem wg_unp (i j : Nat) {px py2 pt : Pos} {kt : Nat} (hij : i ≠ j) (hc1 : X.calm = true) (hK : b.c.K = X.K) (hN : X.N.Nodup) (he : EG b X G e Pa) (h : ∀ t, Pa t → ∃ u v, t = .tup [u, v] ∧ WG b X ((G.set i (.sh u)).set j (.sh v)) rest D) (hl : i < G.length := by exact of_decide_eq_true rfl) (hlj : j < G.length := by exact of_decide_eq_true rfl)
    (hi : X.N[i]? = some x := by rfl) (hj : X.N[j]? = some y := by rfl) (hx : Loc X.env.scope x := by first | exact .inl rfl | exact .inr rfl) (hy : Loc X.env.scope y := by first | exact .inl rfl | exact .inr rfl)
    (hfx : X.fn x = true ∨ X.env.scope.names.lookup x = some .local := by first | exact .inl rfl | exact .inr rfl) (hfy : X.fn y = true ∨ X.env.scope.names.lookup y = some .local := by first | exact .inl rfl | exact .inr rfl)
    (hs1 : (assignEach [.Name x px, .Name y py2] X.env).map (·.2) = assign (.Name x px) X.env :: (assignEach [.Name y py2] X.env).map (·.2) := by rfl) (hs2 : (assignEach [.Name y py2] X.env).map (·.2) = assign (.Name y py2) X.env :: (assignEach [] X.env).map (·.2) := by rfl)
    (hn : (assignEach [.Name x px, .Name y py2] X.env).length = 2 := by rfl) (hst : (assignEach [.Name x px, .Name y py2] X.env).findIdx? (·.1) = none := by rfl)
    (hs : swapsWithSole [.Tuple [.Name x px, .Name y py2] kt pt] e pos.line X.env = pure false := by rfl) (hw : swappedStores [.Tuple [.Name x px, .Name y py2] kt pt] e X.env = pure none := by rfl)
    (h1 : (assignEach [.Tuple [.Name x px, .Name y py2] kt pt] X.env).map (·.2) = [assign (.Tuple [.Name x px, .Name y py2] kt pt) X.env] := by rfl) : WG b X G (.Assign [.Tuple [.Name x px, .Name y py2] kt pt] e pos :: rest) D := fun σ H Hr s =>
  wb_of (pss_cons (ps_asg pe_self (pg_tup hc1 (pgs_cons (pg_name hN hi hx hfx) (pgs_cons (pg_name hN hj hy hfy) pgs_nil hs2) hs1) hn hst) hs hw h1) pss_self) (he σ H Hr s _ fun t w H1 Hr1 p1 e1 s1 g1 => by
    obtain ⟨u, v, rfl, hW⟩ := h t p1
    obtain ⟨l, vs, rfl, k1, k2⟩ := holds_tup.mp g1
    obtain ⟨v1, r1, rfl, hv1, k3⟩ := holdsL_cons.mp k2
    obtain ⟨v2, r2, rfl, hv2, k4⟩ := holdsL_cons.mp k3
    obtain rfl := holdsL_nil.mp k4
    exact ⟨l, _, rfl, hK ▸ same_tup s1.r2 k1, rfl, v1, [v2], rfl, v2, [], rfl, rfl, hW _ H1 Hr1 ((s1.put i hl hv1).put j (by rw [List.length_set]; exact hlj) hv2)⟩)
theorem wg_expr (he : EG b X G e Pa) (h : ∀ t, Pa t → WG b X G rest D) (hs : swapsWith e none pos.line X.env = pure false := by rfl) : WG b X G (.Expr e pos :: rest) D := fun σ H Hr s =>
  wb_of (pss_cons (ps_expr pe_self hs) pss_self) (he σ H Hr s _ fun t v H1 Hr1 p1 e1 s1 h1 => h t p1 _ H1 Hr1 s1)
variable {Pc : Bool → Prop}
theorem wg_if (hc : TG b X G c Pc) (ht : Pc true → WG b X G body { D with nx := WB X rest D }) (hf : Pc false → WG b X G els { D with nx := WB X rest D }) : WG b X G (.If c body els pos :: rest) D := fun σ H Hr s =>
  wb_of (pss_cons (ps_if pt_self pss_self pss_self) pss_self) (hc σ H Hr s _ fun d H1 Hr1 p1 e1 s1 => by
    cases d with
    | true => rw [if_pos rfl]; exact ht p1 σ H1 Hr1 s1
    | false => rw [if_neg Bool.false_ne_true]; exact hf p1 σ H1 Hr1 s1)
theorem wg_nil {R : L2.St → Hp → Prop} (h : ∀ σ H Hr, Sat b G σ H Hr → R σ H) (hR : D.nx = R := by rfl) : WG b X G [] D := fun σ H Hr s => wb_of pss_nil (by show D.nx σ H; rw [hR]; exact h σ H Hr s)
/-- an if without else whose test fails -/
theorem wg_ifF (hc : TG b X G c (· = false)) (h : WG b X G rest D) : WG b X G (.If c body [] pos :: rest) D := wg_if hc (fun z => by cases z) fun _ => wg_nil (R := WB X rest D) fun σ H Hr s => h σ H Hr s
theorem wg_ifT (hc : TG b X G c (· = true)) (h : WG b X G body { D with nx := WB X rest D }) : WG b X G (.If c body els pos :: rest) D := wg_if hc (fun _ => h) fun z => by cases z
/-- what a def hands back -/
def RetOk (b : Bs) (Phi : T → Prop) : VK := fun v H => ∃ t Hr, Phi t ∧ Sat0 b H Hr ∧ holds b.c t v Hr
theorem wg_ret (he : EG b X G e Pa) (h : ∀ t, Pa t → Phi t) (hD : ∀ v H, RetOk b Phi v H → D.rt v H) : WG b X G (.Return (some e) pos :: rest) D := fun σ H Hr s =>
  wb_of (pss_cons (ps_ret pe_self) pss_self) (he σ H Hr s _ fun t v H1 Hr1 p1 e1 s1 h1 => hD v H1 ⟨t, Hr1, h t p1, s1.toSat0, h1⟩)
/-- .. with the pot as it is then -/
def RetP (b : Bs) (Phi : T → Prop) : VK := fun v H => ∃ t Hr p, Phi t ∧ Sat0 b H Hr ∧ holds b.c t v Hr ∧ b.pot = some p ∧ PotAt H p
theorem wg_retP (i : Nat) (hG : G[i]? = some .pt) (he : EG b X G e Pa) (h : ∀ t, Pa t → Phi t) (hD : ∀ v H, RetP b Phi v H → D.rt v H) : WG b X G (.Return (some e) pos :: rest) D := fun σ H Hr s =>
  wb_of (pss_cons (ps_ret pe_self) pss_self) (he σ H Hr s _ fun t v H1 Hr1 p1 e1 s1 h1 => by
    obtain ⟨q, h2, _, h3⟩ := s1.slot i _ hG
    exact hD v H1 ⟨t, Hr1, q, h t p1, s1.toSat0, h1, h2, h3⟩)
/-! ### changes of one's own lists -/
theorem Sat.setM {σ : L2.St} {H Hr : Hp} (i : Nat) {ts us : List T} {l : Addr} {vs ws : List V} (s : Sat b G σ H Hr) (hG : G[i]? = some (.mu ts)) (h1 : σ[i]? = some (some (.ref l))) (h2 : b.B l = none) (h3 : Hr l = none) (h4 : H l = some (.lst vs)) (h5 : holdsL b.c us ws Hr) :
    Sat b (G.set i (.mu us)) σ (upd H l (.lst ws)) Hr := by
  have iG : i < G.length := (List.getElem?_eq_some_iff.mp hG).1
  have s0 : Sat b (G.set i .no) σ H Hr := by
    refine { s with ln := by rw [List.length_set]; exact s.ln, slot := fun j e hj => ?_, apart := fun j k q ts us n e1 e2 => ?_ }
    · by_cases z : j = i
      · subst z; rw [List.getElem?_set_self iG] at hj; cases hj; trivial
      · rw [List.getElem?_set_ne (Ne.symm z)] at hj; exact s.slot j e hj
    · by_cases z : j = i
      · subst z; rw [List.getElem?_set_self iG] at e1; cases e1
      · by_cases y : k = i
        · subst y; rw [List.getElem?_set_self iG] at e2; cases e2
        · rw [List.getElem?_set_ne (Ne.symm z)] at e1; rw [List.getElem?_set_ne (Ne.symm y)] at e2
          exact s.apart j k q ts us n e1 e2
  have s1 := s0.grow (o' := .lst ws) h2 h3 h4 fun j us hj hx => by
    by_cases z : j = i
    · subst z; rw [List.getElem?_set_self iG] at hj; cases hj
    · rw [List.getElem?_set_ne (Ne.symm z)] at hj
      exact s.apart i j l _ _ (Ne.symm z) hG hj h1 hx
  refine { s1 with ln := by rw [List.length_set]; exact s.ln, slot := fun j e hj => ?_, apart := fun j k q ts' us' n e1 e2 => ?_ }
  · by_cases z : j = i
    · subst z; rw [List.getElem?_set_self iG] at hj; cases hj
      exact ⟨l, ws, h1, h2, h3, upd_same, h5⟩
    · rw [List.getElem?_set_ne (Ne.symm z)] at hj
      exact s1.slot j e (by rw [List.getElem?_set_ne (Ne.symm z)]; exact hj)
  · by_cases z : j = i
    · subst z
      have y : k ≠ j := Ne.symm n
      rw [List.getElem?_set_ne (Ne.symm y)] at e2
      exact s.apart j k q _ _ n hG e2
    · rw [List.getElem?_set_ne (Ne.symm z)] at e1
      by_cases y : k = i
      · subst y; exact s.apart j k q _ _ n e1 hG
      · rw [List.getElem?_set_ne (Ne.symm y)] at e2
        exact s.apart j k q _ _ n e1 e2
/-- x.append(e) -/
theorem wg_app (i : Nat) {ts : List T} {apos : Pos} (hG : G[i]? = some (.mu ts)) (hz : ts.length < 1000) (he : EG b X G e Pa) (h : ∀ t, Pa t → WG b X (G.set i (.mu (ts ++ [t]))) rest D) (hN : X.N[i]? = some x := by rfl) (hv : Vis X.env.scope x := by first | exact Or.inl rfl | exact Or.inr (Or.inl rfl) | exact Or.inr (Or.inr rfl)) (hd : (x == ("__debug__" : Str)) = false := by decide) (hcd : (x == ("__classdict__" : Str)) = false := by decide)
    (hbase : attributeBase (.Name x p) "append" X.env (eval (.Name x p) X.env) = eval (.Name x p) X.env := by rfl)
    (hfew : ((backTo pos (starEach [e] X.env)).all (fun x => !x.1) && (backToKw pos (keywordEach [] X.env)).all (fun x => x.1.isSome) && decide ([e].length + ([] : List Keyword).length + (if ([] : List Keyword).isEmpty then 0 else 1) < 30)) = true := by rfl)
    (hline : (apos.endLine == pos.line) = true := by rfl) (hs : starEach [e] X.env = (false, eval e X.env) :: starEach [] X.env := by rfl) (hplain : (backTo pos (starEach [] X.env)).any (·.1) = false := by rfl)
    (hsw : swapsWith (.Call (.Attribute (.Name x p) "append" apos) [e] [] pos) none spos.line X.env = pure false := by rfl) : WG b X G (.Expr (.Call (.Attribute (.Name x p) "append" apos) [e] [] pos) spos :: rest) D := fun σ H Hr s => by
  obtain ⟨l, vs, h1, h2, h3, h4, h5⟩ := s.slot i _ hG
  refine wb_of (pss_cons (ps_expr (pe_bm PySem.F.plainAttrs_list PySem.F.slot_list_append PySem.F.type_list_append mt_append (pe_var hN hv hd hcd) (pa_cons pe_self pa_nil hs) hbase hfew hline hs hplain) hsw) pss_self) ⟨_, h1, .inl ⟨rfl, _, SqL.of h4⟩, he σ H Hr s _ fun t v H1 Hr1 p1 e1 s1 g1 => ?_⟩
  obtain ⟨l', vs', k1, k2, k3, k4, k5⟩ := s1.slot i _ hG
  rw [h1] at k1
  have z : l = l' := by injection k1 with z; injection z with z; injection z
  subst z
  exact ⟨l, vs', v, rfl, rfl, k4, by rw [holdsL_len k5]; exact Nat.lt_trans hz (by decide), h t p1 σ _ Hr1 (s1.setM i hG h1 k2 k3 k4 (holdsL_append k5 (holdsL_one g1)))⟩
/-- x.extend(e) -/
theorem wg_ext (i : Nat) {ts : List T} {apos : Pos} (hG : G[i]? = some (.mu ts)) (he : EG b X G e Pa) (h : ∀ t, Pa t → ∃ us, t = .lst us ∧ ts.length + us.length ≤ 1000 ∧ WG b X (G.set i (.mu (ts ++ us))) rest D) (hN : X.N[i]? = some x := by rfl) (hv : Vis X.env.scope x := by first | exact Or.inl rfl | exact Or.inr (Or.inl rfl) | exact Or.inr (Or.inr rfl)) (hd : (x == ("__debug__" : Str)) = false := by decide) (hcd : (x == ("__classdict__" : Str)) = false := by decide)
    (hbase : attributeBase (.Name x p) "extend" X.env (eval (.Name x p) X.env) = eval (.Name x p) X.env := by rfl)
    (hfew : ((backTo pos (starEach [e] X.env)).all (fun x => !x.1) && (backToKw pos (keywordEach [] X.env)).all (fun x => x.1.isSome) && decide ([e].length + ([] : List Keyword).length + (if ([] : List Keyword).isEmpty then 0 else 1) < 30)) = true := by rfl)
    (hline : (apos.endLine == pos.line) = true := by rfl) (hs : starEach [e] X.env = (false, eval e X.env) :: starEach [] X.env := by rfl) (hplain : (backTo pos (starEach [] X.env)).any (·.1) = false := by rfl)
    (hsw : swapsWith (.Call (.Attribute (.Name x p) "extend" apos) [e] [] pos) none spos.line X.env = pure false := by rfl) : WG b X G (.Expr (.Call (.Attribute (.Name x p) "extend" apos) [e] [] pos) spos :: rest) D := fun σ H Hr s => by
  obtain ⟨l, vs, h1, h2, h3, h4, h5⟩ := s.slot i _ hG
  refine wb_of (pss_cons (ps_expr (pe_bm PySem.F.plainAttrs_list PySem.F.slot_list_extend PySem.F.type_list_extend mt_extend (pe_var hN hv hd hcd) (pa_cons pe_self pa_nil hs) hbase hfew hline hs hplain) hsw) pss_self) ⟨_, h1, .inl ⟨rfl, _, SqL.of h4⟩, he σ H Hr s _ fun t v H1 Hr1 p1 e1 s1 g1 => ?_⟩
  obtain ⟨l', vs', k1, k2, k3, k4, k5⟩ := s1.slot i _ hG
  rw [h1] at k1
  have z : l = l' := by injection k1 with z; injection z with z; injection z
  subst z
  obtain ⟨us, rfl, hz, hW⟩ := h t p1
  obtain ⟨m, ws, rfl, hm, hw⟩ := holds_lst.mp g1
  exact ⟨l, m, vs', ws, rfl, rfl, k4, s1.r2 _ _ hm, by rw [holdsL_len k5, holdsL_len hw]; exact Nat.le_trans hz (by decide), hW σ _ Hr1 (s1.setM i hG h1 k2 k3 k4 (holdsL_append k5 hw))⟩
theorem holdsL_init {c : Cs} {H : Hp} : ∀ {ts : List T} {vs : List V}, holdsL c ts vs H → holdsL c ts.dropLast vs.dropLast H := fun {ts vs} h => by
  rw [List.dropLast_eq_take, List.dropLast_eq_take, holdsL_len h]
  exact holdsL_take _ h
/-- x.pop() -/
theorem wg_pop (i : Nat) {ts : List T} {apos : Pos} (hG : G[i]? = some (.mu ts)) (hz : ts ≠ []) (h : WG b X (G.set i (.mu ts.dropLast)) rest D) (hN : X.N[i]? = some x := by rfl) (hv : Vis X.env.scope x := by first | exact Or.inl rfl | exact Or.inr (Or.inl rfl) | exact Or.inr (Or.inr rfl)) (hd : (x == ("__debug__" : Str)) = false := by decide) (hcd : (x == ("__classdict__" : Str)) = false := by decide)
    (hbase : attributeBase (.Name x p) "pop" X.env (eval (.Name x p) X.env) = eval (.Name x p) X.env := by rfl) (hline : (apos.endLine == pos.line) = true := by rfl)
    (hsw : swapsWith (.Call (.Attribute (.Name x p) "pop" apos) [] [] pos) none spos.line X.env = pure false := by rfl) : WG b X G (.Expr (.Call (.Attribute (.Name x p) "pop" apos) [] [] pos) spos :: rest) D := fun σ H Hr s => by
  obtain ⟨l, vs, h1, h2, h3, h4, h5⟩ := s.slot i _ hG
  have hl := holdsL_len h5
  have hp : 0 < ts.length := List.length_pos_iff.mpr hz
  refine wb_of (pss_cons (ps_expr (pe_bm0 PySem.F.plainAttrs_list PySem.F.slot_list_pop PySem.F.type_list_pop mt_pop (pe_var hN hv hd hcd) hbase hline) hsw) pss_self) ⟨_, h1, .inl ⟨rfl, _, SqL.of h4⟩, l, vs, vs[vs.length - 1]'(by omega), rfl, rfl, h4, List.getElem?_eq_getElem _, ?_⟩
  exact h σ _ Hr (s.setM i hG h1 h2 h3 h4 (holdsL_init h5))
/-- x[e] = value -/
theorem wg_seti (i : Nat) {ts : List T} {value idx : Expr} {sp : Pos} (hG : G[i]? = some (.mu ts)) (he : EG b X G value Pa) (hi : EG b X G idx Pb) (h : ∀ t u, Pa t → Pb u → ∃ n j, u = .int n ∧ ixN ts.length n = some j ∧ WG b X (G.set i (.mu (ts.set j t))) rest D) (hN : X.N[i]? = some x := by rfl) (hv : Vis X.env.scope x := by first | exact Or.inl rfl | exact Or.inr (Or.inl rfl) | exact Or.inr (Or.inr rfl)) (hd : (x == ("__debug__" : Str)) = false := by decide) (hcd : (x == ("__classdict__" : Str)) = false := by decide)
    (ha : ∀ v, assign (.Subscript (.Name x p) idx sp) X.env v = (do
      let ov ← holding [v] (eval (.Name x p) X.env)
      let iv ← holding [v, ov] (eval idx X.env)
      standAt sp
      holding [v, ov, iv] (setItem ov iv v)
      release [v, ov, iv] []) := by intro _; rfl)
    (hs : swapsWithSole [.Subscript (.Name x p) idx sp] value pos.line X.env = pure false := by rfl) (hw : swappedStores [.Subscript (.Name x p) idx sp] value X.env = pure none := by rfl)
    (h1 : (assignEach [.Subscript (.Name x p) idx sp] X.env).map (·.2) = [assign (.Subscript (.Name x p) idx sp) X.env] := by rfl) : WG b X G (.Assign [.Subscript (.Name x p) idx sp] value pos :: rest) D := fun σ H Hr s =>
  wb_of (pss_cons (ps_asg pe_self (pg_sub (pe_var hN hv hd hcd) pe_self set_list ha) hs hw h1) pss_self) (he σ H Hr s _ fun t v H1 Hr1 p1 e1 s1 g1 => by
    obtain ⟨l, vs, k1, k2, k3, k4, k5⟩ := s1.slot i _ hG
    refine ⟨_, k1, hi σ H1 Hr1 s1 _ fun u w H2 Hr2 p2 e2 s2 g2 => ?_⟩
    obtain ⟨l', vs', m1, m2, m3, m4, m5⟩ := s2.slot i _ hG
    rw [k1] at m1
    have z : l = l' := by injection m1 with z; injection z with z; injection z
    subst z
    obtain ⟨n, j, rfl, hj, hW⟩ := h t u p1 p2
    exact ⟨l, vs', n, j, rfl, holds_is.mp g2, m4, by rw [holdsL_len m5]; exact hj, hW σ _ Hr2 (s2.setM i hG k1 m2 m3 m4 (holdsL_set (holds_mono e2.r g1) m5))⟩)
end
end My

set_option Elab.async false
set_option linter.all false
set_option maxRecDepth 100000
set_option maxHeartbeats 4000000
/-! Ly8: loops, the fields of __init__, the rules of a def. -/
namespace My
open PySem L2 PyProof.Rows
/-- what a def hands back over the base read further is the same over the base -/
structure Dn (b b' : Bs) : Prop where
  r : ∀ Phi v H, RetOk b' Phi v H → RetOk b Phi v H
  p : ∀ Phi v H, RetP b' Phi v H → RetP b Phi v H
theorem Sat.dn {b : Bs} {G1 : List En} {σ1 : L2.St} {H1 Hr1 : Hp} (s1 : Sat b G1 σ1 H1 Hr1) : Dn b { b with R := Hr1 } :=
  ⟨fun Phi v H ⟨t, Hr, h1, h2, h3⟩ => ⟨t, Hr, h1, Sat0.down s1 h2, h3⟩, fun Phi v H ⟨t, Hr, p, h1, h2, h3, h4, h5⟩ => ⟨t, Hr, p, h1, Sat0.down s1 h2, h3, h4, h5⟩⟩
section
variable {b : Bs} {X : Cx} {G : List En} {a e o c elt iter : Expr} {es : List Expr} {pos spos p p' p2 py tpos : Pos} {Phi Pa Pb Pt : T → Prop} {A1 P : List T → Prop} {x y z : Str} {i j k : Nat} {rest body els : List Stmt} {D : Ends}
/-- the body's ends in a loop -/
abbrev lpE (b : Bs) (X : Cx) (rest : List Stmt) (D : Ends) (J : List En → Prop) : Ends :=
  { nx := fun σ H => ∃ G', J G' ∧ SatE b G' σ H, rt := D.rt, bk := WB X rest D, ct := fun σ H => ∃ G', J G' ∧ SatE b G' σ H }
theorem for_go {tg : Expr} {g : L2.TG} {I : List T → Nat → List En → Prop} (hx : X.xe = fun _ _ => False) (hc : X.calm = true) (hi : IG b X G tg iter P) (hg : PG X tg g) (h0 : ∀ items, P items → I items 0 G)
    (hs : ∀ items, P items → ∀ R' k t G' σ H Hr v, Dn b { b with R := R' } → items[k]? = some t → I items k G' → Sat { b with R := R' } G' σ H Hr → holds b.c t v Hr → g v σ H fun σ2 H2 => WB X body (lpE { b with R := R' } X rest D (I items (k + 1))) σ2 H2)
    (hd : ∀ items G', P items → I items items.length G' → WG b X G' rest D)
    (hf : ∀ x, foldedSetIterable iter X.env x = pure x := by intro _; rfl) : WG b X G (.For tg iter body [] pos :: rest) D := by
  obtain ⟨wi, hpi, hwi⟩ := hi
  refine fun σ H Hr s => wb_of (pss_cons (ps_for (by rw [hx]; exact PassesOwn.never) hc hpi hg pss_self hf) pss_self) (hwi σ H Hr s _ fun J items H1 Hr1 hP e1 s1 hw => ?_)
  obtain ⟨w1, w2, w3⟩ := hw
  refine ⟨fun i m σ' H' => m = items.length - i ∧ i ≤ items.length ∧ ∃ G' Hr', I items i G' ∧ Sat { b with R := Hr1 } G' σ' H' Hr', ⟨_, rfl, Nat.zero_le _, G, Hr1, h0 items hP, Sat.up s1 s1 (Same.refl _)⟩, ?_⟩
  rintro i m σ' H' ⟨rfl, hi', G', Hr', hI, s2⟩
  by_cases hlt : i < items.length
  · refine .inr ⟨w1 i H' Hr' s2.r1 s2.r2 hlt, fun σ3 H3 => ∃ G', I items (i + 1) G' ∧ SatE { b with R := Hr1 } G' σ3 H3, fun σ3 H3 ⟨G3, g1, Hr3, g2⟩ => ⟨items.length - (i + 1), by omega, rfl, hlt, G3, Hr3, g1, g2⟩, fun x H3 hy => ?_⟩
    obtain ⟨Hr3, t, ht, st3, hx'⟩ := w2 i H' Hr' x H3 s2.r1 s2.r2 hlt hy
    exact hs items hP Hr1 i t G' σ' H3 Hr3 x s1.dn ht hI (s2.stp st3) hx'
  · have hi2 : i = items.length := by omega
    subst hi2
    exact .inl ⟨w3 H' Hr' s2.r1 s2.r2, hd items G' hP hI σ' H' Hr' (Sat.down s1 s2)⟩
/-- for x in iter -/
theorem wg_for (i : Nat) (I : List T → Nat → List En → Prop) (hx : X.xe = fun _ _ => False) (hc : X.calm = true) (hN : X.N.Nodup) (hi : IG b X G (.Name x p) iter P) (h0 : ∀ items, P items → I items 0 G) (hl : ∀ items k G', I items k G' → i < G'.length)
    (hs : ∀ items, P items → ∀ R' k t G', Dn b { b with R := R' } → items[k]? = some t → I items k G' → WG { b with R := R' } X (G'.set i (.sh t)) body (lpE { b with R := R' } X rest D (I items (k + 1))))
    (hd : ∀ items G', P items → I items items.length G' → WG b X G' rest D)
    (hix : X.N[i]? = some x := by rfl) (hxl : Loc X.env.scope x := by first | exact .inl rfl | exact .inr rfl) (hf : X.fn x = true ∨ X.env.scope.names.lookup x = some .local := by first | exact .inl rfl | exact .inr rfl)
    (hfs : ∀ x, foldedSetIterable iter X.env x = pure x := by intro _; rfl) : WG b X G (.For (.Name x p) iter body [] pos :: rest) D :=
  for_go (I := I) hx hc hi (pg_name hN hix hxl hf) h0 (fun items hP R' k t G' σ H Hr v dn ht hI s hv => hs items hP R' k t G' dn ht hI _ H Hr (s.put i (hl items k G' hI) hv)) hd hfs
/-- for x, y in iter -/
theorem wg_for2 (i j : Nat) (I : List T → Nat → List En → Prop) {kk : Nat} (hij : i ≠ j) (hK : b.c.K = X.K) (hx : X.xe = fun _ _ => False) (hc : X.calm = true) (hN : X.N.Nodup) (hi : IG b X G (.Tuple [.Name x p, .Name y p2] kk tpos) iter P) (h0 : ∀ items, P items → I items 0 G) (hl : ∀ items k G', I items k G' → i < G'.length ∧ j < G'.length)
    (hs : ∀ items, P items → ∀ R' k t G', Dn b { b with R := R' } → items[k]? = some t → I items k G' → ∃ u v, t = .tup [u, v] ∧ WG { b with R := R' } X ((G'.set i (.sh u)).set j (.sh v)) body (lpE { b with R := R' } X rest D (I items (k + 1))))
    (hd : ∀ items G', P items → I items items.length G' → WG b X G' rest D)
    (hix : X.N[i]? = some x := by rfl) (hxl : Loc X.env.scope x := by first | exact .inl rfl | exact .inr rfl) (hf : X.fn x = true ∨ X.env.scope.names.lookup x = some .local := by first | exact .inl rfl | exact .inr rfl)
    (hjx : X.N[j]? = some y := by rfl) (hyl : Loc X.env.scope y := by first | exact .inl rfl | exact .inr rfl) (hf2 : X.fn y = true ∨ X.env.scope.names.lookup y = some .local := by first | exact .inl rfl | exact .inr rfl)
    (hs1 : (assignEach [.Name x p, .Name y p2] X.env).map (·.2) = assign (.Name x p) X.env :: (assignEach [.Name y p2] X.env).map (·.2) := by rfl) (hs2 : (assignEach [.Name y p2] X.env).map (·.2) = assign (.Name y p2) X.env :: (assignEach [] X.env).map (·.2) := by rfl)
    (hn : (assignEach [.Name x p, .Name y p2] X.env).length = 2 := by rfl) (hst : (assignEach [.Name x p, .Name y p2] X.env).findIdx? (·.1) = none := by rfl)
    (hfs : ∀ x, foldedSetIterable iter X.env x = pure x := by intro _; rfl) : WG b X G (.For (.Tuple [.Name x p, .Name y p2] kk tpos) iter body [] pos :: rest) D :=
  for_go (I := I) hx hc hi (pg_tup hc (pgs_cons (pg_name hN hix hxl hf) (pgs_cons (pg_name hN hjx hyl hf2) pgs_nil hs2) hs1) hn hst) h0 (fun items hP R' k t G' σ H Hr v dn ht hI s hv => by
    obtain ⟨u, w, rfl, hW⟩ := hs items hP R' k t G' dn ht hI
    obtain ⟨l, vs, rfl, k1, k2⟩ := holds_tup.mp hv
    obtain ⟨v1, r1, rfl, hv1, k3⟩ := holdsL_cons.mp k2
    obtain ⟨v2, r2, rfl, hv2, k4⟩ := holdsL_cons.mp k3
    obtain rfl := holdsL_nil.mp k4
    exact ⟨l, _, rfl, hK ▸ same_tup s.r2 k1, rfl, v1, [v2], rfl, v2, [], rfl, rfl, hW _ H Hr ((s.put i (hl items k G' hI).1 hv1).put j (by rw [List.length_set]; exact (hl items k G' hI).2) hv2)⟩) hd hfs
/-- while -/
theorem wg_while (I : Nat → List En → Prop) (hx : X.xe = fun _ _ => False) (h0 : ∃ m, I m G)
    (hs : ∀ m G', I m G' → ∃ Pc : Bool → Prop, My.TG b X G' c Pc ∧ (Pc true → WG b X G' body (lpE b X rest D fun G2 => ∃ m2, m2 < m ∧ I m2 G2)) ∧ (Pc false → WG b X G' rest D)) : WG b X G (.While c body [] pos :: rest) D := by
  refine fun σ H Hr s => wb_of (pss_cons (ps_while (by rw [hx]; exact PassesOwn.never) pt_self pss_self) pss_self) ?_
  obtain ⟨m0, hm⟩ := h0
  refine ⟨fun m σ' H' => ∃ G' Hr', I m G' ∧ Sat b G' σ' H' Hr', ⟨m0, G, Hr, hm, s⟩, ?_⟩
  rintro m σ' H' ⟨G', Hr', hI, s'⟩
  obtain ⟨Pc, ht, h1, h2⟩ := hs m G' hI
  refine ht σ' H' Hr' s' _ fun d H2 Hr2 pd e2 s2 => ?_
  cases d with
  | true =>
    rw [if_pos rfl]
    refine ⟨fun σ3 H3 => ∃ G2, (∃ m2, m2 < m ∧ I m2 G2) ∧ SatE b G2 σ3 H3, fun σ3 H3 ⟨G2, ⟨m2, hm2, hI2⟩, Hr3, s3⟩ => ⟨m2, hm2, G2, Hr3, hI2, s3⟩, ?_⟩
    exact h1 pd σ' H2 Hr2 s2
  | false =>
    rw [if_neg Bool.false_ne_true]
    exact h2 pd σ' H2 Hr2 s2
/-- the end of a loop's turn -/
theorem wg_end {J : List En → Prop} (h : J G) : WG b X G [] (lpE b X rest D J) := wg_nil (R := fun σ H => ∃ G', J G' ∧ SatE b G' σ H) fun σ H Hr s => ⟨G, h, Hr, s⟩
/-! ### the fields of an instance under way -/
theorem Sat.fldI {σ : L2.St} {H Hr : Hp} (i : Nat) {kn : Kn} {ts us : List T} {q dx : Addr} {vs ws : List V} (s : Sat b G σ H Hr) (hG : G[i]? = some (.bi kn ts)) (h1 : b.pot = some q) (h2 : σ[i]? = some (some (.ref q))) (h3 : H q = some (.ins (b.c.cl kn) dx (flds vs))) (h4 : holdsL b.c us ws Hr)
    (ho : ∀ (j : Nat) (e : En), j ≠ i → G[j]? = some e → (∃ t, e = .sh t) ∨ e = .no ∨ ∃ ts, e = .mu ts) : Sat b (G.set i (.bi kn us)) σ (upd H q (.ins (b.c.cl kn) dx (flds ws))) Hr where
  r1 := s.r1
  r2 := fun a u e => by
    have hq := s.keep q (s.ptw q h1).1 (s.ptw q h1).2
    have z : a ≠ q := fun z => by subst z; rw [hq] at e; cases e
    rw [upd_ne z]; exact s.r2 a u e
  old := fun a h => by
    by_cases z : a = q
    · subst z; rw [upd_same]; simp
    · rw [upd_ne z]; exact s.old a h
  keep := s.keep
  bx := fun a u k1 k2 => by
    have z : a ≠ q := fun z => k1 (by rw [z]; exact h1)
    rw [upd_ne z]; exact s.bx a u k1 k2
  ptw := s.ptw
  ln := by rw [List.length_set]; exact s.ln
  slot := fun j e hj => by
    have iG : i < G.length := (List.getElem?_eq_some_iff.mp hG).1
    by_cases z : j = i
    · subst z; rw [List.getElem?_set_self iG] at hj; cases hj
      exact ⟨q, dx, ws, h1, h2, upd_same, h4⟩
    · rw [List.getElem?_set_ne (Ne.symm z)] at hj
      have k := s.slot j e hj
      rcases ho j e z hj with ⟨t, rfl⟩ | rfl | ⟨ts', rfl⟩
      · exact k
      · trivial
      · obtain ⟨l, xs, k1, k2, k3, k4, k5⟩ := k
        have z2 : l ≠ q := fun z2 => by subst z2; exact (s.ptw l h1).2 k2
        exact ⟨l, xs, k1, k2, k3, by rw [upd_ne z2]; exact k4, k5⟩
  apart := fun j k pp ts' us' n e1 e2 hh => by
    have iG : i < G.length := (List.getElem?_eq_some_iff.mp hG).1
    by_cases z : j = i
    · subst z; rw [List.getElem?_set_self iG] at e1; cases e1
    · by_cases y : k = i
      · subst y; rw [List.getElem?_set_self iG] at e2; cases e2
      · rw [List.getElem?_set_ne (Ne.symm z)] at e1; rw [List.getElem?_set_ne (Ne.symm y)] at e2
        exact s.apart j k pp ts' us' n e1 e2 hh
theorem put_top (v : V) : putF "own_top" v (flds []) = flds [v] := rfl
theorem put_bot (v u : V) : putF "own_bottom" u (flds [v]) = flds [v, u] := by
  show (if ("own_top" : Str) = "own_bottom" then [(("own_top" : Str), u)] else (("own_top" : Str), v) :: putF "own_bottom" u []) = fld v u
  rw [if_neg (show ¬ (("own_top" : Str) = "own_bottom") by decide +kernel)]
  rfl
/-- only such slots beside the instance's -/
def Plain (G : List En) (i : Nat) : Prop := ∀ (j : Nat) (e : En), j ≠ i → G[j]? = some e → (∃ t, e = .sh t) ∨ e = .no ∨ ∃ ts, e = .mu ts
/-- self.own_top = e -/
theorem wg_fldT (i : Nat) {kn : Kn} (hK : b.c.K = X.K) (C : ClO b.c kn) (hG : G[i]? = some (.bi kn [])) (hp : Plain G i) (he : EG b X G e Pa) (h : ∀ t, Pa t → WG b X (G.set i (.bi kn [t])) rest D) (hN : X.N[i]? = some x := by rfl) (hv : Vis X.env.scope x := by first | exact Or.inl rfl | exact Or.inr (Or.inl rfl) | exact Or.inr (Or.inr rfl)) (hd : (x == ("__debug__" : Str)) = false := by decide) (hcd : (x == ("__classdict__" : Str)) = false := by decide)
    (hs : swapsWith e (some (.Attribute (.Name x p) "own_top" p')) pos.line X.env = pure false := by rfl) : WG b X G (.Assign [.Attribute (.Name x p) "own_top" p'] e pos :: rest) D := fun σ H Hr s =>
  wb_of (pss_cons (ps_fld (pe_var hN hv hd hcd) pe_self hs) pss_self) (he σ H Hr s _ fun t v H1 Hr1 p1 e1 s1 g1 => by
    obtain ⟨q, dx, vs, k1, k2, k3, k4⟩ := s1.slot i _ hG
    obtain rfl := holdsL_nil.mp k4
    refine ⟨_, k2, q, _, dx, _, rfl, k3, hK ▸ C.cls, hK ▸ C.nt, by show 0 < 1000; decide, ?_⟩
    rw [put_top]
    exact h t p1 σ _ Hr1 (s1.fldI i hG k1 k2 k3 (holdsL_one g1) hp))
/-- self.own_bottom = e -/
theorem wg_fldB (i : Nat) {kn : Kn} {t0 : T} (hK : b.c.K = X.K) (C : ClO b.c kn) (hG : G[i]? = some (.bi kn [t0])) (hp : Plain G i) (he : EG b X G e Pa) (h : ∀ t, Pa t → WG b X (G.set i (.bi kn [t0, t])) rest D) (hN : X.N[i]? = some x := by rfl) (hv : Vis X.env.scope x := by first | exact Or.inl rfl | exact Or.inr (Or.inl rfl) | exact Or.inr (Or.inr rfl)) (hd : (x == ("__debug__" : Str)) = false := by decide) (hcd : (x == ("__classdict__" : Str)) = false := by decide)
    (hs : swapsWith e (some (.Attribute (.Name x p) "own_bottom" p')) pos.line X.env = pure false := by rfl) : WG b X G (.Assign [.Attribute (.Name x p) "own_bottom" p'] e pos :: rest) D := fun σ H Hr s =>
  wb_of (pss_cons (ps_fld (pe_var hN hv hd hcd) pe_self hs) pss_self) (he σ H Hr s _ fun t v H1 Hr1 p1 e1 s1 g1 => by
    obtain ⟨q, dx, vs, k1, k2, k3, k4⟩ := s1.slot i _ hG
    obtain ⟨v0, r, rfl, k5, k6⟩ := holdsL_cons.mp k4
    obtain rfl := holdsL_nil.mp k6
    refine ⟨_, k2, q, _, dx, _, rfl, k3, hK ▸ C.cls, hK ▸ C.nb, by show 1 < 1000; decide, ?_⟩
    rw [put_bot]
    exact h t p1 σ _ Hr1 (s1.fldI i hG k1 k2 k3 (holdsL_cons.mpr ⟨v0, [v], rfl, k5, holdsL_one g1⟩) hp))
/-- o.f = .. as a target -/
theorem pg_fld {f : Str} {ta : TE} (ho : PE X o ta) : PG X (.Attribute o f p) (fun v σ H Q => ta σ H fun x H1 => ∃ a C dx fs, x = .ref a ∧ H1 a = some (.ins C dx fs) ∧ Cls X.K C ∧ NoAttr X.K C f ∧ fs.length < 1000 ∧ Q σ (upd H1 a (.ins C dx (putF f v fs)))) := by
  refine ⟨fun pins s σ H v u Q I r h => ?_⟩
  rw [PySem.arm_assign_Attribute]
  refine wpAny_bind (wpAny_holding (thn (ho.run pins s σ H _ I h) fun ov s1 ⟨w, H1, I1, rw1, a, C, dx, fs, ex, ea, c1, n1, l1, q1⟩ => ?_))
  subst ex
  obtain rfl : ov = Value.ref a := rw1
  refine wpAny_bind (wpAny_standAt (wpAny_bind (wpAny_holding (setattr_ok I1 ea c1 n1 l1 r fun s2 I2 => ?_))))
  exact wpAny_release ⟨σ, _, I2, q1⟩
/-- self.own_top, self.own_bottom = e -/
theorem wg_fld2 (i : Nat) {kn : Kn} {pt px p3 p4 : Pos} {kt : Nat} (hc1 : X.calm = true) (hK : b.c.K = X.K) (C : ClO b.c kn) (hG : G[i]? = some (.bi kn [])) (hp : Plain G i) (he : EG b X G e Pa) (h : ∀ t, Pa t → ∃ u v, t = .tup [u, v] ∧ WG b X (G.set i (.bi kn [u, v])) rest D)
    (hN : X.N[i]? = some x := by rfl) (hv : Vis X.env.scope x := by first | exact Or.inl rfl | exact Or.inr (Or.inl rfl) | exact Or.inr (Or.inr rfl)) (hd : (x == ("__debug__" : Str)) = false := by decide) (hcd : (x == ("__classdict__" : Str)) = false := by decide)
    (hs1 : (assignEach [.Attribute (.Name x p) "own_top" px, .Attribute (.Name x p2) "own_bottom" p3] X.env).map (·.2) = assign (.Attribute (.Name x p) "own_top" px) X.env :: (assignEach [.Attribute (.Name x p2) "own_bottom" p3] X.env).map (·.2) := by rfl)
    (hs2 : (assignEach [.Attribute (.Name x p2) "own_bottom" p3] X.env).map (·.2) = assign (.Attribute (.Name x p2) "own_bottom" p3) X.env :: (assignEach [] X.env).map (·.2) := by rfl)
    (hn : (assignEach [.Attribute (.Name x p) "own_top" px, .Attribute (.Name x p2) "own_bottom" p3] X.env).length = 2 := by rfl) (hst : (assignEach [.Attribute (.Name x p) "own_top" px, .Attribute (.Name x p2) "own_bottom" p3] X.env).findIdx? (·.1) = none := by rfl)
    (hs : swapsWithSole [.Tuple [.Attribute (.Name x p) "own_top" px, .Attribute (.Name x p2) "own_bottom" p3] kt pt] e pos.line X.env = pure false := by rfl) (hw : swappedStores [.Tuple [.Attribute (.Name x p) "own_top" px, .Attribute (.Name x p2) "own_bottom" p3] kt pt] e X.env = pure none := by rfl)
    (h1 : (assignEach [.Tuple [.Attribute (.Name x p) "own_top" px, .Attribute (.Name x p2) "own_bottom" p3] kt pt] X.env).map (·.2) = [assign (.Tuple [.Attribute (.Name x p) "own_top" px, .Attribute (.Name x p2) "own_bottom" p3] kt pt) X.env] := by rfl) :
    WG b X G (.Assign [.Tuple [.Attribute (.Name x p) "own_top" px, .Attribute (.Name x p2) "own_bottom" p3] kt pt] e pos :: rest) D := fun σ H Hr s =>
  wb_of (pss_cons (ps_asg pe_self (pg_tup hc1 (pgs_cons (pg_fld (pe_var hN hv hd hcd)) (pgs_cons (pg_fld (pe_var hN hv hd hcd)) pgs_nil hs2) hs1) hn hst) hs hw h1) pss_self) (he σ H Hr s _ fun t w H1 Hr1 p1 e1 s1 g1 => by
    obtain ⟨u, v, rfl, hW⟩ := h t p1
    obtain ⟨l, vs, rfl, k1, k2⟩ := holds_tup.mp g1
    obtain ⟨v1, r1, rfl, hv1, k3⟩ := holdsL_cons.mp k2
    obtain ⟨v2, r2, rfl, hv2, k4⟩ := holdsL_cons.mp k3
    obtain rfl := holdsL_nil.mp k4
    obtain ⟨q, dx, ws, m1, m2, m3, m4⟩ := s1.slot i _ hG
    obtain rfl := holdsL_nil.mp m4
    refine ⟨l, _, rfl, hK ▸ same_tup s1.r2 k1, rfl, v1, [v2], rfl, _, m2, q, _, dx, _, rfl, m3, hK ▸ C.cls, hK ▸ C.nt, by show 0 < 1000; decide, ?_⟩
    rw [put_top]
    refine ⟨v2, [], rfl, _, m2, q, _, dx, _, rfl, upd_same, hK ▸ C.cls, hK ▸ C.nb, by show 1 < 1000; decide, rfl, ?_⟩
    rw [put_bot, upd_upd]
    exact hW σ _ Hr1 (s1.fldI i hG m1 m2 m3 k2 hp))
end
end My

set_option Elab.async false
set_option linter.all false
set_option maxRecDepth 100000
set_option maxHeartbeats 4000000
/-! Ly9: the rules of a def; texts. -/
namespace My
open PySem L2 PyProof.Rows
theorem wb_mono {X : Cx} {st : List Stmt} {D D' : Ends} {σ : L2.St} {H : Hp} (h : WB X st D σ H) (h1 : ∀ σ H, D.nx σ H → D'.nx σ H) (h2 : ∀ v H, D.rt v H → D'.rt v H) (h3 : ∀ σ H, D.bk σ H → D'.bk σ H) (h4 : ∀ σ H, D.ct σ H → D'.ct σ H) : WB X st D' σ H := fun pins s I =>
  thn (h pins s I) fun f s' q => by
    cases f with
    | next => obtain ⟨σ', H', I', q⟩ := q; exact ⟨σ', H', I', h1 _ _ q⟩
    | brk => obtain ⟨σ', H', I', q⟩ := q; exact ⟨σ', H', I', h3 _ _ q⟩
    | cont => obtain ⟨σ', H', I', q⟩ := q; exact ⟨σ', H', I', h4 _ _ q⟩
    | ret u => obtain ⟨v, σ', H', I', r, q⟩ := q; exact ⟨v, σ', H', I', r, h2 _ _ q⟩
def startG (n : Nat) (ts : List T) : List En := ts.map En.sh ++ List.replicate (n - ts.length) En.no
abbrev fnE (b : Bs) (Phi : T → Prop) : Ends := { nx := fun _ H => RetOk b Phi .non H, rt := RetOk b Phi }
abbrev fnP (b : Bs) (Phi : T → Prop) : Ends := { nx := fun _ H => RetP b Phi .non H, rt := RetP b Phi }
theorem start_get (N : List Str) (vs : List V) (i : Nat) : (start N vs)[i]? = if i < vs.length then (vs[i]?).map some else (if i < N.length then some none else none) := by
  unfold L2.start
  by_cases h : i < vs.length
  · rw [if_pos h, List.getElem?_append_left (by simpa using h), List.getElem?_map]
  · rw [if_neg h, List.getElem?_append_right (by simpa using h), List.getElem?_replicate, List.length_map]
    by_cases h2 : i < N.length
    · rw [if_pos h2, if_pos (by omega)]
    · rw [if_neg h2, if_neg (by omega)]
theorem startG_get (n : Nat) (ts : List T) (i : Nat) (e : En) (h : (startG n ts)[i]? = some e) : (∃ t, ts[i]? = some t ∧ e = .sh t) ∨ (ts.length ≤ i ∧ e = .no) := by
  unfold startG at h
  by_cases hi : i < ts.length
  · rw [List.getElem?_append_left (by simpa using hi), List.getElem?_map, List.getElem?_eq_getElem hi] at h
    cases h
    exact .inl ⟨_, List.getElem?_eq_getElem hi, rfl⟩
  · rw [List.getElem?_append_right (by simpa using hi), List.getElem?_replicate] at h
    split at h
    · cases h; exact .inr ⟨by omega, rfl⟩
    · cases h
theorem start_sat {c : Cs} {N : List Str} {ts : List T} {vs : List V} {H Hr : Hp} (r2 : Same Hr H) (hv : holdsL c ts vs Hr) (hn : ts.length ≤ N.length) : Sat ⟨c, H, Hr, none⟩ (startG N.length ts) (start N vs) H Hr where
  r1 := Same.refl _
  r2 := r2
  old := fun _ h => h
  keep := fun _ h _ => h
  bx := fun _ _ _ h => h
  ptw := fun p h => nomatch h
  ln := by
    have := holdsL_len hv
    unfold startG L2.start
    simp only [List.length_append, List.length_map, List.length_replicate, this]
  slot := fun i e h => by
    have hl := holdsL_len hv
    rcases startG_get _ _ _ _ h with ⟨t, h1, rfl⟩ | ⟨h1, rfl⟩
    · obtain ⟨v, k1, k2⟩ := holdsL_get hv h1
      have hi : i < vs.length := by rw [hl]; exact (List.getElem?_eq_some_iff.mp h1).1
      exact ⟨v, by rw [start_get, if_pos hi, k1]; rfl, k2⟩
    · trivial
  apart := fun i j p ts1 us n h1 _ _ => by
    rcases startG_get _ _ _ _ h1 with ⟨t, _, h2⟩ | ⟨_, h2⟩ <;> cases h2
abbrev cxB (P : Program) (w : World) (K : PySem.W.Frag) (mg : Str → Option Value) (base : Heap) (N : List Str) (qual : Str) (sc : Scope) (f : Addr) (cdv : Value) (A : Around) (outer : List Env) (s : Shared) (H : Hp) (E : XK) : Cx := (cxOf CX0 P w K mg base N qual sc f cdv A outer s H E).nox
section
variable {P : Program} {w : World} {K : PySem.W.Frag} {mg : Str → Option Value} {base : Heap} {c : Cs}
/-- division of any size is there in a def's body -/
theorem pyr_cx {N ps : List Str} {qual : Str} {sc : Scope} {f : Addr} {cdv : Value} {A : Around} {outer : List Env} {s : Shared} {H : Hp} {E : XK} {k : Nat} (S : FnScope N ps sc) (hs : base.NoSeer) (ht : P.given.tree = none) (hr : Room k (A.deeper (envOfC qual sc s.heap.objs.size f cdv))) (hk : 35 ≤ k) :
    PyR (cxB P w K mg base N qual sc f cdv A outer s H E) where
  st := ⟨_, _, rfl, S.gen, S.co, rfl, rfl⟩
  ns := hs
  tr := ht
  dp := by
    have h1 := hr.dp
    show (A.deeper _).depth + 100 < recursionLimit
    omega
theorem PyR.blk {X : Cx} (h : PyR X) (scope : Scope) (s : Shared) (H : Hp) (C : Addr) (cl : List (Str × Addr)) (fp : List Addr) : PyR (blkOf X scope s H C cl fp) := ⟨h.st, h.ns, h.tr, h.dp⟩
/-- THE RULE of a def that changes nothing -/
theorem fun_pure {x qual : Str} {st : Stmt} {f : Addr} {fd : FuncData} {N ps : List Str} {k : Nat} {pre : List T → Prop} {R : List T → T → Prop} (F : Fun K x qual st f fd) (S : FnScope N ps (defScope st)) (hlen : ∀ ts, pre ts → ts.length = ps.length) (hn : ps.length ≤ N.length)
    (hb : ∀ (cdv : Value) (A : Around) (outer : List Env) (s : Shared) (H : Hp) (E : XK) (B Hr : Hp) (ts : List T), Room k (A.deeper (envOfC qual (defScope st) s.heap.objs.size f cdv)) → pre ts →
      WG ⟨c, B, Hr, none⟩ (cxB P w K mg base N qual (defScope st) f cdv A outer s H E) (startG N.length ts) (defBody st) (fnE ⟨c, B, Hr, none⟩ (R ts))) : FnOk P w K mg base CX0 (k + 1) f fd ps (spOf c pre R) := by
  refine F.ok S (fun vs H Q E h => ?_) (fun cdv A outer s H vs Q E hr h => ⟨_, pss_self, ?_⟩)
  · obtain ⟨Hr, ts, r2, hv, hp, _⟩ := h
    rw [holdsL_len hv, hlen ts hp]
  · obtain ⟨Hr, ts, r2, hv, hp, q⟩ := h
    have fin : ∀ v H', RetOk ⟨c, H, Hr, none⟩ (R ts) v H' → Q v H' := fun v H' ⟨t, Hr', h1, h2, h3⟩ =>
      q t v H' Hr' h1 ⟨fun a o e => h2.bx a o (fun z => nomatch z) e, h2.r1, h2.r2, fun a e1 e2 => h2.keep a e2 e1⟩ h3
    exact wb_mono (hb cdv A outer s H E H Hr ts hr hp _ H Hr (start_sat r2 hv (by rw [hlen ts hp]; exact hn))) (fun σ H' => fin .non H') fin (fun _ _ z => z) (fun _ _ z => z)
/-- .. with defaults -/
theorem fun_pureD {x qual : Str} {params : Arguments} {body : List Stmt} {sc : Scope} {dvs : List V} {kws : List (Str × V)} {f : Addr} {fd : FuncData} {N ps : List Str} {k : Nat} {pre : List T → Prop} {R : List T → T → Prop} (F : FunD K x qual params body sc dvs kws f fd) (S : FnScope N ps sc) (hlen : ∀ ts, pre ts → ts.length = ps.length) (hn : ps.length ≤ N.length)
    (hb : ∀ (cdv : Value) (A : Around) (outer : List Env) (s : Shared) (H : Hp) (E : XK) (B Hr : Hp) (ts : List T), Room k (A.deeper (envOfC qual sc s.heap.objs.size f cdv)) → pre ts →
      WG ⟨c, B, Hr, none⟩ (cxB P w K mg base N qual sc f cdv A outer s H E) (startG N.length ts) body (fnE ⟨c, B, Hr, none⟩ (R ts))) : FnOk P w K mg base CX0 (k + 1) f fd ps (spOf c pre R) := by
  refine F.ok S (fun vs H Q E h => ?_) (fun cdv A outer s H vs Q E hr h => ⟨_, PSs.nox pss_self, ?_⟩)
  · obtain ⟨Hr, ts, r2, hv, hp, _⟩ := h
    rw [holdsL_len hv, hlen ts hp]
  · obtain ⟨Hr, ts, r2, hv, hp, q⟩ := h
    have fin : ∀ v H', RetOk ⟨c, H, Hr, none⟩ (R ts) v H' → Q v H' := fun v H' ⟨t, Hr', h1, h2, h3⟩ =>
      q t v H' Hr' h1 ⟨fun a o e => h2.bx a o (fun z => nomatch z) e, h2.r1, h2.r2, fun a e1 e2 => h2.keep a e2 e1⟩ h3
    exact wb_mono (hb cdv A outer s H E H Hr ts hr hp _ H Hr (start_sat r2 hv (by rw [hlen ts hp]; exact hn))) (fun σ H' => fin .non H') fin (fun _ _ z => z) (fun _ _ z => z)
/-- a first slot beside the plain ones -/
theorem start_sat1 {c : Cs} {N : List Str} {e0 : En} {q : Addr} {ts : List T} {vs : List V} {H Hr : Hp} (r2 : Same Hr H) (hv : holdsL c ts vs Hr) (hn : ts.length + 1 ≤ N.length) (hq : Hr q = none) (hqH : H q ≠ none) (h0 : EnOk ⟨c, H, Hr, some q⟩ (some (some (.ref q))) H Hr e0) (hm : ∀ ts, e0 ≠ .mu ts) :
    Sat ⟨c, H, Hr, some q⟩ (e0 :: startG (N.length - 1) ts) (start N (.ref q :: vs)) H Hr where
  r1 := Same.refl _
  r2 := r2
  old := fun _ h => h
  keep := fun _ h _ => h
  bx := fun _ _ _ h => h
  ptw := fun p h => by cases h; exact ⟨hq, hqH⟩
  ln := by
    have := holdsL_len hv
    unfold startG L2.start
    simp only [List.length_append, List.length_map, List.length_replicate, List.length_cons, this]
    omega
  slot := fun i e h => by
    have hl := holdsL_len hv
    cases i with
    | zero =>
      cases h
      exact h0
    | succ i =>
      have h' : (startG (N.length - 1) ts)[i]? = some e := by simpa using h
      rcases startG_get _ _ _ _ h' with ⟨t, h1, rfl⟩ | ⟨h1, rfl⟩
      · obtain ⟨v, k1, k2⟩ := holdsL_get hv h1
        have hi : i < vs.length := by rw [hl]; exact (List.getElem?_eq_some_iff.mp h1).1
        refine ⟨v, ?_, k2⟩
        rw [start_get, if_pos (by simpa using hi), List.getElem?_cons_succ, k1]; rfl
      · trivial
  apart := fun i j p ts1 us n h1 _ _ => by
    cases i with
    | zero => cases h1; exact absurd rfl (hm ts1)
    | succ i =>
      have h' : (startG (N.length - 1) ts)[i]? = some (.mu ts1) := by simpa using h1
      rcases startG_get _ _ _ _ h' with ⟨t, _, h2⟩ | ⟨_, h2⟩ <;> cases h2
/-- THE RULE of a def that turns the pot, its first argument -/
theorem fun_pot {x qual : Str} {st : Stmt} {f : Addr} {fd : FuncData} {N ps : List Str} {k : Nat} {pre : List T → Prop} {R : List T → T → Prop} (F : Fun K x qual st f fd) (S : FnScope N ps (defScope st)) (hlen : ∀ ts, pre ts → ts.length + 1 = ps.length) (hn : ps.length ≤ N.length)
    (hb : ∀ (cdv : Value) (A : Around) (outer : List Env) (s : Shared) (H : Hp) (E : XK) (B Hr : Hp) (q : Addr) (ts : List T), Room k (A.deeper (envOfC qual (defScope st) s.heap.objs.size f cdv)) → pre ts →
      WG ⟨c, B, Hr, some q⟩ (cxB P w K mg base N qual (defScope st) f cdv A outer s H E) (.pt :: startG (N.length - 1) ts) (defBody st) (fnP ⟨c, B, Hr, some q⟩ (R ts))) : FnOk P w K mg base CX0 (k + 1) f fd ps (spPt c pre R) := by
  refine F.ok S (fun vs H Q E h => ?_) (fun cdv A outer s H vs Q E hr h => ⟨_, pss_self, ?_⟩)
  · obtain ⟨p, Hr, ts, vr, rfl, r2, _, _, hv, hp, _⟩ := h
    rw [List.length_cons, holdsL_len hv, hlen ts hp]
  · obtain ⟨p, Hr, ts, vr, rfl, r2, hq, hpt, hv, hp, q⟩ := h
    have hqH : H p ≠ none := by
      obtain ⟨_, _, _, _, _, _, e⟩ := hpt
      rw [e]; simp
    have fin : ∀ v H', RetP ⟨c, H, Hr, some p⟩ (R ts) v H' → Q v H' := fun v H' ⟨t, Hr', p', h1, h2, h3, h4, h5⟩ => by
      cases h4
      exact q t v H' Hr' h1 ⟨fun a o z e => h2.bx a o (fun z2 => z (by cases z2; rfl)) e, h5, h2.r1, h2.r2, fun a e1 e2 => h2.keep a e2 e1⟩ h3
    exact wb_mono (hb cdv A outer s H E H Hr p ts hr hp _ H Hr (start_sat1 r2 hv (by rw [hlen ts hp]; exact hn) hq hqH ⟨p, rfl, rfl, hpt⟩ (fun _ z => nomatch z))) (fun σ H' => fin .non H') fin (fun _ _ z => z) (fun _ _ z => z)
/-- what an __init__ ends with -/
def InE (b : Bs) (k : Kn) (Phi : T → T → Prop) : L2.St → Hp → Prop := fun _ H => ∃ Hr t1 t2 p dx v1 v2, Phi t1 t2 ∧ Sat0 b H Hr ∧ b.pot = some p ∧ H p = some (.ins (b.c.cl k) dx (fld v1 v2)) ∧ holds b.c t1 v1 Hr ∧ holds b.c t2 v2 Hr
abbrev fnI (b : Bs) (k : Kn) (Phi : T → T → Prop) : Ends := { nx := InE b k Phi, rt := fun _ _ => False }
theorem wg_initEnd {b : Bs} {X : Cx} {G : List En} {k : Kn} {Phi : T → T → Prop} {t1 t2 : T} (i : Nat) (hG : G[i]? = some (.bi k [t1, t2])) (h : Phi t1 t2) : WG b X G [] (fnI b k Phi) := wg_nil (R := InE b k Phi) fun σ H Hr s => by
  obtain ⟨p, dx, vs, h1, h2, h3, h4⟩ := s.slot i _ hG
  obtain ⟨v1, r1, rfl, k1, k2⟩ := holdsL_cons.mp h4
  obtain ⟨v2, r2, rfl, k3, k4⟩ := holdsL_cons.mp k2
  obtain rfl := holdsL_nil.mp k4
  exact ⟨Hr, t1, t2, p, dx, v1, v2, h, s.toSat0, h1, h3, k1, k3⟩
theorem init_body {N ps : List Str} {kn : Kn} {pre : List T → Prop} {R : List T → T → T → Prop} {X : Cx} {body : List Stmt} {vs : List V} {H : Hp} {Q : VK} {E : XK} (hlen : ∀ ts, pre ts → ts.length + 1 = ps.length) (hn : ps.length ≤ N.length) (h : spIn c kn pre R vs H Q E)
    (hb : ∀ (B Hr : Hp) (q : Addr) (ts : List T), pre ts → WG ⟨c, B, Hr, some q⟩ X (.bi kn [] :: startG (N.length - 1) ts) body (fnI ⟨c, B, Hr, some q⟩ kn (R ts))) : WB X body { nx := fun _ H' => Q .non H', rt := Q } (start N vs) H := by
  obtain ⟨p, dx, Hr, ts, vr, rfl, r2, hq, hpt, hv, hp, q⟩ := h
  refine wb_mono (hb H Hr p ts hp _ H Hr (start_sat1 r2 hv (by rw [hlen ts hp]; exact hn) hq (by rw [hpt]; simp) ⟨p, dx, [], rfl, rfl, hpt, holdsL_nil.mpr rfl⟩ (fun _ z => nomatch z))) (fun σ H' ⟨Hr', t1, t2, p', dx', v1, v2, h1, h2, h3, h4, h5, h6⟩ => ?_) (fun _ _ z => z.elim) (fun _ _ z => z) (fun _ _ z => z)
  cases h3
  exact q t1 t2 v1 v2 dx' H' Hr' h1 ⟨fun a o z e => h2.bx a o (fun z2 => z (by cases z2; rfl)) e, h2.r1, h2.r2, fun a e1 e2 => h2.keep a e2 e1⟩ h4 h5 h6
theorem fun_init {x qual : Str} {st : Stmt} {f : Addr} {fd : FuncData} {N ps : List Str} {k : Nat} {kn : Kn} {pre : List T → Prop} {R : List T → T → T → Prop} (F : Fun K x qual st f fd) (S : FnScope N ps (defScope st)) (hlen : ∀ ts, pre ts → ts.length + 1 = ps.length) (hn : ps.length ≤ N.length)
    (hb : ∀ (cdv : Value) (A : Around) (outer : List Env) (s : Shared) (H : Hp) (E : XK) (B Hr : Hp) (q : Addr) (ts : List T), Room k (A.deeper (envOfC qual (defScope st) s.heap.objs.size f cdv)) → pre ts →
      WG ⟨c, B, Hr, some q⟩ (cxB P w K mg base N qual (defScope st) f cdv A outer s H E) (.bi kn [] :: startG (N.length - 1) ts) (defBody st) (fnI ⟨c, B, Hr, some q⟩ kn (R ts))) : FnOk P w K mg base CX0 (k + 1) f fd ps (spIn c kn pre R) := by
  refine F.ok S (fun vs H Q E h => ?_) (fun cdv A outer s H vs Q E hr h => ⟨_, pss_self, init_body hlen hn h fun B Hr q ts hp => hb cdv A outer s H E B Hr q ts hr hp⟩)
  obtain ⟨p, dx, Hr, ts, vr, rfl, r2, _, _, hv, hp, _⟩ := h
  rw [List.length_cons, holdsL_len hv, hlen ts hp]
theorem fun_initD {x qual : Str} {params : Arguments} {body : List Stmt} {sc : Scope} {dvs : List V} {kws : List (Str × V)} {f : Addr} {fd : FuncData} {N ps : List Str} {k : Nat} {kn : Kn} {pre : List T → Prop} {R : List T → T → T → Prop} (F : FunD K x qual params body sc dvs kws f fd) (S : FnScope N ps sc) (hlen : ∀ ts, pre ts → ts.length + 1 = ps.length) (hn : ps.length ≤ N.length)
    (hb : ∀ (cdv : Value) (A : Around) (outer : List Env) (s : Shared) (H : Hp) (E : XK) (B Hr : Hp) (q : Addr) (ts : List T), Room k (A.deeper (envOfC qual sc s.heap.objs.size f cdv)) → pre ts →
      WG ⟨c, B, Hr, some q⟩ (cxB P w K mg base N qual sc f cdv A outer s H E) (.bi kn [] :: startG (N.length - 1) ts) body (fnI ⟨c, B, Hr, some q⟩ kn (R ts))) : FnOk P w K mg base CX0 (k + 1) f fd ps (spIn c kn pre R) := by
  refine F.ok S (fun vs H Q E h => ?_) (fun cdv A outer s H vs Q E hr h => ⟨_, PSs.nox pss_self, init_body hlen hn h fun B Hr q ts hp => hb cdv A outer s H E B Hr q ts hr hp⟩)
  obtain ⟨p, dx, Hr, ts, vr, rfl, r2, _, _, hv, hp, _⟩ := h
  rw [List.length_cons, holdsL_len hv, hlen ts hp]
end
/-! ### texts -/
section
variable {b : Bs} {X : Cx} {G : List En} {a e o c : Expr} {es : List Expr} {pos p p2 : Pos} {Phi Pa Pb : T → Prop}
theorem eg_fmtS {y : Str} (he : EG b X G e (· = .str y)) (hz : y.length ≤ sizeLine) (hP : Phi (.str y)) : EG b X G (.FormattedValue e (-1) none pos) Phi := fun σ H Hr s Q q =>
  we_of (pe_fmt pe_self) (he σ H Hr s _ fun t v H1 Hr1 p1 e1 s1 h1 => by
    subst p1
    exact .inl ⟨y, holds_is.mp h1, hz, q (.str y) _ H1 Hr1 hP e1 s1 (holds_is.mpr rfl)⟩)
theorem eg_fmtI {i : Int} (he : EG b X G e (· = .int i)) (hz : i.natAbs.log2 < 1920) (hP : Phi (.str (toString i))) : EG b X G (.FormattedValue e (-1) none pos) Phi := fun σ H Hr s Q q =>
  we_of (pe_fmt pe_self) (he σ H Hr s _ fun t v H1 Hr1 p1 e1 s1 h1 => by
    subst p1
    exact .inr ⟨i, holds_is.mp h1, hz, q (.str (toString i)) _ H1 Hr1 hP e1 s1 (holds_is.mpr rfl)⟩)
inductive JG (b : Bs) (X : Cx) (G : List En) : List Expr → List Str → Prop where
  | nil : JG b X G [] []
  | cons {e : Expr} {y : Str} {es : List Expr} {ys : List Str} (h : EG b X G e (· = .str y)) (r : JG b X G es ys) : JG b X G (e :: es) (y :: ys)
def joinS : Str → List Str → Str
  | acc, [] => acc
  | acc, y :: ys => joinS (acc ++ y) ys
theorem str_len (x y : Str) : (x ++ y).length = x.length + y.length := by first | exact strLen_append x y | simp
theorem jg_read {es : List Expr} {ys : List Str} (h : JG b X G es ys) : ∃ ts, PJ X es ts ∧ ∀ (acc : Str) σ H Hr, Sat b G σ H Hr → acc.length + (ys.map (·.length)).sum ≤ sizeLine → ∀ Q : Str → Hp → Prop, (∀ H' Hr', Evo b H Hr H' Hr' → Sat b G σ H' Hr' → Q (joinS acc ys) H') → tJs ts acc σ H Q := by
  induction h with
  | nil => exact ⟨[], .nil, fun acc σ H Hr s _ Q q => q H Hr Evo.refl s⟩
  | @cons e y es ys he r ih =>
    obtain ⟨ts, h1, h2⟩ := ih
    refine ⟨_, .cons pe_self h1, fun acc σ H Hr s hz Q q => he σ H Hr s _ fun t v H1 Hr1 p1 e1 s1 g1 => ?_⟩
    subst p1
    rw [List.map_cons, List.sum_cons] at hz
    have hl := str_len acc y
    exact ⟨y, holds_is.mp g1, by omega, h2 (acc ++ y) σ H1 Hr1 s1 (by omega) Q fun H2 Hr2 e2 s2 => q H2 Hr2 (e1.trans e2) s2⟩
theorem eg_joined {v1 v2 : Expr} {rest : List Expr} {ys : List Str} (h : JG b X G (v1 :: v2 :: rest) ys) (hz : (ys.map (·.length)).sum ≤ sizeLine) (hP : Phi (.str (joinS Str.empty ys))) : EG b X G (.JoinedStr (v1 :: v2 :: rest) pos) Phi := by
  obtain ⟨ts, h1, h2⟩ := jg_read h
  exact fun σ H Hr s Q q => we_of (pe_joined h1) (h2 Str.empty σ H Hr s (by show 0 + _ ≤ _; omega) _ fun H' Hr' e' s' => q (.str (joinS Str.empty ys)) _ H' Hr' hP e' s' (holds_is.mpr rfl))
theorem eg_joined1 (he : EG b X G e Phi) : EG b X G (.JoinedStr [e] pos) Phi := fun σ H Hr s Q q => we_of (pe_joined1 pe_self) (he σ H Hr s Q q)
theorem eg_strI {i : Int} (ha : EG b X G a (· = .int i)) (hz : i.natAbs.log2 < 1920) (hg : Gl X "str") (hm : X.mg "str" = none) (hP : Phi (.str (toString i))) (he : starEach [a] X.env = (false, eval a X.env) :: starEach [] X.env := by rfl) : EG b X G (.Call (.Name "str" p) [a] [] pos) Phi := fun σ H Hr s Q q =>
  we_of (pe_callTy call_str_int hg hm (by decide +kernel) (pa_cons pe_self pa_nil he) (he := he)) (ha σ H Hr s _ fun t v H1 Hr1 p1 e1 s1 h1 => by
    subst p1
    exact ⟨i, by rw [holds_is.mp h1], hz, q _ _ H1 Hr1 hP e1 s1 (holds_is.mpr rfl)⟩)
/-- s[n:] -/
theorem eg_cutS {y : Str} {n : Int} (ha : EG b X G a (· = .str y)) (hc : EG b X G c (· = .int n)) (hz : y.length ≤ sizeLine) (hP : Phi (.str (cutS y (some n) none))) : EG b X G (.Subscript a (.Slice (some c) none none p) pos) Phi := fun σ H Hr s Q q =>
  we_of (pe_slice sl_str pe_self (po_some pe_self) po_none) (ha σ H Hr s _ fun t v H1 Hr1 p1 e1 s1 h1 => hc σ H1 Hr1 s1 _ fun u w H2 Hr2 p2 e2 s2 h2 => by
    subst p1; subst p2
    exact ⟨n, holds_is.mp h2, y, holds_is.mp h1, hz, q _ _ H2 Hr2 hP (e1.trans e2) s2 (holds_is.mpr rfl)⟩)
end
end My

set_option Elab.async false
set_option linter.all false
set_option maxRecDepth 100000
set_option maxHeartbeats 4000000
/-! Df0: the text by places; what a def is, by its types. -/
namespace My
open PySem L2 PyProof.Rows
def top (i : Nat) : Stmt := PySem.Challenge.pw_innerfractions_k34_whole_any_value_as_pl.main.body.getD i (.Pass ⟨0, 0, 0, 0⟩)
/-- the world of a proof -/
structure Wd where
  P : Program
  w : World
  mg : Str → Option Value
  base : Heap
  c : Cs
abbrev Wd.K (E : Wd) : PySem.W.Frag := E.c.K
/-- which built-in names stand as they were, the module's constants -/
structure Glo (E : Wd) : Prop where
  isi : E.mg "isinstance" = none
  len : E.mg "len" = none
  lst : E.mg "list" = none
  tup : E.mg "tuple" = none
  int : E.mg "int" = none
  bool : E.mg "bool" = none
  str : E.mg "str" = none
  max : E.mg "max" = none
  abs : E.mg "abs" = none
  all : E.mg "all" = none
  rng : E.mg "range" = none
  enu : E.mg "enumerate" = none
  zip : E.mg "zip" = none
  dmd : E.mg "divmod" = none
  rep : E.mg "repr" = none
  gcd : E.mg "gcd" = some (.builtin "math.gcd")
  lcm : E.mg "lcm" = some (.builtin "math.lcm")
  rat : E.mg "Ratio" = some (.ref (E.c.cl .R))
  fra : E.mg "Fraction" = some (.ref (E.c.cl .F))
  kno : E.mg "Known" = some (.ref (E.c.cl .K))
  num : ∃ t, E.mg "MOST_NUMBERS" = some (.int 25 t)
  deg : ∃ t, E.mg "MOST_DEGREE" = some (.int 24 t)
  prt : ∃ t, E.mg "PART" = some (.int (10 ^ 60) t)
  bey : ∃ t, E.mg "BEYOND" = some (.str "beyond" t)
  ns : E.base.NoSeer
  tr : E.P.given.tree = none
/-- what the classes are -/
structure Cla (E : Wd) : Prop where
  clo : ∀ k, ClO E.c k
  iso : ∀ k, IsO E.c k
  ri : ∀ k, PySem.W.kitOne E.c.K (.ref (E.c.cl k)) (.type "int") = some false
  rs : ∀ k, PySem.W.kitOne E.c.K (.ref (E.c.cl k)) (.type "str") = some false
  bR : ∀ T ∈ ["int", "bool", "str", "NoneType", "list", "tuple", "dict"], PySem.W.kitOne E.c.K (.type T) (.ref (E.c.cl .R)) = some false
  bK : ∀ T ∈ ["list", "tuple"], PySem.W.kitOne E.c.K (.type T) (.ref (E.c.cl .K)) = some false
  FR : PySem.W.kitOne E.c.K (.ref (E.c.cl .F)) (.ref (E.c.cl .R)) = some false
theorem kit_self {K : PySem.W.Frag} {v : Value} : PySem.W.kitOne K v v = some true := by
  unfold PySem.W.kitOne
  rw [if_pos (by simp)]
/-- a def of the text that is a global -/
structure Dfn (E : Wd) (x : Str) (st : Stmt) (ps : List Str) : Prop where
  ex : ∃ (f : Addr) (fd : FuncData), Fun E.K x x st f fd ∧ E.mg x = some (.ref f) ∧ Binds E.K fd ps []
/-- x(..) of these types gives such a value -/
abbrev Wd.Fn (E : Wd) (x : Str) (k : Nat) (ts : List T) (Phi : T → Prop) : Prop := Cal E.P E.w E.K E.mg E.base x k [] (spOf E.c (· = ts) fun _ t => Phi t)
abbrev Wd.Pt (E : Wd) (x : Str) (k : Nat) (ts : List T) (Phi : T → Prop) : Prop := Cal E.P E.w E.K E.mg E.base x k [] (spPt E.c (· = ts) fun _ t => Phi t)
/-- a def's body, to be read -/
def Wd.Body (E : Wd) (x : Str) (st : Stmt) (N : List Str) (k : Nat) (ts : List T) (Phi : T → Prop) : Prop :=
  ∀ (f : Addr) (cdv : Value) (A : Around) (outer : List Env) (s : Shared) (H : Hp) (E0 : XK) (B Hr : Hp), Room k (cxB E.P E.w E.c.K E.mg E.base N x (defScope st) f cdv A outer s H E0).A → (35 ≤ k → PyR (cxB E.P E.w E.c.K E.mg E.base N x (defScope st) f cdv A outer s H E0)) →
    WG ⟨E.c, B, Hr, none⟩ (cxB E.P E.w E.c.K E.mg E.base N x (defScope st) f cdv A outer s H E0) (startG N.length ts) (defBody st) (fnE ⟨E.c, B, Hr, none⟩ Phi)
def Wd.BodyP (E : Wd) (x : Str) (st : Stmt) (N : List Str) (k : Nat) (ts : List T) (Phi : T → Prop) : Prop :=
  ∀ (f : Addr) (cdv : Value) (A : Around) (outer : List Env) (s : Shared) (H : Hp) (E0 : XK) (B Hr : Hp) (q : Addr), Room k (cxB E.P E.w E.c.K E.mg E.base N x (defScope st) f cdv A outer s H E0).A →
    WG ⟨E.c, B, Hr, some q⟩ (cxB E.P E.w E.c.K E.mg E.base N x (defScope st) f cdv A outer s H E0) (.pt :: startG (N.length - 1) ts) (defBody st) (fnP ⟨E.c, B, Hr, some q⟩ Phi)
theorem Wd.fn {E : Wd} {x : Str} {st : Stmt} {N ps : List Str} {k : Nat} {ts : List T} {Phi : T → Prop} (G : Glo E) (D : Dfn E x st ps) (S : FnScope N ps (defScope st)) (hb : E.Body x st N k ts Phi) (hl : ts.length = ps.length := by rfl) (hn : ps.length ≤ N.length := by decide) : E.Fn x (k + 1) ts Phi := by
  obtain ⟨f, fd, F, hm, hB⟩ := D.ex
  exact ⟨f, fd, ps, [], fun_pure F S (fun us hu => by rw [hu]; exact hl) hn (fun cdv A outer s H E0 B Hr us hr hu => by subst hu; exact hb f cdv A outer s H E0 B Hr hr fun h => pyr_cx S G.ns G.tr hr h), hm, F.kp, hB, .nil⟩
theorem Wd.pt {E : Wd} {x : Str} {st : Stmt} {N ps : List Str} {k : Nat} {ts : List T} {Phi : T → Prop} (D : Dfn E x st ps) (S : FnScope N ps (defScope st)) (hb : E.BodyP x st N k ts Phi) (hl : ts.length + 1 = ps.length := by rfl) (hn : ps.length ≤ N.length := by decide) : E.Pt x (k + 1) ts Phi := by
  obtain ⟨f, fd, F, hm, hB⟩ := D.ex
  exact ⟨f, fd, ps, [], fun_pot F S (fun us hu => by rw [hu]; exact hl) hn (fun cdv A outer s H E0 B Hr q us hr hu => by subst hu; exact hb f cdv A outer s H E0 B Hr q hr), hm, F.kp, hB, .nil⟩
abbrev scOk (st : Stmt) (N ps : List Str) : Prop := FnScope N ps (defScope st)
/-! ### is_integer -/
abbrev sInteger : Stmt := top 15
theorem scInteger : scOk sInteger ["value"] ["value"] := ⟨rfl, rfl, rfl, by decide +kernel, rfl, by decide +kernel, by decide +kernel⟩
/-- the types that values have here -/
def okT : T → Bool
  | .is .non => true
  | .is (.bl _) => true
  | .is (.int _) => true
  | .is (.str _) => true
  | .obj .R _ _ => true
  | .obj .F _ _ => true
  | .lst _ => true
  | .tup _ => true
  | .emp => true
  | _ => false
def isIntT : T → Bool
  | .is (.int _) => true
  | _ => false
def isBlT : T → Bool
  | .is (.bl _) => true
  | _ => false
def isStrT : T → Bool
  | .is (.str _) => true
  | _ => false
def isRT : T → Bool
  | .obj .R _ _ => true
  | _ => false
theorem kit_cases {E : Wd} (C : Cla E) {t : T} (h : okT t = true) : ∃ u, tyv E.c t = some u ∧ PySem.W.kitOne E.c.K u (.type "int") = some (isIntT t || isBlT t) ∧ ((isIntT t || isBlT t) = true → PySem.W.kitOne E.c.K u (.type "bool") = some (isBlT t)) ∧ PySem.W.kitOne E.c.K u (.type "str") = some (isStrT t) ∧ PySem.W.kitOne E.c.K u (.ref (E.c.cl .R)) = some (isRT t) := by
  have kb : ∀ {a b : String} {r : Bool}, kitB a b = some r → PySem.W.kitOne E.c.K (.type a) (.type b) = some r := fun h => kit_ty h
  have n1 : kitB "NoneType" "int" = some false := by decide +kernel
  have n2 : kitB "NoneType" "str" = some false := by decide +kernel
  have b1 : kitB "bool" "int" = some true := by decide +kernel
  have b2 : kitB "bool" "bool" = some true := by decide +kernel
  have b3 : kitB "bool" "str" = some false := by decide +kernel
  have i1 : kitB "int" "int" = some true := by decide +kernel
  have i2 : kitB "int" "bool" = some false := by decide +kernel
  have i3 : kitB "int" "str" = some false := by decide +kernel
  have s1 : kitB "str" "int" = some false := by decide +kernel
  have s2 : kitB "str" "str" = some true := by decide +kernel
  have l1 : kitB "list" "int" = some false := by decide +kernel
  have l2 : kitB "list" "str" = some false := by decide +kernel
  have t1 : kitB "tuple" "int" = some false := by decide +kernel
  have t2 : kitB "tuple" "str" = some false := by decide +kernel
  have d1 : kitB "dict" "int" = some false := by decide +kernel
  have d2 : kitB "dict" "str" = some false := by decide +kernel
  cases t with
  | is v =>
    cases v with
    | non => exact ⟨_, rfl, kb n1, (fun z => by cases z), kb n2, C.bR _ (by decide)⟩
    | bl d => exact ⟨_, rfl, kb b1, (fun z => kb b2), kb b3, C.bR _ (by decide)⟩
    | int d => exact ⟨_, rfl, kb i1, (fun z => kb i2), kb i3, C.bR _ (by decide)⟩
    | str d => exact ⟨_, rfl, kb s1, (fun z => by cases z), kb s2, C.bR _ (by decide)⟩
    | byt _ => cases h
    | flt _ => cases h
    | ref _ => cases h
    | ty _ => cases h
  | obj k t u =>
    cases k with
    | R => exact ⟨_, rfl, C.ri _, (fun z => by cases z), C.rs _, kit_self⟩
    | F => exact ⟨_, rfl, C.ri _, (fun z => by cases z), C.rs _, C.FR⟩
    | K => cases h
  | lst ts => exact ⟨_, rfl, kb l1, (fun z => by cases z), kb l2, C.bR _ (by decide)⟩
  | tup ts => exact ⟨_, rfl, kb t1, (fun z => by cases z), kb t2, C.bR _ (by decide)⟩
  | emp => exact ⟨_, rfl, kb d1, (fun z => by cases z), kb d2, C.bR _ (by decide)⟩
  | any => cases h
theorem int_bl {t : T} (h : isIntT t = true) : isBlT t = false := by
  cases t with
  | is v => cases v <;> first | rfl | cases h
  | _ => cases h
theorem ok_integer {E : Wd} (G : Glo E) (C : Cla E) (D : Dfn E "is_integer" sInteger ["value"]) (t : T) (h : okT t = true) : E.Fn "is_integer" 1 [t] (· = .bl (isIntT t)) := by
  obtain ⟨u, h1, h2, h3, _, _⟩ := kit_cases C h
  refine Wd.fn G D scInteger fun f cdv A outer s H E0 B Hr hr hp => ?_
  refine wg_ret (Pa := (· = .bl (isIntT t))) (eg_and (d := isIntT t || isBlT t) (eg_isiB rfl C.clo C.iso (eg_var 0 rfl rfl) h1 h2 rfl G.isi rfl rfl G.int (by decide +kernel)) (fun z => eg_one (eg_not (d := isBlT t) (eg_isiB rfl C.clo C.iso (eg_var 0 rfl rfl) h1 (h3 z) rfl G.isi rfl rfl G.bool (by decide +kernel)) ?_)) fun z => ?_) (fun t z => z) fun _ _ z => z
  · cases hA : isIntT t with
    | true => rw [int_bl hA]; rfl
    | false => rw [hA] at z; rw [show isBlT t = true from z]; rfl
  · cases hA : isIntT t with
    | true => rw [hA] at z; cases z
    | false => rfl
end My

set_option Elab.async false
set_option linter.all false
set_option maxRecDepth 100000
set_option maxHeartbeats 4000000
/-! Df1: methods, properties, classes; Ratio. -/
namespace My
open PySem L2 PyProof.Rows
abbrev inC (i j : Nat) : Stmt := inClass (top i) j
/-! ### callees of other kinds -/
structure Mfn (E : Wd) (k : Kn) (x qual : Str) (st : Stmt) (ps : List Str) : Prop where
  ex : ∃ (f : Addr) (fd : FuncData), Fun E.K x qual st f fd ∧ PySem.W.findIn E.K (.ref (E.c.cl k)) x = some (some (.ref f)) ∧ PySem.W.isFn E.K (.ref f) = true ∧ Binds E.K fd ps []
structure Pfn (E : Wd) (k : Kn) (x qual : Str) (st : Stmt) (ps : List Str) : Prop where
  ex : ∃ (p f : Addr) (fd : FuncData), Fun E.K x qual st f fd ∧ PropOf E.K (E.c.cl k) x p f ∧ Binds E.K fd ps []
structure Ofn (E : Wd) (k : Kn) (op : Operator) (x qual : Str) (st : Stmt) (ps : List Str) : Prop where
  ex : ∃ (f : Addr) (fd : FuncData), Fun E.K x qual st f fd ∧ Binds E.K fd ps [] ∧ OpI E.K (E.c.cl k) f op
structure Qfn (E : Wd) (k : Kn) (qual : Str) (st : Stmt) (ps : List Str) : Prop where
  ex : ∃ (f : Addr) (fd : FuncData), Fun E.K "__eq__" qual st f fd ∧ Binds E.K fd ps [] ∧ EqI E.K (E.c.cl k) f
abbrev Wd.Me (E : Wd) (kn : Kn) (x : Str) (k : Nat) (ts : List T) (Phi : T → Prop) : Prop := MCal E.P E.w E.K E.mg E.base (E.c.cl kn) x k [] (spOf E.c (· = ts) fun _ t => Phi t)
abbrev Wd.Pr (E : Wd) (kn : Kn) (x : Str) (k : Nat) (ts : List T) (Phi : T → Prop) : Prop := PCal E.P E.w E.K E.mg E.base (E.c.cl kn) x k (spOf E.c (· = ts) fun _ t => Phi t)
abbrev Wd.Op (E : Wd) (kn : Kn) (op : Operator) (k : Nat) (ts : List T) (Phi : T → Prop) : Prop := OCal E.P E.w E.K E.mg E.base (E.c.cl kn) op k (spOf E.c (· = ts) fun _ t => Phi t)
abbrev Wd.Qu (E : Wd) (kn : Kn) (k : Nat) (ts : List T) (Phi : T → Prop) : Prop := QCal E.P E.w E.K E.mg E.base (E.c.cl kn) k (spOf E.c (· = ts) fun _ t => Phi t)
theorem Wd.fnok {E : Wd} {x qual : Str} {st : Stmt} {N ps : List Str} {k : Nat} {ts : List T} {Phi : T → Prop} {f : Addr} {fd : FuncData} (G : Glo E) (F : Fun E.K x qual st f fd) (S : FnScope N ps (defScope st)) (hb : E.Body qual st N k ts Phi) (hl : ts.length = ps.length) (hn : ps.length ≤ N.length) : FnOk E.P E.w E.K E.mg E.base CX0 (k + 1) f fd ps (spOf E.c (· = ts) fun _ t => Phi t) :=
  fun_pure F S (fun us hu => by rw [hu]; exact hl) hn (fun cdv A outer s H E0 B Hr us hr hu => by subst hu; exact hb f cdv A outer s H E0 B Hr hr fun h => pyr_cx S G.ns G.tr hr h)
theorem Wd.me {E : Wd} {kn : Kn} {x qual : Str} {st : Stmt} {N ps : List Str} {k : Nat} {ts : List T} {Phi : T → Prop} (G : Glo E) (D : Mfn E kn x qual st ps) (S : FnScope N ps (defScope st)) (hb : E.Body qual st N k ts Phi) (hl : ts.length = ps.length := by rfl) (hn : ps.length ≤ N.length := by decide) : E.Me kn x (k + 1) ts Phi := by
  obtain ⟨f, fd, F, h1, h2, hB⟩ := D.ex
  exact ⟨f, fd, ps, [], Wd.fnok G F S hb hl hn, h1, h2, F.kp, hB, .nil⟩
theorem Wd.pr {E : Wd} {kn : Kn} {x qual : Str} {st : Stmt} {N ps : List Str} {k : Nat} {ts : List T} {Phi : T → Prop} (G : Glo E) (D : Pfn E kn x qual st ps) (S : FnScope N ps (defScope st)) (hb : E.Body qual st N k ts Phi) (hl : ts.length = ps.length := by rfl) (hn : ps.length ≤ N.length := by decide) : E.Pr kn x (k + 1) ts Phi := by
  obtain ⟨p, f, fd, F, h1, hB⟩ := D.ex
  exact ⟨p, f, fd, ps, Wd.fnok G F S hb hl hn, h1, hB⟩
theorem Wd.op {E : Wd} {kn : Kn} {op : Operator} {x qual : Str} {st : Stmt} {N ps : List Str} {k : Nat} {ts : List T} {Phi : T → Prop} (G : Glo E) (D : Ofn E kn op x qual st ps) (S : FnScope N ps (defScope st)) (hb : E.Body qual st N k ts Phi) (hl : ts.length = ps.length := by rfl) (hn : ps.length ≤ N.length := by decide) : E.Op kn op (k + 1) ts Phi := by
  obtain ⟨f, fd, F, hB, h1⟩ := D.ex
  exact ⟨f, fd, ps, Wd.fnok G F S hb hl hn, hB, h1⟩
theorem Wd.qu {E : Wd} {kn : Kn} {qual : Str} {st : Stmt} {N ps : List Str} {k : Nat} {ts : List T} {Phi : T → Prop} (G : Glo E) (D : Qfn E kn qual st ps) (S : FnScope N ps (defScope st)) (hb : E.Body qual st N k ts Phi) (hl : ts.length = ps.length := by rfl) (hn : ps.length ≤ N.length := by decide) : E.Qu kn (k + 1) ts Phi := by
  obtain ⟨f, fd, F, hB, h1⟩ := D.ex
  exact ⟨f, fd, ps, Wd.fnok G F S hb hl hn, hB, h1⟩
/-- a class's making: the values given, the defaults that fill up -/
structure Kfn (E : Wd) (kn : Kn) (x : Str) (dvs : List V) (dts : List T) (sp : FuncData → Prop) (ps : List Str) : Prop where
  ex : ∃ (f : Addr) (fd : FuncData) (ds : List Value), sp fd ∧ Mk E.K (E.c.cl kn) f ∧ Binds E.K fd ps ds ∧ Vals dvs ds
/-- a class's call with values of these types -/
abbrev Wd.Mk (E : Wd) (kn : Kn) (x : Str) (dvs : List V) (k : Nat) (ts : List T) (Phi : T → T → Prop) : Prop := KCal E.P E.w E.K E.mg E.base (E.c.cl kn) x k dvs (spIn E.c kn (· = ts) fun _ t u => Phi t u)
/-- the body of an __init__ -/
def Wd.BodyI (E : Wd) (kn : Kn) (x : Str) (sc : Scope) (body : List Stmt) (N : List Str) (k : Nat) (ts : List T) (Phi : T → T → Prop) : Prop :=
  ∀ (f : Addr) (cdv : Value) (A : Around) (outer : List Env) (s : Shared) (H : Hp) (E0 : XK) (B Hr : Hp) (q : Addr), Room k (cxB E.P E.w E.c.K E.mg E.base N x sc f cdv A outer s H E0).A → (35 ≤ k → PyR (cxB E.P E.w E.c.K E.mg E.base N x sc f cdv A outer s H E0)) →
    WG ⟨E.c, B, Hr, some q⟩ (cxB E.P E.w E.c.K E.mg E.base N x sc f cdv A outer s H E0) (.bi kn [] :: startG (N.length - 1) ts) body (fnI ⟨E.c, B, Hr, some q⟩ kn Phi)
/-- an __init__ with defaults -/
structure KfnD (E : Wd) (kn : Kn) (x qual : Str) (st : Stmt) (dvs : List V) (ps : List Str) : Prop where
  ex : ∃ (f : Addr) (fd : FuncData), FunD E.K "__init__" qual (defArgs st) (defBody st) (defScope st) dvs [] f fd ∧ Mk E.K (E.c.cl kn) f ∧ E.mg x = some (.ref (E.c.cl kn)) ∧ Binds E.K fd ps [] ∧ ∃ ds, Binds E.K fd ps ds ∧ Vals dvs ds
structure Kfn0 (E : Wd) (kn : Kn) (x qual : Str) (st : Stmt) (ps : List Str) : Prop where
  ex : ∃ (f : Addr) (fd : FuncData), Fun E.K "__init__" qual st f fd ∧ Mk E.K (E.c.cl kn) f ∧ E.mg x = some (.ref (E.c.cl kn)) ∧ Binds E.K fd ps []
theorem Wd.fnokI {E : Wd} {kn : Kn} {qual : Str} {st : Stmt} {dvs : List V} {N ps : List Str} {k : Nat} {ts : List T} {Phi : T → T → Prop} {f : Addr} {fd : FuncData} (G : Glo E) (F : FunD E.K "__init__" qual (defArgs st) (defBody st) (defScope st) dvs [] f fd) (S : FnScope N ps (defScope st)) (hb : E.BodyI kn qual (defScope st) (defBody st) N k ts Phi) (hl : ts.length + 1 = ps.length) (hn : ps.length ≤ N.length) : FnOk E.P E.w E.K E.mg E.base CX0 (k + 1) f fd ps (spIn E.c kn (· = ts) fun _ t u => Phi t u) :=
  fun_initD F S (fun us hu => by rw [hu]; exact hl) hn (fun cdv A outer s H E0 B Hr q us hr hu => by subst hu; exact hb f cdv A outer s H E0 B Hr q hr fun h => pyr_cx S G.ns G.tr hr h)
theorem Wd.mkD {E : Wd} {kn : Kn} {x qual : Str} {st : Stmt} {dvs : List V} {N ps : List Str} {k : Nat} {ts : List T} {Phi : T → T → Prop} (G : Glo E) (D : KfnD E kn x qual st dvs ps) (S : FnScope N ps (defScope st)) (hb : E.BodyI kn qual (defScope st) (defBody st) N k ts Phi) (hl : ts.length + 1 = ps.length := by rfl) (hn : ps.length ≤ N.length := by decide) : E.Mk kn x dvs (k + 1) ts Phi ∧ E.Mk kn x [] (k + 1) ts Phi := by
  obtain ⟨f, fd, F, h1, hm, hB, ds, hB2, hv⟩ := D.ex
  exact ⟨⟨f, fd, ps, ds, h1, Wd.fnokI G F S hb hl hn, hm, hB2, hv⟩, ⟨f, fd, ps, [], h1, Wd.fnokI G F S hb hl hn, hm, hB, .nil⟩⟩
theorem Wd.mk0 {E : Wd} {kn : Kn} {x qual : Str} {st : Stmt} {N ps : List Str} {k : Nat} {ts : List T} {Phi : T → T → Prop} (G : Glo E) (D : Kfn0 E kn x qual st ps) (S : FnScope N ps (defScope st)) (hb : E.BodyI kn qual (defScope st) (defBody st) N k ts Phi) (hl : ts.length + 1 = ps.length := by rfl) (hn : ps.length ≤ N.length := by decide) : E.Mk kn x [] (k + 1) ts Phi := by
  obtain ⟨f, fd, F, h1, hm, hB⟩ := D.ex
  exact ⟨f, fd, ps, [], h1, fun_init F S (fun us hu => by rw [hu]; exact hl) hn (fun cdv A outer s H E0 B Hr q us hr hu => by subst hu; exact hb f cdv A outer s H E0 B Hr q hr fun h => pyr_cx S G.ns G.tr hr h), hm, hB, .nil⟩
/-! ### ints of Ratios -/
theorem fdiv_dvd {a b : Int} (h : b ∣ a) : a.fdiv b = a / b := Int.fdiv_eq_ediv_of_dvd h
/-- what Ratio.__init__ keeps -/
theorem rat_of (a b : Int) (hb : b ≠ 0) : let g : Int := (Nat.gcd a.natAbs b.natAbs : Nat)
    let c := if b < 0 then 0 - g else g
    c ≠ 0 ∧ a.fdiv c = ((a : Rat) / b).num ∧ b.fdiv c = (((a : Rat) / b).den : Int) := by
  intro g c
  have hg : 0 < Nat.gcd a.natAbs b.natAbs := Nat.gcd_pos_of_pos_right _ (by omega)
  have d1 : g ∣ a := Int.ofNat_dvd_left.mpr (Nat.gcd_dvd_left _ _)
  have d2 : g ∣ b := Int.ofNat_dvd_left.mpr (Nat.gcd_dvd_right _ _)
  have e1 : ((a : Rat) / b).num = b.sign * a / g := by
    rw [← Rat.divInt_eq_div, Rat.num_divInt, Int.gcd_comm]; rfl
  have e2 : ((((a : Rat) / b).den : Nat) : Int) = (b.natAbs : Int) / g := by
    rw [← Rat.divInt_eq_div, Rat.den_divInt, if_neg hb, Int.gcd_comm]; rfl
  have gp : 0 < g := by show (0 : Int) < ((Nat.gcd a.natAbs b.natAbs : Nat) : Int); omega
  rw [e1, e2]
  by_cases h : b < 0
  · have hc : c = -g := by show (if b < 0 then 0 - g else g) = -g; rw [if_pos h]; omega
    rw [hc]
    refine ⟨by omega, ?_, ?_⟩
    · rw [fdiv_dvd (Int.neg_dvd.mpr d1), Int.ediv_neg, Int.sign_eq_neg_one_of_neg h, Int.neg_mul, Int.one_mul, Int.neg_ediv_of_dvd d1]
    · rw [fdiv_dvd (Int.neg_dvd.mpr d2), Int.ediv_neg, show (b.natAbs : Int) = -b by omega, Int.neg_ediv_of_dvd d2]
  · have hc : c = g := if_neg h
    rw [hc]
    refine ⟨by omega, ?_, ?_⟩
    · rw [fdiv_dvd d1, Int.sign_eq_one_of_pos (by omega), Int.one_mul]
    · rw [fdiv_dvd d2, show (b.natAbs : Int) = b by omega]
/-! ### divisor_of, Ratio -/
theorem wg_retq {b : Bs} {X : Cx} {G : List En} {e : Expr} {Phi : T → Prop} {pos : Pos} {rest : List Stmt} (he : EG b X G e Phi) : WG b X G (.Return (some e) pos :: rest) (fnE b Phi) := wg_ret he (fun _ z => z) fun _ _ z => z
theorem wg_retR {b : Bs} {X : Cx} {G : List En} {e : Expr} {Phi : T → Prop} {pos : Pos} {rest : List Stmt} {D : Ends} (hD : D.rt = RetOk b Phi) (he : EG b X G e Phi) : WG b X G (.Return (some e) pos :: rest) D := wg_ret he (fun _ z => z) fun _ _ z => by rw [hD]; exact z
theorem scDivisor : scOk (top 21) ["one", "other"] ["one", "other"] := ⟨rfl, rfl, rfl, by decide +kernel, rfl, by decide +kernel, by decide +kernel⟩
theorem ok_divisor {E : Wd} (G : Glo E) (D : Dfn E "divisor_of" (top 21) ["one", "other"]) (a b : Int) : E.Fn "divisor_of" 1 [.int a, .int b] (· = .int ((Nat.gcd a.natAbs b.natAbs : Nat) : Int)) := by
  refine Wd.fn G D scDivisor fun f cdv A outer s H E0 B Hr hr hp => ?_
  exact wg_retq (eg_gcd (eg_var 0 rfl rfl) (eg_var 1 rfl rfl) rfl G.gcd rfl)
theorem scRinit : scOk (inC 22 0) ["self", "top", "bottom", "common"] ["self", "top", "bottom"] := ⟨rfl, rfl, rfl, by decide +kernel, rfl, by decide +kernel, by decide +kernel⟩
abbrev isInteger (E : Wd) : Prop := ∀ t, okT t = true → E.Fn "is_integer" 1 [t] (· = .bl (isIntT t))
abbrev RatD (E : Wd) : Prop := KfnD E .R "Ratio" "Ratio.__init__" (inC 22 0) [.int 1] ["self", "top", "bottom"]
theorem ok_Rinit {E : Wd} (G : Glo E) (C : Cla E) (D : RatD E) (h1 : isInteger E) (h2 : ∀ a b : Int, E.Fn "divisor_of" 1 [.int a, .int b] (· = .int ((Nat.gcd a.natAbs b.natAbs : Nat) : Int))) (a b : Int) (hb : b ≠ 0) :
    E.Mk .R "Ratio" [.int 1] 36 [.int a, .int b] (fun t u => .obj .R t u = T.rat ((a : Rat) / b)) ∧ E.Mk .R "Ratio" [] 36 [.int a, .int b] (fun t u => .obj .R t u = T.rat ((a : Rat) / b)) := by
  refine Wd.mkD G D scRinit fun f cdv A outer s H E0 B Hr q hr hp => ?_
  have py := hp (by decide)
  obtain ⟨r1, r2, r3⟩ := rat_of a b hb
  refine wg_ifF (tg_not (Pt := (· = true)) (tg_val (Pa := (· = .bl true)) (eg_fn (h1 (.int a) rfl) (hr.mono (by decide)) rfl (ag_one (eg_var 1 rfl rfl)) rfl fun t z => z) fun t z => ⟨_, z, rfl⟩) fun d z => by rw [z]; rfl) ?_
  refine wg_ifF (UG.tg (ug_or (Pt := (· = false)) (tg_not (Pt := (· = true)) (tg_val (Pa := (· = .bl true)) (eg_fn (h1 (.int b) rfl) (hr.mono (by decide)) rfl (ag_one (eg_var 2 rfl rfl)) rfl fun t z => z) fun t z => ⟨_, z, rfl⟩) fun d z => by rw [z]; rfl) (fun _ => ug_or1 (tg_eq (v := .int b) (w := .int 0) (eg_var 2 rfl rfl) (eg_int rfl) rfl (decide_eq_false (fun z => hb (by injection z))))) fun z => by cases z)) ?_
  refine wg_set 3 scRinit.nd (Pa := (· = .int ((Nat.gcd a.natAbs b.natAbs : Nat) : Int))) (eg_fn (h2 a b) (hr.mono (by decide)) rfl (ag_cons (eg_var 1 rfl rfl) (ag_one (eg_var 2 rfl rfl))) rfl fun t z => z) ?_
  rintro t rfl
  have fin : ∀ c : Int, c ≠ 0 → a.fdiv c = ((a : Rat) / b).num → b.fdiv c = (((a : Rat) / b).den : Int) → WG ⟨E.c, B, Hr, some q⟩ (cxB E.P E.w E.c.K E.mg E.base ["self", "top", "bottom", "common"] "Ratio.__init__" (defScope (inC 22 0)) f cdv A outer s H E0) [.bi .R [], .sh (.int a), .sh (.int b), .sh (.int c)] ((defBody (inC 22 0)).drop 4) (fnI ⟨E.c, B, Hr, some q⟩ .R (fun t u => .obj .R t u = T.rat ((a : Rat) / b))) := fun c h1 h2 h3 => by
    refine wg_fldT 0 rfl (C.clo _) rfl (by intro j e hj he; match j, hj, he with | 1, _, he => cases he; exact .inl ⟨_, rfl⟩ | 2, _, he => cases he; exact .inl ⟨_, rfl⟩ | 3, _, he => cases he; exact .inl ⟨_, rfl⟩) (eg_fdiv py (eg_var 1 rfl rfl) (eg_var 3 rfl rfl) h1 rfl) ?_
    rintro t rfl
    refine wg_fldB 0 rfl (C.clo _) rfl (by intro j e hj he; match j, hj, he with | 1, _, he => cases he; exact .inl ⟨_, rfl⟩ | 2, _, he => cases he; exact .inl ⟨_, rfl⟩ | 3, _, he => cases he; exact .inl ⟨_, rfl⟩) (eg_fdiv py (eg_var 2 rfl rfl) (eg_var 3 rfl rfl) h1 rfl) ?_
    rintro t rfl
    exact wg_initEnd 0 rfl (by unfold T.rat; rw [h2, h3])
  refine wg_if (tg_lt (P := (· = decide (b < 0))) (eg_var 2 rfl rfl) (eg_int rfl) rfl) (fun z => ?_) fun z => ?_
  · have hb' : b < 0 := of_decide_eq_true z.symm
    rw [if_pos hb'] at r1 r2 r3
    refine wg_set 3 scRinit.nd (eg_sub (Phi := (· = .int (0 - ((Nat.gcd a.natAbs b.natAbs : Nat) : Int)))) (eg_int rfl) (eg_var 3 rfl rfl) rfl) ?_
    rintro t rfl
    exact wg_nil fun σ H Hr s => fin _ r1 r2 r3 σ H Hr s
  · have hb' : ¬ b < 0 := of_decide_eq_false z.symm
    rw [if_neg hb'] at r1 r2 r3
    exact wg_nil fun σ H Hr s => fin _ r1 r2 r3 σ H Hr s
end My

set_option Elab.async false
set_option linter.all false
set_option maxRecDepth 100000
set_option maxHeartbeats 0
/-! Hd1: the top's run, with the facts that the walk leans on. -/
namespace My
open PySem L2 PyProof.Rows
/-- the row, its name cut short -/
abbrev RW : PySem.W.OpenRow := PySem.W.OpenLaw.row PySem.Challenge.rw_innerfractions_k34_whole_any_value_as_pl
abbrev Fg : Type := PySem.W.Frag
/-- where a def stands: by a global's name, a class's entry, a property's getter -/
def adG (x : Str) (K : Fg) : Addr := He.ga K x
def adM (c x : Str) (K : Fg) : Addr := He.ma K (He.ga K c) x
def adP (c x : Str) (K : Fg) : Addr := match PySem.W.recIn K (adM c x K) "property" with
  | some (.ref g :: _) => g
  | _ => 0
/-- the tuple of a def's defaults; its first item, an object -/
def adT (p : Fg → Addr) (K : Fg) : Addr := match K.lookup (p K) with
  | some ⟨_, _, .func fd, _⟩ => (match fd.defaults with
    | .ref a => a
    | _ => 0)
  | _ => 0
def adI (p : Fg → Addr) (K : Fg) : Addr := match K.lookup (adT p K) with
  | some ⟨_, _, .seq its _, _⟩ => (match its.toList with
    | .ref a :: _ => a
    | _ => 0)
  | _ => 0
/-- a def that the top leaves: its place, names, text, defaults -/
structure Dd where
  ad : Fg → Addr
  name : Str
  qual : Str
  st : Stmt
  dfl : Fg → List V := fun _ => []
def fwA (K : Fg) (a : Addr) : He.FnW := match K.lookup a with
  | some o => (match o.data with
    | .func d => some (d.name, d.qualname, d.params, d.body, d.scope, d.globals, d.closure, d.builtins)
    | _ => none)
  | none => none
def Dd.due (d : Dd) : He.FnW := some (d.name, d.qual, defArgs d.st, .stmts (defBody d.st), defScope d.st, mainGlobals, [], builtinsNs)
def Dd.fine (K : Fg) (d : Dd) : Bool := PySem.W.keepIn K (.ref (d.ad K)) && (match K.lookup (d.ad K) with
  | some o => (match o.data with
    | .func z => PySem.W.codeIn K z.code d.qual && He.dflB K z.defaults (d.dfl K)
    | _ => false)
  | none => false)
theorem Dd.fun_ {K : Fg} {d : Dd} (e : fwA K (d.ad K) = d.due) (c : d.fine K = true) : ∃ fd, FunD K d.name d.qual (defArgs d.st) (defBody d.st) (defScope d.st) (d.dfl K) [] (d.ad K) fd := by
  obtain ⟨kp, c2⟩ := Bool.and_eq_true_iff.mp c
  unfold fwA at e
  cases q : K.lookup (d.ad K) with
  | none => rw [q] at c2; cases c2
  | some o =>
    obtain ⟨oc, od, dt, osl⟩ := o
    rw [q] at c2 e
    cases dt with
    | func z =>
      obtain ⟨m1, m2, m3, m4, m5, m6, m7, m8, m9, m10, m11, m12, m13, m14, m15⟩ := z
      have e2 : (some (m1, m2, m3, m4, m5, m6, m7, m15) : He.FnW) = some (d.name, d.qual, defArgs d.st, .stmts (defBody d.st), defScope d.st, mainGlobals, [], builtinsNs) := e
      simp only [Option.some.injEq, Prod.mk.injEq] at e2
      obtain ⟨h1, h2, h3, h4, h5, h6, h7, h8⟩ := e2
      subst h1 h2 h3 h4 h5 h6 h7 h8
      have c3 : (PySem.W.codeIn K m13 d.qual && He.dflB K m8 (d.dfl K)) = true := c2
      obtain ⟨k1, k2⟩ := Bool.and_eq_true_iff.mp c3
      exact ⟨_, ⟨oc, od, m8, m9, m10, m11, m12, m13, m14, osl, rfl, q, k1, He.dflB_ok k2, .inl rfl⟩, kp⟩
    | _ => cases c2

/-! ### the defs -/
def dG (x : Str) (i : Nat) : Dd := { ad := adG x, name := x, qual := x, st := top i }
def dM (c x q : Str) (i j : Nat) : Dd := { ad := adM c x, name := x, qual := q, st := inC i j }
def dP (c x q : Str) (i j : Nat) : Dd := { ad := adP c x, name := x, qual := q, st := inC i j }
def fn0 : List Dd := [dG "is_integer" 15, dG "is_list" 16, dG "want_at_most" 17, dG "digits_of" 20, dG "divisor_of" 21, dG "told_pair" 23, dG "is_number" 24, dG "ratio_of" 25, dG "wholes" 27, dG "is_poly" 31, dG "trimmed" 32, dG "want_poly" 33, dG "sum_of" 34, dG "by_number" 35, dG "int_product" 37, dG "product_of" 38, dG "parts_of" 39, dG "plain_row" 41, dG "int_rest" 42, dG "int_common" 43, dG "common_of" 44, dG "lowest" 47, dG "powers_of" 48, dG "put_pair" 49, dG "right_pair" 51, dG "pair_in" 53, dG "known_fraction" 54, dG "fraction_of" 55, dG "short_of" 56, dG "want_fraction" 57]
def fn1 : List Dd := [dG "headed_pair" 58, dG "put" 59, dG "is_place" 62, dG "want_place" 63, dG "is_beyond" 64, dG "pair_of" 65, dG "place_by" 66, dG "worth_by" 67, dG "worth_of" 68, dG "told_place" 69, dG "worth" 70, dG "_law_pot" 72, dG "_law_draw" 73, dG "_law_pick" 74, dG "_law_bare" 75, dG "_law_plus" 76, dG "_law_times" 77, dG "_law_divided" 78, dG "_law_common" 79, dG "_law_lowest" 80, dG "_law_at" 81, dG "_law_worth" 82, dG "_law_poly" 83, dG "_law_drawn" 84, dG "_law_passed" 85, dG "_law_made" 86, dG "_law_values" 87, dG "_law_is_place" 88, dG "_law_place" 89, dG "_law_built" 90]
def fn2 : List Dd := [dG "_law_worths_right" 91, dG "_law_rules_right" 92, dG "_law_right" 93, dG "law" 94, { dM "Ratio" "__init__" "Ratio.__init__" 22 0 with dfl := fun _ => [.int 1] }, dM "Ratio" "__add__" "Ratio.__add__" 22 6, dM "Ratio" "__sub__" "Ratio.__sub__" 22 8, dM "Ratio" "__mul__" "Ratio.__mul__" 22 10, dM "Ratio" "over" "Ratio.over" 22 13, dM "Ratio" "__eq__" "Ratio.__eq__" 22 17, dM "Ratio" "__repr__" "Ratio.__repr__" 22 19, { dM "Fraction" "__init__" "Fraction.__init__" 52 0 with dfl := fun K => [.ref (adI (adM "Fraction" "__init__") K)] }, dM "Fraction" "__add__" "Fraction.__add__" 52 6, dM "Fraction" "__mul__" "Fraction.__mul__" 52 10, dM "Known" "__init__" "Known.__init__" 50 0, dP "Ratio" "top" "Ratio.top" 22 1, dP "Ratio" "sign" "Ratio.sign" 22 3, dP "Ratio" "is_whole" "Ratio.is_whole" 22 4, dP "Fraction" "degree" "Fraction.degree" 52 1, dP "Fraction" "is_full" "Fraction.is_full" 52 2]
def fnA : List Dd := fn0 ++ fn1 ++ fn2
/-! ### the facts -/
def fa0 : List He.Fa := [.free "isinstance", .free "len", .free "list", .free "tuple", .free "int", .free "bool", .free "str", .free "max", .free "abs", .free "all", .free "range", .free "enumerate", .free "zip", .free "divmod", .free "repr", .glo "is_integer", .glo "is_list", .glo "want_at_most", .glo "digits_of", .glo "divisor_of", .glo "told_pair", .glo "is_number", .glo "ratio_of", .glo "wholes", .glo "is_poly", .glo "trimmed", .glo "want_poly", .glo "sum_of", .glo "by_number", .glo "int_product"]
def fa1 : List He.Fa := [.glo "product_of", .glo "parts_of", .glo "plain_row", .glo "int_rest", .glo "int_common", .glo "common_of", .glo "lowest", .glo "powers_of", .glo "put_pair", .glo "right_pair", .glo "pair_in", .glo "known_fraction", .glo "fraction_of", .glo "short_of", .glo "want_fraction", .glo "headed_pair", .glo "put", .glo "is_place", .glo "want_place", .glo "is_beyond", .glo "pair_of", .glo "place_by", .glo "worth_by", .glo "worth_of", .glo "told_place", .glo "worth", .glo "_law_pot", .glo "_law_draw", .glo "_law_pick", .glo "_law_bare"]
def fa2 : List He.Fa := [.glo "_law_plus", .glo "_law_times", .glo "_law_divided", .glo "_law_common", .glo "_law_lowest", .glo "_law_at", .glo "_law_worth", .glo "_law_poly", .glo "_law_drawn", .glo "_law_passed", .glo "_law_made", .glo "_law_values", .glo "_law_is_place", .glo "_law_place", .glo "_law_built", .glo "_law_worths_right", .glo "_law_rules_right", .glo "_law_right", .glo "law", .glo "Ratio", .glo "Fraction", .glo "Known", .int "MOST_NUMBERS" 25, .int "MOST_DEGREE" 24, .int "PART" (10 ^ 60), .str "BEYOND" "beyond", .cls "Ratio", .noat "Ratio" "own_top", .noat "Ratio" "own_bottom", .mkr "Ratio"]
def fa3 : List He.Fa := [.cls "Fraction", .noat "Fraction" "own_top", .noat "Fraction" "own_bottom", .mkr "Fraction", .cls "Known", .noat "Known" "own_top", .noat "Known" "own_bottom", .mkr "Known", .meth "Ratio" "over", .meth "Ratio" "__repr__"]
def faA : List He.Fa := fa0 ++ fa1 ++ fa2 ++ fa3
def bltB (K : Fg) (x : Str) (b : String) : Bool := He.eqO (PySem.W.nsIn K mainGlobals x) (some (some (.builtin b)))
def obD (a b : Option Bool) : Bool := decide (a = b)
theorem obD_ok {a b : Option Bool} (h : obD a b = true) : a = b := of_decide_eq_true h
def isoB (K : Fg) (C : Addr) : Bool := He.eqO (PySem.W.findIn K (.ref C) "__class__") (some (some (.builtin "object.__class__"))) && (He.eqO (PySem.W.specialIn K (.builtin "object.__class__") "__get__") (some (some (.builtin "getset_descriptor.__get__"))) && (obD (PySem.W.takesIn K (.builtin "object.__class__")) (some true) && obD (PySem.W.mroIn K C (.type "object")) (some true)))
def kitQq (K : Fg) (t c : Value) (b : Bool) : Bool := obD (PySem.W.kitOne K t c) (some b)
def propB (K : Fg) (c x : Str) : Bool := He.eqO (PySem.W.findIn K (.ref (He.ga K c)) x) (some (some (.ref (adM c x K)))) && (He.eqO (PySem.W.specialIn K (.ref (adM c x K)) "__get__") (some (some (.builtin "property.__get__"))) && (obD (PySem.W.takesIn K (.ref (adM c x K))) (some true) && (match PySem.W.recIn K (adM c x K) "property" with
  | some (.ref _ :: _) => true
  | _ => false)))
def refOr (o : Option (Option Value)) : Bool := match o with
  | some none => true
  | some (some (.ref _)) => true
  | _ => false
def opB (K : Fg) (c : Str) (op : Operator) : Bool := He.eqO (PySem.W.findIn K (.ref (He.ga K c)) (PySem.dunder op.info.2)) (some (some (.ref (adM c (PySem.dunder op.info.2) K)))) && (PySem.W.isFn K (.ref (adM c (PySem.dunder op.info.2) K)) && (PySem.W.selfFirst K (He.ga K c) && (refOr (PySem.W.findIn K (.ref (He.ga K c)) (dunderR op.info.2)) && ((PySem.W.findIn K (.type "int") (PySem.dunder op.info.2)).isSome && ((PySem.W.findIn K (.type "int") (dunderR op.info.2)).isSome && obD (PySem.W.subIn K (.type "int") (.ref (He.ga K c))) (some false))))))
def eqB (K : Fg) (c : Str) : Bool := He.eqO (PySem.W.findIn K (.ref (He.ga K c)) "__eq__") (some (some (.ref (adM c "__eq__" K)))) && (PySem.W.isFn K (.ref (adM c "__eq__" K)) && (He.eqO (PySem.W.findIn K (.ref (He.ga K c)) "__ne__") (some (some (.builtin "object.__ne__"))) && (obD (PySem.W.mroIn K (He.ga K c) (.type "object")) (some true) && (PySem.W.notFirst K (He.ga K c) (.ref (He.ga K c)) && PySem.W.notFirst K (He.ga K c) (.type "str")))))
/-- the tuple at a holds these -/
def tupAt (K : Fg) (a : Addr) (vs : List V) : Bool := match K.lookup a with
  | some ⟨.type c, _, .seq its _, _⟩ => decide (c = "tuple") && (decide (its.size ≤ sizeLine) && He.relAll vs its.toList)
  | _ => false
def exL : List (Fg → Bool) := [fun K => bltB K "gcd" "math.gcd", fun K => bltB K "lcm" "math.lcm", fun K => isoB K (He.ga K "Ratio"), fun K => isoB K (He.ga K "Fraction"), fun K => isoB K (He.ga K "Known"),
  fun K => propB K "Ratio" "top", fun K => propB K "Ratio" "sign", fun K => propB K "Ratio" "is_whole", fun K => propB K "Fraction" "degree", fun K => propB K "Fraction" "is_full",
  fun K => opB K "Ratio" .Add, fun K => opB K "Ratio" .Sub, fun K => opB K "Ratio" .Mult, fun K => opB K "Fraction" .Add, fun K => opB K "Fraction" .Mult, fun K => eqB K "Ratio",
  fun K => tupAt K (adI (adM "Fraction" "__init__") K) [.int 1],
  fun K => (["Ratio", "Fraction", "Known"] : List Str).all fun c => kitQq K (.ref (He.ga K c)) (.type "int") false && kitQq K (.ref (He.ga K c)) (.type "str") false,
  fun K => (["int", "bool", "str", "NoneType", "list", "tuple", "dict"] : List String).all fun t => kitQq K (.type t) (.ref (He.ga K "Ratio")) false,
  fun K => (["list", "tuple"] : List String).all fun t => kitQq K (.type t) (.ref (He.ga K "Known")) false, fun K => kitQq K (.ref (He.ga K "Fraction")) (.ref (He.ga K "Ratio")) false]
def exA (K : Fg) : Bool := exL.all fun f => f K
/-! ### the Hook -/
abbrev AlM : Type := Bool × Bool × Bool × List He.FnW
def obsM (K : Fg) : AlM := (faA.all fun f => f.ok K, exA K, fnA.all fun d => d.fine K, fnA.map fun d => fwA K (d.ad K))
def valM : AlM := (true, true, true, fnA.map Dd.due)
/-- the part of the heap that is read, written out once -/
def mkK {b : Type} (g : Addr → Option Obj) : List Addr → Fg → (Fg → b) → b
  | [], acc, k => k acc
  | a :: as, acc, k => match g a with
    | some o => mkK g as ((a, o) :: acc) k
    | none => mkK g as acc k
theorem mkK_eq {g : Addr → Option Obj} : ∀ (as : List Addr) (acc : Fg), (∀ a o, acc.lookup a = some o → g a = some o) → ∃ K : Fg, (∀ a o, K.lookup a = some o → g a = some o) ∧ ∀ {b : Type} (k : Fg → b), mkK g as acc k = k K
  | [], acc, h => ⟨acc, h, fun _ => rfl⟩
  | a :: as, acc, h => by
    cases e : g a with
    | none =>
      obtain ⟨K, h1, h2⟩ := mkK_eq (g := g) as acc h
      refine ⟨K, h1, fun k => ?_⟩
      show (match g a with
        | some o => mkK g as ((a, o) :: acc) k
        | none => mkK g as acc k) = k K
      rw [e]
      exact h2 k
    | some o =>
      obtain ⟨K, h1, h2⟩ := mkK_eq (g := g) as ((a, o) :: acc) fun c u hc => by
        rw [List.lookup_cons] at hc
        cases q : c == a with
        | true =>
          rw [q] at hc
          cases hc
          rw [beq_iff_eq.mp q]; exact e
        | false =>
          rw [q] at hc
          exact h c u hc
      refine ⟨K, h1, fun k => ?_⟩
      show (match g a with
        | some o => mkK g as ((a, o) :: acc) k
        | none => mkK g as acc k) = k K
      rw [e]
      exact h2 k
def upTo : Nat → List Addr → List Addr
  | 0, l => l
  | n + 1, l => upTo n (n :: l)
def adrs : List Addr := upTo 990 [mainGlobals]
def hookM : PySem.W.Hook where
  α := AlM
  obs := fun s => mkK s.heap.get? adrs [] obsM
  val := fun _ => valM
  says := fun _ h => ∃ K : Fg, K.In h ∧ obsM K = valM
  of := fun _ s e => by
    obtain ⟨K, h1, h2⟩ := mkK_eq (g := s.heap.get?) adrs [] fun a o z => by cases z
    exact ⟨K, h1, (h2 obsM).symm.trans e⟩
  keeps := fun _ _ _ ⟨K, hK, c⟩ k => ⟨K, PySem.W.Frag.In.keeps hK k, c⟩
def obM (s : PySem.W.SharedT) : AlM := mkK (HandSHeadRun.getT s) adrs [] obsM
theorem obM_eq (s : PySem.W.SharedT) : obM s = hookM.obs s.abs := by
  have e : HandSHeadRun.getT s = s.abs.heap.get? := funext (HandSHeadRun.getT_eq s)
  unfold obM
  rw [e]; rfl
def nm0 : List Str := ["_wall", "LetterError", "StateError", "LimitError", "InvalidFraction", "InvalidNumber", "InvalidPlace", "InvalidPoly", "DividedByZero", "Beyond", "NoughtBottom", "TooMany", "is_integer", "is_list", "want_at_most", "PART"]
def nm1 : List Str := ["digits_of", "divisor_of", "Ratio", "told_pair", "is_number", "ratio_of", "want_number", "wholes", "total_of", "MOST_NUMBERS", "is_poly", "trimmed", "want_poly", "sum_of", "by_number", "less_of"]
def nm2 : List Str := ["int_product", "product_of", "parts_of", "plain_row", "int_rest", "int_common", "common_of", "MOST_DEGREE", "lowest", "powers_of", "put_pair", "Known", "right_pair", "Fraction", "pair_in", "known_fraction"]
def nm3 : List Str := ["fraction_of", "short_of", "want_fraction", "headed_pair", "put", "BEYOND", "is_place", "want_place", "is_beyond", "pair_of", "place_by", "worth_by", "worth_of", "told_place", "worth", "_law_pot"]
def nm4 : List Str := ["_law_draw", "_law_pick", "_law_bare", "_law_plus", "_law_times", "_law_divided", "_law_common", "_law_lowest", "_law_at", "_law_worth", "_law_poly", "_law_drawn", "_law_passed", "_law_made", "_law_values", "_law_is_place"]
def nm5 : List Str := ["_law_place", "_law_built", "_law_worths_right", "_law_rules_right", "_law_right"]
def nmA : List Str := nm0 ++ nm1 ++ nm2 ++ nm3 ++ nm4 ++ nm5
abbrev qv : Program := PySem.W.view RW.prog [0, 94]
end My

set_option Elab.async false
set_option linter.all false
set_option maxRecDepth 100000
set_option maxHeartbeats 0
/-! Hd2: the run, looked at part by part. -/
namespace My
open PySem L2 PyProof.Rows
noncomputable abbrev theRun (w : World) := HandSHeadRun.wholeF (fun p => HandSHeadRun.stepQ (HandSHeadRun.denQ HandSHeadRun.tabQ) p w) HandSHeadRun.fenceQ 10000 RW.prog
theorem runA (w : World) : (theRun w).map (fun x => HandSHeadRun.looksF RW.prog x.1.heap x.2.abs) = some true := by
  kernel_rfl
theorem runB (w : World) : (theRun w).map (fun x => HandSHeadRun.seenQ qv nmA (importedModules RW.prog.main.body) (fun s => PySem.W.xlAt qv [] s && PySem.W.recOk RW.toRowW.records s) x.2.abs) = some (PySem.W.openGood qv nmA) := by
  kernel_rfl
theorem runC (w : World) : (theRun w).map (fun x => mkK (HandSHeadRun.getT x.2) adrs [] fun K => (faA.all fun f => f.ok K, exA K)) = some (true, true) := by
  kernel_rfl
theorem runD (w : World) : (theRun w).map (fun x => mkK (HandSHeadRun.getT x.2) adrs [] fun K => fnA.all fun d => d.fine K) = some true := by
  kernel_rfl
theorem runE (w : World) : (theRun w).map (fun x => mkK (HandSHeadRun.getT x.2) adrs [] fun K => fnA.map fun d => fwA K (d.ad K)) = some (fnA.map Dd.due) := by
  kernel_rfl
theorem join5 {a b1 b2 b3 b4 b5 c : Type} {e : Option a} {f1 : a → b1} {f2 : a → b2} {f3 : a → b3} {f4 : a → b4} {f5 : a → b5} {v1 : b1} {v2 : b2} {v3 : b3} {v4 : b4} {v5 : b5} (h1 : e.map f1 = some v1) (h2 : e.map f2 = some v2) (h3 : e.map f3 = some v3) (h4 : e.map f4 = some v4) (h5 : e.map f5 = some v5) {F : a → c} {v : c}
    (j : ∀ x, f1 x = v1 → f2 x = v2 → f3 x = v3 → f4 x = v4 → f5 x = v5 → F x = v) : e.map F = some v := by
  cases e with
  | none => cases h1
  | some x => exact congrArg some (j x (Option.some.inj h1) (Option.some.inj h2) (Option.some.inj h3) (Option.some.inj h4) (Option.some.inj h5))
theorem obM_of {s : PySem.W.SharedT} (h3 : (mkK (HandSHeadRun.getT s) adrs [] fun K => (faA.all fun f => f.ok K, exA K)) = (true, true)) (h4 : (mkK (HandSHeadRun.getT s) adrs [] fun K => fnA.all fun d => d.fine K) = true) (h5 : (mkK (HandSHeadRun.getT s) adrs [] fun K => fnA.map fun d => fwA K (d.ad K)) = fnA.map Dd.due) : obM s = valM := by
  obtain ⟨K, _, h⟩ := mkK_eq (g := HandSHeadRun.getT s) adrs [] fun a o z => by cases z
  rw [h] at h3 h4 h5
  unfold obM
  rw [h]
  obtain ⟨e1, e2⟩ := Prod.mk.inj h3
  exact Prod.ext e1 (Prod.ext e2 (Prod.ext h4 h5))
theorem run (w : World) : HandSHeadRun.RunEqI RW qv hookM obM 10000 nmA w :=
  join5 (runA w) (runB w) (runC w) (runD w) (runE w) fun _ hA hB hC hD hE => Prod.ext hA (Prod.ext hB (obM_of hC hD hE))
end My

set_option Elab.async false
set_option linter.all false
set_option maxRecDepth 100000
set_option maxHeartbeats 4000000
/-! Df2: Ratio's methods. -/
namespace My
open PySem L2 PyProof.Rows
def szB : Nat := 67108864
/-- an int of less than 2^26 bits -/
def SzI (i : Int) : Prop := i.natAbs < 2 ^ szB
structure Sz (q : Rat) : Prop where
  n : SzI q.num
  d : SzI (q.den : Int)
theorem SzI.mul {i j : Int} (a : SzI i) (b : SzI j) : CMulX i j := mulx_ok a b (by unfold szB; omega)
/-- a number: a Ratio or an int -/
def NT (t : T) (q : Rat) : Prop := t = T.rat q ∨ ∃ n : Int, t = T.int n ∧ q = (n : Rat)
theorem rat_int (n : Int) : T.rat (n : Rat) = .obj .R (.int n) (.int 1) := rfl
theorem rat_add_eq (q r : Rat) : (((q.num * (r.den : Int) + r.num * (q.den : Int) : Int) : Rat)) / (((q.den : Int) * (r.den : Int) : Int) : Rat) = q + r := by
  rw [Rat.add_def', Rat.mkRat_eq_div, ← Rat.intCast_natCast (q.den * r.den), Int.natCast_mul]
theorem rat_sub_eq (q r : Rat) : (((q.num * (r.den : Int) - r.num * (q.den : Int) : Int) : Rat)) / (((q.den : Int) * (r.den : Int) : Int) : Rat) = q - r := by
  rw [Rat.sub_def', Rat.mkRat_eq_div, ← Rat.intCast_natCast (q.den * r.den), Int.natCast_mul]
theorem rat_mul_eq (q r : Rat) : (((q.num * r.num : Int) : Rat)) / (((q.den : Int) * (r.den : Int) : Int) : Rat) = q * r := by
  rw [Rat.mul_def', Rat.mkRat_eq_div, ← Rat.intCast_natCast (q.den * r.den), Int.natCast_mul]
theorem den_ne (q : Rat) : (q.den : Int) ≠ 0 := by have := q.den_nz; omega
theorem num_ne {q : Rat} (h : q ≠ 0) : q.num ≠ 0 := fun z => h (Rat.num_eq_zero.mp z)
theorem rat_div_eq (q r : Rat) (h : r ≠ 0) : (((q.num * (r.den : Int) : Int) : Rat)) / (((q.den : Int) * r.num : Int) : Rat) = q / r := by
  have h1 : q = (q.num : Rat) / ((q.den : Int) : Rat) := by rw [← Rat.divInt_eq_div, Rat.num_divInt_den]
  have h2 : r = (r.num : Rat) / ((r.den : Int) : Rat) := by rw [← Rat.divInt_eq_div, Rat.num_divInt_den]
  have hn : (r.num : Rat) ≠ 0 := fun z => num_ne h (Rat.intCast_eq_zero_iff.mp z)
  have hd : ((r.den : Int) : Rat) ≠ 0 := fun z => den_ne r (Rat.intCast_eq_zero_iff.mp z)
  have hq : ((q.den : Int) : Rat) ≠ 0 := fun z => den_ne q (Rat.intCast_eq_zero_iff.mp z)
  conv => rhs; rw [h1, h2]
  rw [Rat.intCast_mul, Rat.intCast_mul]
  grind
section
variable {E : Wd} {b : Bs} {X : Cx} {Gm : List En} {e : Expr} {p p2 pos : Pos} {t : T}
/-- isinstance(e, Ratio) -/
theorem eg_isR (G : Glo E) (C : Cla E) {d : Bool} (h : okT t = true) (he : EG b X Gm e (· = t)) (hP : isRT t = d) (hc : b.c = E.c := by rfl) (hm : X.mg = E.mg := by rfl) (hK : b.c.K = X.K := by rfl) (hg1 : Gl X "isinstance" := by rfl) (hg2 : Gl X "Ratio" := by rfl)
    (hs : starEach [e, .Name "Ratio" p2] X.env = (false, eval e X.env) :: starEach [.Name "Ratio" p2] X.env := by rfl) (hs2 : starEach [.Name "Ratio" p2] X.env = (false, eval (.Name "Ratio" p2) X.env) :: starEach [] X.env := by rfl) (hpl : (backTo pos (starEach [.Name "Ratio" p2] X.env)).any (·.1) = false := by rfl) :
    EG b X Gm (.Call (.Name "isinstance" p) [e, .Name "Ratio" p2] [] pos) (· = .bl d) := by
  subst hP
  obtain ⟨c, B, R, pot⟩ := b
  have hc' : c = E.c := hc
  subst hc'
  obtain ⟨u, h1, _, _, _, h5⟩ := kit_cases C h
  exact eg_isiO hK C.clo C.iso he h1 h5 hg1 (hm ▸ G.isi) rfl hg2 (hm ▸ G.rat) (by decide) hs hs2 hpl
/-- isinstance(e, str) -/
theorem eg_isS (G : Glo E) (C : Cla E) {d : Bool} (h : okT t = true) (he : EG b X Gm e (· = t)) (hP : isStrT t = d) (hc : b.c = E.c := by rfl) (hm : X.mg = E.mg := by rfl) (hK : b.c.K = X.K := by rfl) (hg1 : Gl X "isinstance" := by rfl) (hg2 : Gl X "str" := by rfl)
    (hs : starEach [e, .Name "str" p2] X.env = (false, eval e X.env) :: starEach [.Name "str" p2] X.env := by rfl) (hs2 : starEach [.Name "str" p2] X.env = (false, eval (.Name "str" p2) X.env) :: starEach [] X.env := by rfl) (hpl : (backTo pos (starEach [.Name "str" p2] X.env)).any (·.1) = false := by rfl) :
    EG b X Gm (.Call (.Name "isinstance" p) [e, .Name "str" p2] [] pos) (· = .bl d) := by
  subst hP
  obtain ⟨c, B, R, pot⟩ := b
  have hc' : c = E.c := hc
  subst hc'
  obtain ⟨u, h1, _, _, h4, _⟩ := kit_cases C h
  exact eg_isiB hK C.clo C.iso he h1 h4 hg1 (hm ▸ G.isi) rfl hg2 (hm ▸ G.str) (by decide +kernel) (by decide) (by decide) hs hs2 hpl
end
theorem nt_ok {t : T} {q : Rat} (h : NT t q) : okT t = true := by rcases h with rfl | ⟨n, rfl, _⟩ <;> rfl
/-! ### told_pair -/
theorem scTold : scOk (top 23) ["value"] ["value"] := ⟨rfl, rfl, rfl, by decide +kernel, rfl, by decide +kernel, by decide +kernel⟩
theorem ok_told {E : Wd} (G : Glo E) (C : Cla E) (D : Dfn E "told_pair" (top 23) ["value"]) (h1 : isInteger E) (t : T) (q : Rat) (h : NT t q) : E.Fn "told_pair" 2 [t] (· = .tup [.int q.num, .int (q.den : Int)]) := by
  refine Wd.fn G D scTold fun f cdv A outer s H E0 B Hr hr hp => ?_
  rcases h with rfl | ⟨n, rfl, rfl⟩
  · refine wg_ifT (tg_val (Pa := (· = .bl true)) (eg_isR G C (t := T.rat q) rfl (eg_var 0 rfl rfl) rfl) fun t z => ⟨_, z, rfl⟩) ?_
    exact wg_retR rfl (eg_tup (A1 := (· = [.int q.num, .int (q.den : Int)])) (ag_cons (eg_top rfl (C.clo _) (eg_var 0 rfl rfl) rfl) (ag_one (eg_bot rfl (C.clo _) (eg_var 0 rfl rfl) rfl))) fun ts hts => by subst hts; exact ⟨of_decide_eq_true rfl, rfl⟩)
  · refine wg_ifF (tg_val (Pa := (· = .bl false)) (eg_isR G C (t := T.int n) rfl (eg_var 0 rfl rfl) rfl) fun t z => ⟨_, z, rfl⟩) ?_
    refine wg_ifF (tg_not (Pt := (· = true)) (tg_val (Pa := (· = .bl true)) (eg_fn (h1 (.int n) rfl) (hr.mono (by decide)) rfl (ag_one (eg_var 0 rfl rfl)) rfl fun t z => z) fun t z => ⟨_, z, rfl⟩) fun d z => by rw [z]; rfl) ?_
    exact wg_retq (eg_tup (A1 := (· = [.int n, .int 1])) (ag_cons (eg_var 0 rfl rfl) (ag_one (eg_int rfl))) fun ts hts => by subst hts; exact ⟨of_decide_eq_true rfl, rfl⟩)
/-! ### properties -/
theorem scRsign : scOk (inC 22 3) ["self"] ["self"] := ⟨rfl, rfl, rfl, by decide +kernel, rfl, by decide +kernel, by decide +kernel⟩
theorem scRtop : scOk (inC 22 1) ["self"] ["self"] := ⟨rfl, rfl, rfl, by decide +kernel, rfl, by decide +kernel, by decide +kernel⟩
theorem scRwhole : scOk (inC 22 4) ["self"] ["self"] := ⟨rfl, rfl, rfl, by decide +kernel, rfl, by decide +kernel, by decide +kernel⟩
theorem ok_Rtop {E : Wd} (G : Glo E) (C : Cla E) (D : Pfn E .R "top" "Ratio.top" (inC 22 1) ["self"]) (q : Rat) : E.Pr .R "top" 1 [T.rat q] (· = .int q.num) := by
  refine Wd.pr G D scRtop fun f cdv A outer s H E0 B Hr hr hp => ?_
  exact wg_retq (eg_top rfl (C.clo _) (eg_var 0 rfl rfl) rfl)
theorem ok_Rwhole {E : Wd} (G : Glo E) (C : Cla E) (D : Pfn E .R "is_whole" "Ratio.is_whole" (inC 22 4) ["self"]) (q : Rat) : E.Pr .R "is_whole" 1 [T.rat q] (· = .bl (decide (q.den = 1))) := by
  refine Wd.pr G D scRwhole fun f cdv A outer s H E0 B Hr hr hp => ?_
  refine wg_retq (eg_eq (v := .int (q.den : Int)) (w := .int 1) (eg_bot rfl (C.clo _) (eg_var 0 rfl rfl) rfl) (eg_int rfl) rfl ?_)
  have : (V.int (q.den : Int) = V.int 1) ↔ q.den = 1 := ⟨fun z => by injection z with z; omega, fun z => by rw [z]; rfl⟩
  simp [this]
theorem sign_eq (n : Int) : (if decide (0 < n) then (1 : Int) else 0) - (if decide (n < 0) then (1 : Int) else 0) = n.sign := by
  rcases Int.lt_trichotomy n 0 with h | h | h
  · rw [Int.sign_eq_neg_one_of_neg h, decide_eq_true h, decide_eq_false (show ¬ 0 < n by omega)]; rfl
  · subst h; rfl
  · rw [Int.sign_eq_one_of_pos h, decide_eq_true h, decide_eq_false (show ¬ n < 0 by omega)]; rfl
theorem ok_Rsign {E : Wd} (G : Glo E) (C : Cla E) (D : Pfn E .R "sign" "Ratio.sign" (inC 22 3) ["self"]) (q : Rat) : E.Pr .R "sign" 1 [T.rat q] (· = .int q.num.sign) := by
  refine Wd.pr G D scRsign fun f cdv A outer s H E0 B Hr hr hp => ?_
  refine wg_retq (eg_sub (eg_intB (eg_gt (eg_top rfl (C.clo _) (eg_var 0 rfl rfl) rfl) (eg_int rfl) rfl) rfl G.int rfl) (eg_intB (eg_lt (eg_top rfl (C.clo _) (eg_var 0 rfl rfl) rfl) (eg_int rfl) rfl) rfl G.int rfl) ?_)
  rw [sign_eq]
/-! ### operators -/
theorem scRadd : scOk (inC 22 6) ["self", "other", "top", "bottom"] ["self", "other"] := ⟨rfl, rfl, rfl, by decide +kernel, rfl, by decide +kernel, by decide +kernel⟩
theorem scRsub : scOk (inC 22 8) ["self", "other", "top", "bottom"] ["self", "other"] := ⟨rfl, rfl, rfl, by decide +kernel, rfl, by decide +kernel, by decide +kernel⟩
theorem scRmul : scOk (inC 22 10) ["self", "other", "top", "bottom"] ["self", "other"] := ⟨rfl, rfl, rfl, by decide +kernel, rfl, by decide +kernel, by decide +kernel⟩
theorem scRover : scOk (inC 22 13) ["self", "other", "top", "bottom"] ["self", "other"] := ⟨rfl, rfl, rfl, by decide +kernel, rfl, by decide +kernel, by decide +kernel⟩
theorem scReq : scOk (inC 22 17) ["self", "other"] ["self", "other"] := ⟨rfl, rfl, rfl, by decide +kernel, rfl, by decide +kernel, by decide +kernel⟩
/-- the makings of Ratios -/
abbrev makesRatio (E : Wd) : Prop := ∀ a b : Int, b ≠ 0 → E.Mk .R "Ratio" [.int 1] 36 [.int a, .int b] (fun t u => .obj .R t u = T.rat ((a : Rat) / b)) ∧ E.Mk .R "Ratio" [] 36 [.int a, .int b] (fun t u => .obj .R t u = T.rat ((a : Rat) / b))
abbrev toldPair (E : Wd) : Prop := ∀ (t : T) (q : Rat), NT t q → E.Fn "told_pair" 2 [t] (· = .tup [.int q.num, .int (q.den : Int)])
section
variable {E : Wd} {b : Bs} {X : Cx} {Gm : List En} {e e2 : Expr} {p pos : Pos} {Phi : T → Prop}
/-- Ratio(a, b) -/
theorem eg_rat2 {i j : Int} (h : makesRatio E) (hr : Room 37 X.A) (he : EG b X Gm e (· = .int i)) (he2 : EG b X Gm e2 (· = .int j)) (hj : j ≠ 0) (hP : Phi (T.rat ((i : Rat) / j))) (hc : b.c = E.c := by rfl) (hm : X.mg = E.mg := by rfl) (hK : X.K = E.K := by rfl) (hp1 : X.prog = E.P := by rfl) (hw : X.w = E.w := by rfl) (hbs : X.base = E.base := by rfl) (hg : Gl X "Ratio" := by rfl)
    (hs : starEach [e, e2] X.env = (false, eval e X.env) :: starEach [e2] X.env := by rfl) (hs2 : starEach [e2] X.env = (false, eval e2 X.env) :: starEach [] X.env := by rfl) (hpl : (backTo pos (starEach [e2] X.env)).any (·.1) = false := by rfl) : EG b X Gm (.Call (.Name "Ratio" p) [e, e2] [] pos) Phi := by
  obtain ⟨c, B, R, pot⟩ := b
  have hc' : c = E.c := hc
  subst hc'
  have M : KCal E.P E.w E.K E.mg E.base (E.c.cl .R) "Ratio" 36 [] (spIn E.c .R (· = [.int i, .int j]) fun _ t u => T.obj .R t u = T.rat ((i : Rat) / j)) := (h i j hj).2
  rw [← hp1, ← hw, ← hK, ← hm, ← hbs] at M
  exact eg_make (dts := []) (b := ⟨E.c, B, R, pot⟩) (kn := .R) M hr hg (A1 := (· = [.int i, .int j])) (ag_cons he (ag_one he2 hs2) hs) (fun _ => holdsL_nil.mpr rfl) (fun ts z => by subst z; exact ⟨rfl, fun t u z => by rw [z]; exact hP⟩) (by decide) hs hpl
/-- Ratio(a) -/
theorem eg_rat1 {i : Int} (h : makesRatio E) (hr : Room 37 X.A) (he : EG b X Gm e (· = .int i)) (hP : Phi (T.rat (i : Rat))) (hc : b.c = E.c := by rfl) (hm : X.mg = E.mg := by rfl) (hK : X.K = E.K := by rfl) (hp1 : X.prog = E.P := by rfl) (hw : X.w = E.w := by rfl) (hbs : X.base = E.base := by rfl) (hg : Gl X "Ratio" := by rfl)
    (hs : starEach [e] X.env = (false, eval e X.env) :: starEach [] X.env := by rfl) (hpl : (backTo pos (starEach [] X.env)).any (·.1) = false := by rfl) : EG b X Gm (.Call (.Name "Ratio" p) [e] [] pos) Phi := by
  obtain ⟨c, B, R, pot⟩ := b
  have hc' : c = E.c := hc
  subst hc'
  have M : KCal E.P E.w E.K E.mg E.base (E.c.cl .R) "Ratio" 36 [.int 1] (spIn E.c .R (· = [.int i, .int 1]) fun _ t u => T.obj .R t u = T.rat ((i : Rat) / ((1 : Int) : Rat))) := (h i 1 (by decide)).1
  rw [← hp1, ← hw, ← hK, ← hm, ← hbs] at M
  exact eg_make (dts := [.int 1]) (b := ⟨E.c, B, R, pot⟩) (kn := .R) M hr hg (A1 := (· = [.int i])) (ag_one he hs) (fun _ => holdsL_one (holds_is.mpr rfl)) (fun ts z => by subst z; exact ⟨rfl, fun t u z => by
    rw [z, show ((i : Rat) / ((1 : Int) : Rat)) = (i : Rat) by grind]; exact hP⟩) (by decide) hs hpl
end
theorem ok_Radd {E : Wd} (G : Glo E) (C : Cla E) (D : Ofn E .R .Add "__add__" "Ratio.__add__" (inC 22 6) ["self", "other"]) (h1 : toldPair E) (h2 : makesRatio E) (q r : Rat) (t : T) (ht : NT t r) (hq : Sz q) (hr' : Sz r) : E.Op .R .Add 38 [T.rat q, t] (· = T.rat (q + r)) := by
  refine Wd.op G D scRadd fun f cdv A outer s H E0 B Hr hr hp => ?_
  refine wg_unp 2 3 (by decide) rfl rfl scRadd.nd (eg_fn (h1 t r ht) (hr.mono (by decide)) rfl (ag_one (eg_var 1 rfl rfl)) rfl fun t z => z) fun t z => ⟨_, _, z, ?_⟩
  refine wg_retq (eg_rat2 h2 hr (eg_add (eg_mul (eg_top rfl (C.clo _) (eg_var 0 rfl rfl) rfl) (eg_var 3 rfl rfl) (hq.n.mul hr'.d) rfl) (eg_mul (eg_var 2 rfl rfl) (eg_bot rfl (C.clo _) (eg_var 0 rfl rfl) rfl) (hr'.n.mul hq.d) rfl) rfl) (eg_mul (eg_bot rfl (C.clo _) (eg_var 0 rfl rfl) rfl) (eg_var 3 rfl rfl) (hq.d.mul hr'.d) rfl) (Int.mul_ne_zero (den_ne q) (den_ne r)) ?_)
  rw [rat_add_eq]
theorem ok_Rsub {E : Wd} (G : Glo E) (C : Cla E) (D : Ofn E .R .Sub "__sub__" "Ratio.__sub__" (inC 22 8) ["self", "other"]) (h1 : toldPair E) (h2 : makesRatio E) (q r : Rat) (t : T) (ht : NT t r) (hq : Sz q) (hr' : Sz r) : E.Op .R .Sub 38 [T.rat q, t] (· = T.rat (q - r)) := by
  refine Wd.op G D scRsub fun f cdv A outer s H E0 B Hr hr hp => ?_
  refine wg_unp 2 3 (by decide) rfl rfl scRsub.nd (eg_fn (h1 t r ht) (hr.mono (by decide)) rfl (ag_one (eg_var 1 rfl rfl)) rfl fun t z => z) fun t z => ⟨_, _, z, ?_⟩
  refine wg_retq (eg_rat2 h2 hr (eg_sub (eg_mul (eg_top rfl (C.clo _) (eg_var 0 rfl rfl) rfl) (eg_var 3 rfl rfl) (hq.n.mul hr'.d) rfl) (eg_mul (eg_var 2 rfl rfl) (eg_bot rfl (C.clo _) (eg_var 0 rfl rfl) rfl) (hr'.n.mul hq.d) rfl) rfl) (eg_mul (eg_bot rfl (C.clo _) (eg_var 0 rfl rfl) rfl) (eg_var 3 rfl rfl) (hq.d.mul hr'.d) rfl) (Int.mul_ne_zero (den_ne q) (den_ne r)) ?_)
  rw [rat_sub_eq]
theorem ok_Rmul {E : Wd} (G : Glo E) (C : Cla E) (D : Ofn E .R .Mult "__mul__" "Ratio.__mul__" (inC 22 10) ["self", "other"]) (h1 : toldPair E) (h2 : makesRatio E) (q r : Rat) (t : T) (ht : NT t r) (hq : Sz q) (hr' : Sz r) : E.Op .R .Mult 38 [T.rat q, t] (· = T.rat (q * r)) := by
  refine Wd.op G D scRmul fun f cdv A outer s H E0 B Hr hr hp => ?_
  refine wg_unp 2 3 (by decide) rfl rfl scRmul.nd (eg_fn (h1 t r ht) (hr.mono (by decide)) rfl (ag_one (eg_var 1 rfl rfl)) rfl fun t z => z) fun t z => ⟨_, _, z, ?_⟩
  refine wg_retq (eg_rat2 h2 hr (eg_mul (eg_top rfl (C.clo _) (eg_var 0 rfl rfl) rfl) (eg_var 2 rfl rfl) (hq.n.mul hr'.n) rfl) (eg_mul (eg_bot rfl (C.clo _) (eg_var 0 rfl rfl) rfl) (eg_var 3 rfl rfl) (hq.d.mul hr'.d) rfl) (Int.mul_ne_zero (den_ne q) (den_ne r)) ?_)
  rw [rat_mul_eq]
theorem ok_Rover {E : Wd} (G : Glo E) (C : Cla E) (D : Mfn E .R "over" "Ratio.over" (inC 22 13) ["self", "other"]) (h1 : toldPair E) (h2 : makesRatio E) (q r : Rat) (t : T) (ht : NT t r) (hq : Sz q) (hr' : Sz r) (h0 : r ≠ 0) : E.Me .R "over" 38 [T.rat q, t] (· = T.rat (q / r)) := by
  refine Wd.me G D scRover fun f cdv A outer s H E0 B Hr hr hp => ?_
  refine wg_unp 2 3 (by decide) rfl rfl scRover.nd (eg_fn (h1 t r ht) (hr.mono (by decide)) rfl (ag_one (eg_var 1 rfl rfl)) rfl fun t z => z) fun t z => ⟨_, _, z, ?_⟩
  refine wg_ifF (tg_eq (v := .int r.num) (w := .int 0) (eg_var 2 rfl rfl) (eg_int rfl) rfl (decide_eq_false (fun z => num_ne h0 (by injection z)))) ?_
  refine wg_retq (eg_rat2 h2 hr (eg_mul (eg_top rfl (C.clo _) (eg_var 0 rfl rfl) rfl) (eg_var 3 rfl rfl) (hq.n.mul hr'.d) rfl) (eg_mul (eg_bot rfl (C.clo _) (eg_var 0 rfl rfl) rfl) (eg_var 2 rfl rfl) (hq.d.mul hr'.n) rfl) (Int.mul_ne_zero (den_ne q) (num_ne h0)) ?_)
  rw [rat_div_eq q r h0]
/-! ### == -/
/-- what == says: a Ratio or a text on the right -/
def eqT (q : Rat) : T → Option Bool
  | .obj .R (.is (.int n)) (.is (.int d)) => some (decide (q.num = n) && decide ((q.den : Int) = d))
  | .is (.str _) => some false
  | _ => none
theorem eqT_rat (q r : Rat) : eqT q (T.rat r) = some (decide (q = r)) := by
  show some _ = some _
  congr 1
  by_cases h : q = r
  · subst h; simp
  · rw [decide_eq_false h]
    by_cases h1 : q.num = r.num
    · by_cases h2 : q.den = r.den
      · exact absurd (Rat.ext h1 h2) h
      · rw [show decide ((q.den : Int) = (r.den : Int)) = false from decide_eq_false (by omega)]; simp
    · rw [decide_eq_false h1]; rfl
theorem ok_Req {E : Wd} (G : Glo E) (C : Cla E) (D : Qfn E .R "Ratio.__eq__" (inC 22 17) ["self", "other"]) (q : Rat) (t : T) (d : Bool) (h : eqT q t = some d) : E.Qu .R 1 [T.rat q, t] (· = .bl d) := by
  refine Wd.qu G D scReq fun f cdv A outer s H E0 B Hr hr hp => ?_
  have cs : (∃ n m : Int, t = .obj .R (.is (.int n)) (.is (.int m)) ∧ d = (decide (q.num = n) && decide ((q.den : Int) = m))) ∨ ∃ y, t = .str y ∧ d = false := by
    unfold eqT at h
    split at h
    · cases h; exact .inl ⟨_, _, rfl, rfl⟩
    · cases h; exact .inr ⟨_, rfl, rfl⟩
    · cases h
  rcases cs with ⟨n, m, rfl, rfl⟩ | ⟨y, rfl, rfl⟩
  · refine wg_ifF (tg_not (Pt := (· = true)) (tg_val (Pa := (· = .bl true)) (eg_isR G C (t := .obj .R (.is (.int n)) (.is (.int m))) rfl (eg_var 1 rfl rfl) rfl) fun t z => ⟨_, z, rfl⟩) fun d z => by rw [z]; rfl) ?_
    refine wg_retq (eg_and (d := decide (q.num = n)) (eg_eq (v := .int q.num) (w := .int n) (eg_top rfl (C.clo _) (eg_var 0 rfl rfl) rfl) (eg_top rfl (C.clo _) (eg_var 1 rfl rfl) rfl) rfl ?_) (fun z => eg_one (eg_eq (v := .int (q.den : Int)) (w := .int m) (eg_bot rfl (C.clo _) (eg_var 0 rfl rfl) rfl) (eg_bot rfl (C.clo _) (eg_var 1 rfl rfl) rfl) rfl ?_)) fun z => ?_)
    · simp
    · rw [z]; simp
    · rw [z]; rfl
  · refine wg_ifT (tg_not (Pt := (· = false)) (tg_val (Pa := (· = .bl false)) (eg_isR G C (t := .str y) rfl (eg_var 1 rfl rfl) rfl) fun t z => ⟨_, z, rfl⟩) fun d z => by rw [z]; rfl) ?_
    exact wg_retR rfl (eg_bl rfl)
end My

set_option Elab.async false
set_option linter.all false
set_option maxRecDepth 100000
set_option maxHeartbeats 4000000
/-! Df3: small defs; polys. -/
namespace My
open PySem L2 PyProof.Rows
/-! ### comprehensions over a known list -/
section
variable {α : Type} {b : Bs} {X : Cx} {G : List En} {elt iter : Expr} {pos p : Pos} {x : Str} {scope : Scope} {A1 : List T → Prop}
open Classical in
theorem map_choose {l : List α} {emb φ : α → T} (hinj : ∀ a ∈ l, ∀ a' ∈ l, emb a = emb a' → φ a = φ a') : ∃ f : T → T, (l.map emb).map f = l.map φ ∧ ∀ a ∈ l, f (emb a) = φ a := by
  refine ⟨fun t => if h : ∃ a, a ∈ l ∧ emb a = t then φ (Classical.choose h) else .any, ?_, ?_⟩
  · rw [List.map_map]
    refine List.map_congr_left fun a ha => ?_
    have h : ∃ a', a' ∈ l ∧ emb a' = emb a := ⟨a, ha, rfl⟩
    show (if h : ∃ a', a' ∈ l ∧ emb a' = emb a then φ (Classical.choose h) else .any) = φ a
    rw [dif_pos h]
    exact hinj _ (Classical.choose_spec h).1 _ ha (Classical.choose_spec h).2
  · intro a ha
    have h : ∃ a', a' ∈ l ∧ emb a' = emb a := ⟨a, ha, rfl⟩
    show (if h : ∃ a', a' ∈ l ∧ emb a' = emb a then φ (Classical.choose h) else .any) = φ a
    rw [dif_pos h]
    exact hinj _ (Classical.choose_spec h).1 _ ha (Classical.choose_spec h).2
/-- [elt for x in iter], iter's items known -/
theorem fg_lcL (i : Nat) (l : List α) (emb φ : α → T) (hN : X.N.Nodup) (hinj : ∀ a ∈ l, ∀ a' ∈ l, emb a = emb a' → φ a = φ a') (hi : IG b X G (.Name x p) iter (· = l.map emb)) (hlen : l.length < 1000)
    (he : ∀ a, a ∈ l → ∀ R' s H C cl fp, EG { b with R := R' } (blkOf X scope s H C cl fp) (G.set i (.sh (emb a))) elt (· = φ a)) (hA : A1 (l.map φ))
    (hl : i < G.length := by exact of_decide_eq_true rfl) (hG : G[i]? = some .no := by rfl) (hc : X.calm = true := by rfl) (ok : BlkOk X.N X.env.scope scope [(x, i)] := by exact blkOk_by rfl)
    (hix : X.N[i]? = some x := by rfl) (hxl : ∀ (s : Shared) (H : Hp) (C : Addr) (cl : List (Str × Addr)) (fp : List Addr), Loc (blkOf X scope s H C cl fp).env.scope x := by intro _ _ _ _ _; first | exact .inl rfl | exact .inr rfl)
    (hxf : ∀ (s : Shared) (H : Hp) (C : Addr) (cl : List (Str × Addr)) (fp : List Addr), (blkOf X scope s H C cl fp).fn x = true ∨ (blkOf X scope s H C cl fp).env.scope.names.lookup x = some .local := by intro _ _ _ _ _; first | exact .inl rfl | exact .inr rfl)
    (hs : ∀ x, foldedSetIterable iter X.env x = pure x := by intro _; rfl) : FG b X G (.ListComp elt [⟨.Name x p, iter, [], 0⟩] scope pos) A1 := by
  obtain ⟨f, h1, h2⟩ := map_choose hinj
  refine fg_lc (Pt := fun t => ∃ a, a ∈ l ∧ emb a = t) (f := f) i rfl hc hN hi ok hl hG (fun s H C cl fp => pg_name hN hix (hxl s H C cl fp) (hxf s H C cl fp)) (fun ts hts => ?_) (fun t R' s H C cl fp ht => ?_) hs
  · subst hts
    refine ⟨by rw [List.length_map]; exact hlen, fun t ht => ?_, by rw [h1]; exact hA⟩
    obtain ⟨a, ha, e⟩ := List.mem_map.mp ht
    exact ⟨a, ha, e⟩
  · obtain ⟨a, ha, rfl⟩ := ht
    rw [h2 a ha]
    exact he a ha R' s H C cl fp
end
theorem rat_inj {q r : Rat} (h : T.rat q = T.rat r) : q = r := by
  unfold T.rat at h
  injection h with _ h1 h2
  injection h1 with h1; injection h1 with h1
  injection h2 with h2; injection h2 with h2
  exact Rat.ext h1 (by omega)
theorem tint_inj {q r : Int} (h : T.int q = T.int r) : q = r := by
  injection h with h1; injection h1
/-! ### is_list, want_at_most, is_number, ratio_of -/
def isLiT : T → Bool
  | .lst _ => true
  | .tup _ => true
  | _ => false
theorem kitAny_cons {K : PySem.W.Frag} {t c : Value} {cs : List Value} {a d : Bool} (h1 : PySem.W.kitOne K t c = some a) (h2 : PySem.W.kitAny K t cs = some d) : PySem.W.kitAny K t (c :: cs) = some (a || d) := by
  unfold PySem.W.kitAny
  rw [h1]
  cases a with
  | true => rfl
  | false => exact h2
theorem scIsList : scOk (top 16) ["value"] ["value"] := ⟨rfl, rfl, rfl, by decide +kernel, rfl, by decide +kernel, by decide +kernel⟩
theorem ok_isList {E : Wd} (G : Glo E) (C : Cla E) (D : Dfn E "is_list" (top 16) ["value"]) (t : T) (ht : isLiT t = true) : E.Fn "is_list" 1 [t] (· = .bl true) := by
  refine Wd.fn G D scIsList fun f cdv A outer s H E0 B Hr hr hp => ?_
  have n1 : kitB "list" "list" = some true := by decide +kernel
  have n2 : kitB "list" "tuple" = some false := by decide +kernel
  have n3 : kitB "tuple" "list" = some false := by decide +kernel
  have n4 : kitB "tuple" "tuple" = some true := by decide +kernel
  have kb : ∀ {a b : String} {r : Bool}, kitB a b = some r → PySem.W.kitOne E.c.K (.type a) (.type b) = some r := fun h => kit_ty h
  have h2 : ∃ u, tyv E.c t = some u ∧ PySem.W.kitAny E.c.K u [.type "list", .type "tuple"] = some true := by
    cases t with
    | lst ts => exact ⟨_, rfl, kitAny_cons (d := false) (kb n1) (kitAny_cons (d := false) (kb n2) rfl)⟩
    | tup ts => exact ⟨_, rfl, kitAny_cons (d := true) (kb n3) (kitAny_cons (d := false) (kb n4) rfl)⟩
    | is v => cases ht
    | obj k t u => cases ht
    | emp => cases ht
    | any => cases ht
  obtain ⟨u, h3, h4⟩ := h2
  exact wg_retq (eg_isi2 rfl C.clo C.iso (eg_var 0 rfl rfl) h3 h4 rfl G.isi rfl rfl G.lst (by decide +kernel) rfl G.tup (by decide +kernel))
theorem scAtMost : scOk (top 17) ["what", "limit", "number"] ["what", "limit", "number"] := ⟨rfl, rfl, rfl, by decide +kernel, rfl, by decide +kernel, by decide +kernel⟩
theorem wg_fall {b : Bs} {X : Cx} {G : List En} {Phi : T → Prop} (h : Phi (.is .non)) : WG b X G [] (fnE b Phi) := wg_nil (R := fun _ H => RetOk b Phi .non H) fun σ H Hr s => ⟨.is .non, Hr, h, s.toSat0, holds_is.mpr rfl⟩
theorem ok_atMost {E : Wd} (G : Glo E) (D : Dfn E "want_at_most" (top 17) ["what", "limit", "number"]) (y : Str) (l n : Int) (h : n ≤ l) : E.Fn "want_at_most" 1 [.str y, .int l, .int n] (· = .is .non) := by
  refine Wd.fn G D scAtMost fun f cdv A outer s H E0 B Hr hr hp => ?_
  refine wg_ifF (tg_gt (eg_var 2 rfl rfl) (eg_var 1 rfl rfl) (decide_eq_false (by omega))) ?_
  exact wg_fall rfl
theorem scIsNumber : scOk (top 24) ["value"] ["value"] := ⟨rfl, rfl, rfl, by decide +kernel, rfl, by decide +kernel, by decide +kernel⟩
def isNuT (t : T) : Bool := isIntT t || isRT t
theorem ok_isNumber {E : Wd} (G : Glo E) (C : Cla E) (D : Dfn E "is_number" (top 24) ["value"]) (h1 : isInteger E) (t : T) (ht : okT t = true) : E.Fn "is_number" 2 [t] (· = .bl (isNuT t)) := by
  refine Wd.fn G D scIsNumber fun f cdv A outer s H E0 B Hr hr hp => ?_
  refine wg_retq (eg_or (d := isIntT t) (eg_fn (h1 t ht) (hr.mono (by decide)) rfl (ag_one (eg_var 0 rfl rfl)) rfl fun t z => z) (fun z => eg_one ((eg_isR G C ht (eg_var 0 rfl rfl) rfl).imp fun u hu => ?_)) fun z => ?_)
  · rw [hu]; unfold isNuT; rw [z]; rfl
  · unfold isNuT; rw [z]; rfl
theorem scRatioOf : scOk (top 25) ["number"] ["number"] := ⟨rfl, rfl, rfl, by decide +kernel, rfl, by decide +kernel, by decide +kernel⟩
theorem ok_ratioOf {E : Wd} (G : Glo E) (C : Cla E) (D : Dfn E "ratio_of" (top 25) ["number"]) (h2 : makesRatio E) (t : T) (q : Rat) (h : NT t q) : E.Fn "ratio_of" 38 [t] (· = T.rat q) := by
  refine Wd.fn G D scRatioOf fun f cdv A outer s H E0 B Hr hr hp => ?_
  rcases h with rfl | ⟨n, rfl, rfl⟩
  · exact wg_retq (eg_if (Pt := (· = true)) (tg_val (Pa := (· = .bl true)) (eg_isR G C (t := T.rat q) rfl (eg_var 0 rfl rfl) rfl) fun t z => ⟨_, z, rfl⟩) (fun _ => eg_var 0 rfl rfl) fun z => by cases z)
  · exact wg_retq (eg_if (Pt := (· = false)) (tg_val (Pa := (· = .bl false)) (eg_isR G C (t := T.int n) rfl (eg_var 0 rfl rfl) rfl) fun t z => ⟨_, z, rfl⟩) (fun z => by cases z) fun _ => eg_rat1 h2 hr (eg_var 0 rfl rfl) rfl)
/-! ### trailing noughts -/
def trimZ {α : Type} (z : α → Bool) : List α → List α
  | [] => []
  | c :: f => match trimZ z f with
    | [] => if z c then [] else [c]
    | g => c :: g
theorem trimZ_cons {α : Type} (z : α → Bool) (c : α) (f : List α) : trimZ z (c :: f) = if (trimZ z f).isEmpty && z c then [] else c :: trimZ z f := by
  show (match trimZ z f with | [] => if z c then [] else [c] | g => c :: g) = _
  cases h : trimZ z f with
  | nil => simp
  | cons a l => simp
theorem trimZ_nil {α : Type} {z : α → Bool} : ∀ {f : List α}, (∀ c ∈ f, z c = true) → trimZ z f = []
  | [], _ => rfl
  | c :: f, h => by
    rw [trimZ_cons, trimZ_nil (fun d hd => h d (List.mem_cons_of_mem _ hd)), h c (List.mem_cons_self ..)]
    rfl
theorem trimZ_take {α : Type} {z : α → Bool} : ∀ {f : List α} {m : Nat}, (∀ c ∈ f.drop m, z c = true) → (m = 0 ∨ ∃ c, f[m - 1]? = some c ∧ z c = false) → f.take m = trimZ z f
  | [], m, _, _ => by simp [trimZ]
  | c :: f, 0, h, _ => by
    rw [trimZ_nil (by simpa using h)]; rfl
  | c :: f, 1, h, h2 => by
    rcases h2 with h2 | ⟨d, e, hd⟩
    · omega
    · simp at e; subst e
      have : trimZ z f = [] := trimZ_nil (by simpa using h)
      rw [trimZ_cons, this, hd]; rfl
  | c :: f, m + 2, h, h2 => by
    rcases h2 with h2 | ⟨d, e, hd⟩
    · omega
    · have e' : f[m]? = some d := by simpa using e
      have ih : f.take (m + 1) = trimZ z f := trimZ_take (m := m + 1) (by simpa using h) (.inr ⟨d, by simpa using e', hd⟩)
      have hne : (trimZ z f).isEmpty = false := by
        rw [← ih]
        cases f with
        | nil => simp at e'
        | cons a l => rfl
      rw [trimZ_cons, hne, ← ih]
      rfl
abbrev trimF (f : List Rat) : List Rat := trimZ (fun q => decide (q = 0)) f
abbrev trimI (f : List Int) : List Int := trimZ (fun q => decide (q = 0)) f
theorem poly_get {f : List Rat} {j : Nat} {q : Rat} (h : f[j]? = some q) : (f.map T.rat)[j]? = some (T.rat q) := by rw [List.getElem?_map, h]; rfl
theorem ints_get {f : List Int} {j : Nat} {q : Int} (h : f[j]? = some q) : (f.map T.int)[j]? = some (T.int q) := by rw [List.getElem?_map, h]; rfl
theorem scTrimmed : scOk (top 32) ["ratios", "many"] ["ratios"] := ⟨rfl, rfl, rfl, by decide +kernel, rfl, by decide +kernel, by decide +kernel⟩
theorem ok_trimmed {E : Wd} (G : Glo E) (C : Cla E) (D : Dfn E "trimmed" (top 32) ["ratios"]) (f : List Rat) : E.Fn "trimmed" 1 [.poly f] (· = .poly (trimF f)) := by
  refine Wd.fn G D scTrimmed fun f0 cdv A outer s H E0 B Hr hr hp => ?_
  refine wg_set 1 scTrimmed.nd (Pa := (· = .int (f.length : Int))) (eg_lenL (ts := f.map T.rat) (eg_var 0 rfl rfl) rfl G.len (by rw [List.length_map])) ?_
  rintro t rfl
  refine wg_while (fun m G' => G' = [.sh (.poly f), .sh (.int (m : Int))] ∧ m ≤ f.length ∧ ∀ c ∈ f.drop m, decide (c = 0) = true) rfl ⟨f.length, rfl, Nat.le_refl _, by simp⟩ ?_
  rintro m G' ⟨rfl, hm, hz⟩
  have fin : (m = 0 ∨ ∃ c, f[m - 1]? = some c ∧ decide (c = 0) = false) → WG ⟨E.c, B, Hr, none⟩ (cxB E.P E.w E.c.K E.mg E.base ["ratios", "many"] "trimmed" (defScope (top 32)) f0 cdv A outer s H E0) [.sh (.poly f), .sh (.int (m : Int))] ((defBody (top 32)).drop 2) (fnE ⟨E.c, B, Hr, none⟩ (· = .poly (trimF f))) := fun h => by
    have e := trimZ_take hz h
    refine wg_retq (eg_fr (P := (· = (f.take m).map T.rat)) (fg_list rfl (eg_fr (P := (· = (f.take m).map T.rat)) (fg_take (ts := f.map T.rat) (eg_var 0 rfl rfl) (eg_var 1 rfl rfl) (by rw [List.length_map]; exact hm) (by rw [List.map_take])) fun ts hts => .inl (by rw [hts])) rfl G.lst rfl) fun ts hts => ?_)
    rw [hts, e]; rfl
  match m, hm, hz, fin with
  | 0, hm, hz, fin => exact ⟨(· = false), UG.tg (ug_and (Pt := (· = false)) (tg_gt (eg_var 1 rfl rfl) (eg_int rfl) rfl) (fun z => by cases z) fun _ => rfl), (fun z => by cases z), fun _ => fin (.inl rfl)⟩
  | k + 1, hm, hz, fin =>
    have hk : k < f.length := by omega
    have ek : f[k]? = some f[k] := List.getElem?_eq_getElem hk
    refine ⟨(· = decide (f[k] = 0)), UG.tg (ug_and (Pt := (· = true)) (tg_gt (eg_var 1 rfl rfl) (eg_int rfl) (decide_eq_true (by omega))) (fun z => ug_and1 (tg_eq (v := .int f[k].num) (w := .int 0) (eg_top rfl (C.clo _) (eg_ixL rfl (eg_var 0 rfl rfl) (eg_sub (Phi := (· = .int ((k + 1 : Nat) - 1 : Int))) (eg_var 1 rfl rfl) (eg_int rfl) rfl) (fun _ _ => rfl) (u := T.rat f[k]) (by rw [show ((k + 1 : Nat) - 1 : Int) = ((k : Nat) : Int) by omega]; exact tAt_nat (poly_get ek)) rfl) rfl) (eg_int rfl) rfl ?_)) fun z => by cases z), fun z => ?_, fun z => fin (.inr ⟨f[k], ek, z.symm⟩)⟩
    · have : (V.int f[k].num = V.int 0) ↔ f[k] = 0 := ⟨fun z => Rat.num_eq_zero.mp (by injection z), fun z => by rw [z]; rfl⟩
      simp [this]
    · refine wg_set 1 scTrimmed.nd (Pa := (· = .int (k : Int))) (eg_sub (eg_var 1 rfl rfl) (eg_int rfl) (by show T.int _ = T.int _; rw [show ((k + 1 : Nat) - 1 : Int) = ((k : Nat) : Int) by omega])) ?_
      rintro t rfl
      refine wg_end ⟨k, by omega, rfl, by omega, fun c hc => ?_⟩
      rw [List.drop_eq_getElem_cons hk] at hc
      rcases List.mem_cons.mp hc with rfl | hc
      · exact z.symm
      · exact hz c hc
end My

set_option Elab.async false
set_option linter.all false
set_option maxRecDepth 100000
set_option maxHeartbeats 4000000
/-! Df4: wholes, polys. -/
namespace My
open PySem L2 PyProof.Rows
section
variable {b : Bs} {X : Cx} {G : List En} {e a c : Expr} {es : List Expr} {p pos : Pos} {Phi : T → Prop} {sts : List Stmt} {D : Ends} {P : List T → Prop}
/-- a slot is forgotten -/
theorem wg_no (i : Nat) (h : WG b X (G.set i .no) sts D) : WG b X G sts D := fun σ H Hr s => by
  refine h σ H Hr { s with ln := by rw [List.length_set]; exact s.ln, slot := fun j e hj => ?_, apart := fun j k q ts us n e1 e2 => ?_ }
  · by_cases z : j = i
    · subst z
      have iG : j < G.length := by
        have := (List.getElem?_eq_some_iff.mp hj).1
        rw [List.length_set] at this; exact this
      rw [List.getElem?_set_self iG] at hj; cases hj; trivial
    · rw [List.getElem?_set_ne (Ne.symm z)] at hj; exact s.slot j e hj
  · by_cases z : j = i
    · subst z
      have iG : j < G.length := by
        have := (List.getElem?_eq_some_iff.mp e1).1
        rw [List.length_set] at this; exact this
      rw [List.getElem?_set_self iG] at e1; cases e1
    · by_cases y : k = i
      · subst y
        have iG : k < G.length := by
          have := (List.getElem?_eq_some_iff.mp e2).1
          rw [List.length_set] at this; exact this
        rw [List.getElem?_set_self iG] at e2; cases e2
      · rw [List.getElem?_set_ne (Ne.symm z)] at e1; rw [List.getElem?_set_ne (Ne.symm y)] at e2
        exact s.apart j k q ts us n e1 e2
/-- a constant of the module -/
theorem eg_gint {x : Str} {n : Int} (hm : ∃ t, X.mg x = some (.int n t)) (hP : Phi (.int n)) (hg : Gl X x := by rfl) (hd : (x == ("__debug__" : Str)) = false := by decide) : EG b X G (.Name x p) Phi := by
  obtain ⟨t, hm⟩ := hm
  exact eg_c (j := none) (pe_glob (v := .int n) hg hm ⟨t, rfl⟩ hd) hP
theorem eg_gstr {x y : Str} (hm : ∃ t, X.mg x = some (.str y t)) (hP : Phi (.str y)) (hg : Gl X x := by rfl) (hd : (x == ("__debug__" : Str)) = false := by decide) : EG b X G (.Name x p) Phi := by
  obtain ⟨t, hm⟩ := hm
  exact eg_c (j := none) (pe_glob (v := .str y) hg hm ⟨t, rfl⟩ hd) hP
/-- a list or a tuple -/
def SeqT (t : T) (ts : List T) : Prop := t = .lst ts ∨ t = .tup ts
theorem ig_seq {t : T} {ts : List T} {tg : Expr} (h : SeqT t ts) (hK : b.c.K = X.K) (he : EG b X G e (· = t)) (hP : P ts) : IG b X G tg e P := by
  rcases h with rfl | rfl
  · exact ig_lst he fun t ht => ⟨ts, ht, hP⟩
  · exact ig_tup hK he hP
theorem eg_lenS {t : T} {ts : List T} (h : SeqT t ts) (hK : b.c.K = X.K) (ha : EG b X G a (· = t)) (hg : Gl X "len") (hm : X.mg "len" = none) (hP : Phi (.int (ts.length : Int))) (he : starEach [a] X.env = (false, eval a X.env) :: starEach [] X.env := by rfl) : EG b X G (.Call (.Name "len" p) [a] [] pos) Phi := by
  rcases h with rfl | rfl
  · exact eg_lenL ha hg hm hP he
  · exact eg_lenT hK ha hg hm hP he
end
/-! ### wholes -/
def dl (f : List Rat) : Nat := f.foldl (fun b q => Nat.lcm b q.den) 1
theorem dl_snoc (f : List Rat) (q : Rat) : dl (f ++ [q]) = Nat.lcm (dl f) q.den := by unfold dl; rw [List.foldl_append]; rfl
theorem fold_dvd (d : Nat) : ∀ (f : List Rat) (n : Nat), n ∣ d → (∀ q ∈ f, q.den ∣ d) → f.foldl (fun b q => Nat.lcm b q.den) n ∣ d
  | [], n, h, _ => h
  | q :: f, n, h, h2 => fold_dvd d f _ (Nat.lcm_dvd h (h2 q (List.mem_cons_self ..))) fun r hr => h2 r (List.mem_cons_of_mem _ hr)
theorem dl_dvd {f : List Rat} {d : Nat} (h : ∀ q ∈ f, q.den ∣ d) : dl f ∣ d := fold_dvd d f 1 (Nat.one_dvd _) h
theorem fold_le (f : List Rat) : ∀ (n : Nat), n ∣ f.foldl (fun b q => Nat.lcm b q.den) n ∧ ∀ q ∈ f, q.den ∣ f.foldl (fun b q => Nat.lcm b q.den) n := by
  induction f with
  | nil => exact fun n => ⟨Nat.dvd_refl _, fun q hq => by cases hq⟩
  | cons a f ih =>
    intro n
    obtain ⟨h1, h2⟩ := ih (Nat.lcm n a.den)
    refine ⟨Nat.dvd_trans (Nat.dvd_lcm_left _ _) h1, fun q hq => ?_⟩
    rcases List.mem_cons.mp hq with rfl | hq
    · exact Nat.dvd_trans (Nat.dvd_lcm_right _ _) h1
    · exact h2 q hq
theorem den_dl {f : List Rat} {q : Rat} (h : q ∈ f) : q.den ∣ dl f := (fold_le f 1).2 q h
theorem dl_pos (f : List Rat) : 0 < dl f := by
  have : ∀ (f : List Rat) (n : Nat), 0 < n → 0 < f.foldl (fun b q => Nat.lcm b q.den) n := by
    intro f
    induction f with
    | nil => exact fun n h => h
    | cons a f ih => exact fun n h => ih _ (Nat.lcm_pos h a.den_pos)
  exact this f 1 (by decide)
/-- the wholes of a poly -/
def wholeI (f : List Rat) : List Int := f.map fun q => q.num * ((dl f : Int) / (q.den : Int))
/-- small enough to be made whole -/
structure Wh (f : List Rat) : Prop where
  d : ∃ d : Nat, 0 < d ∧ d < 2 ^ 13000 ∧ ∀ q ∈ f, q.den ∣ d
  n : ∀ q ∈ f, SzI q.num
  l : f.length < 1000
theorem Wh.den {f : List Rat} (h : Wh f) {q : Rat} (hq : q ∈ f) : q.den < 2 ^ 13000 := by
  obtain ⟨d, h1, h2, h3⟩ := h.d
  exact Nat.lt_of_le_of_lt (Nat.le_of_dvd h1 (h3 q hq)) h2
theorem Wh.dl {f : List Rat} (h : Wh f) (k : Nat) : dl (f.take k) < 2 ^ 13000 := by
  obtain ⟨d, h1, h2, h3⟩ := h.d
  exact Nat.lt_of_le_of_lt (Nat.le_of_dvd h1 (dl_dvd fun q hq => h3 q (List.mem_of_mem_take hq))) h2
theorem sz_13 {n : Nat} (h : n < 2 ^ 13000) : SzI (n : Int) := by
  show (n : Int).natAbs < 2 ^ szB
  rw [Int.natAbs_natCast]
  exact Nat.lt_of_lt_of_le h (Nat.pow_le_pow_right (by decide) (by unfold szB; decide))
theorem scWholes : scOk (top 27) ["ratios", "bottom", "ratio"] ["ratios"] := ⟨rfl, rfl, rfl, by decide +kernel, rfl, by decide +kernel, by decide +kernel⟩
theorem ok_wholes {E : Wd} (G : Glo E) (C : Cla E) (D : Dfn E "wholes" (top 27) ["ratios"]) (f : List Rat) (h : Wh f) : E.Fn "wholes" 36 [.poly f] (· = .tup [.int (dl f : Int), .ints (wholeI f)]) := by
  refine Wd.fn G D scWholes fun f0 cdv A outer s H E0 B Hr hr hp => ?_
  have py := hp (by decide)
  refine wg_set 1 scWholes.nd (Pa := (· = .int 1)) (eg_int rfl) ?_
  rintro t rfl
  refine wg_for (P := (· = f.map T.rat)) 2 (fun items k G' => ∃ r, G' = [.sh (.poly f), .sh (.int (dl (f.take k) : Int)), r]) rfl rfl scWholes.nd (ig_lst (Pa := (· = .poly f)) (eg_var 0 rfl rfl) fun t ht => ⟨_, ht, rfl⟩) (fun items hi => ⟨_, rfl⟩) (fun items k G' ⟨r, hG⟩ => by rw [hG]; exact of_decide_eq_true rfl) (fun items hi R' k t G' dn ht ⟨r, hG⟩ => ?_) (fun items G' hi ⟨r, hG⟩ => ?_)
  · subst hi; subst hG
    rw [List.getElem?_map] at ht
    cases hk : f[k]? with
    | none => rw [hk] at ht; cases ht
    | some q =>
      rw [hk] at ht; cases ht
      have hq : q ∈ f := List.mem_of_getElem? hk
      refine wg_set 1 scWholes.nd (Pa := (· = .int (dl (f.take (k + 1)) : Int))) (eg_lcm (eg_var 1 rfl rfl) (eg_bot (t := .int q.num) (u := .int (q.den : Int)) rfl (C.clo .R) (eg_var 2 rfl rfl) rfl) (by rw [Int.natAbs_natCast]; exact h.dl k) (by rw [Int.natAbs_natCast]; exact h.den hq) rfl G.lcm ?_) ?_
      · rw [List.take_add_one, hk]
        show T.int _ = T.int _
        rw [show (f.take k ++ (some q).toList) = f.take k ++ [q] from rfl, dl_snoc, Int.natAbs_natCast, Int.natAbs_natCast]
      · rintro t rfl
        exact wg_end ⟨_, rfl⟩
  · subst hi; subst hG
    rw [List.length_map, List.take_length]
    refine wg_no 2 ?_
    refine wg_retq (eg_tup (A1 := (· = [.int (dl f : Int), .ints (wholeI f)])) (ag_cons (eg_var 1 rfl rfl) (ag_one (eg_fr (fg_lcL 2 f T.rat (fun q => T.int (q.num * ((dl f : Int) / (q.den : Int)))) scWholes.nd (fun a _ a' _ e => by rw [rat_inj e]) (ig_lst (Pa := (· = .poly f)) (eg_var 0 rfl rfl) fun t ht => ⟨_, ht, rfl⟩) h.l (fun q hq R' s1 H1 C1 cl fp => ?_) rfl) fun ts hts => by subst hts; unfold wholeI T.ints; rw [List.map_map]; rfl))) fun ts hts => by subst hts; exact ⟨of_decide_eq_true rfl, rfl⟩)
    have hdv : (q.den : Int) ∣ (dl f : Int) := Int.natCast_dvd_natCast.mpr (den_dl hq)
    refine eg_mul (eg_top (t := .int q.num) (u := .int (q.den : Int)) rfl (C.clo .R) (eg_var 2 rfl rfl) rfl) (eg_fdiv (py.blk _ _ _ _ _ _) (eg_var 1 rfl rfl) (eg_bot (t := .int q.num) (u := .int (q.den : Int)) rfl (C.clo .R) (eg_var 2 rfl rfl) rfl) (den_ne q) (by rw [fdiv_dvd hdv])) ((h.n q hq).mul ?_) rfl
    rw [← Int.natCast_ediv]
    refine sz_13 (Nat.lt_of_le_of_lt (Nat.div_le_self _ _) ?_)
    have := h.dl f.length
    rwa [List.take_length] at this
/-! ### is_poly, want_poly -/
theorem scIsPoly : scOk (top 31) ["value", "number"] ["value"] := ⟨rfl, rfl, rfl, by decide +kernel, rfl, by decide +kernel, by decide +kernel⟩
abbrev isNumber (E : Wd) : Prop := ∀ t, okT t = true → E.Fn "is_number" 2 [t] (· = .bl (isNuT t))
theorem nt_nu {t : T} {q : Rat} (h : NT t q) : isNuT t = true := by rcases h with rfl | ⟨n, rfl, _⟩ <;> rfl
/-- ts are numbers, of these worths -/
def NTs (ts : List T) (f : List Rat) : Prop := ts.length = f.length ∧ ∀ (i : Nat) (t : T) (q : Rat), ts[i]? = some t → (f[i]? : Option Rat) = some q → NT t q
theorem NTs.mem {ts : List T} {f : List Rat} (h : NTs ts f) {t : T} (ht : t ∈ ts) : ∃ q, q ∈ f ∧ NT t q := by
  obtain ⟨i, hi⟩ := List.mem_iff_getElem?.mp ht
  have hl : i < f.length := by rw [← h.1]; exact (List.getElem?_eq_some_iff.mp hi).1
  exact ⟨f[i], List.getElem_mem hl, h.2 i t f[i] hi (List.getElem?_eq_getElem hl)⟩
theorem ok_isPoly {E : Wd} (G : Glo E) (C : Cla E) (D : Dfn E "is_poly" (top 31) ["value"]) (h1 : ∀ t, isLiT t = true → E.Fn "is_list" 1 [t] (· = .bl true)) (h2 : isNumber E) (t : T) (ts : List T) (f : List Rat) (ht : SeqT t ts) (hf : NTs ts f) (hl : f.length ≤ 25) : E.Fn "is_poly" 3 [t] (· = .bl true) := by
  refine Wd.fn G D scIsPoly fun f0 cdv A outer s H E0 B Hr hr hp => ?_
  have hlt : isLiT t = true := by rcases ht with rfl | rfl <;> rfl
  refine wg_retq (eg_and (d := true) (eg_fn (h1 t hlt) (hr.mono (by decide)) rfl (ag_one (eg_var 0 rfl rfl)) rfl fun t z => z) (fun _ => eg_and (d := true) (eg_le (eg_lenS ht rfl (eg_var 0 rfl rfl) rfl G.len rfl) (eg_gint G.num rfl) (by rw [decide_eq_true (by rw [hf.1]; omega)])) (fun _ => eg_one ?_) fun z => by cases z) fun z => by cases z)
  refine eg_all (bs := ts.map fun _ => true) rfl (eg_fr (P := (· = (ts.map fun _ => T.bl true))) (fg_lcL 1 ts id (fun _ => T.bl true) scIsPoly.nd (fun _ _ _ _ _ => rfl) (ig_seq ht rfl (eg_var 0 rfl rfl) (by rw [List.map_id])) (by rw [hf.1]; omega) (fun a ha R' s1 H1 C1 cl fp => ?_) rfl) fun ts hts => by subst hts; rw [List.map_map]; rfl) rfl G.all ?_
  · obtain ⟨q, _, hq⟩ := hf.mem ha
    exact eg_fn (h2 a (nt_ok hq)) (Room.mono hr (by decide)) rfl (ag_one (eg_var 1 rfl rfl)) rfl fun t z => by rw [z, nt_nu hq]
  · show T.bl _ = T.bl true
    congr 1
    simp
theorem scWantPoly : scOk (top 33) ["value", "number"] ["value"] := ⟨rfl, rfl, rfl, by decide +kernel, rfl, by decide +kernel, by decide +kernel⟩
abbrev ratioOf (E : Wd) : Prop := ∀ (t : T) (q : Rat), NT t q → E.Fn "ratio_of" 38 [t] (· = T.rat q)
theorem nt_fun {t : T} {q r : Rat} (h : NT t q) (g : NT t r) : q = r := by
  rcases h with rfl | ⟨n, rfl, rfl⟩
  · rcases g with g | ⟨m, g, rfl⟩
    · exact rat_inj g
    · cases g
  · rcases g with g | ⟨m, g, rfl⟩
    · cases g
    · rw [tint_inj g]
theorem ok_wantPoly {E : Wd} (G : Glo E) (D : Dfn E "want_poly" (top 33) ["value"]) (h1 : ∀ (t : T) (ts : List T) (f : List Rat), SeqT t ts → NTs ts f → f.length ≤ 25 → E.Fn "is_poly" 3 [t] (· = .bl true)) (h2 : ratioOf E) (h3 : ∀ f, E.Fn "trimmed" 1 [.poly f] (· = .poly (trimF f))) (t : T) (ts : List T) (f : List Rat) (ht : SeqT t ts) (hf : NTs ts f) (hl : f.length ≤ 25) : E.Fn "want_poly" 39 [t] (· = .poly (trimF f)) := by
  refine Wd.fn G D scWantPoly fun f0 cdv A outer s H E0 B Hr hr hp => ?_
  refine wg_ifF (tg_not (Pt := (· = true)) (tg_val (Pa := (· = .bl true)) (eg_fn (h1 t ts f ht hf hl) (hr.mono (by decide)) rfl (ag_one (eg_var 0 rfl rfl)) rfl fun t z => z) fun t z => ⟨_, z, rfl⟩) fun d z => by rw [z]; rfl) ?_
  have hz : (ts.zip f).map Prod.fst = ts := List.map_fst_zip (by rw [hf.1]; exact Nat.le_refl _)
  have hz2 : (ts.zip f).map (fun p => T.rat p.2) = f.map T.rat := by
    rw [show (fun p : T × Rat => T.rat p.2) = T.rat ∘ Prod.snd from rfl, ← List.map_map, List.map_snd_zip (by rw [hf.1]; exact Nat.le_refl _)]
  have hm : ∀ p ∈ ts.zip f, NT p.1 p.2 := fun p hp => by
    obtain ⟨i, hi⟩ := List.mem_iff_getElem?.mp hp
    obtain ⟨e1, e2⟩ := List.getElem?_zip_eq_some.mp hi
    exact hf.2 i _ _ e1 e2
  refine wg_retq (eg_fn (h3 f) (hr.mono (by decide)) rfl (ag_one (eg_fr (fg_lcL 1 (ts.zip f) Prod.fst (fun p => T.rat p.2) scWantPoly.nd (fun a ha a' ha' e => ?_) (ig_seq ht rfl (eg_var 0 rfl rfl) hz.symm) (by rw [List.length_zip, hf.1]; omega) (fun a ha R' s1 H1 C1 cl fp => ?_) rfl) fun ts hts => by subst hts; rw [hz2]; rfl)) rfl fun t z => z)
  · have := hm a' ha'
    rw [← e] at this
    rw [nt_fun (hm a ha) this]
  · exact eg_fn (h2 a.1 a.2 (hm a ha)) hr rfl (ag_one (eg_var 1 rfl rfl)) rfl fun t z => z
end My

set_option Elab.async false
set_option linter.all false
set_option maxRecDepth 100000
set_option maxHeartbeats 4000000
/-! Df5: sums and products of polys. -/
namespace My
open PySem L2 PyProof.Rows
/-! ### sums -/
def addL : List Rat → List Rat → List Rat
  | [], g => g
  | f, [] => f
  | a :: f, b :: g => (a + b) :: addL f g
theorem addL_nil (f : List Rat) : addL f [] = f := by cases f <;> rfl
theorem addL_comm : ∀ f g : List Rat, addL f g = addL g f
  | [], g => by rw [addL_nil]; rfl
  | a :: f, [] => rfl
  | a :: f, b :: g => by unfold addL; rw [Rat.add_comm, addL_comm f g]
theorem addL_len : ∀ f g : List Rat, (addL f g).length = max f.length g.length
  | [], g => by show g.length = _; simp
  | a :: f, [] => by show (a :: f).length = _; simp
  | a :: f, b :: g => by
    show (addL f g).length + 1 = _
    rw [addL_len f g]; simp only [List.length_cons]; omega
theorem addL_get : ∀ (f g : List Rat) (i : Nat), g.length ≤ f.length → (addL f g)[i]? = if h : i < f.length then some (if h2 : i < g.length then f[i] + g[i] else f[i]) else none
  | [], [], i, _ => by simp [addL]
  | [], b :: g, i, h => by simp at h
  | a :: f, [], i, _ => by
    show (a :: f)[i]? = _
    by_cases hi : i < (a :: f).length
    · rw [List.getElem?_eq_getElem hi, dif_pos hi, dif_neg (by simp)]
    · rw [List.getElem?_eq_none (by omega), dif_neg hi]
  | a :: f, b :: g, 0, _ => by simp [addL]
  | a :: f, b :: g, i + 1, h => by
    show (addL f g)[i]? = _
    rw [addL_get f g i (Nat.le_of_succ_le_succ h)]
    by_cases hi : i < f.length
    · rw [dif_pos hi, dif_pos (show i + 1 < (a :: f).length by rw [List.length_cons]; omega)]
      by_cases h2 : i < g.length
      · rw [dif_pos h2, dif_pos (show i + 1 < (b :: g).length by rw [List.length_cons]; omega)]; rfl
      · rw [dif_neg h2, dif_neg (show ¬ i + 1 < (b :: g).length by rw [List.length_cons]; omega)]; rfl
    · rw [dif_neg hi, dif_neg (by rw [List.length_cons]; omega)]
theorem addL_range (f g : List Rat) (h : g.length ≤ f.length) : (List.range f.length).map (fun i => if i < g.length then f.getD i 0 + g.getD i 0 else f.getD i 0) = addL f g := by
  apply List.ext_getElem?
  intro i
  rw [addL_get f g i h, List.getElem?_map]
  by_cases hi : i < f.length
  · rw [dif_pos hi, List.getElem?_range hi]
    show some (if i < g.length then f.getD i 0 + g.getD i 0 else f.getD i 0) = some _
    congr 1
    rw [List.getD_eq_getElem?_getD, List.getElem?_eq_getElem hi]
    by_cases h2 : i < g.length
    · rw [if_pos h2, dif_pos h2, List.getD_eq_getElem?_getD, List.getElem?_eq_getElem h2]; rfl
    · rw [if_neg h2, dif_neg h2]; rfl
  · rw [dif_neg hi, List.getElem?_eq_none (by simpa using hi)]; rfl
/-- all of a poly's numbers are small -/
def Szs (f : List Rat) : Prop := ∀ q ∈ f, Sz q
def sumF (f g : List Rat) : List Rat := trimF (addL f g)
abbrev addOp (E : Wd) : Prop := ∀ (q r : Rat) (t : T), NT t r → Sz q → Sz r → E.Op .R .Add 38 [T.rat q, t] (· = T.rat (q + r))
abbrev mulOp (E : Wd) : Prop := ∀ (q r : Rat) (t : T), NT t r → Sz q → Sz r → E.Op .R .Mult 38 [T.rat q, t] (· = T.rat (q * r))
abbrev subOp (E : Wd) : Prop := ∀ (q r : Rat) (t : T), NT t r → Sz q → Sz r → E.Op .R .Sub 38 [T.rat q, t] (· = T.rat (q - r))
abbrev overM (E : Wd) : Prop := ∀ (q r : Rat) (t : T), NT t r → Sz q → Sz r → r ≠ 0 → E.Me .R "over" 38 [T.rat q, t] (· = T.rat (q / r))
abbrev trimmedF (E : Wd) : Prop := ∀ f, E.Fn "trimmed" 1 [.poly f] (· = .poly (trimF f))
theorem nt_r (q : Rat) : NT (T.rat q) q := .inl rfl
theorem nt_i (n : Int) : NT (T.int n) (n : Rat) := .inr ⟨n, rfl, rfl⟩
section
variable {E : Wd} {b : Bs} {X : Cx} {Gm : List En} {e e2 : Expr} {p pos apos : Pos} {Phi : T → Prop} {q r : Rat} {t : T}
/-- a + c, a a Ratio -/
theorem eg_addR (h : addOp E) (hr : Room 38 X.A) (he : EG b X Gm e (· = T.rat q)) (he2 : EG b X Gm e2 (· = t)) (ht : NT t r) (hq : Sz q) (hs : Sz r) (hP : Phi (T.rat (q + r))) (hc : b.c = E.c := by rfl) (hm : X.mg = E.mg := by rfl) (hK : X.K = E.K := by rfl) (hp1 : X.prog = E.P := by rfl) (hw : X.w = E.w := by rfl) (hbs : X.base = E.base := by rfl) : EG b X Gm (.BinOp e .Add e2 pos) Phi := by
  obtain ⟨c, B, R, pot⟩ := b
  have hc' : c = E.c := hc
  subst hc'
  have M : OCal E.P E.w E.K E.mg E.base (E.c.cl .R) .Add 38 (spOf E.c (· = [T.rat q, t]) fun _ u => u = T.rat (q + r)) := h q r t ht hq hs
  rw [← hp1, ← hw, ← hK, ← hm, ← hbs] at M
  rcases ht with rfl | ⟨n, rfl, rfl⟩
  · exact eg_own (kn := .R) M hr he he2 rfl fun u z => by rw [z]; exact hP
  · exact eg_ownI (kn := .R) M hr he he2 rfl fun u z => by rw [z]; exact hP
theorem eg_subR (h : subOp E) (hr : Room 38 X.A) (he : EG b X Gm e (· = T.rat q)) (he2 : EG b X Gm e2 (· = t)) (ht : NT t r) (hq : Sz q) (hs : Sz r) (hP : Phi (T.rat (q - r))) (hc : b.c = E.c := by rfl) (hm : X.mg = E.mg := by rfl) (hK : X.K = E.K := by rfl) (hp1 : X.prog = E.P := by rfl) (hw : X.w = E.w := by rfl) (hbs : X.base = E.base := by rfl) : EG b X Gm (.BinOp e .Sub e2 pos) Phi := by
  obtain ⟨c, B, R, pot⟩ := b
  have hc' : c = E.c := hc
  subst hc'
  have M : OCal E.P E.w E.K E.mg E.base (E.c.cl .R) .Sub 38 (spOf E.c (· = [T.rat q, t]) fun _ u => u = T.rat (q - r)) := h q r t ht hq hs
  rw [← hp1, ← hw, ← hK, ← hm, ← hbs] at M
  rcases ht with rfl | ⟨n, rfl, rfl⟩
  · exact eg_own (kn := .R) M hr he he2 rfl fun u z => by rw [z]; exact hP
  · exact eg_ownI (kn := .R) M hr he he2 rfl fun u z => by rw [z]; exact hP
theorem eg_mulR (h : mulOp E) (hr : Room 38 X.A) (he : EG b X Gm e (· = T.rat q)) (he2 : EG b X Gm e2 (· = t)) (ht : NT t r) (hq : Sz q) (hs : Sz r) (hP : Phi (T.rat (q * r))) (hc : b.c = E.c := by rfl) (hm : X.mg = E.mg := by rfl) (hK : X.K = E.K := by rfl) (hp1 : X.prog = E.P := by rfl) (hw : X.w = E.w := by rfl) (hbs : X.base = E.base := by rfl) : EG b X Gm (.BinOp e .Mult e2 pos) Phi := by
  obtain ⟨c, B, R, pot⟩ := b
  have hc' : c = E.c := hc
  subst hc'
  have M : OCal E.P E.w E.K E.mg E.base (E.c.cl .R) .Mult 38 (spOf E.c (· = [T.rat q, t]) fun _ u => u = T.rat (q * r)) := h q r t ht hq hs
  rw [← hp1, ← hw, ← hK, ← hm, ← hbs] at M
  rcases ht with rfl | ⟨n, rfl, rfl⟩
  · exact eg_own (kn := .R) M hr he he2 rfl fun u z => by rw [z]; exact hP
  · exact eg_ownI (kn := .R) M hr he he2 rfl fun u z => by rw [z]; exact hP
/-- a.over(c) -/
theorem eg_over {pl : Sem Bool} (h : overM E) (hr : Room 38 X.A) (he : EG b X Gm e (· = T.rat q)) (he2 : EG b X Gm e2 (· = t)) (ht : NT t r) (hq : Sz q) (hs : Sz r) (h0 : r ≠ 0) (hP : Phi (T.rat (q / r))) (hc : b.c = E.c := by rfl) (hC : ∀ k, ClO E.c k) (hm : X.mg = E.mg := by rfl) (hK : X.K = E.K := by rfl) (hp1 : X.prog = E.P := by rfl) (hw : X.w = E.w := by rfl) (hbs : X.base = E.base := by rfl)
    (hst : starEach [e2] X.env = (false, eval e2 X.env) :: starEach [] X.env := by rfl) (hpl : (backTo pos (starEach [] X.env)).any (·.1) = false := by rfl)
    (htt : eval (.Call (.Attribute e "over" apos) [e2] [] pos) X.env = (do
      let ov ← eval e X.env
      standAt apos.atName
      let (f, first) ← holding [ov] (getMethod ov "over" pl)
      callWith pos f first (backTo pos (starEach [e2] X.env)) (backToKw pos (keywordEach [] X.env))) := by rfl) : EG b X Gm (.Call (.Attribute e "over" apos) [e2] [] pos) Phi := by
  obtain ⟨c, B, R, pot⟩ := b
  have hc' : c = E.c := hc
  subst hc'
  have M : MCal E.P E.w E.K E.mg E.base (E.c.cl .R) "over" 38 [] (spOf E.c (· = [T.rat q, t]) fun _ u => u = T.rat (q / r)) := h q r t ht hq hs h0
  rw [← hp1, ← hw, ← hK, ← hm, ← hbs] at M
  exact eg_meth (kn := .R) hK.symm (hC .R) M hr he (ag_one he2 hst) rfl (fun u z => by rw [z]; exact hP) (by decide +kernel) (by decide +kernel) hst hpl htt
end
theorem scSumOf : scOk (top 34) ["one", "other", "near", "far", "at"] ["one", "other"] := ⟨rfl, rfl, rfl, by decide +kernel, rfl, by decide +kernel, by decide +kernel⟩
theorem getD_at {f : List Rat} {i : Nat} (h : i < f.length) : f[i]? = some (f.getD i 0) := by
  rw [List.getD_eq_getElem?_getD, List.getElem?_eq_getElem h]; rfl
theorem szs_at {f : List Rat} {i : Nat} (hz : Szs f) (h : i < f.length) : Sz (f.getD i 0) := hz _ (List.mem_of_getElem? (getD_at h))
theorem ok_sumOf {E : Wd} (G : Glo E) (D : Dfn E "sum_of" (top 34) ["one", "other"]) (h1 : addOp E) (h3 : trimmedF E) (f g : List Rat) (hf : Szs f) (hg : Szs g) (lf : f.length < 1000) (lg : g.length < 1000) : E.Fn "sum_of" 39 [.poly f, .poly g] (· = .poly (sumF f g)) := by
  refine Wd.fn G D scSumOf fun f0 cdv A outer s H E0 B Hr hr hp => ?_
  have fin : ∀ n m : List Rat, Szs n → Szs m → m.length ≤ n.length → n.length < 1000 → addL n m = addL f g → WG ⟨E.c, B, Hr, none⟩ (cxB E.P E.w E.c.K E.mg E.base ["one", "other", "near", "far", "at"] "sum_of" (defScope (top 34)) f0 cdv A outer s H E0) [.sh (.poly f), .sh (.poly g), .sh (.poly n), .sh (.poly m), .no] ((defBody (top 34)).drop 1) (fnE ⟨E.c, B, Hr, none⟩ (· = .poly (sumF f g))) := fun n m hn hm hl hl2 e => by
    refine wg_retq (eg_fn (h3 (addL n m)) (hr.mono (by decide)) rfl (ag_one (eg_fr (fg_lcL 4 (List.range n.length) (fun i => T.int (i : Int)) (fun i => T.rat (if i < m.length then n.getD i 0 + m.getD i 0 else n.getD i 0)) scSumOf.nd (fun a _ a' _ e => ?_) (ig_rng (Pa := (· = .int (n.length : Int))) (eg_lenL (ts := n.map T.rat) (eg_var 2 rfl rfl) rfl G.len (by rw [List.length_map])) (fun t ht => ⟨_, ht, by omega, by omega, rfl⟩) rfl G.rng) (by simpa using hl2) (fun i hi R' s1 H1 C1 cl fp => ?_) rfl) fun ts hts => ?_)) rfl fun t z => by rw [z, e]; rfl)
    · have := tint_inj e
      rw [show a = a' by omega]
    · have hi' : i < n.length := by simpa using hi
      refine eg_if (Pt := (· = decide (i < m.length))) (tg_lt (eg_var 4 rfl rfl) (eg_lenL (ts := m.map T.rat) (eg_var 3 rfl rfl) rfl G.len rfl) ?_) (fun z => ?_) fun z => ?_
      · rw [List.length_map]; exact decide_eq_decide.mpr (by omega)
      · have h2 : i < m.length := of_decide_eq_true z.symm
        rw [if_pos h2]
        exact eg_addR h1 hr (eg_ixL rfl (eg_var 2 rfl rfl) (eg_var 4 rfl rfl) (fun _ _ => rfl) (tAt_nat (poly_get (getD_at hi'))) rfl) (eg_ixL rfl (eg_var 3 rfl rfl) (eg_var 4 rfl rfl) (fun _ _ => rfl) (tAt_nat (poly_get (getD_at h2))) rfl) (nt_r _) (szs_at hn hi') (szs_at hm h2) rfl
      · have h2 : ¬ i < m.length := of_decide_eq_false z.symm
        rw [if_neg h2]
        exact eg_ixL rfl (eg_var 2 rfl rfl) (eg_var 4 rfl rfl) (fun _ _ => rfl) (tAt_nat (poly_get (getD_at hi'))) rfl
    · subst hts
      rw [← addL_range n m hl]
      unfold T.poly
      rw [List.map_map]; rfl
  by_cases hl : g.length ≤ f.length
  · refine wg_unp 2 3 (Pa := (· = .tup [.poly f, .poly g])) (by decide) rfl rfl scSumOf.nd (eg_if (Pt := (· = true)) (tg_ge (eg_lenL (ts := f.map T.rat) (eg_var 0 rfl rfl) rfl G.len rfl) (eg_lenL (ts := g.map T.rat) (eg_var 1 rfl rfl) rfl G.len rfl) (decide_eq_true (by rw [List.length_map, List.length_map]; omega))) (fun _ => eg_tup (A1 := (· = [.poly f, .poly g])) (ag_cons (eg_var 0 rfl rfl) (ag_one (eg_var 1 rfl rfl))) fun ts hts => by subst hts; exact ⟨of_decide_eq_true rfl, rfl⟩) fun z => by cases z) fun t z => ⟨_, _, z, ?_⟩
    exact fin f g hf hg hl lf rfl
  · refine wg_unp 2 3 (Pa := (· = .tup [.poly g, .poly f])) (by decide) rfl rfl scSumOf.nd (eg_if (Pt := (· = false)) (tg_ge (eg_lenL (ts := f.map T.rat) (eg_var 0 rfl rfl) rfl G.len rfl) (eg_lenL (ts := g.map T.rat) (eg_var 1 rfl rfl) rfl G.len rfl) (decide_eq_false (by rw [List.length_map, List.length_map]; omega))) (fun z => by cases z) fun _ => eg_tup (A1 := (· = [.poly g, .poly f])) (ag_cons (eg_var 1 rfl rfl) (ag_one (eg_var 0 rfl rfl))) fun ts hts => by subst hts; exact ⟨of_decide_eq_true rfl, rfl⟩) fun t z => ⟨_, _, z, ?_⟩
    exact fin g f hg hf (by omega) lg (addL_comm g f)
/-! ### by_number -/
theorem scByNumber : scOk (top 35) ["poly", "ratio", "number"] ["poly", "ratio"] := ⟨rfl, rfl, rfl, by decide +kernel, rfl, by decide +kernel, by decide +kernel⟩
theorem ok_byNumber {E : Wd} (G : Glo E) (D : Dfn E "by_number" (top 35) ["poly", "ratio"]) (h1 : mulOp E) (h3 : trimmedF E) (f : List Rat) (r : Rat) (hf : Szs f) (hr' : Sz r) (lf : f.length < 1000) : E.Fn "by_number" 39 [.poly f, T.rat r] (· = .poly (trimF (f.map (· * r)))) := by
  refine Wd.fn G D scByNumber fun f0 cdv A outer s H E0 B Hr hr hp => ?_
  refine wg_retq (eg_fn (h3 (f.map (· * r))) (hr.mono (by decide)) rfl (ag_one (eg_fr (fg_lcL 2 f T.rat (fun q => T.rat (q * r)) scByNumber.nd (fun a _ a' _ e => by rw [rat_inj e]) (ig_lst (Pa := (· = .poly f)) (eg_var 0 rfl rfl) fun t ht => ⟨_, ht, rfl⟩) lf (fun q hq R' s1 H1 C1 cl fp => ?_) rfl) fun ts hts => by subst hts; unfold T.poly; rw [List.map_map]; rfl)) rfl fun t z => z)
  exact eg_mulR h1 hr (eg_var 2 rfl rfl) (eg_var 1 rfl rfl) (nt_r _) (hf q hq) hr' rfl
end My

set_option Elab.async false
set_option linter.all false
set_option maxRecDepth 100000
set_option maxHeartbeats 4000000
/-! Df6: products, division. -/
namespace My
open PySem L2 PyProof.Rows
section
variable {R : Type} [Add R] [Sub R] [Mul R] [OfNat R 0]
/-- cur[at + j] += l * far[j] -/
def rowA (l : R) : List R → Nat → List R → List R
  | [], _, cur => cur
  | r :: far, at_, cur => rowA l far (at_ + 1) (cur.set at_ (cur.getD at_ 0 + l * r))
/-- cur[at + j] -= l * far[j] -/
def rowS (l : R) : List R → Nat → List R → List R
  | [], _, cur => cur
  | r :: far, at_, cur => rowS l far (at_ + 1) (cur.set at_ (cur.getD at_ 0 - l * r))
def convA : List R → List R → Nat → List R → List R
  | [], _, _, cur => cur
  | l :: near, far, at_, cur => convA near far (at_ + 1) (rowA l far at_ cur)
theorem rowA_len (l : R) : ∀ (far : List R) (k : Nat) (cur : List R), (rowA l far k cur).length = cur.length
  | [], _, _ => rfl
  | r :: far, k, cur => by unfold rowA; rw [rowA_len l far, List.length_set]
theorem rowS_len (l : R) : ∀ (far : List R) (k : Nat) (cur : List R), (rowS l far k cur).length = cur.length
  | [], _, _ => rfl
  | r :: far, k, cur => by unfold rowS; rw [rowS_len l far, List.length_set]
theorem convA_len : ∀ (near far : List R) (k : Nat) (cur : List R), (convA near far k cur).length = cur.length
  | [], _, _, _ => rfl
  | l :: near, far, k, cur => by unfold convA; rw [convA_len near far, rowA_len]
end
theorem rowA_zero : ∀ (far : List Int) (k : Nat) (cur : List Int), rowA 0 far k cur = cur
  | [], _, _ => rfl
  | r :: far, k, cur => by
    unfold rowA
    rw [rowA_zero far, Int.zero_mul, Int.add_zero]
    by_cases h : k < cur.length
    · rw [List.getD_eq_getElem?_getD, List.getElem?_eq_getElem h]
      exact List.set_getElem_self h
    · exact List.set_eq_of_length_le (by omega)
theorem enum_at {α : Type} {emb : α → T} : ∀ {l : List α} {k j : Nat} {t : T}, (enumT j (l.map emb))[k]? = some t → ∃ a, l[k]? = some a ∧ t = .tup [.int ((j + k : Nat) : Int), emb a]
  | [], _, _, _, h => by simp [enumT] at h
  | a :: l, 0, j, t, h => by
    simp [enumT] at h
    exact ⟨a, rfl, by rw [← h]; rfl⟩
  | a :: l, k + 1, j, t, h => by
    have h' : (enumT (j + 1) (l.map emb))[k]? = some t := by simpa [enumT] using h
    obtain ⟨a', e1, e2⟩ := enum_at h'
    exact ⟨a', by simpa using e1, by rw [e2, show j + 1 + k = j + (k + 1) by omega]⟩
theorem drop_at {α : Type} {l : List α} {k : Nat} {a : α} (h : l[k]? = some a) : l.drop k = a :: l.drop (k + 1) := by
  obtain ⟨h1, h2⟩ := List.getElem?_eq_some_iff.mp h
  rw [List.drop_eq_getElem_cons h1, h2]
theorem ixN_nat {n i : Nat} (h : i < n) : ixN n (i : Int) = some i := by
  unfold ixN
  rw [if_pos (Int.natCast_nonneg _), if_pos (by omega)]
  rfl
theorem map_set {α : Type} {emb : α → T} (l : List α) (i : Nat) (a : α) : (l.map emb).set i (emb a) = (l.set i a).map emb := (List.map_set).symm
def SzIs (l : List Int) : Prop := ∀ n ∈ l, SzI n
theorem map_range_const {α : Type} (n : Nat) (c : α) : (List.range n).map (fun _ => c) = List.replicate n c := by rw [List.map_const', List.length_range]
theorem wg_endE {b : Bs} {X : Cx} {G : List En} {rest : List Stmt} {D : Ends} {J : List En → Prop} (h : J G) : WG b X G [] { lpE b X rest D J with nx := WB X [] (lpE b X rest D J) } := wg_nil (R := WB X [] (lpE b X rest D J)) fun σ H Hr s => wg_end h σ H Hr s
theorem scIntProd : scOk (top 37) ["near", "far", "found", "at", "left", "to", "right"] ["near", "far"] := ⟨rfl, rfl, rfl, by decide +kernel, rfl, by decide +kernel, by decide +kernel⟩
theorem getD_int {l : List Int} {i : Nat} (h : i < l.length) : l[i]? = some (l.getD i 0) := by
  rw [List.getD_eq_getElem?_getD, List.getElem?_eq_getElem h]; rfl
theorem ok_intProd {E : Wd} (G : Glo E) (D : Dfn E "int_product" (top 37) ["near", "far"]) (f g : List Int) (hf : SzIs f) (hg : SzIs g) (h0 : 0 < f.length) (h00 : 0 < g.length) (lf : f.length < 400) (lg : g.length < 400) : E.Fn "int_product" 1 [.ints f, .ints g] (· = .ints (convA f g 0 (List.replicate (f.length + g.length - 1) 0))) := by
  refine Wd.fn G D scIntProd fun f0 cdv A outer s H E0 B Hr hr hp => ?_
  have hL : ((f.length : Int) + (g.length : Int) - 1) = ((f.length + g.length - 1 : Nat) : Int) := by omega
  refine wg_setLc (P := (· = (List.range (f.length + g.length - 1)).map fun i => T.int ((i : Nat) : Int))) (Pt := fun _ => True) (f := fun _ => T.int 0) 3 2 (own := [("at", 3)]) rfl rfl scIntProd.nd rfl rfl rfl (ig_rng (Pa := (· = .int ((f.length + g.length - 1 : Nat) : Int))) (eg_sub (eg_add (eg_lenL (ts := f.map T.int) (eg_var 0 rfl rfl) rfl G.len (Phi := (· = .int (f.length : Int))) (by rw [List.length_map])) (eg_lenL (ts := g.map T.int) (eg_var 1 rfl rfl) rfl G.len (Phi := (· = .int (g.length : Int))) (by rw [List.length_map])) rfl) (eg_int rfl) (by rw [hL])) (fun t ht => ⟨_, ht, by omega, by omega, by rw [Int.toNat_natCast]⟩) rfl G.rng) (blkOk_by rfl) (of_decide_eq_true rfl) (of_decide_eq_true rfl) rfl (fun s H C cl fp => pg_name scIntProd.nd rfl (by first | exact .inl rfl | exact .inr rfl) (by first | exact .inl rfl | exact .inr rfl)) (fun ts hts => ⟨by rw [hts, List.length_map, List.length_range]; omega, fun _ _ => trivial⟩) (fun t R' s H C cl fp _ => eg_int rfl) fun ts hts => ?_
  subst hts
  rw [show ((List.range (f.length + g.length - 1)).map fun i => T.int ((i : Nat) : Int)).map (fun _ => T.int 0) = (List.replicate (f.length + g.length - 1) (0 : Int)).map T.int by rw [List.map_map, List.map_replicate]; exact map_range_const _ _]
  let F := convA f g 0 (List.replicate (f.length + g.length - 1) 0)
  refine wg_for2 (P := (· = enumT 0 (f.map T.int))) 3 4 (fun items k G' => ∃ cur e3 e4 e5 e6, G' = [.sh (.ints f), .sh (.ints g), .mu (cur.map T.int), e3, e4, e5, e6] ∧ cur.length = f.length + g.length - 1 ∧ convA (f.drop k) g k cur = F) (by decide) rfl rfl rfl scIntProd.nd (ig_enum (ts := f.map T.int) (eg_var 0 rfl rfl) rfl rfl G.enu) (fun items hi => ⟨_, _, _, _, _, rfl, by simp, rfl⟩) (fun items k G' ⟨cur, e3, e4, e5, e6, hG, _⟩ => by rw [hG]; exact ⟨of_decide_eq_true rfl, of_decide_eq_true rfl⟩) (fun items hi R' k t G' dn ht ⟨cur, e3, e4, e5, e6, hG, hl, hc⟩ => ?_) (fun items G' hi ⟨cur, e3, e4, e5, e6, hG, hl, hc⟩ => ?_)
  · subst hi; subst hG
    obtain ⟨l, hk, rfl⟩ := enum_at ht
    refine ⟨_, _, rfl, ?_⟩
    rw [Nat.zero_add]
    have hkl : k < f.length := (List.getElem?_eq_some_iff.mp hk).1
    rw [drop_at hk] at hc
    refine wg_if (tg_ne (v := .int l) (w := .int 0) (P := (· = !decide (l = 0))) (eg_var 4 rfl rfl) (eg_int rfl) rfl ?_) (fun z => ?_) fun z => ?_
    · congr 1
      exact decide_eq_decide.mpr ⟨fun z => by injection z, fun z => by rw [z]⟩
    · refine wg_for2 (P := (· = enumT 0 (g.map T.int))) 5 6 (fun items j G' => ∃ cur e5 e6, G' = [.sh (.ints f), .sh (.ints g), .mu (cur.map T.int), .sh (.int (k : Int)), .sh (.int l), e5, e6] ∧ cur.length = f.length + g.length - 1 ∧ convA (f.drop (k + 1)) g (k + 1) (rowA l (g.drop j) (k + j) cur) = F) (by decide) rfl rfl rfl scIntProd.nd (ig_enum (ts := g.map T.int) (eg_var 1 rfl rfl) rfl rfl G.enu) (fun items hi => ⟨_, _, _, rfl, hl, hc⟩) (fun items k G' ⟨cur, e5, e6, hG, _⟩ => by rw [hG]; exact ⟨of_decide_eq_true rfl, of_decide_eq_true rfl⟩) (fun items hi R2 j t G' dn2 ht ⟨cur, e5, e6, hG, hl, hc⟩ => ?_) (fun items G' hi ⟨cur, e5, e6, hG, hl, hc⟩ => ?_)
      · subst hi; subst hG
        obtain ⟨r, hj, rfl⟩ := enum_at ht
        refine ⟨_, _, rfl, ?_⟩
        rw [Nat.zero_add]
        have hjl : j < g.length := (List.getElem?_eq_some_iff.mp hj).1
        rw [drop_at hj] at hc
        have hkj : k + j < cur.length := by omega
        refine wg_seti 2 (Pa := (· = .int (cur.getD (k + j) 0 + l * r))) (Pb := (· = .int ((k + j : Nat) : Int))) rfl (eg_add (eg_ixM 2 rfl (eg_add (Phi := (· = .int ((k + j : Nat) : Int))) (eg_var 3 rfl rfl) (eg_var 5 rfl rfl) (by rw [Int.natCast_add])) (fun _ _ => rfl) (tAt_nat (ints_get (getD_int hkj))) rfl) (eg_mul (eg_var 4 rfl rfl) (eg_var 6 rfl rfl) ((hf l (List.mem_of_getElem? hk)).mul (hg r (List.mem_of_getElem? hj))) rfl) rfl) (eg_add (eg_var 3 rfl rfl) (eg_var 5 rfl rfl) (by rw [Int.natCast_add])) ?_
        rintro t u rfl rfl
        refine ⟨_, k + j, rfl, by rw [List.length_map]; exact ixN_nat hkj, ?_⟩
        exact wg_end ⟨cur.set (k + j) (cur.getD (k + j) 0 + l * r), _, _, by rw [← map_set]; rfl, by rw [List.length_set]; exact hl, hc⟩
      · subst hi; subst hG
        rw [enumT_len, List.length_map, List.drop_length] at hc
        refine wg_endE ?_
        exact ⟨cur, _, _, _, _, rfl, hl, hc⟩
    · have hl0 : l = 0 := of_decide_eq_true (by cases h : decide (l = 0) <;> rw [h] at z <;> first | rfl | cases z)
      refine wg_endE ?_
      show ∃ cur e3 e4 e5 e6, _ = _ ∧ _
      exact ⟨cur, _, _, _, _, rfl, hl, by have hc2 : convA (f.drop (k + 1)) g (k + 1) (rowA l g k cur) = F := hc; rw [hl0, rowA_zero] at hc2; exact hc2⟩
  · subst hi; subst hG
    rw [enumT_len, List.length_map, List.drop_length] at hc
    have hc' : cur = F := hc
    refine wg_frz 2 rfl ?_
    refine wg_retq (eg_var 2 rfl ?_)
    rw [hc']; rfl
end My

set_option Elab.async false
set_option linter.all false
set_option maxRecDepth 100000
set_option maxHeartbeats 4000000
/-! Df7: product_of, parts_of. -/
namespace My
open PySem L2 PyProof.Rows
theorem eg_neg {b : Bs} {X : Cx} {G : List En} {Phi : T → Prop} {n : Int} {k : Nat} {p1 p2 : Pos} (hP : Phi (.int (-n))) : EG b X G (.UnaryOp .USub (.Constant (.int n) k p1) p2) Phi := fun σ H Hr s Q q =>
  we_of (pe_un un_neg pe_int) ⟨n, rfl, q (.int (-n)) _ H Hr hP Evo.refl s (holds_is.mpr rfl)⟩
/-! ### product_of -/
def prodF (f g : List Rat) : List Rat := if f = [] ∨ g = [] then [] else (convA (wholeI f) (wholeI g) 0 (List.replicate (f.length + g.length - 1) 0)).map fun n : Int => (n : Rat) / (((dl f : Int) * (dl g : Int) : Int) : Rat)
theorem scProd : scOk (top 38) ["one", "other", "low", "near", "deep", "far", "top"] ["one", "other"] := ⟨rfl, rfl, rfl, by decide +kernel, rfl, by decide +kernel, by decide +kernel⟩
theorem len_zero {α : Type} (f : List α) : decide (V.int (f.length : Int) = V.int 0) = decide (f = []) := by
  refine decide_eq_decide.mpr ⟨fun z => ?_, fun z => by rw [z]; rfl⟩
  injection z with z
  exact List.length_eq_zero_iff.mp (by omega)
theorem wholeI_len (f : List Rat) : (wholeI f).length = f.length := by unfold wholeI; rw [List.length_map]
theorem ok_prod {E : Wd} (G : Glo E) (D : Dfn E "product_of" (top 38) ["one", "other"]) (h1 : ∀ f, Wh f → E.Fn "wholes" 36 [.poly f] (· = .tup [.int (dl f : Int), .ints (wholeI f)]))
    (h2 : ∀ f g : List Int, SzIs f → SzIs g → 0 < f.length → 0 < g.length → f.length < 400 → g.length < 400 → E.Fn "int_product" 1 [.ints f, .ints g] (· = .ints (convA f g 0 (List.replicate (f.length + g.length - 1) 0)))) (h3 : makesRatio E)
    (f g : List Rat) (hf : Wh f) (hg : Wh g) (hf2 : SzIs (wholeI f)) (hg2 : SzIs (wholeI g)) (lf : f.length < 400) (lg : g.length < 400) : E.Fn "product_of" 38 [.poly f, .poly g] (· = .poly (prodF f g)) := by
  refine Wd.fn G D scProd fun f0 cdv A outer s H E0 B Hr hr hp => ?_
  have tst : My.TG ⟨E.c, B, Hr, none⟩ (cxB E.P E.w E.c.K E.mg E.base ["one", "other", "low", "near", "deep", "far", "top"] "product_of" (defScope (top 38)) f0 cdv A outer s H E0) [.sh (.poly f), .sh (.poly g), .no, .no, .no, .no, .no] (match (defBody (top 38)).head! with | .If c _ _ _ => c | _ => .Constant .none 0 ⟨0, 0, 0, 0⟩) (· = decide (f = [] ∨ g = [])) := by
    refine UG.tg (ug_or (Pt := (· = decide (f = []))) (tg_eq (v := .int (f.length : Int)) (w := .int 0) (eg_lenL (ts := f.map T.rat) (eg_var 0 rfl rfl) rfl G.len (by rw [List.length_map])) (eg_int rfl) rfl (len_zero f)) (fun z => ug_or1 (tg_eq (v := .int (g.length : Int)) (w := .int 0) (eg_lenL (ts := g.map T.rat) (eg_var 1 rfl rfl) rfl G.len (by rw [List.length_map])) (eg_int rfl) rfl ?_)) fun z => ?_)
    · rw [len_zero g]
      have : f ≠ [] := of_decide_eq_false z.symm
      simp [this]
    · have : f = [] := of_decide_eq_true z.symm
      simp [this]
  by_cases h0 : f = [] ∨ g = []
  · rw [decide_eq_true h0] at tst
    refine wg_ifT tst ?_
    have e : prodF f g = [] := if_pos h0
    rw [e]
    exact wg_retR rfl (eg_fr (P := (· = [])) (fg_lst (ag_nil rfl) fun ts hts => by subst hts; exact of_decide_eq_true rfl) fun ts hts => by subst hts; rfl)
  · rw [decide_eq_false h0] at tst
    refine wg_ifF tst ?_
    have e : prodF f g = (convA (wholeI f) (wholeI g) 0 (List.replicate (f.length + g.length - 1) 0)).map fun n : Int => (n : Rat) / (((dl f : Int) * (dl g : Int) : Int) : Rat) := if_neg h0
    have hf0 : f ≠ [] := fun z => h0 (.inl z)
    have hg0 : g ≠ [] := fun z => h0 (.inr z)
    refine wg_unp 2 3 (by decide) rfl rfl scProd.nd (eg_fn (h1 f hf) (hr.mono (by decide)) rfl (ag_one (eg_var 0 rfl rfl)) rfl fun t z => z) fun t z => ⟨_, _, z, ?_⟩
    refine wg_unp 4 5 (by decide) rfl rfl scProd.nd (eg_fn (h1 g hg) (hr.mono (by decide)) rfl (ag_one (eg_var 1 rfl rfl)) rfl fun t z => z) fun t z => ⟨_, _, z, ?_⟩
    have lc : (convA (wholeI f) (wholeI g) 0 (List.replicate (f.length + g.length - 1) 0)).length = f.length + g.length - 1 := by rw [convA_len, List.length_replicate]
    have ip := h2 (wholeI f) (wholeI g) hf2 hg2 (by rw [wholeI_len]; exact List.length_pos_iff.mpr hf0) (by rw [wholeI_len]; exact List.length_pos_iff.mpr hg0) (by rw [wholeI_len]; exact lf) (by rw [wholeI_len]; exact lg)
    rw [wholeI_len, wholeI_len] at ip
    refine wg_retq (eg_fr (fg_lcL 6 (convA (wholeI f) (wholeI g) 0 (List.replicate (f.length + g.length - 1) 0)) T.int (fun n => T.rat ((n : Rat) / (((dl f : Int) * (dl g : Int) : Int) : Rat))) scProd.nd (fun a _ a' _ e => by rw [tint_inj e]) (ig_lst (Pa := (· = .ints (convA (wholeI f) (wholeI g) 0 (List.replicate (f.length + g.length - 1) 0)))) (eg_fn ip (hr.mono (by decide)) rfl (ag_cons (eg_var 3 rfl rfl) (ag_one (eg_var 5 rfl rfl))) rfl fun t z => z) fun t ht => ⟨_, ht, rfl⟩) (by rw [lc]; omega) (fun n hn R' s1 H1 C1 cl fp => ?_) rfl) fun ts hts => by subst hts; rw [e]; unfold T.poly; rw [List.map_map]; rfl)
    have d1 := hf.dl f.length
    have d2 := hg.dl g.length
    rw [List.take_length] at d1 d2
    refine eg_rat2 h3 hr (eg_var 6 rfl rfl) (eg_mul (eg_var 2 rfl rfl) (eg_var 4 rfl rfl) ((sz_13 d1).mul (sz_13 d2)) rfl) ?_ rfl
    have p1 := dl_pos f
    have p2 := dl_pos g
    exact Int.mul_ne_zero (by omega) (by omega)
/-! ### parts_of -/
theorem trimZ_le {α : Type} (z : α → Bool) : ∀ f : List α, (trimZ z f).length ≤ f.length
  | [] => Nat.le_refl _
  | c :: f => by
    rw [trimZ_cons]
    have := trimZ_le z f
    split
    · simp
    · simpa using this
/-- one step of a division -/
def stepF (g rest : List Rat) : List Rat := trimF ((rowS (rest.getD (rest.length - 1) 0 / g.getD (g.length - 1) 0) (g.take (g.length - 1)) (rest.length - g.length) rest).take (rest.length - 1))
theorem stepF_len {rest : List Rat} (g : List Rat) (h : 0 < rest.length) : (stepF g rest).length < rest.length := by
  have := trimZ_le (fun q => decide (q = 0)) ((rowS (rest.getD (rest.length - 1) 0 / g.getD (g.length - 1) 0) (g.take (g.length - 1)) (rest.length - g.length) rest).take (rest.length - 1))
  rw [List.length_take, rowS_len] at this
  refine Nat.lt_of_le_of_lt this ?_
  omega
/-- what holds of the rest and the quotient, all along -/
structure DivI (g : List Rat) (Inv : List Rat → List Rat → Prop) : Prop where
  ne : g ≠ []
  l : g.getD (g.length - 1) 0 ≠ 0
  zg : Szs g
  lg : g.length < 400
  z : ∀ rest q, Inv rest q → g.length ≤ rest.length → Szs rest ∧ Sz (rest.getD (rest.length - 1) 0 / g.getD (g.length - 1) 0) ∧ ∀ o ∈ g, Sz (rest.getD (rest.length - 1) 0 / g.getD (g.length - 1) 0 * o)
  s : ∀ rest q, Inv rest q → g.length ≤ rest.length → Inv (stepF g rest) (q.set (rest.length - g.length) (rest.getD (rest.length - 1) 0 / g.getD (g.length - 1) 0))
theorem scParts : scOk (top 39) ["one", "other", "rest", "quotient", "at", "shift", "factor"] ["one", "other"] := ⟨rfl, rfl, rfl, by decide +kernel, rfl, by decide +kernel, by decide +kernel⟩
theorem last_at {α : Type} {f : List α} {q : α} (h : f[f.length - 1]? = some q) {emb : α → T} : tAt (f.map emb) (-1) = some (emb q) := by
  apply tAt_last
  rw [List.getLast?_eq_getElem?, List.length_map, List.getElem?_map, h]; rfl
theorem ok_parts {E : Wd} (G : Glo E) (C : Cla E) (D : Dfn E "parts_of" (top 39) ["one", "other"]) (h1 : overM E) (h2 : subOp E) (h3 : mulOp E) (h4 : makesRatio E) (h5 : trimmedF E)
    (f g : List Rat) (Inv : List Rat → List Rat → Prop) (hI : DivI g Inv) (hi : Inv f (List.replicate (f.length + 1 - g.length) 0)) (lf : f.length < 400) : E.Fn "parts_of" 39 [.poly f, .poly g] (fun t => ∃ r q, t = .tup [.poly q, .poly r] ∧ Inv r q ∧ r.length < g.length) := by
  refine Wd.fn G D scParts fun f0 cdv A outer s H E0 B Hr hr hp => ?_
  refine wg_setF 2 scParts.nd (P := (· = f.map T.rat)) (fg_list rfl (eg_var 0 rfl (.inl rfl)) rfl G.lst rfl) ?_
  rintro t rfl
  have lg := hI.lg
  have gp : 0 < g.length := List.length_pos_iff.mpr hI.ne
  have hn : max 0 ((f.length : Int) - (g.length : Int) + 1) = ((f.length + 1 - g.length : Nat) : Int) := by omega
  refine wg_setLc (P := (· = (List.range (f.length + 1 - g.length)).map fun i => T.int ((i : Nat) : Int))) (Pt := fun _ => True) (f := fun _ => T.rat 0) 4 3 (own := [("at", 4)]) rfl rfl scParts.nd rfl rfl rfl (ig_rng (Pa := (· = .int ((f.length + 1 - g.length : Nat) : Int))) (eg_max rfl (eg_int rfl) (eg_add (eg_sub (eg_lenL (ts := f.map T.rat) (eg_var 0 rfl rfl) rfl G.len (Phi := (· = .int (f.length : Int))) (by rw [List.length_map])) (eg_lenL (ts := g.map T.rat) (eg_var 1 rfl rfl) rfl G.len (Phi := (· = .int (g.length : Int))) (by rw [List.length_map])) rfl) (eg_int rfl) rfl) rfl G.max (by rw [hn])) (fun t ht => ⟨_, ht, by omega, by omega, by rw [Int.toNat_natCast]⟩) rfl G.rng) (blkOk_by rfl) (of_decide_eq_true rfl) (of_decide_eq_true rfl) rfl (fun s H C cl fp => pg_name scParts.nd rfl (by first | exact .inl rfl | exact .inr rfl) (by first | exact .inl rfl | exact .inr rfl)) (fun ts hts => ⟨by rw [hts, List.length_map, List.length_range]; omega, fun _ _ => trivial⟩) (fun t R' s H C cl fp _ => eg_rat1 h4 (Room.mono hr (by decide)) (eg_int rfl) rfl) fun ts hts => ?_
  subst hts
  rw [show ((List.range (f.length + 1 - g.length)).map fun i => T.int ((i : Nat) : Int)).map (fun _ => T.rat 0) = (List.replicate (f.length + 1 - g.length) (0 : Rat)).map T.rat by rw [List.map_map, List.map_replicate]; exact map_range_const _ _]
  refine wg_while (fun m G' => ∃ rest q e4 e5 e6, G' = [.sh (.poly f), .sh (.poly g), .mu (rest.map T.rat), .mu (q.map T.rat), e4, e5, e6] ∧ m = rest.length ∧ Inv rest q ∧ rest.length ≤ f.length ∧ q.length = f.length + 1 - g.length) rfl ⟨f.length, f, _, _, _, _, rfl, rfl, hi, Nat.le_refl _, by simp⟩ ?_
  rintro m G' ⟨rest, q, e4, e5, e6, rfl, rfl, hv, hl, hq⟩
  refine ⟨(· = decide (g.length ≤ rest.length)), tg_ge (i := (rest.length : Int)) (j := (g.length : Int)) (eg_lenM 2 rfl rfl G.len (by rw [List.length_map])) (eg_lenL (ts := g.map T.rat) (eg_var 1 rfl rfl) rfl G.len (by rw [List.length_map])) (decide_eq_decide.mpr (by omega)), fun z => ?_, fun z => ?_⟩
  · have hge : g.length ≤ rest.length := of_decide_eq_true z.symm
    obtain ⟨z1, z2, z3⟩ := hI.z rest q hv hge
    have hs := hI.s rest q hv hge
    have er : rest[rest.length - 1]? = some (rest.getD (rest.length - 1) 0) := getD_at (by omega)
    have eg : g[g.length - 1]? = some (g.getD (g.length - 1) 0) := getD_at (by omega)
    refine wg_set 5 scParts.nd (Pa := (· = .int ((rest.length - g.length : Nat) : Int))) (eg_sub (i := (rest.length : Int)) (j := (g.length : Int)) (eg_lenM 2 rfl rfl G.len (by rw [List.length_map])) (eg_lenL (ts := g.map T.rat) (eg_var 1 rfl rfl) rfl G.len (by rw [List.length_map])) (by rw [show ((rest.length - g.length : Nat) : Int) = (rest.length : Int) - (g.length : Int) by omega])) ?_
    rintro t rfl
    refine wg_set 6 scParts.nd (Pa := (· = T.rat (rest.getD (rest.length - 1) 0 / g.getD (g.length - 1) 0))) (eg_over h1 hr (eg_ixM 2 rfl (eg_neg rfl) (fun _ _ => rfl) (last_at er) rfl) (eg_ixL rfl (eg_var 1 rfl rfl) (eg_neg rfl) (fun _ _ => rfl) (last_at eg) rfl) (nt_r _) (z1 _ (List.mem_of_getElem? er)) (hI.zg _ (List.mem_of_getElem? eg)) hI.l rfl (hC := C.clo)) ?_
    rintro t rfl
    generalize hk : rest.getD (rest.length - 1) 0 / g.getD (g.length - 1) 0 = k at *
    generalize hsh : rest.length - g.length = sh at *
    refine wg_seti 3 (Pa := (· = T.rat k)) (Pb := (· = .int (sh : Int))) rfl (eg_var 6 rfl rfl) (eg_var 5 rfl rfl) ?_
    rintro t u rfl rfl
    refine ⟨_, sh, rfl, by rw [List.length_map]; exact ixN_nat (by omega), ?_⟩
    rw [map_set]
    let go := g.take (g.length - 1)
    have lgo : go.length = g.length - 1 := by show (g.take (g.length - 1)).length = _; rw [List.length_take]; omega
    let F := rowS k go sh rest
    refine wg_for (P := (· = (List.range (g.length - 1)).map fun i => T.int ((i : Nat) : Int))) 4 (fun items j G' => ∃ cur e4, G' = [.sh (.poly f), .sh (.poly g), .mu (cur.map T.rat), .mu ((q.set sh k).map T.rat), e4, .sh (.int (sh : Int)), .sh (T.rat k)] ∧ cur.length = rest.length ∧ (∀ i, sh + j ≤ i → cur[i]? = rest[i]?) ∧ rowS k (go.drop j) (sh + j) cur = F) rfl rfl scParts.nd (ig_rng (Pa := (· = .int ((g.length - 1 : Nat) : Int))) (eg_sub (i := (g.length : Int)) (eg_lenL (ts := g.map T.rat) (eg_var 1 rfl rfl) rfl G.len (by rw [List.length_map])) (eg_int rfl) (by rw [show ((g.length - 1 : Nat) : Int) = (g.length : Int) - 1 by omega])) (fun t ht => ⟨_, ht, by omega, by omega, by rw [Int.toNat_natCast]⟩) rfl G.rng) (fun items hi => ⟨rest, _, rfl, rfl, fun _ _ => rfl, rfl⟩) (fun items k G' ⟨cur, e4, hG, _⟩ => by rw [hG]; exact of_decide_eq_true rfl) (fun items hi R' j t G' dn ht ⟨cur, e4, hG, hl', hsame, hc⟩ => ?_) (fun items G' hi ⟨cur, e4, hG, hl', hsame, hc⟩ => ?_)
    · subst hi; subst hG
      have hj : j < g.length - 1 := by
        have := (List.getElem?_eq_some_iff.mp ht).1
        simpa using this
      have ht' : t = .int (j : Int) := by
        rw [List.getElem?_map, List.getElem?_range hj] at ht
        cases ht; rfl
      subst ht'
      have ego : go[j]? = some (g.getD j 0) := by
        show (g.take (g.length - 1))[j]? = _
        rw [List.getElem?_take_of_lt hj]; exact getD_at (by omega)
      have hgm : g.getD j 0 ∈ g := List.mem_of_getElem? (getD_at (show j < g.length by omega))
      rw [drop_at ego] at hc
      have hcur : sh + j < cur.length := by omega
      have hcz : Sz (cur.getD (sh + j) 0) := by
        have e1 := hsame (sh + j) (Nat.le_refl _)
        rw [List.getD_eq_getElem?_getD, e1, ← List.getD_eq_getElem?_getD]
        exact szs_at z1 (by omega)
      refine wg_seti 2 (Pa := (· = T.rat (cur.getD (sh + j) 0 - k * g.getD j 0))) (Pb := (· = .int ((sh + j : Nat) : Int))) rfl (eg_subR h2 hr (eg_ixM 2 rfl (eg_add (Phi := (· = .int ((sh + j : Nat) : Int))) (eg_var 5 rfl rfl) (eg_var 4 rfl rfl) (by rw [Int.natCast_add])) (fun _ _ => rfl) (tAt_nat (poly_get (getD_at hcur))) rfl) (eg_mulR h3 hr (eg_var 6 rfl rfl) (eg_ixL rfl (eg_var 1 rfl rfl) (eg_var 4 rfl rfl) (fun _ _ => rfl) (tAt_nat (poly_get (getD_at (show j < g.length by omega)))) rfl) (nt_r _) z2 (hI.zg _ hgm) rfl) (nt_r _) hcz (z3 _ hgm) rfl) (eg_add (eg_var 5 rfl rfl) (eg_var 4 rfl rfl) (by rw [Int.natCast_add])) ?_
      rintro t u rfl rfl
      refine ⟨_, sh + j, rfl, by rw [List.length_map]; exact ixN_nat hcur, ?_⟩
      refine wg_end ⟨cur.set (sh + j) (cur.getD (sh + j) 0 - k * g.getD j 0), _, by rw [← map_set cur (sh + j) (cur.getD (sh + j) 0 - k * g.getD j 0) (emb := T.rat)]; rfl, by rw [List.length_set]; exact hl', fun i hi => ?_, hc⟩
      rw [List.getElem?_set_ne (by omega)]
      exact hsame i (by omega)
    · subst hi; subst hG
      rw [List.length_map, List.length_range, ← lgo, List.drop_length] at hc
      have hc' : cur = F := hc
      refine wg_frz 2 rfl ?_
      refine wg_setF 2 scParts.nd (P := (· = (stepF g rest).map T.rat)) (fg_list rfl (eg_fn (h5 (cur.take (cur.length - 1))) (Room.mono hr (by decide)) rfl (ag_one (eg_fr (P := (· = (cur.take (cur.length - 1)).map T.rat)) (fg_init (ts := cur.map T.rat) (eg_var 2 rfl rfl) (eg_neg rfl) (by rw [List.length_map, List.map_take])) fun ts hts => by subst hts; rfl)) rfl fun t z => .inl (by rw [z]; rfl)) rfl G.lst ?_) ?_
      · unfold stepF
        rw [hk, hsh, ← hl', hc']
      · rintro ts rfl
        refine wg_end ⟨_, ?_, stepF g rest, q.set sh k, _, _, _, rfl, rfl, hs, ?_, by rw [List.length_set]; exact hq⟩
        · exact stepF_len g (by omega)
        · exact Nat.le_trans (Nat.le_of_lt (stepF_len g (by omega))) hl
  · have hlt : ¬ g.length ≤ rest.length := of_decide_eq_false z.symm
    refine wg_frz 2 rfl (wg_frz 3 rfl ?_)
    exact wg_retq (eg_tup (A1 := (· = [.poly q, .poly rest])) (ag_cons (eg_var 3 rfl rfl) (ag_one (eg_var 2 rfl rfl))) fun ts hts => by subst hts; exact ⟨of_decide_eq_true rfl, rest, q, rfl, hv, by omega⟩)
end My

set_option Elab.async false
set_option linter.all false
set_option maxRecDepth 100000
set_option maxHeartbeats 4000000
/-! Df8: the common divisor by ints; lowest. -/
namespace My
open PySem L2 PyProof.Rows
/-! ### plain_row -/
def gcdI (l : List Int) : Nat := l.foldl (fun g n => Nat.gcd g n.natAbs) 0
theorem gcdI_snoc (f : List Int) (q : Int) : gcdI (f ++ [q]) = Nat.gcd (gcdI f) q.natAbs := by unfold gcdI; rw [List.foldl_append]; rfl
theorem gcdI_fold (f : List Int) : ∀ (n : Nat), f.foldl (fun g n => Nat.gcd g n.natAbs) n ∣ n ∧ ∀ q ∈ f, ((f.foldl (fun g n => Nat.gcd g n.natAbs) n : Nat) : Int) ∣ q := by
  induction f with
  | nil => exact fun n => ⟨Nat.dvd_refl _, fun q hq => by cases hq⟩
  | cons a f ih =>
    intro n
    obtain ⟨h1, h2⟩ := ih (Nat.gcd n a.natAbs)
    refine ⟨Nat.dvd_trans h1 (Nat.gcd_dvd_left _ _), fun q hq => ?_⟩
    rcases List.mem_cons.mp hq with rfl | hq
    · exact Int.ofNat_dvd_left.mpr (Nat.dvd_trans h1 (Nat.gcd_dvd_right _ _))
    · exact h2 q hq
theorem gcdI_dvd {l : List Int} {n : Int} (h : n ∈ l) : (gcdI l : Int) ∣ n := (gcdI_fold l 0).2 n h
theorem gcdI_ne {l : List Int} {n : Int} (h : n ∈ l) (h0 : n ≠ 0) : (gcdI l : Int) ≠ 0 := fun z => by
  have := gcdI_dvd h
  rw [z] at this
  exact h0 (Int.zero_dvd.mp this)
theorem trimZ_last {α : Type} {z : α → Bool} : ∀ {f : List α}, trimZ z f ≠ [] → ∃ c, (trimZ z f)[(trimZ z f).length - 1]? = some c ∧ z c = false
  | [], h => absurd rfl h
  | c :: f, h => by
    rw [trimZ_cons] at h ⊢
    by_cases e : trimZ z f = []
    · rw [e] at h ⊢
      cases hz : z c with
      | true => rw [hz] at h; exact absurd rfl h
      | false => exact ⟨c, rfl, hz⟩
    · obtain ⟨d, e1, e2⟩ := trimZ_last e
      have hne : (trimZ z f).isEmpty = false := by
        cases q : trimZ z f with
        | nil => exact absurd q e
        | cons a l => rfl
      rw [hne]
      have hp := List.length_pos_iff.mpr e
      refine ⟨d, ?_, e2⟩
      show (c :: trimZ z f)[(c :: trimZ z f).length - 1]? = some d
      rw [List.length_cons, show (trimZ z f).length + 1 - 1 = ((trimZ z f).length - 1) + 1 by omega, List.getElem?_cons_succ]
      exact e1
def plainI (l : List Int) : List Int := (trimI l).map (· / (gcdI (trimI l) : Int))
theorem scPlain : scOk (top 41) ["numbers", "many", "common", "number"] ["numbers"] := ⟨rfl, rfl, rfl, by decide +kernel, rfl, by decide +kernel, by decide +kernel⟩
abbrev divisorOf (E : Wd) : Prop := ∀ a b : Int, E.Fn "divisor_of" 1 [.int a, .int b] (· = .int ((Nat.gcd a.natAbs b.natAbs : Nat) : Int))
theorem ok_plain {E : Wd} (G : Glo E) (D : Dfn E "plain_row" (top 41) ["numbers"]) (h1 : divisorOf E) (f : List Int) (lf : f.length < 1000) : E.Fn "plain_row" 36 [.ints f] (· = .ints (plainI f)) := by
  refine Wd.fn G D scPlain fun f0 cdv A outer s H E0 B Hr hr hp => ?_
  have py := hp (by decide)
  refine wg_unp 1 2 (Pa := (· = .tup [.int (f.length : Int), .int 0])) (by decide) rfl rfl scPlain.nd (eg_tup (A1 := (· = [.int (f.length : Int), .int 0])) (ag_cons (eg_lenL (ts := f.map T.int) (eg_var 0 rfl rfl) rfl G.len (by rw [List.length_map])) (ag_one (eg_int rfl))) fun ts hts => by subst hts; exact ⟨of_decide_eq_true rfl, rfl⟩) fun t z => ⟨_, _, z, ?_⟩
  refine wg_while (fun m G' => G' = [.sh (.ints f), .sh (.int (m : Int)), .sh (.int 0), .no] ∧ m ≤ f.length ∧ ∀ c ∈ f.drop m, decide (c = 0) = true) rfl ⟨f.length, rfl, Nat.le_refl _, by simp⟩ ?_
  rintro m G' ⟨rfl, hm, hz⟩
  have fin : (m = 0 ∨ ∃ c, f[m - 1]? = some c ∧ decide (c = 0) = false) → WG ⟨E.c, B, Hr, none⟩ (cxB E.P E.w E.c.K E.mg E.base ["numbers", "many", "common", "number"] "plain_row" (defScope (top 41)) f0 cdv A outer s H E0) [.sh (.ints f), .sh (.int (m : Int)), .sh (.int 0), .no] ((defBody (top 41)).drop 2) (fnE ⟨E.c, B, Hr, none⟩ (· = .ints (plainI f))) := fun h => by
    have e : f.take m = trimI f := trimZ_take hz h
    have it : ∀ {G : List En} {p1 p2 p3 p4 : Pos} {tg : Expr}, G[0]? = some (.sh (.ints f)) → G[1]? = some (.sh (.int (m : Int))) → IG ⟨E.c, B, Hr, none⟩ (cxB E.P E.w E.c.K E.mg E.base ["numbers", "many", "common", "number"] "plain_row" (defScope (top 41)) f0 cdv A outer s H E0) G tg (.Subscript (.Name "numbers" p1) (.Slice none (some (.Name "many" p2)) none p3) p4) (· = (trimI f).map T.int) := fun g1 g2 =>
      ig_lst (Pa := (· = .ints (trimI f))) (eg_fr (P := (· = (trimI f).map T.int)) (fg_take (ts := f.map T.int) (eg_var 0 g1 rfl) (eg_var 1 g2 rfl) (by rw [List.length_map]; exact hm) (by rw [← List.map_take, e])) fun ts hts => by subst hts; rfl) fun t ht => ⟨_, ht, rfl⟩
    refine wg_for (P := (· = (trimI f).map T.int)) 3 (fun items k G' => ∃ r, G' = [.sh (.ints f), .sh (.int (m : Int)), .sh (.int (gcdI ((trimI f).take k) : Int)), r]) rfl rfl scPlain.nd (it rfl rfl) (fun items hi => ⟨_, rfl⟩) (fun items k G' ⟨r, hG⟩ => by rw [hG]; exact of_decide_eq_true rfl) (fun items hi R' k t G' dn ht ⟨r, hG⟩ => ?_) (fun items G' hi ⟨r, hG⟩ => ?_)
    · subst hi; subst hG
      rw [List.getElem?_map] at ht
      cases hk : (trimI f)[k]? with
      | none => rw [hk] at ht; cases ht
      | some q =>
        rw [hk] at ht; cases ht
        refine wg_set 2 scPlain.nd (Pa := (· = .int (gcdI ((trimI f).take (k + 1)) : Int))) (eg_fn (h1 (gcdI ((trimI f).take k) : Int) q) (Room.mono hr (by decide)) rfl (ag_cons (eg_var 2 rfl rfl) (ag_one (eg_var 3 rfl rfl))) rfl fun t z => ?_) ?_
        · rw [z, List.take_add_one, hk, Int.natAbs_natCast]
          show T.int _ = T.int _
          rw [show ((trimI f).take k ++ (some q).toList) = (trimI f).take k ++ [q] from rfl, gcdI_snoc]
        · rintro t rfl
          exact wg_end ⟨_, rfl⟩
    · subst hi; subst hG
      rw [List.length_map, List.take_length]
      refine wg_no 3 ?_
      have hlt : (trimI f).length < 1000 := Nat.lt_of_le_of_lt (trimZ_le _ f) lf
      refine wg_retq (eg_fr (fg_lcL 3 (trimI f) T.int (fun q => T.int (q / (gcdI (trimI f) : Int))) scPlain.nd (fun a _ a' _ e => by rw [tint_inj e]) (it rfl rfl) hlt (fun q hq R' s1 H1 C1 cl fp => ?_) rfl) fun ts hts => by subst hts; unfold plainI T.ints; rw [List.map_map]; rfl)
      refine eg_fdiv (py.blk _ _ _ _ _ _) (eg_var 3 rfl rfl) (eg_var 2 rfl rfl) ?_ (by rw [fdiv_dvd (gcdI_dvd hq)])
      obtain ⟨c, e1, e2⟩ := trimZ_last (z := fun q : Int => decide (q = 0)) (f := f) (List.ne_nil_of_mem hq)
      exact gcdI_ne (List.mem_of_getElem? e1) (of_decide_eq_false e2)
  match m, hm, hz, fin with
  | 0, hm, hz, fin => exact ⟨(· = false), UG.tg (ug_and (Pt := (· = false)) (tg_gt (eg_var 1 rfl rfl) (eg_int rfl) rfl) (fun z => by cases z) fun _ => rfl), (fun z => by cases z), fun _ => fin (.inl rfl)⟩
  | k + 1, hm, hz, fin =>
    have hk : k < f.length := by omega
    have ek : f[k]? = some f[k] := List.getElem?_eq_getElem hk
    refine ⟨(· = decide (f[k] = 0)), UG.tg (ug_and (Pt := (· = true)) (tg_gt (eg_var 1 rfl rfl) (eg_int rfl) (decide_eq_true (by omega))) (fun z => ug_and1 (tg_eq (v := .int f[k]) (w := .int 0) (eg_ixL rfl (eg_var 0 rfl rfl) (eg_sub (Phi := (· = .int ((k + 1 : Nat) - 1 : Int))) (eg_var 1 rfl rfl) (eg_int rfl) rfl) (fun _ _ => rfl) (u := T.int f[k]) (by rw [show ((k + 1 : Nat) - 1 : Int) = ((k : Nat) : Int) by omega]; exact tAt_nat (ints_get ek)) rfl) (eg_int rfl) rfl ?_)) fun z => by cases z), fun z => ?_, fun z => fin (.inr ⟨f[k], ek, z.symm⟩)⟩
    · have : (V.int f[k] = V.int 0) ↔ f[k] = 0 := ⟨fun z => by injection z, fun z => by rw [z]⟩
      simp [this]
    · refine wg_set 1 scPlain.nd (Pa := (· = .int (k : Int))) (eg_sub (eg_var 1 rfl rfl) (eg_int rfl) (by show T.int _ = T.int _; rw [show ((k + 1 : Nat) - 1 : Int) = ((k : Nat) : Int) by omega])) ?_
      rintro t rfl
      refine wg_end ⟨k, by omega, rfl, by omega, fun c hc => ?_⟩
      rw [List.drop_eq_getElem_cons hk] at hc
      rcases List.mem_cons.mp hc with rfl | hc
      · exact z.symm
      · exact hz c hc
/-! ### int_rest -/
theorem rowS_get (l : Int) : ∀ (far : List Int) (k : Nat) (cur : List Int) (i : Nat), i < cur.length → (rowS l far k cur).getD i 0 = cur.getD i 0 - (if k ≤ i then l * far.getD (i - k) 0 else 0)
  | [], k, cur, i, h => by
    show cur.getD i 0 = _
    simp
  | r :: far, k, cur, i, h => by
    unfold rowS
    rw [rowS_get l far (k + 1) _ i (by rw [List.length_set]; exact h)]
    rw [List.getD_eq_getElem?_getD, List.getElem?_set]
    by_cases e : k = i
    · subst e
      rw [if_pos rfl, if_pos h, if_neg (by omega), if_pos (Nat.le_refl _), Nat.sub_self]
      show (cur.getD k 0 - l * r) - 0 = _ - l * r
      omega
    · rw [if_neg e, ← List.getD_eq_getElem?_getD]
      by_cases h2 : k + 1 ≤ i
      · rw [if_pos h2, if_pos (by omega), show i - k = (i - (k + 1)) + 1 by omega]
        rfl
      · rw [if_neg h2, if_neg (by omega)]
theorem trimZ_short {α : Type} {z : α → Bool} : ∀ {f : List α} {c : α}, f[f.length - 1]? = some c → z c = true → (trimZ z f).length < f.length
  | [], c, h, _ => by simp at h
  | [a], c, h, hz => by
    simp at h; subst h
    rw [trimZ_cons, hz]; simp [trimZ]
  | a :: b :: f, c, h, hz => by
    have h' : (b :: f)[(b :: f).length - 1]? = some c := by simpa using h
    have ih := trimZ_short h' hz
    rw [trimZ_cons]
    split
    · simp
    · simpa using ih
/-- the factor of a step -/
def lastI (g rest : List Int) : Int := if 0 < g.getD (g.length - 1) 0 then rest.getD (rest.length - 1) 0 else 0 - rest.getD (rest.length - 1) 0
def headI (g : List Int) : Int := ((g.getD (g.length - 1) 0).natAbs : Int)
def rawI (g rest : List Int) : List Int := rowS (lastI g rest) g (rest.length - g.length) (rest.map (· * headI g))
def stepI (g rest : List Int) : List Int := plainI (rawI g rest)
theorem plainI_len (l : List Int) : (plainI l).length = (trimI l).length := by unfold plainI; rw [List.length_map]
theorem rawI_len (g rest : List Int) : (rawI g rest).length = rest.length := by unfold rawI; rw [rowS_len, List.length_map]
theorem stepI_len {g rest : List Int} (hg : g ≠ []) (h : g.length ≤ rest.length) : (stepI g rest).length < rest.length := by
  have gp := List.length_pos_iff.mpr hg
  unfold stepI
  rw [plainI_len]
  have hl := rawI_len g rest
  have e : (rawI g rest)[(rawI g rest).length - 1]? = some 0 := by
    rw [getD_int (by omega)]
    congr 1
    rw [hl]
    unfold rawI
    rw [rowS_get _ _ _ _ _ (by rw [List.length_map]; omega), if_pos (by omega), show rest.length - 1 - (rest.length - g.length) = g.length - 1 by omega]
    have : (rest.map (· * headI g)).getD (rest.length - 1) 0 = rest.getD (rest.length - 1) 0 * headI g := by
      rw [List.getD_eq_getElem?_getD, List.getElem?_map, getD_int (show rest.length - 1 < rest.length by omega)]; rfl
    rw [this]
    unfold lastI headI
    by_cases hp : 0 < g.getD (g.length - 1) 0
    · rw [if_pos hp, show ((g.getD (g.length - 1) 0).natAbs : Int) = g.getD (g.length - 1) 0 by omega]; omega
    · rw [if_neg hp, show ((g.getD (g.length - 1) 0).natAbs : Int) = - g.getD (g.length - 1) 0 by omega, Int.mul_neg, Int.sub_mul, Int.zero_mul]; omega
  have := trimZ_short (z := fun q : Int => decide (q = 0)) e rfl
  rw [hl] at this
  exact this
structure IntI (g : List Int) (Inv : List Int → Prop) : Prop where
  ne : g ≠ []
  zg : SzIs g
  lg : g.length < 400
  z : ∀ rest, Inv rest → g.length ≤ rest.length → SzIs rest
  s : ∀ rest, Inv rest → g.length ≤ rest.length → Inv (stepI g rest)
theorem scIntRest : scOk (top 42) ["one", "other", "rest", "head", "shift", "last", "number", "at"] ["one", "other"] := ⟨rfl, rfl, rfl, by decide +kernel, rfl, by decide +kernel, by decide +kernel⟩
theorem ok_intRest {E : Wd} (G : Glo E) (D : Dfn E "int_rest" (top 42) ["one", "other"]) (h1 : ∀ f : List Int, f.length < 1000 → E.Fn "plain_row" 36 [.ints f] (· = .ints (plainI f)))
    (f g : List Int) (Inv : List Int → Prop) (hI : IntI g Inv) (hi : Inv f) (lf : f.length < 400) : E.Fn "int_rest" 37 [.ints f, .ints g] (fun t => ∃ r, t = .ints (plainI r) ∧ Inv r ∧ r.length < g.length) := by
  refine Wd.fn G D scIntRest fun f0 cdv A outer s H E0 B Hr hr hp => ?_
  have lg := hI.lg
  have gp : 0 < g.length := List.length_pos_iff.mpr hI.ne
  have eg : g[g.length - 1]? = some (g.getD (g.length - 1) 0) := getD_int (by omega)
  refine wg_setF 2 scIntRest.nd (P := (· = f.map T.int)) (fg_list rfl (eg_var 0 rfl (.inl rfl)) rfl G.lst rfl) ?_
  rintro t rfl
  refine wg_set 3 scIntRest.nd (Pa := (· = .int (headI g))) (eg_abs (eg_ixL rfl (eg_var 1 rfl rfl) (eg_neg rfl) (fun _ _ => rfl) (last_at eg) rfl) rfl G.abs rfl) ?_
  rintro t rfl
  refine wg_while (fun m G' => ∃ rest e4 e5 e6 e7, G' = [.sh (.ints f), .sh (.ints g), .mu (rest.map T.int), .sh (.int (headI g)), e4, e5, e6, e7] ∧ m = rest.length ∧ Inv rest ∧ rest.length ≤ f.length) rfl ⟨f.length, f, _, _, _, _, rfl, rfl, hi, Nat.le_refl _⟩ ?_
  rintro m G' ⟨rest, e4, e5, e6, e7, rfl, rfl, hv, hl⟩
  refine ⟨(· = decide (g.length ≤ rest.length)), tg_ge (i := (rest.length : Int)) (j := (g.length : Int)) (eg_lenM 2 rfl rfl G.len (by rw [List.length_map])) (eg_lenL (ts := g.map T.int) (eg_var 1 rfl rfl) rfl G.len (by rw [List.length_map])) (decide_eq_decide.mpr (by omega)), fun z => ?_, fun z => ?_⟩
  · have hge : g.length ≤ rest.length := of_decide_eq_true z.symm
    have z1 := hI.z rest hv hge
    have hs := hI.s rest hv hge
    have er : rest[rest.length - 1]? = some (rest.getD (rest.length - 1) 0) := getD_int (by omega)
    have zl : SzI (lastI g rest) := by
      have := z1 _ (List.mem_of_getElem? er)
      unfold lastI
      split
      · exact this
      · unfold SzI at this ⊢
        rw [show (0 - rest.getD (rest.length - 1) 0).natAbs = (rest.getD (rest.length - 1) 0).natAbs by omega]; exact this
    have zh : SzI (headI g) := by
      have := hI.zg _ (List.mem_of_getElem? eg)
      unfold headI SzI at *
      rw [Int.natAbs_natCast]; exact this
    generalize hsh : rest.length - g.length = sh at *
    refine wg_par 4 5 (Pa := (· = .int (sh : Int))) (Pb := (· = .int (lastI g rest))) (by decide) rfl scIntRest.nd (eg_sub (i := (rest.length : Int)) (j := (g.length : Int)) (eg_lenM 2 rfl rfl G.len (by rw [List.length_map])) (eg_lenL (ts := g.map T.int) (eg_var 1 rfl rfl) rfl G.len (by rw [List.length_map])) (by rw [show (sh : Int) = (rest.length : Int) - (g.length : Int) by omega])) (eg_if (Pt := (· = decide (0 < g.getD (g.length - 1) 0))) (tg_gt (eg_ixL rfl (eg_var 1 rfl rfl) (eg_neg rfl) (fun _ _ => rfl) (last_at eg) rfl) (eg_int rfl) rfl) (fun z => eg_ixM 2 rfl (eg_neg rfl) (fun _ _ => rfl) (last_at er) ?_) fun z => eg_sub (eg_int rfl) (eg_ixM 2 rfl (eg_neg rfl) (fun _ _ => rfl) (last_at er) rfl) ?_) ?_
    · unfold lastI; rw [if_pos (of_decide_eq_true z.symm)]
    · unfold lastI; rw [if_neg (of_decide_eq_false z.symm)]
    rintro t u rfl rfl
    refine wg_frz 2 rfl (wg_no 6 ?_)
    refine wg_setLc (P := (· = rest.map T.int)) (Pt := fun t => ∃ n ∈ rest, t = T.int n) (f := fun t => match t with | .is (.int n) => T.int (n * headI g) | _ => .any) 6 2 (own := [("number", 6)]) rfl rfl scIntRest.nd rfl rfl rfl (ig_lst (Pa := (· = .ints rest)) (eg_var 2 rfl rfl) fun t ht => ⟨_, ht, rfl⟩) (blkOk_by rfl) (of_decide_eq_true rfl) (of_decide_eq_true rfl) rfl (fun s H C cl fp => pg_name scIntRest.nd rfl (by first | exact .inl rfl | exact .inr rfl) (by first | exact .inl rfl | exact .inr rfl)) (fun ts hts => ⟨by rw [hts, List.length_map]; omega, fun t ht => ?_⟩) (fun t R' s H C cl fp ht => ?_) fun ts hts => ?_
    · rw [hts] at ht
      obtain ⟨n, h1, h2⟩ := List.mem_map.mp ht
      exact ⟨n, h1, h2.symm⟩
    · obtain ⟨n, hn, rfl⟩ := ht
      exact eg_mul (eg_var 6 rfl rfl) (eg_var 3 rfl rfl) ((z1 n hn).mul zh) rfl
    subst hts
    rw [List.map_map, show (rest.map ((fun t => match t with | .is (.int n) => T.int (n * headI g) | _ => .any) ∘ T.int)) = (rest.map (· * headI g)).map T.int by rw [List.map_map]; rfl]
    let F := rawI g rest
    refine wg_for2 (P := (· = enumT 0 (g.map T.int))) 7 6 (fun items j G' => ∃ cur e6 e7, G' = [.sh (.ints f), .sh (.ints g), .mu (cur.map T.int), .sh (.int (headI g)), .sh (.int (sh : Int)), .sh (.int (lastI g rest)), e6, e7] ∧ cur.length = rest.length ∧ rowS (lastI g rest) (g.drop j) (sh + j) cur = F) (by decide) rfl rfl rfl scIntRest.nd (ig_enum (ts := g.map T.int) (eg_var 1 rfl rfl) rfl rfl G.enu) (fun items hi => ⟨_, _, _, rfl, by rw [List.length_map], by show rowS (lastI g rest) g sh _ = rawI g rest; unfold rawI; rw [hsh]⟩) (fun items k G' ⟨cur, e6, e7, hG, _⟩ => by rw [hG]; exact ⟨of_decide_eq_true rfl, of_decide_eq_true rfl⟩) (fun items hi R2 j t G' dn2 ht ⟨cur, e6, e7, hG, hl', hc⟩ => ?_) (fun items G' hi ⟨cur, e6, e7, hG, hl', hc⟩ => ?_)
    · subst hi; subst hG
      obtain ⟨r, hj, rfl⟩ := enum_at ht
      refine ⟨_, _, rfl, ?_⟩
      rw [Nat.zero_add]
      have hjl : j < g.length := (List.getElem?_eq_some_iff.mp hj).1
      rw [drop_at hj] at hc
      have hkj : sh + j < cur.length := by omega
      refine wg_seti 2 (Pa := (· = .int (cur.getD (sh + j) 0 - lastI g rest * r))) (Pb := (· = .int ((sh + j : Nat) : Int))) rfl (eg_sub (eg_ixM 2 rfl (eg_add (Phi := (· = .int ((sh + j : Nat) : Int))) (eg_var 4 rfl rfl) (eg_var 7 rfl rfl) (by rw [Int.natCast_add])) (fun _ _ => rfl) (tAt_nat (ints_get (getD_int hkj))) rfl) (eg_mul (eg_var 5 rfl rfl) (eg_var 6 rfl rfl) (zl.mul (hI.zg r (List.mem_of_getElem? hj))) rfl) rfl) (eg_add (eg_var 4 rfl rfl) (eg_var 7 rfl rfl) (by rw [Int.natCast_add])) ?_
      rintro t u rfl rfl
      refine ⟨_, sh + j, rfl, by rw [List.length_map]; exact ixN_nat hkj, ?_⟩
      exact wg_end ⟨cur.set (sh + j) (cur.getD (sh + j) 0 - lastI g rest * r), _, _, by rw [← map_set cur (sh + j) (cur.getD (sh + j) 0 - lastI g rest * r) (emb := T.int)]; rfl, by rw [List.length_set]; exact hl', hc⟩
    · subst hi; subst hG
      rw [enumT_len, List.length_map, List.drop_length] at hc
      have hc' : cur = F := hc
      refine wg_frz 2 rfl ?_
      refine wg_setF 2 scIntRest.nd (P := (· = (stepI g rest).map T.int)) (fg_list rfl (eg_fn (h1 cur (by omega)) (Room.mono hr (by decide)) rfl (ag_one (eg_var 2 rfl rfl)) rfl fun t z => .inl (by rw [z]; rfl)) rfl G.lst ?_) ?_
      · rw [hc']; rfl
      · rintro ts rfl
        have := stepI_len hI.ne hge
        exact wg_end ⟨_, this, stepI g rest, _, _, _, _, rfl, rfl, hs, by omega⟩
  · have hlt : ¬ g.length ≤ rest.length := of_decide_eq_false z.symm
    refine wg_frz 2 rfl ?_
    exact wg_retq (eg_fn (h1 rest (by omega)) (Room.mono hr (by decide)) rfl (ag_one (eg_var 2 rfl rfl)) rfl fun t z => ⟨rest, z, hv, by omega⟩)
end My

set_option Elab.async false
set_option linter.all false
set_option maxRecDepth 100000
set_option maxHeartbeats 4000000
/-! Df9: common_of, lowest, powers_of, put_pair. -/
namespace My
open PySem L2 PyProof.Rows
theorem eg_ixTN {b : Bs} {X : Cx} {G : List En} {a c : Expr} {pos : Pos} {Phi Pa : T → Prop} {n : Int} (hK : b.c.K = X.K) (ha : EG b X G a Pa) (hi : EG b X G c (· = .int n)) (hx : PlainIx c) (h : ∀ t, Pa t → ∃ ts u, t = .tup ts ∧ tAt ts n = some u ∧ Phi u) : EG b X G (.Subscript a c pos) Phi := fun σ H Hr s Q q =>
  we_of (pe_ix ix_tup pe_self pe_self hx) (we_two ha hi s fun ta tb x y H2 Hr2 p1 p2 e2 s2 h1 h2 => by
    subst p2
    obtain ⟨ts, u, rfl, hu, hP⟩ := h ta p1
    obtain ⟨l, vs, rfl, hl, hv⟩ := holds_tup.mp h1
    obtain ⟨v, hv1, hv2⟩ := tAt_get hv hu
    exact ⟨l, vs, n, v, rfl, holds_is.mp h2, hK ▸ same_tup s2.r2 hl, hv1, q u v H2 Hr2 hP e2 s2 hv2⟩)
/-! ### int_common -/
theorem scIntCom : scOk (top 43) ["one", "other", "near", "far"] ["one", "other"] := ⟨rfl, rfl, rfl, by decide +kernel, rfl, by decide +kernel, by decide +kernel⟩
abbrev plainRow (E : Wd) : Prop := ∀ f : List Int, f.length < 1000 → E.Fn "plain_row" 36 [.ints f] (· = .ints (plainI f))
theorem ok_intCom {E : Wd} (G : Glo E) (D : Dfn E "int_common" (top 43) ["one", "other"]) (h1 : plainRow E) (f g : List Int) (lf : f.length < 1000) (lg : g.length < 1000) (Inv : List Int → List Int → Prop) (hi : Inv (plainI f) (plainI g))
    (hs : ∀ near far, Inv near far → far ≠ [] → E.Fn "int_rest" 37 [.ints near, .ints far] (fun t => ∃ r, t = .ints r ∧ Inv far r ∧ r.length < far.length)) : E.Fn "int_common" 38 [.ints f, .ints g] (fun t => ∃ near, t = .ints near ∧ Inv near []) := by
  refine Wd.fn G D scIntCom fun f0 cdv A outer s H E0 B Hr hr hp => ?_
  refine wg_par 2 3 (Pa := (· = .ints (plainI f))) (Pb := (· = .ints (plainI g))) (by decide) rfl scIntCom.nd (eg_fn (h1 f lf) (hr.mono (by decide)) rfl (ag_one (eg_var 0 rfl rfl)) rfl fun t z => z) (eg_fn (h1 g lg) (hr.mono (by decide)) rfl (ag_one (eg_var 1 rfl rfl)) rfl fun t z => z) ?_
  rintro t u rfl rfl
  refine wg_while (fun m G' => ∃ near far, G' = [.sh (.ints f), .sh (.ints g), .sh (.ints near), .sh (.ints far)] ∧ m = far.length ∧ Inv near far) rfl ⟨_, _, _, rfl, rfl, hi⟩ ?_
  rintro m G' ⟨near, far, rfl, rfl, hv⟩
  refine ⟨(· = decide (far ≠ [])), tg_gt (i := (far.length : Int)) (eg_lenL (ts := far.map T.int) (eg_var 3 rfl rfl) rfl G.len (by rw [List.length_map])) (eg_int rfl) (decide_eq_decide.mpr ?_), fun z => ?_, fun z => ?_⟩
  · rw [← List.length_pos_iff]; omega
  · have hne : far ≠ [] := of_decide_eq_true z.symm
    refine wg_par 2 3 (Pa := (· = .ints far)) (Pb := fun t => ∃ r, t = .ints r ∧ Inv far r ∧ r.length < far.length) (by decide) rfl scIntCom.nd (eg_var 3 rfl rfl) (eg_fn (hs near far hv hne) hr rfl (ag_cons (eg_var 2 rfl rfl) (ag_one (eg_var 3 rfl rfl))) rfl fun t z => z) ?_
    rintro t u rfl ⟨r, rfl, h2, h3⟩
    exact wg_end ⟨_, h3, far, r, rfl, rfl, h2⟩
  · have he : far = [] := Classical.byContradiction fun q => (of_decide_eq_false z.symm) q
    subst he
    exact wg_retq (eg_var 2 rfl ⟨near, rfl, hv⟩)
/-! ### common_of -/
theorem scCommon : scOk (top 44) ["one", "other", "near", "number"] ["one", "other"] := ⟨rfl, rfl, rfl, by decide +kernel, rfl, by decide +kernel, by decide +kernel⟩
abbrev wholesF (E : Wd) : Prop := ∀ f, Wh f → E.Fn "wholes" 36 [.poly f] (· = .tup [.int (dl f : Int), .ints (wholeI f)])
/-- ints over their last -/
def monicI (l : List Int) : List Rat := l.map fun n : Int => (n : Rat) / ((l.getD (l.length - 1) 0 : Int) : Rat)
theorem ok_common {E : Wd} (G : Glo E) (D : Dfn E "common_of" (top 44) ["one", "other"]) (h1 : wholesF E) (h3 : makesRatio E) (f g : List Rat) (hf : Wh f) (hg : Wh g) (Inv : List Int → Prop)
    (h2 : E.Fn "int_common" 38 [.ints (wholeI f), .ints (wholeI g)] (fun t => ∃ near, t = .ints near ∧ Inv near)) (hI : ∀ near, Inv near → near.length < 1000 ∧ (near ≠ [] → near.getD (near.length - 1) 0 ≠ 0)) : E.Fn "common_of" 39 [.poly f, .poly g] (fun t => ∃ near, t = .poly (monicI near) ∧ Inv near) := by
  refine Wd.fn G D scCommon fun f0 cdv A outer s H E0 B Hr hr hp => ?_
  refine wg_set 2 scCommon.nd (Pa := fun t => ∃ near, t = .ints near ∧ Inv near) (eg_fn h2 (hr.mono (by decide)) rfl (ag_cons (eg_ixT rfl (eg_fn (h1 f hf) (hr.mono (by decide)) rfl (ag_one (eg_var 0 rfl rfl)) rfl fun t z => z) (eg_int rfl) (fun _ _ => rfl) rfl rfl) (ag_one (eg_ixT rfl (eg_fn (h1 g hg) (hr.mono (by decide)) rfl (ag_one (eg_var 1 rfl rfl)) rfl fun t z => z) (eg_int rfl) (fun _ _ => rfl) rfl rfl))) rfl fun t z => z) ?_
  rintro t ⟨near, rfl, hv⟩
  obtain ⟨hl, hz⟩ := hI near hv
  refine wg_retq (eg_fr (fg_lcL 3 near T.int (fun n => T.rat ((n : Rat) / ((near.getD (near.length - 1) 0 : Int) : Rat))) scCommon.nd (fun a _ a' _ e => by rw [tint_inj e]) (ig_lst (Pa := (· = .ints near)) (eg_var 2 rfl rfl) fun t ht => ⟨_, ht, rfl⟩) hl (fun n hn R' s1 H1 C1 cl fp => ?_) rfl) fun ts hts => by subst hts; exact ⟨near, by unfold monicI T.poly; rw [List.map_map]; rfl, hv⟩)
  have hne : near ≠ [] := List.ne_nil_of_mem hn
  have en : near[near.length - 1]? = some (near.getD (near.length - 1) 0) := getD_int (by have := List.length_pos_iff.mpr hne; omega)
  exact eg_rat2 h3 (Room.mono hr (by decide)) (eg_var 3 rfl rfl) (eg_ixL rfl (eg_var 2 rfl rfl) (eg_neg rfl) (fun _ _ => rfl) (last_at en) rfl) (hz hne) rfl
/-! ### lowest -/
theorem scLowest : scOk (top 47) ["top", "bottom", "shared", "near", "far", "number"] ["top", "bottom"] := ⟨rfl, rfl, rfl, by decide +kernel, rfl, by decide +kernel, by decide +kernel⟩
/-- f over the last of g -/
def overL (f : List Rat) (g : List Rat) : List Rat := f.map fun q => q / g.getD (g.length - 1) 0
abbrev scaleBy (f : List Rat) (c : Rat) : List Rat := f.map fun q => q / c

theorem last_rat {f : List Rat} (h : f ≠ []) : f[f.length - 1]? = some (f.getD (f.length - 1) 0) := getD_at (by have := List.length_pos_iff.mpr h; omega)
theorem map_overL (f g : List Rat) : (f.map fun q => T.rat (q / g.getD (g.length - 1) 0)) = (overL f g).map T.rat := by unfold overL; rw [List.map_map]; rfl
theorem ok_lowest {E : Wd} (G : Glo E) (C : Cla E) (D : Dfn E "lowest" (top 47) ["top", "bottom"]) (h1 : overM E) (h3 : makesRatio E) (f g : List Rat) (hf0 : f ≠ []) (CO : List Rat → Prop) (DT DB : List Rat → List Rat → Prop)
    (h2 : E.Fn "common_of" 39 [.poly f, .poly g] (fun t => ∃ s, t = .poly s ∧ CO s))
    (h4 : ∀ s, CO s → 1 < s.length → E.Fn "parts_of" 39 [.poly f, .poly s] (fun t => ∃ r q, t = .tup [.poly q, .poly r] ∧ DT s q))
    (h5 : ∀ s, CO s → 1 < s.length → E.Fn "parts_of" 39 [.poly g, .poly s] (fun t => ∃ r q, t = .tup [.poly q, .poly r] ∧ DB s q))
    (h6 : ∀ s n d, CO s → (if 1 < s.length then DT s n ∧ DB s d else n = f ∧ d = g) → d ≠ [] ∧ d.getD (d.length - 1) 0 ≠ 0 ∧ Szs n ∧ Szs d ∧ n.length < 1000 ∧ d.length < 1000) :
    E.Fn "lowest" 40 [.poly f, .poly g] (fun t => ∃ s n d, t = .tup [.poly (overL n d), .poly (overL d d)] ∧ CO s ∧ if 1 < s.length then DT s n ∧ DB s d else n = f ∧ d = g) := by
  refine Wd.fn G D scLowest fun f0 cdv A outer s H E0 B Hr hr hp => ?_
  refine wg_ifF (tg_eq (v := .int (f.length : Int)) (w := .int 0) (eg_lenL (ts := f.map T.rat) (eg_var 0 rfl rfl) rfl G.len (by rw [List.length_map])) (eg_int rfl) rfl (by rw [len_zero]; exact decide_eq_false hf0)) ?_
  refine wg_set 2 scLowest.nd (eg_fn h2 hr rfl (ag_cons (eg_var 0 rfl rfl) (ag_one (eg_var 1 rfl rfl))) rfl fun t z => z) ?_
  rintro t ⟨sh, rfl, hs⟩
  refine wg_unp 3 4 (Pa := fun t => ∃ n d, t = .tup [.poly n, .poly d] ∧ if 1 < sh.length then DT sh n ∧ DB sh d else n = f ∧ d = g) (by decide) rfl rfl scLowest.nd (eg_if (Pt := (· = decide (1 < sh.length))) (tg_gt (i := (sh.length : Int)) (eg_lenL (ts := sh.map T.rat) (eg_var 2 rfl rfl) rfl G.len (by rw [List.length_map])) (eg_int rfl) (decide_eq_decide.mpr (by omega))) (fun z => ?_) fun z => ?_) fun t z => ?_
  · have hz : 1 < sh.length := of_decide_eq_true z.symm
    refine eg_tup (A1 := fun ts => ∃ n d, ts = [.poly n, .poly d] ∧ DT sh n ∧ DB sh d) (ag_consN (Pa := fun t => ∃ n, t = .poly n ∧ DT sh n) (A2 := fun ts => ∃ d, ts = [.poly d] ∧ DB sh d) ?_ (ag_consN (Pa := fun t => ∃ n, t = .poly n ∧ DB sh n) (A2 := fun ts => ts = []) ?_ (ag_nil rfl) fun t ts ⟨d, h, h'⟩ h2 => ⟨d, by rw [h, h2], h'⟩) fun t ts ⟨n, h, h'⟩ ⟨d, k, k'⟩ => ⟨n, d, by rw [h, k], h', k'⟩) fun ts ⟨n, d, h, h2, h3⟩ => ⟨by rw [h]; exact of_decide_eq_true rfl, n, d, by rw [h], by rw [if_pos hz]; exact ⟨h2, h3⟩⟩
    · exact eg_ixTN rfl (eg_fn (h4 sh hs hz) hr rfl (ag_cons (eg_var 0 rfl rfl) (ag_one (eg_var 2 rfl rfl))) rfl fun t z => z) (eg_int rfl) (fun _ _ => rfl) fun t ⟨r, q, h, h'⟩ => ⟨_, _, h, rfl, q, rfl, h'⟩
    · exact eg_ixTN rfl (eg_fn (h5 sh hs hz) hr rfl (ag_cons (eg_var 1 rfl rfl) (ag_one (eg_var 2 rfl rfl))) rfl fun t z => z) (eg_int rfl) (fun _ _ => rfl) fun t ⟨r, q, h, h'⟩ => ⟨_, _, h, rfl, q, rfl, h'⟩
  · have hz : ¬ 1 < sh.length := of_decide_eq_false z.symm
    exact eg_tup (A1 := (· = [.poly f, .poly g])) (ag_cons (eg_var 0 rfl rfl) (ag_one (eg_var 1 rfl rfl))) fun ts h => ⟨by rw [h]; exact of_decide_eq_true rfl, f, g, by rw [h], by rw [if_neg hz]; exact ⟨rfl, rfl⟩⟩
  obtain ⟨n, d, rfl, hnd⟩ := z
  refine ⟨_, _, rfl, ?_⟩
  obtain ⟨d1, d2, d3, d4, d5, d6⟩ := h6 sh n d hs hnd
  have ed := last_rat d1
  refine wg_retq (eg_tup (A1 := (· = [.poly (overL n d), .poly (overL d d)])) (ag_cons (eg_fr (fg_lcL 5 n T.rat (fun q => T.rat (q / d.getD (d.length - 1) 0)) scLowest.nd (fun a _ a' _ e => by rw [rat_inj e]) (ig_lst (Pa := (· = .poly n)) (eg_var 3 rfl rfl) fun t ht => ⟨_, ht, rfl⟩) d5 (fun q hq R' s1 H1 C1 cl fp => ?_) rfl) fun ts hts => by subst hts; rw [map_overL]; rfl) (ag_one (eg_fr (fg_lcL 5 d T.rat (fun q => T.rat (q / d.getD (d.length - 1) 0)) scLowest.nd (fun a _ a' _ e => by rw [rat_inj e]) (ig_lst (Pa := (· = .poly d)) (eg_var 4 rfl rfl) fun t ht => ⟨_, ht, rfl⟩) d6 (fun q hq R' s1 H1 C1 cl fp => ?_) rfl) fun ts hts => by subst hts; rw [map_overL]; rfl))) fun ts hts => by subst hts; exact ⟨of_decide_eq_true rfl, sh, n, d, rfl, hs, hnd⟩)
  · exact eg_over h1 (Room.mono hr (by decide)) (eg_var 5 rfl rfl) (eg_ixL rfl (eg_var 4 rfl rfl) (eg_neg rfl) (fun _ _ => rfl) (last_at ed) rfl) (nt_r _) (d3 q hq) (d4 _ (List.mem_of_getElem? ed)) d2 rfl (hC := C.clo)
  · exact eg_over h1 (Room.mono hr (by decide)) (eg_var 5 rfl rfl) (eg_ixL rfl (eg_var 4 rfl rfl) (eg_neg rfl) (fun _ _ => rfl) (last_at ed) rfl) (nt_r _) (d4 q hq) (d4 _ (List.mem_of_getElem? ed)) d2 rfl (hC := C.clo)
/-- .. nought on top -/
theorem ok_lowest0 {E : Wd} (G : Glo E) (D : Dfn E "lowest" (top 47) ["top", "bottom"]) (h3 : makesRatio E) (t : T) : E.Fn "lowest" 40 [.poly [], t] (· = .tup [.poly [], .poly [1]]) := by
  refine Wd.fn G D scLowest fun f0 cdv A outer s H E0 B Hr hr hp => ?_
  refine wg_ifT (tg_eq (v := .int 0) (w := .int 0) (eg_lenL (ts := []) (eg_var 0 rfl rfl) rfl G.len rfl) (eg_int rfl) rfl rfl) ?_
  exact wg_retR rfl (eg_tup (A1 := (· = [.poly [], .poly [1]])) (ag_cons (eg_fr (P := (· = [])) (fg_lst (ag_nil rfl) fun ts hts => by subst hts; exact of_decide_eq_true rfl) fun ts hts => by subst hts; rfl) (ag_one (eg_fr (P := (· = [T.rat 1])) (fg_lst (ag_one (eg_rat1 h3 (hr.mono (by decide)) (eg_int rfl) rfl)) fun ts hts => by subst hts; exact of_decide_eq_true rfl) fun ts hts => by subst hts; rfl))) fun ts hts => by subst hts; exact ⟨of_decide_eq_true rfl, rfl⟩)
end My

set_option Elab.async false
set_option linter.all false
set_option maxRecDepth 100000
set_option maxHeartbeats 4000000
/-! DfA: powers_of, put_pair. -/
namespace My
open PySem L2 PyProof.Rows
structure PrOk (f g : List Rat) : Prop where
  wf : Wh f
  wg : Wh g
  f2 : SzIs (wholeI f)
  g2 : SzIs (wholeI g)
  lf : f.length < 400
  lg : g.length < 400
abbrev prodOf (E : Wd) : Prop := ∀ f g, PrOk f g → E.Fn "product_of" 38 [.poly f, .poly g] (· = .poly (prodF f g))
/-! ### powers_of -/
def powF (f : List Rat) : Nat → List Rat
  | 0 => [1]
  | k + 1 => prodF (powF f k) f
theorem scPowers : scOk (top 48) ["poly", "many", "found", "turn"] ["poly", "many"] := ⟨rfl, rfl, rfl, by decide +kernel, rfl, by decide +kernel, by decide +kernel⟩
def powL (f : List Rat) (n : Nat) : List T := (List.range (n + 1)).map fun k => T.poly (powF f k)
theorem powL_succ (f : List Rat) (n : Nat) : powL f (n + 1) = powL f n ++ [T.poly (powF f (n + 1))] := by unfold powL; rw [List.range_succ, List.map_append]; rfl
theorem powL_len (f : List Rat) (n : Nat) : (powL f n).length = n + 1 := by unfold powL; rw [List.length_map, List.length_range]
theorem powL_get {f : List Rat} {n k : Nat} (h : k ≤ n) : (powL f n)[k]? = some (T.poly (powF f k)) := by unfold powL; rw [List.getElem?_map, List.getElem?_range (by omega)]; rfl
theorem ok_powers {E : Wd} (G : Glo E) (D : Dfn E "powers_of" (top 48) ["poly", "many"]) (h1 : makesRatio E) (h2 : prodOf E) (f : List Rat) (n : Nat) (hn : n < 900) (hp0 : ∀ k, k < n → PrOk (powF f k) f) : E.Fn "powers_of" 39 [.poly f, .int (n : Int)] (· = .lst (powL f n)) := by
  refine Wd.fn G D scPowers fun f0 cdv A outer s H E0 B Hr hr hp => ?_
  refine wg_setF 2 scPowers.nd (P := (· = powL f 0)) (fg_lst (ag_one (eg_fr (P := (· = [T.rat 1])) (fg_lst (ag_one (eg_rat1 h1 (hr.mono (by decide)) (eg_int rfl) rfl)) fun ts hts => by subst hts; exact of_decide_eq_true rfl) fun ts hts => by subst hts; rfl)) fun ts hts => by subst hts; exact of_decide_eq_true rfl) ?_
  rintro ts rfl
  refine wg_for (P := (· = (List.range n).map fun i => T.int ((i : Nat) : Int))) 3 (fun items k G' => ∃ r, k ≤ n ∧ G' = [.sh (.poly f), .sh (.int (n : Int)), .mu (powL f k), r]) rfl rfl scPowers.nd (ig_rng (Pa := (· = .int (n : Int))) (eg_var 1 rfl rfl) (fun t ht => ⟨_, ht, by omega, by omega, by rw [Int.toNat_natCast]⟩) rfl G.rng) (fun items hi => ⟨_, Nat.zero_le _, rfl⟩) (fun items k G' ⟨r, _, hG⟩ => by rw [hG]; exact of_decide_eq_true rfl) (fun items hi R' k t G' dn ht ⟨r, _, hG⟩ => ?_) (fun items G' hi ⟨r, _, hG⟩ => ?_)
  · subst hi; subst hG
    have hk : k < n := by
      have := (List.getElem?_eq_some_iff.mp ht).1
      simpa using this
    refine wg_app 2 rfl (by rw [powL_len]; omega) (Pa := (· = T.poly (powF f (k + 1)))) (eg_fn (h2 _ _ (hp0 k hk)) hr rfl (ag_cons (eg_ixM 2 rfl (eg_neg rfl) (fun _ _ => rfl) (tAt_last (by rw [List.getLast?_eq_getElem?, powL_len]; exact powL_get (Nat.le_refl _))) rfl) (ag_one (eg_var 0 rfl rfl))) rfl fun t z => z) ?_
    rintro t rfl
    exact wg_end ⟨_, hk, by rw [powL_succ]; rfl⟩
  · subst hi; subst hG
    rw [List.length_map, List.length_range]
    refine wg_frz 2 rfl ?_
    exact wg_retq (eg_var 2 rfl rfl)
/-! ### put_pair -/
/-- one term -/
def putT (n m : List Rat) (high k : Nat) (c : Rat) : List Rat := trimF ((prodF (powF n k) (powF m (high - k))).map (· * c))
/-- the sum of the first k terms -/
def putK (n m : List Rat) (high : Nat) (f : List Rat) : Nat → List Rat
  | 0 => []
  | k + 1 => if f.getD k 0 = 0 then putK n m high f k else sumF (putK n m high f k) (putT n m high k (f.getD k 0))
/-- small enough all along -/
structure PutOk (n m : List Rat) (high : Nat) (f : List Rat) : Prop where
  l : f.length ≤ high + 1
  p : ∀ k, k < f.length → PrOk (powF n k) (powF m (high - k)) ∧ Szs (prodF (powF n k) (powF m (high - k))) ∧ (prodF (powF n k) (powF m (high - k))).length < 1000 ∧ Sz (f.getD k 0) ∧ Szs (putT n m high k (f.getD k 0)) ∧ (putT n m high k (f.getD k 0)).length < 1000 ∧ Szs (putK n m high f k) ∧ (putK n m high f k).length < 1000
theorem scPut2 : scOk (top 49) ["top", "bottom", "near", "far", "high", "above", "below", "found", "poly", "total", "at", "number"] ["top", "bottom", "near", "far"] := ⟨rfl, rfl, rfl, by decide +kernel, rfl, by decide +kernel, by decide +kernel⟩
abbrev signP (E : Wd) : Prop := ∀ q : Rat, E.Pr .R "sign" 1 [T.rat q] (· = .int q.num.sign)
section
variable {E : Wd} {b : Bs} {X : Cx} {Gm : List En} {e : Expr} {pos : Pos} {Phi : T → Prop} {q : Rat}
theorem eg_sign (h : signP E) (hr : Room 2 X.A) (he : EG b X Gm e (· = T.rat q)) (hP : Phi (.int q.num.sign)) (hC : ∀ k, ClO E.c k) (hc : b.c = E.c := by rfl) (hm : X.mg = E.mg := by rfl) (hK : X.K = E.K := by rfl) (hp1 : X.prog = E.P := by rfl) (hw : X.w = E.w := by rfl) (hbs : X.base = E.base := by rfl) (hb : attributeBase e "sign" X.env (eval e X.env) = eval e X.env := by rfl) : EG b X Gm (.Attribute e "sign" pos) Phi := by
  obtain ⟨c, B, R, pot⟩ := b
  have hc' : c = E.c := hc
  subst hc'
  have M : PCal E.P E.w E.K E.mg E.base (E.c.cl .R) "sign" 1 (spOf E.c (· = [T.rat q]) fun _ u => u = .int q.num.sign) := h q
  rw [← hp1, ← hw, ← hK, ← hm, ← hbs] at M
  exact eg_prop (kn := .R) hK.symm (hC .R) M hr he rfl (fun u z => by rw [z]; exact hP) hb
end
theorem sign_zero (q : Rat) : decide (V.int q.num.sign = V.int 0) = decide (q = 0) := by
  refine decide_eq_decide.mpr ⟨fun z => ?_, fun z => by rw [z]; rfl⟩
  injection z with z
  exact Rat.num_eq_zero.mp (Int.sign_eq_zero_iff_zero.mp z)
theorem ok_putPair {E : Wd} (G : Glo E) (C : Cla E) (D : Dfn E "put_pair" (top 49) ["top", "bottom", "near", "far"]) (h1 : signP E) (h2 : prodOf E) (h3 : ∀ (f : List Rat) (n : Nat), n < 900 → (∀ k, k < n → PrOk (powF f k) f) → E.Fn "powers_of" 39 [.poly f, .int (n : Int)] (· = .lst (powL f n)))
    (h4 : ∀ f g : List Rat, Szs f → Szs g → f.length < 1000 → g.length < 1000 → E.Fn "sum_of" 39 [.poly f, .poly g] (· = .poly (sumF f g))) (h5 : ∀ (f : List Rat) (r : Rat), Szs f → Sz r → f.length < 1000 → E.Fn "by_number" 39 [.poly f, T.rat r] (· = .poly (trimF (f.map (· * r)))))
    (f g n m : List Rat) (high : Nat) (hh : max f.length g.length = high + 1) (hhl : high < 900) (hn : ∀ k, k < high → PrOk (powF n k) n) (hm : ∀ k, k < high → PrOk (powF m k) m) (hf : PutOk n m high f) (hg : PutOk n m high g) :
    E.Fn "put_pair" 40 [.poly f, .poly g, .poly n, .poly m] (· = .tup [.poly (putK n m high f f.length), .poly (putK n m high g g.length)]) := by
  refine Wd.fn G D scPut2 fun f0 cdv A outer s H E0 B Hr hr hp => ?_
  refine wg_set 4 scPut2.nd (Pa := (· = .int (high : Int))) (eg_sub (i := (max f.length g.length : Nat)) (eg_max rfl (eg_lenL (ts := f.map T.rat) (eg_var 0 rfl rfl) rfl G.len (by rw [List.length_map])) (eg_lenL (ts := g.map T.rat) (eg_var 1 rfl rfl) rfl G.len (by rw [List.length_map])) rfl G.max (by rw [show ((max f.length g.length : Nat) : Int) = max (f.length : Int) (g.length : Int) by omega])) (eg_int rfl) (by rw [hh, show ((high + 1 : Nat) : Int) - 1 = (high : Int) by omega])) ?_
  rintro t rfl
  refine wg_par 5 6 (Pa := (· = .lst (powL n high))) (Pb := (· = .lst (powL m high))) (by decide) rfl scPut2.nd (eg_fn (h3 n high hhl hn) hr rfl (ag_cons (eg_var 2 rfl rfl) (ag_one (eg_var 4 rfl rfl))) rfl fun t z => z) (eg_fn (h3 m high hhl hm) hr rfl (ag_cons (eg_var 3 rfl rfl) (ag_one (eg_var 4 rfl rfl))) rfl fun t z => z) ?_
  rintro t u rfl rfl
  refine wg_setF 7 scPut2.nd (P := (· = [])) (fg_lst (ag_nil rfl) fun ts hts => by subst hts; exact of_decide_eq_true rfl) ?_
  rintro ts rfl
  let res : List Rat → T := fun f => T.poly (putK n m high f f.length)
  have step : ∀ (R' : Hp) (rest : List Stmt) (Dn : Ends) (h : List Rat) (fs : List T) (e9 e10 e11 : En), PutOk n m high h → fs.length < 900 → (∀ e9 e10 e11, WG ⟨E.c, B, R', none⟩ (cxB E.P E.w E.c.K E.mg E.base ["top", "bottom", "near", "far", "high", "above", "below", "found", "poly", "total", "at", "number"] "put_pair" (defScope (top 49)) f0 cdv A outer s H E0) [.sh (.poly f), .sh (.poly g), .sh (.poly n), .sh (.poly m), .sh (.int (high : Int)), .sh (.lst (powL n high)), .sh (.lst (powL m high)), .mu (fs ++ [res h]), .sh (.poly h), e9, e10, e11] rest Dn) →
      WG ⟨E.c, B, R', none⟩ (cxB E.P E.w E.c.K E.mg E.base ["top", "bottom", "near", "far", "high", "above", "below", "found", "poly", "total", "at", "number"] "put_pair" (defScope (top 49)) f0 cdv A outer s H E0) [.sh (.poly f), .sh (.poly g), .sh (.poly n), .sh (.poly m), .sh (.int (high : Int)), .sh (.lst (powL n high)), .sh (.lst (powL m high)), .mu fs, .sh (.poly h), e9, e10, e11] ((match (defBody (top 49)).getD 3 (.Pass ⟨0, 0, 0, 0⟩) with | .For _ _ b _ _ => b | _ => []) ++ rest) Dn := by
    intro R' rest Dn h fs e9 e10 e11 ho hfs hfin
    refine wg_set 9 scPut2.nd (Pa := (· = .poly [])) (eg_fr (P := (· = [])) (fg_lst (ag_nil rfl) fun ts hts => by subst hts; exact of_decide_eq_true rfl) fun ts hts => by subst hts; rfl) ?_
    rintro t rfl
    refine wg_for2 (P := (· = enumT 0 (h.map T.rat))) 10 11 (fun items k G' => ∃ e10 e11, G' = [.sh (.poly f), .sh (.poly g), .sh (.poly n), .sh (.poly m), .sh (.int (high : Int)), .sh (.lst (powL n high)), .sh (.lst (powL m high)), .mu fs, .sh (.poly h), .sh (.poly (putK n m high h k)), e10, e11]) (by decide) rfl rfl rfl scPut2.nd (ig_enum (ts := h.map T.rat) (eg_var 8 rfl rfl) rfl rfl G.enu) (fun items hi => ⟨_, _, rfl⟩) (fun items k G' ⟨e10, e11, hG⟩ => by rw [hG]; exact ⟨of_decide_eq_true rfl, of_decide_eq_true rfl⟩) (fun items hi R2 k t G' dn2 ht ⟨e10, e11, hG⟩ => ?_) (fun items G' hi ⟨e10, e11, hG⟩ => ?_)
    · subst hi; subst hG
      obtain ⟨c, hk, rfl⟩ := enum_at ht
      refine ⟨_, _, rfl, ?_⟩
      rw [Nat.zero_add]
      have hkl : k < h.length := (List.getElem?_eq_some_iff.mp hk).1
      have hc : h.getD k 0 = c := by rw [List.getD_eq_getElem?_getD, hk]; rfl
      obtain ⟨p1, p2, p3, p4, p5, p6, p7, p8⟩ := ho.p k hkl
      rw [hc] at p4 p5 p6
      have hkh : k ≤ high := by have := ho.l; omega
      refine wg_if (tg_ne (v := .int c.num.sign) (w := .int 0) (P := (· = !decide (c = 0))) (eg_sign h1 (Room.mono hr (by decide)) (eg_var 11 rfl rfl) rfl (hC := C.clo)) (eg_int rfl) rfl (by rw [sign_zero])) (fun z => ?_) fun z => ?_
      · have hc0 : ¬ c = 0 := fun q => by rw [decide_eq_true q] at z; cases z
        refine wg_set 9 scPut2.nd (Pa := (· = .poly (putK n m high h (k + 1)))) (eg_fn (h4 _ _ p7 p5 p8 p6) (Room.mono hr (by decide)) rfl (ag_cons (eg_var 9 rfl rfl) (ag_one (eg_fn (h5 _ c p2 p4 p3) (Room.mono hr (by decide)) rfl (ag_cons (eg_fn (h2 _ _ p1) (Room.mono hr (by decide)) rfl (ag_cons (eg_ixL rfl (eg_var 5 rfl rfl) (eg_var 10 rfl rfl) (fun _ _ => rfl) (tAt_nat (powL_get hkh)) rfl) (ag_one (eg_ixL rfl (eg_var 6 rfl rfl) (eg_sub (Phi := (· = .int ((high - k : Nat) : Int))) (eg_var 4 rfl rfl) (eg_var 10 rfl rfl) (by rw [show ((high - k : Nat) : Int) = (high : Int) - (k : Int) by omega])) (fun _ _ => rfl) (tAt_nat (powL_get (by omega))) rfl))) rfl fun t z => z) (ag_one (eg_var 11 rfl rfl))) rfl fun t z => z))) rfl fun t z => ?_) ?_
        · rw [z]
          show _ = T.poly (if h.getD k 0 = 0 then _ else _)
          rw [hc, if_neg hc0]
          first | done | rfl
        · rintro t rfl
          refine wg_endE ?_
          exact ⟨_, _, rfl⟩
      · have hc0 : c = 0 := of_decide_eq_true (by cases h : decide (c = 0) <;> rw [h] at z <;> first | rfl | cases z)
        refine wg_endE ?_
        refine ⟨.sh (.int (k : Int)), .sh (T.rat c), ?_⟩
        have e : putK n m high h (k + 1) = putK n m high h k := by
          show (if h.getD k 0 = 0 then _ else _) = _
          rw [hc, if_pos hc0]
        rw [e]; rfl
    · subst hi; subst hG
      rw [enumT_len, List.length_map]
      refine wg_app 7 rfl (by omega) (Pa := (· = res h)) (eg_var 9 rfl rfl) ?_
      rintro t rfl
      exact hfin _ _ _
  refine wg_for (P := (· = [f, g].map T.poly)) 8 (fun items k G' => ∃ e8 e9 e10 e11, G' = [.sh (.poly f), .sh (.poly g), .sh (.poly n), .sh (.poly m), .sh (.int (high : Int)), .sh (.lst (powL n high)), .sh (.lst (powL m high)), .mu (([f, g].take k).map res), e8, e9, e10, e11]) rfl rfl scPut2.nd (ig_tup rfl (eg_tup (A1 := (· = [.poly f, .poly g])) (ag_cons (eg_var 0 rfl rfl) (ag_one (eg_var 1 rfl rfl))) fun ts hts => by subst hts; exact ⟨of_decide_eq_true rfl, rfl⟩) rfl) (fun items hi => ⟨_, _, _, _, rfl⟩) (fun items k G' ⟨e8, e9, e10, e11, hG⟩ => by rw [hG]; exact of_decide_eq_true rfl) (fun items hi R' k t G' dn ht ⟨e8, e9, e10, e11, hG⟩ => ?_) (fun items G' hi ⟨e8, e9, e10, e11, hG⟩ => ?_)
  · subst hi; subst hG
    match k, ht with
    | 0, ht =>
      cases ht
      exact step R' [] _ f [] e9 e10 e11 hf (by decide) fun e9 e10 e11 => wg_end ⟨_, _, _, _, rfl⟩
    | 1, ht =>
      cases ht
      exact step R' [] _ g [res f] e9 e10 e11 hg (of_decide_eq_true rfl) fun e9 e10 e11 => wg_end ⟨_, _, _, _, rfl⟩
    | k + 2, ht => simp at ht
  · subst hi; subst hG
    refine wg_frz 7 rfl ?_
    exact wg_retq (eg_tup (A1 := (· = [res f, res g])) (ag_cons (eg_ixL rfl (eg_var 7 rfl rfl) (eg_int rfl) (fun _ _ => rfl) rfl rfl) (ag_one (eg_ixL rfl (eg_var 7 rfl rfl) (eg_int rfl) (fun _ _ => rfl) rfl rfl))) fun ts hts => by subst hts; exact ⟨of_decide_eq_true rfl, rfl⟩)
end My

set_option Elab.async false
set_option linter.all false
set_option maxRecDepth 100000
set_option maxHeartbeats 4000000
/-! DfB: fractions. -/
namespace My
open PySem L2 PyProof.Rows
theorem wg_skip {b : Bs} {X : Cx} {G : List En} {rest : List Stmt} {D : Ends} (h : WG b X G rest D) : WG b X G [] { D with nx := WB X rest D } := wg_nil (R := WB X rest D) fun σ H Hr s => h σ H Hr s
/-! ### Known -/
theorem scKinit : scOk (inC 50 0) ["self", "top", "bottom"] ["self", "top", "bottom"] := ⟨rfl, rfl, rfl, by decide +kernel, rfl, by decide +kernel, by decide +kernel⟩
theorem plain3 {i : Nat} {e : En} {t u : T} : Plain [e, .sh t, .sh u] 0 := by
  intro j e' hj he
  match j, hj, he with
  | 1, _, he => cases he; exact .inl ⟨_, rfl⟩
  | 2, _, he => cases he; exact .inl ⟨_, rfl⟩
theorem ok_Kinit {E : Wd} (G : Glo E) (C : Cla E) (D : Kfn0 E .K "Known" "Known.__init__" (inC 50 0) ["self", "top", "bottom"]) (t u : T) : E.Mk .K "Known" [] 1 [t, u] (fun a b => a = t ∧ b = u) := by
  refine Wd.mk0 G D scKinit fun f cdv A outer s H E0 B Hr q hr hp => ?_
  refine wg_fldT 0 rfl (C.clo _) rfl (plain3 (i := 0)) (eg_var 1 rfl rfl) ?_
  rintro t rfl
  refine wg_fldB 0 rfl (C.clo _) rfl (plain3 (i := 0)) (eg_var 2 rfl rfl) ?_
  rintro t rfl
  exact wg_initEnd 0 rfl ⟨rfl, rfl⟩
/-! ### right_pair -/
theorem scRight : scOk (top 51) ["top", "bottom", "near", "far"] ["top", "bottom"] := ⟨rfl, rfl, rfl, by decide +kernel, rfl, by decide +kernel, by decide +kernel⟩
theorem ok_rightPair {E : Wd} (G : Glo E) (D : Dfn E "right_pair" (top 51) ["top", "bottom"]) (t u : T) (f g : List Rat) (hg : g ≠ []) (Phi : T → Prop) (h1 : E.Fn "want_poly" 39 [t] (· = .poly f)) (h2 : E.Fn "want_poly" 39 [u] (· = .poly g)) (h3 : E.Fn "lowest" 40 [.poly f, .poly g] Phi) : E.Fn "right_pair" 41 [t, u] Phi := by
  refine Wd.fn G D scRight fun f0 cdv A outer s H E0 B Hr hr hp => ?_
  refine wg_set 2 scRight.nd (Pa := (· = .poly f)) (eg_fn h1 (hr.mono (by decide)) rfl (ag_one (eg_var 0 rfl rfl)) rfl fun t z => z) ?_
  rintro t rfl
  refine wg_set 3 scRight.nd (Pa := (· = .poly g)) (eg_fn h2 (hr.mono (by decide)) rfl (ag_one (eg_var 1 rfl rfl)) rfl fun t z => z) ?_
  rintro t rfl
  refine wg_ifF (tg_eq (v := .int (g.length : Int)) (w := .int 0) (eg_lenL (ts := g.map T.rat) (eg_var 3 rfl rfl) rfl G.len (by rw [List.length_map])) (eg_int rfl) rfl (by rw [len_zero]; exact decide_eq_false hg)) ?_
  exact wg_retq (eg_fn h3 hr rfl (ag_cons (eg_var 2 rfl rfl) (ag_one (eg_var 3 rfl rfl))) rfl fun t z => z)
/-! ### Fraction -/
theorem scFinit : scOk (inC 52 0) ["self", "top", "bottom"] ["self", "top", "bottom"] := ⟨rfl, rfl, rfl, by decide +kernel, rfl, by decide +kernel, by decide +kernel⟩
abbrev FraD (E : Wd) (dv : V) : Prop := KfnD E .F "Fraction" "Fraction.__init__" (inC 52 0) [dv] ["self", "top", "bottom"]
theorem kb_list {E : Wd} (C : Cla E) {t : T} {ts : List T} (h : SeqT t ts) : ∃ u, tyv E.c t = some u ∧ PySem.W.kitOne E.c.K u (.ref (E.c.cl .K)) = some false := by
  rcases h with rfl | rfl
  · exact ⟨_, rfl, C.bK "list" (by decide)⟩
  · exact ⟨_, rfl, C.bK "tuple" (by decide)⟩
theorem ok_FinitK {E : Wd} (G : Glo E) (C : Cla E) {dv : V} (D : FraD E dv) (f g : List Rat) (bt : T) : E.Mk .F "Fraction" [dv] 42 [T.known f g, bt] (fun a b => a = .poly f ∧ b = .poly g) ∧ E.Mk .F "Fraction" [] 42 [T.known f g, bt] (fun a b => a = .poly f ∧ b = .poly g) := by
  refine Wd.mkD G D scFinit fun f0 cdv A outer s H E0 B Hr q hr hp => ?_
  refine wg_ifT (tg_val (Pa := (· = .bl true)) (eg_isiO rfl C.clo C.iso (t := T.known f g) (eg_var 1 rfl rfl) rfl kit_self rfl G.isi rfl rfl G.kno (by decide)) fun t z => ⟨_, z, rfl⟩) ?_
  refine wg_fld2 (p4 := ⟨0, 0, 0, 0⟩) 0 rfl rfl (C.clo _) rfl (plain3 (i := 0)) (Pa := (· = .tup [.poly f, .poly g])) (eg_tup (A1 := (· = [.poly f, .poly g])) (ag_cons (eg_top (kn := .K) rfl (C.clo _) (eg_var 1 rfl rfl) rfl) (ag_one (eg_bot (kn := .K) rfl (C.clo _) (eg_var 1 rfl rfl) rfl))) fun ts hts => by subst hts; exact ⟨of_decide_eq_true rfl, rfl⟩) fun t z => ⟨_, _, z, ?_⟩
  refine wg_skip ?_
  exact wg_initEnd 0 rfl ⟨rfl, rfl⟩
theorem ok_FinitP {E : Wd} (G : Glo E) (C : Cla E) {dv : V} (D : FraD E dv) (t u : T) (ts : List T) (ht : SeqT t ts) (LR : List Rat → List Rat → Prop) (h1 : E.Fn "right_pair" 41 [t, u] (fun r => ∃ n d, r = .tup [.poly n, .poly d] ∧ LR n d)) :
    E.Mk .F "Fraction" [dv] 42 [t, u] (fun a b => ∃ n d, a = .poly n ∧ b = .poly d ∧ LR n d) ∧ E.Mk .F "Fraction" [] 42 [t, u] (fun a b => ∃ n d, a = .poly n ∧ b = .poly d ∧ LR n d) := by
  obtain ⟨tv, e1, e2⟩ := kb_list C ht
  refine Wd.mkD G D scFinit fun f0 cdv A outer s H E0 B Hr q hr hp => ?_
  refine wg_if (Pc := (· = false)) (tg_val (Pa := (· = .bl false)) (eg_isiO rfl C.clo C.iso (t := t) (eg_var 1 rfl rfl) e1 e2 rfl G.isi rfl rfl G.kno (by decide)) fun t z => ⟨_, z, rfl⟩) (fun z => by cases z) fun _ => ?_
  refine wg_fld2 (p4 := ⟨0, 0, 0, 0⟩) 0 rfl rfl (C.clo _) rfl (plain3 (i := 0)) (eg_fn h1 hr rfl (ag_cons (eg_var 1 rfl rfl) (ag_one (eg_var 2 rfl rfl))) rfl fun t z => z) fun r ⟨n, d, z, hl⟩ => ⟨_, _, z, ?_⟩
  refine wg_skip ?_
  exact wg_initEnd 0 rfl ⟨n, d, rfl, rfl, hl⟩
theorem scFdeg : scOk (inC 52 1) ["self"] ["self"] := ⟨rfl, rfl, rfl, by decide +kernel, rfl, by decide +kernel, by decide +kernel⟩
theorem scFfull : scOk (inC 52 2) ["self"] ["self"] := ⟨rfl, rfl, rfl, by decide +kernel, rfl, by decide +kernel, by decide +kernel⟩
theorem ok_Fdeg {E : Wd} (G : Glo E) (C : Cla E) (D : Pfn E .F "degree" "Fraction.degree" (inC 52 1) ["self"]) (f g : List Rat) : E.Pr .F "degree" 1 [T.frac f g] (· = .int (((max f.length g.length : Nat) : Int) - 1)) := by
  refine Wd.pr G D scFdeg fun f0 cdv A outer s H E0 B Hr hr hp => ?_
  exact wg_retq (eg_sub (eg_max rfl (eg_lenL (ts := f.map T.rat) (eg_top (kn := .F) rfl (C.clo _) (eg_var 0 rfl rfl) rfl) rfl G.len rfl) (eg_lenL (ts := g.map T.rat) (eg_bot (kn := .F) rfl (C.clo _) (eg_var 0 rfl rfl) rfl) rfl G.len rfl) rfl G.max (by rw [List.length_map, List.length_map, show ((max f.length g.length : Nat) : Int) = max (f.length : Int) (g.length : Int) by omega])) (eg_int rfl) rfl)
theorem ok_Ffull {E : Wd} (G : Glo E) (C : Cla E) (D : Pfn E .F "is_full" "Fraction.is_full" (inC 52 2) ["self"]) (f g : List Rat) : E.Pr .F "is_full" 1 [T.frac f g] (· = .bl (decide (1 < f.length) || decide (1 < g.length))) := by
  refine Wd.pr G D scFfull fun f0 cdv A outer s H E0 B Hr hr hp => ?_
  refine wg_retq (eg_or (d := decide (1 < f.length)) (eg_gt (i := (f.length : Int)) (eg_lenL (ts := f.map T.rat) (eg_top (kn := .F) rfl (C.clo _) (eg_var 0 rfl rfl) rfl) rfl G.len (by rw [List.length_map])) (eg_int rfl) ?_) (fun z => eg_one (eg_gt (i := (g.length : Int)) (eg_lenL (ts := g.map T.rat) (eg_bot (kn := .F) rfl (C.clo _) (eg_var 0 rfl rfl) rfl) rfl G.len (by rw [List.length_map])) (eg_int rfl) ?_)) fun z => ?_)
  · show T.bl _ = T.bl _
    congr 1
    exact decide_eq_decide.mpr (by omega)
  · rw [z, Bool.false_or]
    show T.bl _ = T.bl _
    congr 1
    exact decide_eq_decide.mpr (by omega)
  · rw [z]; rfl
/-! ### pair_in, known_fraction, fraction_of, short_of -/
theorem scPairIn : scOk (top 53) ["value"] ["value"] := ⟨rfl, rfl, rfl, by decide +kernel, rfl, by decide +kernel, by decide +kernel⟩
theorem ok_pairIn {E : Wd} (G : Glo E) (C : Cla E) (D : Dfn E "pair_in" (top 53) ["value"]) (f g : List Rat) : E.Fn "pair_in" 1 [T.frac f g] (· = .tup [.poly f, .poly g]) := by
  refine Wd.fn G D scPairIn fun f0 cdv A outer s H E0 B Hr hr hp => ?_
  refine wg_ifT (tg_val (Pa := (· = .bl true)) (eg_isiO rfl C.clo C.iso (t := T.frac f g) (eg_var 0 rfl rfl) rfl kit_self rfl G.isi rfl rfl G.fra (by decide)) fun t z => ⟨_, z, rfl⟩) ?_
  exact wg_retR rfl (eg_tup (A1 := (· = [.poly f, .poly g])) (ag_cons (eg_top (kn := .F) rfl (C.clo _) (eg_var 0 rfl rfl) rfl) (ag_one (eg_bot (kn := .F) rfl (C.clo _) (eg_var 0 rfl rfl) rfl))) fun ts hts => by subst hts; exact ⟨of_decide_eq_true rfl, rfl⟩)
theorem scWantFr : scOk (top 57) ["value"] ["value"] := ⟨rfl, rfl, rfl, by decide +kernel, rfl, by decide +kernel, by decide +kernel⟩
theorem ok_wantFr {E : Wd} (G : Glo E) (C : Cla E) (D : Dfn E "want_fraction" (top 57) ["value"]) (f g : List Rat) : E.Fn "want_fraction" 1 [T.frac f g] (· = T.frac f g) := by
  refine Wd.fn G D scWantFr fun f0 cdv A outer s H E0 B Hr hr hp => ?_
  refine wg_ifF (tg_not (Pt := (· = true)) (tg_val (Pa := (· = .bl true)) (eg_isiO rfl C.clo C.iso (t := T.frac f g) (eg_var 0 rfl rfl) rfl kit_self rfl G.isi rfl rfl G.fra (by decide)) fun t z => ⟨_, z, rfl⟩) fun d z => by rw [z]; rfl) ?_
  exact wg_retq (eg_var 0 rfl rfl)
theorem scKnown : scOk (top 54) ["top", "bottom"] ["top", "bottom"] := ⟨rfl, rfl, rfl, by decide +kernel, rfl, by decide +kernel, by decide +kernel⟩
abbrev makesKnown (E : Wd) : Prop := ∀ t u : T, E.Mk .K "Known" [] 1 [t, u] (fun a b => a = t ∧ b = u)
abbrev makesFracK (E : Wd) (dv : V) : Prop := ∀ (f g : List Rat) (bt : T), E.Mk .F "Fraction" [dv] 42 [T.known f g, bt] (fun a b => a = .poly f ∧ b = .poly g)
theorem ok_known {E : Wd} (G : Glo E) (D : Dfn E "known_fraction" (top 54) ["top", "bottom"]) {dv : V} (h1 : makesKnown E) (h2 : makesFracK E dv) (f g : List Rat) : E.Fn "known_fraction" 44 [.poly f, .poly g] (· = T.frac f g) := by
  refine Wd.fn G D scKnown fun f0 cdv A outer s H E0 B Hr hr hp => ?_
  refine wg_retq (eg_make (dts := [.any]) (kn := .F) (h2 f g .any) hr rfl (A1 := (· = [T.known f g])) (ag_one (eg_make (dts := []) (kn := .K) (h1 (.poly f) (.poly g)) (hr.mono (by decide)) rfl (A1 := (· = [.poly f, .poly g])) (ag_cons (eg_var 0 rfl rfl) (ag_one (eg_var 1 rfl rfl))) (fun _ => holdsL_nil.mpr rfl) fun ts z => by subst z; exact ⟨rfl, fun t u ⟨z1, z2⟩ => by rw [z1, z2]; rfl⟩)) (fun H => holdsL_one (by unfold holds; trivial)) fun ts z => by subst z; exact ⟨rfl, fun t u ⟨z1, z2⟩ => by rw [z1, z2]; rfl⟩)
theorem scFracOf : scOk (top 55) ["top", "bottom", "near", "far"] ["top", "bottom"] := ⟨rfl, rfl, rfl, by decide +kernel, rfl, by decide +kernel, by decide +kernel⟩
abbrev knownFr (E : Wd) : Prop := ∀ f g : List Rat, E.Fn "known_fraction" 44 [.poly f, .poly g] (· = T.frac f g)
theorem ok_fracOf {E : Wd} (G : Glo E) (D : Dfn E "fraction_of" (top 55) ["top", "bottom"]) (h1 : knownFr E) (f g : List Rat) (LR : List Rat → List Rat → Prop) (h2 : E.Fn "lowest" 40 [.poly f, .poly g] (fun t => ∃ n d, t = .tup [.poly n, .poly d] ∧ LR n d)) : E.Fn "fraction_of" 45 [.poly f, .poly g] (fun t => ∃ n d, t = T.frac n d ∧ LR n d) := by
  refine Wd.fn G D scFracOf fun f0 cdv A outer s H E0 B Hr hr hp => ?_
  refine wg_unp 2 3 (by decide) rfl rfl scFracOf.nd (eg_fn h2 (hr.mono (by decide)) rfl (ag_cons (eg_var 0 rfl rfl) (ag_one (eg_var 1 rfl rfl))) rfl fun t z => z) fun t ⟨n, d, z, hl⟩ => ⟨_, _, z, ?_⟩
  exact wg_retq (eg_fn (h1 n d) hr rfl (ag_cons (eg_var 2 rfl rfl) (ag_one (eg_var 3 rfl rfl))) rfl fun t z => ⟨n, d, z, hl⟩)
theorem scShort : scOk (top 56) ["top", "bottom", "found"] ["top", "bottom"] := ⟨rfl, rfl, rfl, by decide +kernel, rfl, by decide +kernel, by decide +kernel⟩
abbrev degP (E : Wd) : Prop := ∀ f g : List Rat, E.Pr .F "degree" 1 [T.frac f g] (· = .int (((max f.length g.length : Nat) : Int) - 1))
abbrev atMost (E : Wd) : Prop := ∀ (y : Str) (l n : Int), n ≤ l → E.Fn "want_at_most" 1 [.str y, .int l, .int n] (· = .is .non)
section
variable {E : Wd} {b : Bs} {X : Cx} {Gm : List En} {e : Expr} {pos : Pos} {Phi : T → Prop} {f g : List Rat}
theorem eg_deg (h : degP E) (hr : Room 2 X.A) (he : EG b X Gm e (· = T.frac f g)) (hP : Phi (.int (((max f.length g.length : Nat) : Int) - 1))) (hC : ∀ k, ClO E.c k) (hc : b.c = E.c := by rfl) (hm : X.mg = E.mg := by rfl) (hK : X.K = E.K := by rfl) (hp1 : X.prog = E.P := by rfl) (hw : X.w = E.w := by rfl) (hbs : X.base = E.base := by rfl) (hb : attributeBase e "degree" X.env (eval e X.env) = eval e X.env := by rfl) : EG b X Gm (.Attribute e "degree" pos) Phi := by
  obtain ⟨c, B, R, pot⟩ := b
  have hc' : c = E.c := hc
  subst hc'
  have M : PCal E.P E.w E.K E.mg E.base (E.c.cl .F) "degree" 1 (spOf E.c (· = [T.frac f g]) fun _ u => u = .int (((max f.length g.length : Nat) : Int) - 1)) := h f g
  rw [← hp1, ← hw, ← hK, ← hm, ← hbs] at M
  exact eg_prop (kn := .F) hK.symm (hC .F) M hr he rfl (fun u z => by rw [z]; exact hP) hb
end
theorem ok_short {E : Wd} (G : Glo E) (C : Cla E) (D : Dfn E "short_of" (top 56) ["top", "bottom"]) (h1 : degP E) (h3 : atMost E) (f g : List Rat) (LR : List Rat → List Rat → Prop) (h2 : E.Fn "fraction_of" 45 [.poly f, .poly g] (fun t => ∃ n d, t = T.frac n d ∧ LR n d)) (h4 : ∀ n d, LR n d → n.length ≤ 25 ∧ d.length ≤ 25) : E.Fn "short_of" 46 [.poly f, .poly g] (fun t => ∃ n d, t = T.frac n d ∧ LR n d) := by
  refine Wd.fn G D scShort fun f0 cdv A outer s H E0 B Hr hr hp => ?_
  refine wg_set 2 scShort.nd (eg_fn h2 hr rfl (ag_cons (eg_var 0 rfl rfl) (ag_one (eg_var 1 rfl rfl))) rfl fun t z => z) ?_
  rintro t ⟨n, d, rfl, hl⟩
  have := h4 n d hl
  refine wg_expr (Pa := (· = .is .non)) (eg_fn (h3 "degree" 24 (((max n.length d.length : Nat) : Int) - 1) (by omega)) (hr.mono (by decide)) rfl (ag_cons (eg_str rfl) (ag_cons (eg_gint G.deg rfl) (ag_one (eg_deg h1 (hr.mono (by decide)) (eg_var 2 rfl rfl) rfl (hC := C.clo))))) rfl fun t z => z) ?_
  rintro t rfl
  exact wg_retq (eg_var 2 rfl ⟨n, d, rfl, hl⟩)
/-! ### + and * -/
theorem scFadd : scOk (inC 52 6) ["self", "other", "near", "far", "top"] ["self", "other"] := ⟨rfl, rfl, rfl, by decide +kernel, rfl, by decide +kernel, by decide +kernel⟩
theorem scFmul : scOk (inC 52 10) ["self", "other", "near", "far"] ["self", "other"] := ⟨rfl, rfl, rfl, by decide +kernel, rfl, by decide +kernel, by decide +kernel⟩
abbrev pairIn (E : Wd) : Prop := ∀ f g : List Rat, E.Fn "pair_in" 1 [T.frac f g] (· = .tup [.poly f, .poly g])
abbrev sumOf (E : Wd) : Prop := ∀ f g : List Rat, Szs f → Szs g → f.length < 1000 → g.length < 1000 → E.Fn "sum_of" 39 [.poly f, .poly g] (· = .poly (sumF f g))
abbrev byNumber (E : Wd) : Prop := ∀ (f : List Rat) (r : Rat), Szs f → Sz r → f.length < 1000 → E.Fn "by_number" 39 [.poly f, T.rat r] (· = .poly (trimF (f.map (· * r))))
theorem ok_Fadd {E : Wd} (G : Glo E) (C : Cla E) (D : Ofn E .F .Add "__add__" "Fraction.__add__" (inC 52 6) ["self", "other"]) (h1 : pairIn E) (h2 : prodOf E) (h3 : sumOf E) (f g n m : List Rat) (p1 : PrOk f m) (p2 : PrOk n g) (p3 : PrOk g m) (z1 : Szs (prodF f m)) (z2 : Szs (prodF n g)) (l1 : (prodF f m).length < 1000) (l2 : (prodF n g).length < 1000) (Phi : T → Prop)
    (h4 : E.Fn "short_of" 46 [.poly (sumF (prodF f m) (prodF n g)), .poly (prodF g m)] Phi) : E.Op .F .Add 47 [T.frac f g, T.frac n m] Phi := by
  refine Wd.op G D scFadd fun f0 cdv A outer s H E0 B Hr hr hp => ?_
  refine wg_unp 2 3 (by decide) rfl rfl scFadd.nd (eg_fn (h1 n m) (hr.mono (by decide)) rfl (ag_one (eg_var 1 rfl rfl)) rfl fun t z => z) fun t z => ⟨_, _, z, ?_⟩
  refine wg_set 4 scFadd.nd (Pa := (· = .poly (sumF (prodF f m) (prodF n g)))) (eg_fn (h3 _ _ z1 z2 l1 l2) (hr.mono (by decide)) rfl (ag_cons (eg_fn (h2 _ _ p1) (hr.mono (by decide)) rfl (ag_cons (eg_top (kn := .F) rfl (C.clo _) (eg_var 0 rfl rfl) rfl) (ag_one (eg_var 3 rfl rfl))) rfl fun t z => z) (ag_one (eg_fn (h2 _ _ p2) (hr.mono (by decide)) rfl (ag_cons (eg_var 2 rfl rfl) (ag_one (eg_bot (kn := .F) rfl (C.clo _) (eg_var 0 rfl rfl) rfl))) rfl fun t z => z))) rfl fun t z => z) ?_
  rintro t rfl
  exact wg_retq (eg_fn h4 hr rfl (ag_cons (eg_var 4 rfl rfl) (ag_one (eg_fn (h2 _ _ p3) (hr.mono (by decide)) rfl (ag_cons (eg_bot (kn := .F) rfl (C.clo _) (eg_var 0 rfl rfl) rfl) (ag_one (eg_var 3 rfl rfl))) rfl fun t z => z))) rfl fun t z => z)
theorem ok_Fmul {E : Wd} (G : Glo E) (C : Cla E) (D : Ofn E .F .Mult "__mul__" "Fraction.__mul__" (inC 52 10) ["self", "other"]) (h1 : pairIn E) (h2 : prodOf E) (f g n m : List Rat) (p1 : PrOk f n) (p3 : PrOk g m) (Phi : T → Prop)
    (h4 : E.Fn "short_of" 46 [.poly (prodF f n), .poly (prodF g m)] Phi) : E.Op .F .Mult 47 [T.frac f g, T.frac n m] Phi := by
  refine Wd.op G D scFmul fun f0 cdv A outer s H E0 B Hr hr hp => ?_
  refine wg_unp 2 3 (by decide) rfl rfl scFmul.nd (eg_fn (h1 n m) (hr.mono (by decide)) rfl (ag_one (eg_var 1 rfl rfl)) rfl fun t z => z) fun t z => ⟨_, _, z, ?_⟩
  exact wg_retq (eg_fn h4 hr rfl (ag_cons (eg_fn (h2 _ _ p1) (hr.mono (by decide)) rfl (ag_cons (eg_top (kn := .F) rfl (C.clo _) (eg_var 0 rfl rfl) rfl) (ag_one (eg_var 2 rfl rfl))) rfl fun t z => z) (ag_one (eg_fn (h2 _ _ p3) (hr.mono (by decide)) rfl (ag_cons (eg_bot (kn := .F) rfl (C.clo _) (eg_var 0 rfl rfl) rfl) (ag_one (eg_var 3 rfl rfl))) rfl fun t z => z))) rfl fun t z => z)
/-! ### headed_pair, put -/
theorem scHeaded : scOk (top 58) ["top", "bottom", "number"] ["top", "bottom"] := ⟨rfl, rfl, rfl, by decide +kernel, rfl, by decide +kernel, by decide +kernel⟩
theorem ok_headed {E : Wd} (G : Glo E) (C : Cla E) (D : Dfn E "headed_pair" (top 58) ["top", "bottom"]) (h1 : overM E) (h3 : makesRatio E) (h2 : knownFr E) (n d : List Rat) (d1 : d ≠ []) (d2 : d.getD (d.length - 1) 0 ≠ 0) (d3 : Szs n) (d4 : Szs d) (d5 : n.length < 1000) (d6 : d.length < 1000) :
    E.Fn "headed_pair" 45 [.poly n, .poly d] (· = if n = [] then T.frac [] [1] else T.frac (overL n d) (overL d d)) := by
  refine Wd.fn G D scHeaded fun f0 cdv A outer s H E0 B Hr hr hp => ?_
  have ed := last_rat d1
  refine wg_if (tg_eq (P := (· = decide (n = []))) (v := .int (n.length : Int)) (w := .int 0) (eg_lenL (ts := n.map T.rat) (eg_var 0 rfl rfl) rfl G.len (by rw [List.length_map])) (eg_int rfl) rfl (len_zero n)) (fun z => ?_) fun z => ?_
  · rw [if_pos (of_decide_eq_true z.symm)]
    exact wg_retR rfl (eg_fn (h2 [] [1]) hr rfl (ag_cons (eg_fr (P := (· = [])) (fg_lst (ag_nil rfl) fun ts hts => by subst hts; exact of_decide_eq_true rfl) fun ts hts => by subst hts; rfl) (ag_one (eg_fr (P := (· = [T.rat 1])) (fg_lst (ag_one (eg_rat1 h3 (hr.mono (by decide)) (eg_int rfl) rfl)) fun ts hts => by subst hts; exact of_decide_eq_true rfl) fun ts hts => by subst hts; rfl))) rfl fun t z => z)
  · rw [if_neg (of_decide_eq_false z.symm)]
    refine wg_skip ?_
    refine wg_retq (eg_fn (h2 (overL n d) (overL d d)) hr rfl (ag_cons (eg_fr (fg_lcL 2 n T.rat (fun q => T.rat (q / d.getD (d.length - 1) 0)) scHeaded.nd (fun a _ a' _ e => by rw [rat_inj e]) (ig_lst (Pa := (· = .poly n)) (eg_var 0 rfl rfl) fun t ht => ⟨_, ht, rfl⟩) d5 (fun q hq R' s1 H1 C1 cl fp => ?_) rfl) fun ts hts => by subst hts; rw [map_overL]; rfl) (ag_one (eg_fr (fg_lcL 2 d T.rat (fun q => T.rat (q / d.getD (d.length - 1) 0)) scHeaded.nd (fun a _ a' _ e => by rw [rat_inj e]) (ig_lst (Pa := (· = .poly d)) (eg_var 1 rfl rfl) fun t ht => ⟨_, ht, rfl⟩) d6 (fun q hq R' s1 H1 C1 cl fp => ?_) rfl) fun ts hts => by subst hts; rw [map_overL]; rfl))) rfl fun t z => z)
    · exact eg_over h1 (Room.mono hr (by decide)) (eg_var 2 rfl rfl) (eg_ixL rfl (eg_var 1 rfl rfl) (eg_neg rfl) (fun _ _ => rfl) (last_at ed) rfl) (nt_r _) (d3 q hq) (d4 _ (List.mem_of_getElem? ed)) d2 rfl (hC := C.clo)
    · exact eg_over h1 (Room.mono hr (by decide)) (eg_var 2 rfl rfl) (eg_ixL rfl (eg_var 1 rfl rfl) (eg_neg rfl) (fun _ _ => rfl) (last_at ed) rfl) (nt_r _) (d4 q hq) (d4 _ (List.mem_of_getElem? ed)) d2 rfl (hC := C.clo)
theorem scPut : scOk (top 59) ["fraction", "other", "here", "inner", "near", "far"] ["fraction", "other"] := ⟨rfl, rfl, rfl, by decide +kernel, rfl, by decide +kernel, by decide +kernel⟩
abbrev wantFr (E : Wd) : Prop := ∀ f g : List Rat, E.Fn "want_fraction" 1 [T.frac f g] (· = T.frac f g)
theorem sz_small {n : Int} (h : n.natAbs < 1000) : SzI n := by
  unfold SzI
  refine Nat.lt_of_lt_of_le h ?_
  have : (1000 : Nat) ≤ 2 ^ 10 := by decide
  exact Nat.le_trans this (Nat.pow_le_pow_right (by decide) (by unfold szB; decide))
theorem ok_put {E : Wd} (G : Glo E) (C : Cla E) (D : Dfn E "put" (top 59) ["fraction", "other"]) (h1 : wantFr E) (h2 : degP E) (h3 : atMost E) (f g n m p q : List Rat) (hd : (max f.length g.length - 1) * (max n.length m.length - 1) ≤ 24) (hg : g ≠ []) (hm : m ≠ []) (lf : max f.length g.length < 1000) (lm : max n.length m.length < 1000)
    (h4 : E.Fn "put_pair" 40 [.poly f, .poly g, .poly n, .poly m] (· = .tup [.poly p, .poly q])) (hq : q ≠ []) (Phi : T → Prop) (h5 : E.Fn "headed_pair" 45 [.poly p, .poly q] Phi) : E.Fn "put" 46 [T.frac f g, T.frac n m] Phi := by
  refine Wd.fn G D scPut fun f0 cdv A outer s H E0 B Hr hr hp => ?_
  refine wg_set 2 scPut.nd (Pa := (· = T.frac f g)) (eg_fn (h1 f g) (hr.mono (by decide)) rfl (ag_one (eg_var 0 rfl rfl)) rfl fun t z => z) ?_
  rintro t rfl
  refine wg_set 3 scPut.nd (Pa := (· = T.frac n m)) (eg_fn (h1 n m) (hr.mono (by decide)) rfl (ag_one (eg_var 1 rfl rfl)) rfl fun t z => z) ?_
  rintro t rfl
  have gp := List.length_pos_iff.mpr hg
  have mp := List.length_pos_iff.mpr hm
  have e1 : ((max f.length g.length : Nat) : Int) - 1 = ((max f.length g.length - 1 : Nat) : Int) := by omega
  have e2 : ((max n.length m.length : Nat) : Int) - 1 = ((max n.length m.length - 1 : Nat) : Int) := by omega
  refine wg_expr (Pa := (· = .is .non)) (eg_fn (h3 "degree" 24 ((((max f.length g.length : Nat) : Int) - 1) * (((max n.length m.length : Nat) : Int) - 1)) (by rw [e1, e2, ← Int.natCast_mul]; omega)) (hr.mono (by decide)) rfl (ag_cons (eg_str rfl) (ag_cons (eg_gint G.deg rfl) (ag_one (eg_mul (eg_deg h2 (hr.mono (by decide)) (eg_var 2 rfl rfl) rfl (hC := C.clo)) (eg_deg h2 (hr.mono (by decide)) (eg_var 3 rfl rfl) rfl (hC := C.clo)) ((sz_small (by omega)).mul (sz_small (by omega))) rfl)))) rfl fun t z => z) ?_
  rintro t rfl
  refine wg_unp 4 5 (by decide) rfl rfl scPut.nd (eg_fn h4 (hr.mono (by decide)) rfl (ag_cons (eg_top (kn := .F) rfl (C.clo _) (eg_var 2 rfl rfl) rfl) (ag_cons (eg_bot (kn := .F) rfl (C.clo _) (eg_var 2 rfl rfl) rfl) (ag_cons (eg_top (kn := .F) rfl (C.clo _) (eg_var 3 rfl rfl) rfl) (ag_one (eg_bot (kn := .F) rfl (C.clo _) (eg_var 3 rfl rfl) rfl))))) rfl fun t z => z) fun t z => ⟨_, _, z, ?_⟩
  refine wg_ifF (tg_eq (v := .int (q.length : Int)) (w := .int 0) (eg_lenL (ts := q.map T.rat) (eg_var 5 rfl rfl) rfl G.len (by rw [List.length_map])) (eg_int rfl) rfl (by rw [len_zero]; exact decide_eq_false hq)) ?_
  exact wg_retq (eg_fn h5 hr rfl (ag_cons (eg_var 4 rfl rfl) (ag_one (eg_var 5 rfl rfl))) rfl fun t z => z)
end My

set_option Elab.async false
set_option linter.all false
set_option maxRecDepth 100000
set_option maxHeartbeats 4000000
/-! DfC: digits_of, __repr__. -/
namespace My
open PySem L2 PyProof.Rows
abbrev PT0 : Int := 10 ^ 60
def pieceS (left : Int) (told : Str) : Str := joinS Str.empty [cutS (Str.ofString (toString (left % PT0 + PT0))) (some 1) none, told]
def digL (left : Int) (told : Str) : Int × Str := if h : PT0 ≤ left then digL (left / PT0) (pieceS left told) else (left, told)
  termination_by left.toNat
  decreasing_by
    have h0 : (0 : Int) < PT0 := by decide
    have h1 : left / PT0 < left := Int.ediv_lt_self_of_pos_of_ne_one (by omega) (by decide)
    omega
def digS (n : Int) : Str := joinS Str.empty [if n < 0 then "-" else "", Str.ofString (toString (digL (if 0 ≤ n then n else 0 - n) "").1), (digL (if 0 ≤ n then n else 0 - n) "").2]
theorem joinS_len : ∀ (ys : List Str) (acc : Str), (joinS acc ys).length = acc.length + (ys.map (·.length)).sum
  | [], acc => by show acc.length = acc.length + 0; omega
  | y :: ys, acc => by
    show (joinS (acc ++ y) ys).length = _
    rw [joinS_len ys, str_len, List.map_cons, List.sum_cons]; omega
theorem empty_len : Str.empty.length = 0 := rfl
theorem piece_len (left : Int) (told : Str) : (pieceS left told).length ≤ told.length + 61 := by
  unfold pieceS
  rw [joinS_len, empty_len]
  have h0 : (0 : Int) < PT0 := by decide
  have h1 := Int.emod_nonneg left (show PT0 ≠ 0 by decide)
  have h2 := Int.emod_lt_of_pos left h0
  have h3 : left % PT0 + PT0 < 10 ^ 61 := by
    have : PT0 + PT0 < (10 : Int) ^ 61 := by decide
    omega
  have := toString_length_le (v := left % PT0 + PT0) (by omega) (k := 61) (by decide) h3
  have h4 := cutS_length (Str.ofString (toString (left % PT0 + PT0))) (some 1) none
  simp only [List.map_cons, List.map_nil, List.sum_cons, List.sum_nil]
  omega
def mostP : Nat := 21100
def SzR (i : Int) : Prop := i.natAbs < 10 ^ (60 * mostP)
theorem pow_PT (m : Nat) : ((10 : Int) ^ (60 * (m + 1))) = 10 ^ (60 * m) * PT0 := by rw [show 60 * (m + 1) = 60 * m + 60 by omega, Int.pow_add]
theorem scDigits : scOk (top 20) ["number", "left", "told", "part", "sign"] ["number"] := ⟨rfl, rfl, rfl, by decide +kernel, rfl, by decide +kernel, by decide +kernel⟩
theorem dig_log {i : Int} (h0 : 0 ≤ i) (h : i < 10 ^ 61) : i.natAbs.log2 < 1920 := by
  refine Nat.lt_of_lt_of_le (PySem.Flt.log2_lt_of (k := 300) (by decide) ?_) (by decide)
  have h1 : (10 : Int) ^ 61 < 2 ^ 300 := by decide
  have h2 : ((2 : Int) ^ 300) = ((2 ^ 300 : Nat) : Int) := by decide
  omega
theorem ok_digits {E : Wd} (G : Glo E) (D : Dfn E "digits_of" (top 20) ["number"]) (n : Int) (hn : SzR n) : E.Fn "digits_of" 36 [.int n] (· = .str (digS n)) := by
  refine Wd.fn G D scDigits fun f0 cdv A outer s H E0 B Hr hr hp => ?_
  have py := hp (by decide)
  have sl : (62 * (mostP + 3) : Nat) ≤ sizeLine := by decide
  let a := if 0 ≤ n then n else 0 - n
  have ha0 : 0 ≤ a := by show (0 : Int) ≤ if 0 ≤ n then n else 0 - n; split <;> omega
  have ha : a < 10 ^ (60 * mostP) := by
    have h1 : a = (n.natAbs : Int) := by show (if 0 ≤ n then n else 0 - n) = _; split <;> omega
    rw [h1]
    have h2 : ((n.natAbs : Nat) : Int) < ((10 ^ (60 * mostP) : Nat) : Int) := Int.ofNat_lt.mpr hn
    rw [Int.natCast_pow] at h2
    exact h2
  refine wg_par 1 2 (Pa := (· = .int a)) (Pb := (· = .str "")) (by decide) rfl scDigits.nd (eg_if (Pt := (· = decide (0 ≤ n))) (tg_ge (eg_var 0 rfl rfl) (eg_int rfl) rfl) (fun z => eg_var 0 rfl ?_) fun z => eg_sub (eg_int rfl) (eg_var 0 rfl rfl) ?_) (eg_str rfl) ?_
  · show T.int n = T.int (if 0 ≤ n then n else 0 - n)
    rw [if_pos (of_decide_eq_true z.symm)]
  · show T.int (0 - n) = T.int (if 0 ≤ n then n else 0 - n)
    rw [if_neg (of_decide_eq_false z.symm)]
  rintro t u rfl rfl
  refine wg_while (fun m G' => ∃ left told e3, G' = [.sh (.int n), .sh (.int left), .sh (.str told), e3, .no] ∧ 0 ≤ left ∧ left < 10 ^ (60 * m) ∧ told.length + 62 * m ≤ 62 * mostP ∧ digL left told = digL a "") rfl ⟨mostP, a, "", .no, rfl, ha0, ha, Nat.le_of_eq (Nat.zero_add _), rfl⟩ ?_
  rintro m G' ⟨left, told, e3, rfl, h0, hl, ht, hd⟩
  refine ⟨(· = decide (PT0 ≤ left)), tg_ge (eg_var 1 rfl rfl) (eg_gint G.prt rfl) rfl, fun z => ?_, fun z => ?_⟩
  · have hge : PT0 ≤ left := of_decide_eq_true z.symm
    have hm : ∃ k, m = k + 1 := by
      cases m with
      | zero =>
        have : (10 : Int) ^ (60 * 0) = 1 := rfl
        have h3 : (1 : Int) < PT0 := by decide
        omega
      | succ k => exact ⟨k, rfl⟩
    obtain ⟨k, rfl⟩ := hm
    have hp0 : (0 : Int) < PT0 := by decide
    have h1 := Int.emod_nonneg left (show PT0 ≠ 0 by decide)
    have h2 := Int.emod_lt_of_pos left hp0
    have h3 : left % PT0 + PT0 < 10 ^ 61 := by
      have : PT0 + PT0 < (10 : Int) ^ 61 := by decide
      omega
    have tl := toString_length_le (v := left % PT0 + PT0) (by omega) (k := 61) (by decide) h3
    have cl := cutS_length (Str.ofString (toString (left % PT0 + PT0))) (some 1) none
    have pl := piece_len left told
    refine wg_set 3 scDigits.nd (Pa := (· = .int (left % PT0 + PT0))) (eg_add (eg_mod (eg_intI (eg_var 1 rfl rfl) rfl G.int rfl) (eg_gint G.prt rfl) hp0 rfl) (eg_gint G.prt rfl) rfl) ?_
    rintro t rfl
    refine wg_set 2 scDigits.nd (Pa := (· = .str (pieceS left told))) (eg_joined (ys := [cutS (Str.ofString (toString (left % PT0 + PT0))) (some 1) none, told]) (.cons (eg_fmtS (eg_cutS (eg_strI (eg_var 3 rfl rfl) (dig_log (by omega) h3) rfl G.str rfl) (eg_int rfl) (by omega) rfl) (by omega) rfl) (.cons (eg_fmtS (eg_var 2 rfl rfl) (by omega) rfl) .nil)) (by simp only [List.map_cons, List.map_nil, List.sum_cons, List.sum_nil]; omega) rfl) ?_
    rintro t rfl
    refine wg_set 1 scDigits.nd (Pa := (· = .int (left / PT0))) (eg_fdiv py (eg_var 1 rfl rfl) (eg_gint G.prt rfl) (by decide) (by rw [Int.fdiv_eq_ediv_of_nonneg _ (by decide)])) ?_
    rintro t rfl
    refine wg_end ⟨k, Nat.lt_succ_self _, left / PT0, pieceS left told, _, rfl, Int.ediv_nonneg h0 (by decide), ?_, by omega, ?_⟩
    · rw [pow_PT] at hl
      exact Int.ediv_lt_of_lt_mul hp0 hl
    · rw [← hd]
      conv => rhs; unfold digL
      rw [dif_pos hge]
  · have hlt : ¬ PT0 ≤ left := of_decide_eq_false z.symm
    have e : digL a "" = (left, told) := by
      rw [← hd]
      unfold digL
      rw [dif_neg hlt]
    have h3 : left < 10 ^ 61 := by
      have : PT0 < (10 : Int) ^ 61 := by decide
      omega
    have tl := toString_length_le (v := left) h0 (k := 61) (by decide) h3
    refine wg_set 4 scDigits.nd (Pa := (· = .str (if n < 0 then "-" else ""))) (eg_if (Pt := (· = decide (n < 0))) (tg_lt (eg_var 0 rfl rfl) (eg_int rfl) rfl) (fun z => eg_str (by rw [if_pos (of_decide_eq_true z.symm)])) fun z => eg_str (by rw [if_neg (of_decide_eq_false z.symm)])) ?_
    rintro t rfl
    have sgl : (if n < 0 then ("-" : Str) else "").length ≤ 1 := by split <;> decide
    refine wg_retq (eg_joined (ys := [if n < 0 then "-" else "", Str.ofString (toString left), told]) (.cons (eg_fmtS (eg_var 4 rfl rfl) (by omega) rfl) (.cons (eg_fmtI (eg_var 1 rfl rfl) (dig_log h0 h3) rfl) (.cons (eg_fmtS (eg_var 2 rfl rfl) (by omega) rfl) .nil))) (by simp only [List.map_cons, List.map_nil, List.sum_cons, List.sum_nil]; omega) ?_)
    unfold digS
    rw [show digL (if 0 ≤ n then n else 0 - n) "" = (left, told) from e]
end My

set_option Elab.async false
set_option linter.all false
set_option maxRecDepth 100000
set_option maxHeartbeats 4000000
/-! DfD: places and worths. -/
namespace My
open PySem L2 PyProof.Rows
/-- a place, and a worth: beyond, or a number -/
inductive Pl where
  | inf
  | num (q : Rat)
  deriving DecidableEq
def plT : Pl → T
  | .inf => .str "beyond"
  | .num q => T.rat q
/-- a place as it may be handed -/
def PT : T → Pl → Prop
  | t, .inf => t = .str "beyond"
  | t, .num q => NT t q
theorem pt_plT (p : Pl) : PT (plT p) p := by
  cases p with
  | inf => rfl
  | num q => exact .inl rfl
/-! ### is_place, want_place -/
def isBey : T → Bool
  | .is (.str y) => decide (y = "beyond")
  | _ => false
def isPl (t : T) : Bool := isNuT t || isBey t
theorem scIsPlace : scOk (top 62) ["value"] ["value"] := ⟨rfl, rfl, rfl, by decide +kernel, rfl, by decide +kernel, by decide +kernel⟩
theorem str_of {t : T} (h : isStrT t = true) : ∃ y, t = .str y := by
  cases t with
  | is v =>
    cases v with
    | str y => exact ⟨y, rfl⟩
    | _ => cases h
  | _ => cases h
theorem bey_str {t : T} (h : isStrT t = false) : isBey t = false := by
  cases t with
  | is v => cases v <;> first | rfl | cases h
  | _ => rfl
theorem isplace_body {E : Wd} (G : Glo E) (C : Cla E) (h1 : isNumber E) (t : T) (ht : okT t = true) : E.Body "is_place" (top 62) ["value"] 3 [t] (· = .bl (isPl t)) := fun f0 cdv A outer s H E0 B Hr hr hp => by
  refine wg_retq (eg_or (d := isNuT t) (eg_fn (h1 t ht) (hr.mono (by decide)) rfl (ag_one (eg_var 0 rfl rfl)) rfl fun t z => z) (fun z => eg_one (eg_and (d := isStrT t) (eg_isS G C ht (eg_var 0 rfl rfl) rfl) (fun z2 => eg_one ?_) fun z2 => ?_)) fun z => ?_)
  · obtain ⟨y, rfl⟩ := str_of z2
    refine eg_eq (v := .str y) (w := .str "beyond") (eg_var 0 rfl rfl) (eg_gstr G.bey rfl) rfl ?_
    show T.bl _ = T.bl _
    congr 1
    show decide (V.str y = V.str "beyond") = decide (y = "beyond")
    exact decide_eq_decide.mpr ⟨fun q => by injection q, fun q => by rw [q]⟩
  · unfold isPl; rw [z, bey_str z2]; rfl
  · unfold isPl; rw [z]; rfl
theorem ok_isPlace {E : Wd} (G : Glo E) (C : Cla E) (D : Dfn E "is_place" (top 62) ["value"]) (h1 : isNumber E) (t : T) (ht : okT t = true) : E.Fn "is_place" 4 [t] (· = .bl (isPl t)) := Wd.fn G D scIsPlace (isplace_body G C h1 t ht)
theorem pl_ok {t : T} {p : Pl} (h : PT t p) : okT t = true ∧ isPl t = true ∧ isNuT t = (match p with | .inf => false | .num _ => true) := by
  cases p with
  | inf => have h : t = .str "beyond" := h; subst h; exact ⟨rfl, rfl, rfl⟩
  | num q => have h : NT t q := h; exact ⟨nt_ok h, by unfold isPl; rw [nt_nu h]; rfl, nt_nu h⟩
theorem scWantPlace : scOk (top 63) ["value"] ["value"] := ⟨rfl, rfl, rfl, by decide +kernel, rfl, by decide +kernel, by decide +kernel⟩
abbrev isPlaceF (E : Wd) : Prop := ∀ t, okT t = true → E.Fn "is_place" 4 [t] (· = .bl (isPl t))
theorem ok_wantPlace {E : Wd} (G : Glo E) (C : Cla E) (D : Dfn E "want_place" (top 63) ["value"]) (h1 : isPlaceF E) (h2 : isNumber E) (h3 : ratioOf E) (t : T) (p : Pl) (h : PT t p) : E.Fn "want_place" 39 [t] (· = plT p) := by
  refine Wd.fn G D scWantPlace fun f0 cdv A outer s H E0 B Hr hr hp => ?_
  obtain ⟨ho, hpl, hn⟩ := pl_ok h
  refine wg_ifF (tg_not (Pt := (· = true)) (tg_val (Pa := (· = .bl true)) (eg_fn (h1 t ho) (hr.mono (by decide)) rfl (ag_one (eg_var 0 rfl rfl)) rfl fun t z => by rw [z, hpl]) fun t z => ⟨_, z, rfl⟩) fun d z => by rw [z]; rfl) ?_
  cases p with
  | inf => exact wg_retq (eg_if (Pt := (· = false)) (tg_val (Pa := (· = .bl false)) (eg_fn (h2 t ho) (hr.mono (by decide)) rfl (ag_one (eg_var 0 rfl rfl)) rfl fun t z => by rw [z, hn]) fun t z => ⟨_, z, rfl⟩) (fun z => by cases z) fun _ => eg_gstr G.bey rfl)
  | num q => exact wg_retq (eg_if (Pt := (· = true)) (tg_val (Pa := (· = .bl true)) (eg_fn (h2 t ho) (hr.mono (by decide)) rfl (ag_one (eg_var 0 rfl rfl)) rfl fun t z => by rw [z, hn]) fun t z => ⟨_, z, rfl⟩) (fun _ => eg_fn (h3 t q h) hr rfl (ag_one (eg_var 0 rfl rfl)) rfl fun t z => z) fun z => by cases z)
theorem scTold2 : scOk (top 69) ["place"] ["place"] := ⟨rfl, rfl, rfl, by decide +kernel, rfl, by decide +kernel, by decide +kernel⟩
abbrev wantPlace (E : Wd) : Prop := ∀ (t : T) (p : Pl), PT t p → E.Fn "want_place" 39 [t] (· = plT p)
theorem ok_toldPlace {E : Wd} (G : Glo E) (D : Dfn E "told_place" (top 69) ["place"]) (h1 : wantPlace E) (t : T) (p : Pl) (h : PT t p) : E.Fn "told_place" 40 [t] (· = plT p) := by
  refine Wd.fn G D scTold2 fun f0 cdv A outer s H E0 B Hr hr hp => ?_
  exact wg_retq (eg_fn (h1 t p h) hr rfl (ag_one (eg_var 0 rfl rfl)) rfl fun t z => z)
/-! ### is_beyond, pair_of, place_by -/
theorem scIsBeyond : scOk (top 64) ["place"] ["place"] := ⟨rfl, rfl, rfl, by decide +kernel, rfl, by decide +kernel, by decide +kernel⟩
def isInf : Pl → Bool
  | .inf => true
  | .num _ => false
theorem ok_isBeyond {E : Wd} (G : Glo E) (C : Cla E) (D : Dfn E "is_beyond" (top 64) ["place"]) (p : Pl) : E.Fn "is_beyond" 1 [plT p] (· = .bl (isInf p)) := by
  refine Wd.fn G D scIsBeyond fun f0 cdv A outer s H E0 B Hr hr hp => ?_
  cases p with
  | inf => exact wg_retq (eg_isS G C (t := .str "beyond") rfl (eg_var 0 rfl rfl) rfl)
  | num q => exact wg_retq (eg_isS G C (t := T.rat q) rfl (eg_var 0 rfl rfl) rfl)
theorem scPairOf : scOk (top 65) ["place"] ["place"] := ⟨rfl, rfl, rfl, by decide +kernel, rfl, by decide +kernel, by decide +kernel⟩
def plA : Pl → Rat
  | .inf => 1
  | .num q => q
def plB : Pl → Rat
  | .inf => 0
  | .num _ => 1
theorem ok_pairOf {E : Wd} (G : Glo E) (D : Dfn E "pair_of" (top 65) ["place"]) (h1 : ∀ p : Pl, E.Fn "is_beyond" 1 [plT p] (· = .bl (isInf p))) (h3 : makesRatio E) (p : Pl) : E.Fn "pair_of" 38 [plT p] (· = .tup [T.rat (plA p), T.rat (plB p)]) := by
  refine Wd.fn G D scPairOf fun f0 cdv A outer s H E0 B Hr hr hp => ?_
  refine wg_retq (eg_if (Pt := (· = isInf p)) (tg_val (Pa := (· = .bl (isInf p))) (eg_fn (h1 p) (hr.mono (by decide)) rfl (ag_one (eg_var 0 rfl rfl)) rfl fun t z => z) fun t z => ⟨_, z, rfl⟩) (fun z => ?_) fun z => ?_)
  · cases p with
    | inf => exact eg_tup (A1 := (· = [T.rat 1, T.rat 0])) (ag_cons (eg_rat1 h3 hr (eg_int rfl) rfl) (ag_one (eg_rat1 h3 hr (eg_int rfl) rfl))) fun ts hts => by subst hts; exact ⟨of_decide_eq_true rfl, rfl⟩
    | num q => cases z
  · cases p with
    | inf => cases z
    | num q => exact eg_tup (A1 := (· = [T.rat q, T.rat 1])) (ag_cons (eg_var 0 rfl rfl) (ag_one (eg_rat1 h3 hr (eg_int rfl) rfl))) fun ts hts => by subst hts; exact ⟨of_decide_eq_true rfl, rfl⟩
theorem scPlaceBy : scOk (top 66) ["above", "below"] ["above", "below"] := ⟨rfl, rfl, rfl, by decide +kernel, rfl, by decide +kernel, by decide +kernel⟩
/-- the worth of a quotient -/
def quo (a b : Rat) : Pl := if b = 0 then .inf else .num (a / b)
theorem ok_placeBy {E : Wd} (G : Glo E) (C : Cla E) (D : Dfn E "place_by" (top 66) ["above", "below"]) (h1 : signP E) (h2 : overM E) (a b : Rat) (ha : Sz a) (hb : Sz b) : E.Fn "place_by" 39 [T.rat a, T.rat b] (· = plT (quo a b)) := by
  refine Wd.fn G D scPlaceBy fun f0 cdv A outer s H E0 B Hr hr hp => ?_
  refine wg_retq (eg_if (Pt := (· = decide (b = 0))) (tg_eq (v := .int b.num.sign) (w := .int 0) (eg_sign h1 (hr.mono (by decide)) (eg_var 1 rfl rfl) rfl (hC := C.clo)) (eg_int rfl) rfl (sign_zero b)) (fun z => ?_) fun z => ?_)
  · rw [show quo a b = .inf from if_pos (of_decide_eq_true z.symm)]
    exact eg_gstr G.bey rfl
  · have h0 : b ≠ 0 := of_decide_eq_false z.symm
    rw [show quo a b = .num (a / b) from if_neg h0]
    exact eg_over h2 hr (eg_var 0 rfl rfl) (eg_var 1 rfl rfl) (nt_r _) ha hb h0 rfl (hC := C.clo)
/-! ### worth_by -/
/-- the found and the scale behind k turns -/
def wbS (f : List Rat) (a b : Rat) (high : Nat) : Nat → Rat × Rat
  | 0 => (0, 1)
  | k + 1 => (if high - k < f.length then (wbS f a b high k).1 * a + f.getD (high - k) 0 * (wbS f a b high k).2 else (wbS f a b high k).1 * a, (wbS f a b high k).2 * b)
structure WbOk (f : List Rat) (a b : Rat) (high : Nat) : Prop where
  h : high < 900
  l : f.length < 900
  za : Sz a
  zb : Sz b
  zf : Szs f
  x : ∀ k, k ≤ high → Sz (wbS f a b high k).1 ∧ Sz (wbS f a b high k).2 ∧ Sz ((wbS f a b high k).1 * a) ∧ (high - k < f.length → Sz (f.getD (high - k) 0 * (wbS f a b high k).2))
theorem scWorthBy : scOk (top 67) ["poly", "high", "above", "below", "found", "scale", "at"] ["poly", "high", "above", "below"] := ⟨rfl, rfl, rfl, by decide +kernel, rfl, by decide +kernel, by decide +kernel⟩
theorem ok_worthBy {E : Wd} (G : Glo E) (D : Dfn E "worth_by" (top 67) ["poly", "high", "above", "below"]) (h1 : addOp E) (h2 : mulOp E) (h3 : makesRatio E) (f : List Rat) (a b : Rat) (high : Nat) (ho : WbOk f a b high) : E.Fn "worth_by" 39 [.poly f, .int (high : Int), T.rat a, T.rat b] (· = T.rat (wbS f a b high (high + 1)).1) := by
  refine Wd.fn G D scWorthBy fun f0 cdv A outer s H E0 B Hr hr hp => ?_
  have hh := ho.h
  refine wg_par 4 5 (Pa := (· = T.rat 0)) (Pb := (· = T.rat 1)) (by decide) rfl scWorthBy.nd (eg_rat1 h3 (hr.mono (by decide)) (eg_int rfl) rfl) (eg_rat1 h3 (hr.mono (by decide)) (eg_int rfl) rfl) ?_
  rintro t u rfl rfl
  refine wg_for (P := (· = (List.range (high + 1)).map fun i => T.int ((high : Int) + ((i : Nat) : Int) * (-1)))) 6 (fun items k G' => ∃ r, G' = [.sh (.poly f), .sh (.int (high : Int)), .sh (T.rat a), .sh (T.rat b), .sh (T.rat (wbS f a b high k).1), .sh (T.rat (wbS f a b high k).2), r]) rfl rfl scWorthBy.nd (ig_down (k1 := 0) (eg_var 1 rfl rfl) (eg_neg rfl) (eg_neg rfl) (by omega) (by omega) (by rw [show ((high : Int) + 1).toNat = high + 1 by omega]) rfl G.rng) (fun items hi => ⟨_, rfl⟩) (fun items k G' ⟨r, hG⟩ => by rw [hG]; exact of_decide_eq_true rfl) (fun items hi R' k t G' dn ht ⟨r, hG⟩ => ?_) (fun items G' hi ⟨r, hG⟩ => ?_)
  · subst hi; subst hG
    have hk : k < high + 1 := by
      have := (List.getElem?_eq_some_iff.mp ht).1
      simpa using this
    have ht' : t = .int ((high - k : Nat) : Int) := by
      rw [List.getElem?_map, List.getElem?_range hk] at ht
      cases ht
      show T.int _ = T.int _
      rw [show ((high - k : Nat) : Int) = (high : Int) + (k : Int) * (-1) by omega]
    subst ht'
    obtain ⟨x1, x2, x3, x4⟩ := ho.x k (by omega)
    refine wg_set 4 scWorthBy.nd (Pa := (· = T.rat ((wbS f a b high k).1 * a))) (eg_mulR h2 hr (eg_var 4 rfl rfl) (eg_var 2 rfl rfl) (nt_r _) x1 ho.za rfl) ?_
    rintro t rfl
    have tail : WG ⟨E.c, B, R', none⟩ (cxB E.P E.w E.c.K E.mg E.base ["poly", "high", "above", "below", "found", "scale", "at"] "worth_by" (defScope (top 67)) f0 cdv A outer s H E0) [.sh (.poly f), .sh (.int (high : Int)), .sh (T.rat a), .sh (T.rat b), .sh (T.rat (wbS f a b high (k + 1)).1), .sh (T.rat (wbS f a b high k).2), .sh (.int ((high - k : Nat) : Int))] ((match (defBody (top 67)).getD 1 (.Pass ⟨0, 0, 0, 0⟩) with | .For _ _ b _ _ => b.drop 2 | _ => [])) (lpE ⟨E.c, B, R', none⟩ (cxB E.P E.w E.c.K E.mg E.base ["poly", "high", "above", "below", "found", "scale", "at"] "worth_by" (defScope (top 67)) f0 cdv A outer s H E0) ((defBody (top 67)).drop 2) (fnE ⟨E.c, B, Hr, none⟩ (· = T.rat (wbS f a b high (high + 1)).1)) fun G' => ∃ r, G' = [.sh (.poly f), .sh (.int (high : Int)), .sh (T.rat a), .sh (T.rat b), .sh (T.rat (wbS f a b high (k + 1)).1), .sh (T.rat (wbS f a b high (k + 1)).2), r]) := by
      refine wg_set 5 scWorthBy.nd (Pa := (· = T.rat ((wbS f a b high k).2 * b))) (eg_mulR h2 hr (eg_var 5 rfl rfl) (eg_var 3 rfl rfl) (nt_r _) x2 ho.zb rfl) ?_
      rintro t rfl
      exact wg_end ⟨_, rfl⟩
    refine wg_if (tg_lt (P := (· = decide (high - k < f.length))) (i := ((high - k : Nat) : Int)) (j := (f.length : Int)) (eg_var 6 rfl rfl) (eg_lenL (ts := f.map T.rat) (eg_var 0 rfl rfl) rfl G.len (by rw [List.length_map])) (decide_eq_decide.mpr (by omega))) (fun z => ?_) fun z => ?_
    · have hlt : high - k < f.length := of_decide_eq_true z.symm
      refine wg_set 4 scWorthBy.nd (Pa := (· = T.rat (wbS f a b high (k + 1)).1)) (eg_addR h1 hr (eg_var 4 rfl rfl) (eg_mulR h2 hr (eg_ixL rfl (eg_var 0 rfl rfl) (eg_var 6 rfl rfl) (fun _ _ => rfl) (tAt_nat (poly_get (getD_at hlt))) rfl) (eg_var 5 rfl rfl) (nt_r _) (szs_at ho.zf hlt) x2 rfl) (nt_r _) x3 (x4 hlt) ?_) ?_
      · show T.rat _ = T.rat (if high - k < f.length then _ else _)
        rw [if_pos hlt]
      · rintro t rfl
        exact wg_skip tail
    · have hlt : ¬ high - k < f.length := of_decide_eq_false z.symm
      have e : (wbS f a b high k).1 * a = (wbS f a b high (k + 1)).1 := by
        show _ = (if high - k < f.length then _ else _)
        rw [if_neg hlt]
      refine wg_skip ?_
      rw [e]
      exact tail
  · subst hi; subst hG
    rw [List.length_map, List.length_range]
    exact wg_retq (eg_var 4 rfl rfl)
/-! ### worth -/
theorem scWorthOf : scOk (top 68) ["fraction", "place", "above", "below", "high"] ["fraction", "place"] := ⟨rfl, rfl, rfl, by decide +kernel, rfl, by decide +kernel, by decide +kernel⟩
/-- the form of f at a place -/
def formP (f : List Rat) (p : Pl) (high : Nat) : Rat := (wbS f (plA p) (plB p) high (high + 1)).1
/-- the worth of a fraction at a place -/
def worthP (f g : List Rat) (p : Pl) : Pl := quo (formP f p (max f.length g.length - 1)) (formP g p (max f.length g.length - 1))
structure WoOk (f g : List Rat) (p : Pl) : Prop where
  ne : g ≠ []
  wf : WbOk f (plA p) (plB p) (max f.length g.length - 1)
  wg : WbOk g (plA p) (plB p) (max f.length g.length - 1)
  f2 : Sz (formP f p (max f.length g.length - 1))
  g2 : Sz (formP g p (max f.length g.length - 1))
abbrev pairOf (E : Wd) : Prop := ∀ p : Pl, E.Fn "pair_of" 38 [plT p] (· = .tup [T.rat (plA p), T.rat (plB p)])
abbrev placeBy (E : Wd) : Prop := ∀ a b : Rat, Sz a → Sz b → E.Fn "place_by" 39 [T.rat a, T.rat b] (· = plT (quo a b))
abbrev worthBy (E : Wd) : Prop := ∀ (f : List Rat) (a b : Rat) (high : Nat), WbOk f a b high → E.Fn "worth_by" 39 [.poly f, .int (high : Int), T.rat a, T.rat b] (· = T.rat (wbS f a b high (high + 1)).1)
theorem ok_worthOf {E : Wd} (G : Glo E) (C : Cla E) (D : Dfn E "worth_of" (top 68) ["fraction", "place"]) (h1 : pairOf E) (h2 : degP E) (h3 : placeBy E) (h4 : worthBy E) (f g : List Rat) (p : Pl) (ho : WoOk f g p) : E.Fn "worth_of" 40 [T.frac f g, plT p] (· = plT (worthP f g p)) := by
  refine Wd.fn G D scWorthOf fun f0 cdv A outer s H E0 B Hr hr hp => ?_
  refine wg_unp 2 3 (by decide) rfl rfl scWorthOf.nd (eg_fn (h1 p) (hr.mono (by decide)) rfl (ag_one (eg_var 1 rfl rfl)) rfl fun t z => z) fun t z => ⟨_, _, z, ?_⟩
  have gp := List.length_pos_iff.mpr ho.ne
  have eh : ((max f.length g.length : Nat) : Int) - 1 = ((max f.length g.length - 1 : Nat) : Int) := by omega
  refine wg_set 4 scWorthOf.nd (Pa := (· = .int ((max f.length g.length - 1 : Nat) : Int))) (eg_deg h2 (hr.mono (by decide)) (eg_var 0 rfl rfl) (by rw [eh]) (hC := C.clo)) ?_
  rintro t rfl
  exact wg_retq (eg_fn (h3 _ _ ho.f2 ho.g2) hr rfl (ag_cons (eg_fn (h4 _ _ _ _ ho.wf) hr rfl (ag_cons (eg_top (kn := .F) rfl (C.clo _) (eg_var 0 rfl rfl) rfl) (ag_cons (eg_var 4 rfl rfl) (ag_cons (eg_var 2 rfl rfl) (ag_one (eg_var 3 rfl rfl))))) rfl fun t z => z) (ag_one (eg_fn (h4 _ _ _ _ ho.wg) hr rfl (ag_cons (eg_bot (kn := .F) rfl (C.clo _) (eg_var 0 rfl rfl) rfl) (ag_cons (eg_var 4 rfl rfl) (ag_cons (eg_var 2 rfl rfl) (ag_one (eg_var 3 rfl rfl))))) rfl fun t z => z))) rfl fun t z => z)
theorem scWorth : scOk (top 70) ["fraction", "place", "here"] ["fraction", "place"] := ⟨rfl, rfl, rfl, by decide +kernel, rfl, by decide +kernel, by decide +kernel⟩
theorem worth_body {E : Wd} (G : Glo E) (h1 : wantFr E) (h2 : wantPlace E) (f g : List Rat) (t : T) (p : Pl) (hp0 : PT t p) (h3 : E.Fn "worth_of" 40 [T.frac f g, plT p] (· = plT (worthP f g p))) : E.Body "worth" (top 70) ["fraction", "place", "here"] 40 [T.frac f g, t] (· = plT (worthP f g p)) := fun f0 cdv A outer s H E0 B Hr hr hp => by
  refine wg_set 2 scWorth.nd (Pa := (· = T.frac f g)) (eg_fn (h1 f g) (hr.mono (by decide)) rfl (ag_one (eg_var 0 rfl rfl)) rfl fun t z => z) ?_
  rintro t rfl
  exact wg_retq (eg_fn h3 hr rfl (ag_cons (eg_var 2 rfl rfl) (ag_one (eg_fn (h2 _ p hp0) (hr.mono (by decide)) rfl (ag_one (eg_var 1 rfl rfl)) rfl fun t z => z))) rfl fun t z => z)
theorem ok_worth {E : Wd} (G : Glo E) (D : Dfn E "worth" (top 70) ["fraction", "place"]) (h1 : wantFr E) (h2 : wantPlace E) (f g : List Rat) (t : T) (p : Pl) (hp0 : PT t p) (h3 : E.Fn "worth_of" 40 [T.frac f g, plT p] (· = plT (worthP f g p))) : E.Fn "worth" 41 [T.frac f g, t] (· = plT (worthP f g p)) := Wd.fn G D scWorth (worth_body G h1 h2 f g t p hp0 h3)
end My

set_option Elab.async false
set_option linter.all false
set_option maxRecDepth 100000
set_option maxHeartbeats 4000000
/-! La1: the pot, draws and picks. -/
namespace My
open PySem L2 PyProof.Rows
def potL : Nat := 1048577
section
variable {b : Bs} {X : Cx} {G : List En} {a e c : Expr} {es : List Expr} {p p' p2 pos sp pi apos : Pos} {Phi Pa Pb : T → Prop} {rest : List Stmt} {D : Ends} {x pn : Str} {kk : Nat}
theorem PotAt.set0 {H : Hp} {p : Addr} {o : HO} {x y : Int} (h0 : 0 ≤ x) (h1 : x.natAbs < 2 ^ 1048577) (h2 : 0 ≤ y) (h3 : y ≤ 2147483587) : PotAt (upd H p (.lst [.int x, .int y])) p := ⟨x, y, h0, h1, h2, h3, upd_same⟩
theorem Sat.setP {σ : L2.St} {H Hr : Hp} {q : Addr} {x y : Int} (s : Sat b G σ H Hr) (hp : b.pot = some q) (hP : PotAt H q) (h0 : 0 ≤ x) (h1 : x.natAbs < 2 ^ 1048577) (h2 : 0 ≤ y) (h3 : y ≤ 2147483587) : Sat b G σ (upd H q (.lst [.int x, .int y])) Hr := by
  have hq := s.keep q (s.ptw q hp).1 (s.ptw q hp).2
  refine s.pot hp hP ⟨fun a o z e => by rw [upd_ne z]; exact e, PotAt.set0 (o := .lst []) h0 h1 h2 h3, Same.refl _, fun a o e => ?_, fun _ _ z => z⟩
  have z : a ≠ q := fun z => by subst z; rw [hq] at e; cases e
  rw [upd_ne z]; exact s.r2 _ _ e
/-- pot[0] -/
theorem eg_pot0 (i : Nat) (hG : G[i]? = some .pt) (h : ∀ a : Int, 0 ≤ a → a.natAbs < 2 ^ 1048577 → Phi (.int a)) (hN : X.N[i]? = some pn := by rfl) (hv : Vis X.env.scope pn := by first | exact Or.inl rfl | exact Or.inr (Or.inl rfl) | exact Or.inr (Or.inr rfl)) (hd : (pn == ("__debug__" : Str)) = false := by decide) (hcd : (pn == ("__classdict__" : Str)) = false := by decide) :
    EG b X G (.Subscript (.Name pn p) (.Constant (.int 0) kk p') pos) Phi := fun σ H Hr s Q q => by
  obtain ⟨l, h1, h2, x, y, h3, h4, h5, h6, h7⟩ := s.slot i _ hG
  exact we_of (pe_ix ix_list (pe_var hN hv hd hcd) pe_int (fun _ _ => rfl)) ⟨_, h2, l, _, 0, .int x, rfl, rfl, SqL.of h7, rfl, q (.int x) _ H Hr (h x h3 h4) Evo.refl s (holds_is.mpr rfl)⟩
/-- pot[1] -/
theorem eg_pot1 (i : Nat) (hG : G[i]? = some .pt) (h : ∀ a : Int, 0 ≤ a → a ≤ 2147483587 → Phi (.int a)) (hN : X.N[i]? = some pn := by rfl) (hv : Vis X.env.scope pn := by first | exact Or.inl rfl | exact Or.inr (Or.inl rfl) | exact Or.inr (Or.inr rfl)) (hd : (pn == ("__debug__" : Str)) = false := by decide) (hcd : (pn == ("__classdict__" : Str)) = false := by decide) :
    EG b X G (.Subscript (.Name pn p) (.Constant (.int 1) kk p') pos) Phi := fun σ H Hr s Q q => by
  obtain ⟨l, h1, h2, x, y, h3, h4, h5, h6, h7⟩ := s.slot i _ hG
  exact we_of (pe_ix ix_list (pe_var hN hv hd hcd) pe_int (fun _ _ => rfl)) ⟨_, h2, l, _, 1, .int y, rfl, rfl, SqL.of h7, rfl, q (.int y) _ H Hr (h y h5 h6) Evo.refl s (holds_is.mpr rfl)⟩
/-- pot[1] = e -/
theorem wg_pset1 (i : Nat) (hG : G[i]? = some .pt) (he : EG b X G e Pa) (h : ∀ t, Pa t → ∃ v : Int, t = .int v ∧ 0 ≤ v ∧ v ≤ 2147483587) (hW : WG b X G rest D) (hN : X.N[i]? = some pn := by rfl) (hv : Vis X.env.scope pn := by first | exact Or.inl rfl | exact Or.inr (Or.inl rfl) | exact Or.inr (Or.inr rfl)) (hd : (pn == ("__debug__" : Str)) = false := by decide) (hcd : (pn == ("__classdict__" : Str)) = false := by decide)
    (ha : ∀ v, assign (.Subscript (.Name pn p) (.Constant (.int 1) kk pi) sp) X.env v = (do
      let ov ← holding [v] (eval (.Name pn p) X.env)
      let iv ← holding [v, ov] (eval (.Constant (.int 1) kk pi) X.env)
      standAt sp
      holding [v, ov, iv] (setItem ov iv v)
      release [v, ov, iv] []) := by intro _; rfl)
    (hs : swapsWithSole [.Subscript (.Name pn p) (.Constant (.int 1) kk pi) sp] e pos.line X.env = pure false := by rfl) (hw : swappedStores [.Subscript (.Name pn p) (.Constant (.int 1) kk pi) sp] e X.env = pure none := by rfl)
    (h1 : (assignEach [.Subscript (.Name pn p) (.Constant (.int 1) kk pi) sp] X.env).map (·.2) = [assign (.Subscript (.Name pn p) (.Constant (.int 1) kk pi) sp) X.env] := by rfl) : WG b X G (.Assign [.Subscript (.Name pn p) (.Constant (.int 1) kk pi) sp] e pos :: rest) D := fun σ H Hr s =>
  wb_of (pss_cons (ps_asg pe_self (pg_sub (pe_var hN hv hd hcd) pe_int set_list ha) hs hw h1) pss_self) (he σ H Hr s _ fun t v H1 Hr1 p1 e1 s1 g1 => by
    obtain ⟨l, k1, k2, x, y, k3, k4, k5, k6, k7⟩ := s1.slot i _ hG
    obtain ⟨z, rfl, z1, z2⟩ := h t p1
    rw [holds_is.mp g1]
    exact ⟨_, k2, l, _, 1, 1, rfl, rfl, k7, rfl, hW σ _ Hr1 (s1.setP k1 ⟨x, y, k3, k4, k5, k6, k7⟩ k3 k4 z1 z2)⟩)
/-- divmod(a, c), as a tuple -/
theorem eg_dm {i j : Int} (ha : EG b X G a Pa) (hc : EG b X G c (· = .int j)) (hj : 0 < j) (hj2 : j.natAbs < 2 ^ 60) (hg : Gl X "divmod") (hm : X.mg "divmod" = none) (hP : ∀ t, Pa t → ∃ i : Int, t = .int i ∧ Phi (.tup [.int (i / j), .int (i % j)]))
    (he : starEach [a, c] X.env = (false, eval a X.env) :: starEach [c] X.env := by rfl) (he2 : starEach [c] X.env = (false, eval c X.env) :: starEach [] X.env := by rfl) (hpl : (backTo pos (starEach [c] X.env)).any (·.1) = false := by rfl) : EG b X G (.Call (.Name "divmod" p) [a, c] [] pos) Phi := fun σ H Hr s Q q =>
  we_of (pe_callB call_divmodW hg hm (by decide +kernel) (pa_cons pe_self (pa_cons pe_self pa_nil he2) he) (he := he) (hpl := hpl)) (we_two ha hc s fun ta tb x y H2 Hr2 p1 p2 e2 s2 h1 h2 => by
    subst p2
    obtain ⟨i, rfl, hP⟩ := hP ta p1
    refine ⟨i, j, by rw [holds_is.mp h1, holds_is.mp h2], ⟨hj, ?_⟩, fun q0 hq0 => ?_⟩
    · unfold Builtin.divisionGoesByPylong
      have hl : j.natAbs.log2 < 60 := PySem.Flt.log2_lt_of (by decide) hj2
      have : ¬ ((if j == 0 then 0 else j.natAbs.log2 / 30 + 1) > 300) := by split <;> omega
      show (decide ((if j == 0 then 0 else j.natAbs.log2 / 30 + 1) > 300) && _) = false
      rw [decide_eq_false this]; rfl
    · have st := Stp.new (o := .tup [.int (i / j), .int (i % j)]) s2.r2 hq0
      exact q _ (.ref q0) _ _ hP (e2.trans st.evo) (s2.stp st) (holds_tup.mpr ⟨q0, _, rfl, SqT.of upd_same, holdsL_cons.mpr ⟨_, _, rfl, holds_is.mpr rfl, holdsL_one (holds_is.mpr rfl)⟩⟩))
/-- pot[0], x = e -/
theorem wg_pdm (i j : Nat) {pt : Pos} {kt : Nat} (hc1 : X.calm = true) (hK : b.c.K = X.K) (hN : X.N.Nodup) (hG : G[i]? = some .pt) (he : EG b X G e Pa) (h : ∀ t, Pa t → ∃ (v : Int) (u : T), t = .tup [.int v, u] ∧ 0 ≤ v ∧ v.natAbs < 2 ^ 1048577 ∧ WG b X (G.set j (.sh u)) rest D) (hlj : j < G.length := by exact of_decide_eq_true rfl) (hij : G[j]? ≠ some .pt := by exact fun z => by cases z)
    (hNi : X.N[i]? = some pn := by rfl) (hv : Vis X.env.scope pn := by first | exact Or.inl rfl | exact Or.inr (Or.inl rfl) | exact Or.inr (Or.inr rfl)) (hd : (pn == ("__debug__" : Str)) = false := by decide) (hcd : (pn == ("__classdict__" : Str)) = false := by decide)
    (hj : X.N[j]? = some x := by rfl) (hx : Loc X.env.scope x := by first | exact .inl rfl | exact .inr rfl) (hfx : X.fn x = true ∨ X.env.scope.names.lookup x = some .local := by first | exact .inl rfl | exact .inr rfl)
    (ha : ∀ v, assign (.Subscript (.Name pn p) (.Constant (.int 0) kk pi) sp) X.env v = (do
      let ov ← holding [v] (eval (.Name pn p) X.env)
      let iv ← holding [v, ov] (eval (.Constant (.int 0) kk pi) X.env)
      standAt sp
      holding [v, ov, iv] (setItem ov iv v)
      release [v, ov, iv] []) := by intro _; rfl)
    (hs1 : (assignEach [.Subscript (.Name pn p) (.Constant (.int 0) kk pi) sp, .Name x p2] X.env).map (·.2) = assign (.Subscript (.Name pn p) (.Constant (.int 0) kk pi) sp) X.env :: (assignEach [.Name x p2] X.env).map (·.2) := by rfl) (hs2 : (assignEach [.Name x p2] X.env).map (·.2) = assign (.Name x p2) X.env :: (assignEach [] X.env).map (·.2) := by rfl)
    (hn : (assignEach [.Subscript (.Name pn p) (.Constant (.int 0) kk pi) sp, .Name x p2] X.env).length = 2 := by rfl) (hst : (assignEach [.Subscript (.Name pn p) (.Constant (.int 0) kk pi) sp, .Name x p2] X.env).findIdx? (·.1) = none := by rfl)
    (hs : swapsWithSole [.Tuple [.Subscript (.Name pn p) (.Constant (.int 0) kk pi) sp, .Name x p2] kt pt] e pos.line X.env = pure false := by rfl) (hw : swappedStores [.Tuple [.Subscript (.Name pn p) (.Constant (.int 0) kk pi) sp, .Name x p2] kt pt] e X.env = pure none := by rfl)
    (h1 : (assignEach [.Tuple [.Subscript (.Name pn p) (.Constant (.int 0) kk pi) sp, .Name x p2] kt pt] X.env).map (·.2) = [assign (.Tuple [.Subscript (.Name pn p) (.Constant (.int 0) kk pi) sp, .Name x p2] kt pt) X.env] := by rfl) : WG b X G (.Assign [.Tuple [.Subscript (.Name pn p) (.Constant (.int 0) kk pi) sp, .Name x p2] kt pt] e pos :: rest) D := fun σ H Hr s =>
  wb_of (pss_cons (ps_asg pe_self (pg_tup hc1 (pgs_cons (pg_sub (pe_var hNi hv hd hcd) pe_int set_list ha) (pgs_cons (pg_name hN hj hx hfx) pgs_nil hs2) hs1) hn hst) hs hw h1) pss_self) (he σ H Hr s _ fun t w H1 Hr1 p1 e1 s1 g1 => by
    obtain ⟨v, u, rfl, v1, v2, hW⟩ := h t p1
    obtain ⟨l, vs, rfl, k1, k2⟩ := holds_tup.mp g1
    obtain ⟨w1, r1, rfl, hv1, k3⟩ := holdsL_cons.mp k2
    obtain ⟨w2, r2, rfl, hv2, k4⟩ := holdsL_cons.mp k3
    obtain rfl := holdsL_nil.mp k4
    rw [holds_is.mp hv1] at k1
    obtain ⟨lp, m1, m2, x0, y0, m3, m4, m5, m6, m7⟩ := s1.slot i _ hG
    have s2 := s1.setP m1 ⟨x0, y0, m3, m4, m5, m6, m7⟩ v1 v2 m5 m6
    exact ⟨l, _, rfl, hK ▸ same_tup s1.r2 k1, rfl, .int v, [w2], rfl, _, m2, lp, _, 0, 0, rfl, rfl, m7, rfl, w2, [], rfl, rfl, hW _ _ Hr1 (s2.put j hlj hv2)⟩)
end
/-- int(e), e an int not known -/
theorem eg_intIN {b : Bs} {X : Cx} {G : List En} {a : Expr} {p pos : Pos} {Phi Pa : T → Prop} (ha : EG b X G a Pa) (hg : Gl X "int") (hm : X.mg "int" = none) (hP : ∀ t, Pa t → Phi t) (h : ∀ t, Pa t → ∃ i : Int, t = .int i := by exact fun t ⟨i, h⟩ => ⟨i, h⟩) (he : starEach [a] X.env = (false, eval a X.env) :: starEach [] X.env := by rfl) : EG b X G (.Call (.Name "int" p) [a] [] pos) Phi := fun σ H Hr s Q q =>
  we_of (pe_callTy call_int1 hg hm (by decide +kernel) (pa_cons pe_self pa_nil he) (he := he)) (ha σ H Hr s _ fun t v H1 Hr1 p1 e1 s1 h1 => by
    obtain ⟨i, rfl⟩ := h t p1
    exact .inl ⟨i, by rw [holds_is.mp h1], q _ _ H1 Hr1 (hP _ p1) e1 s1 (holds_is.mpr rfl)⟩)
/-! ### _law_draw -/
theorem wg_retpP {b : Bs} {X : Cx} {G : List En} {e : Expr} {Phi : T → Prop} {pos : Pos} {rest : List Stmt} {D : Ends} (i : Nat) (hG : G[i]? = some .pt) (hD : D.rt = RetP b Phi) (he : EG b X G e Phi) : WG b X G (.Return (some e) pos :: rest) D := wg_retP i hG he (fun _ z => z) fun _ _ z => by rw [hD]; exact z
theorem scDraw : scOk (top 73) ["_law_pot_here", "_law_many", "_law_digit"] ["_law_pot_here", "_law_many"] := ⟨rfl, rfl, rfl, by decide +kernel, rfl, by decide +kernel, by decide +kernel⟩
/-- a digit below m -/
def Dig (m : Int) (t : T) : Prop := ∃ d : Int, t = .int d ∧ 0 ≤ d ∧ d < m
theorem ok_draw {E : Wd} (G : Glo E) (D : Dfn E "_law_draw" (top 73) ["_law_pot_here", "_law_many"]) (m : Int) (h1 : 0 < m) (h2 : m < 1000) : E.Pt "_law_draw" 1 [.int m] (Dig m) := by
  refine Wd.pt D scDraw fun f0 cdv A outer s H E0 B Hr q hr => ?_
  have hm60 : m.natAbs < 2 ^ 60 := by
    have : (1000 : Nat) < 2 ^ 60 := by decide
    omega
  refine wg_if (Pc := fun _ => True) (tg_gtN (Pa := fun t => ∃ a : Int, t = .int a) (eg_pot0 0 rfl fun a _ _ => ⟨a, rfl⟩) (eg_int rfl) fun t ⟨a, ha⟩ => ⟨a, ha, trivial⟩) (fun _ => ?_) fun _ => ?_
  · refine wg_pdm 0 2 rfl rfl scDraw.nd rfl (Pa := fun t => ∃ a : Int, t = .tup [.int (a / m), .int (a % m)] ∧ 0 ≤ a ∧ a.natAbs < 2 ^ 1048577) (eg_dm (i := 0) (Pa := fun t => ∃ a : Int, t = .int a ∧ 0 ≤ a ∧ a.natAbs < 2 ^ 1048577) (eg_pot0 0 rfl fun a ha hb => ⟨a, rfl, ha, hb⟩) (eg_var 1 rfl rfl) h1 hm60 rfl G.dmd fun t ⟨a, ha, h⟩ => ⟨a, ha, a, rfl, h⟩) fun t ⟨a, ha, h3, h4⟩ => ⟨a / m, _, ha, Int.ediv_nonneg h3 (by omega), ?_, ?_⟩
    · have : a / m ≤ a := Int.ediv_le_self _ h3
      have h5 : 0 ≤ a / m := Int.ediv_nonneg h3 (by omega)
      exact Nat.lt_of_le_of_lt (by omega) h4
    · exact wg_retpP 0 rfl rfl (eg_var 2 rfl ⟨_, rfl, Int.emod_nonneg _ (by omega), Int.emod_lt_of_pos _ h1⟩)
  · refine wg_skip ?_
    have bd : ∀ a : Int, 0 ≤ a → a ≤ 2147483587 → a.natAbs < 2 ^ 40 := fun a h3 h4 => by
      have : (2147483588 : Nat) < 2 ^ 40 := by decide
      omega
    refine wg_pset1 0 rfl (Pa := fun t => ∃ v : Int, t = .int v ∧ 0 ≤ v ∧ v ≤ 2147483587) (eg_bin (Pa := fun t => ∃ a : Int, t = .int a) (Pb := (· = .int 2147483587)) op_mod (eg_intIN (Pa := fun t => ∃ a : Int, t = .int a) (eg_bin (Pa := fun t => ∃ a : Int, t = .int a) (Pb := (· = .int 479)) op_add (eg_bin (Pa := fun t => ∃ a : Int, t = .int a ∧ 0 ≤ a ∧ a ≤ 2147483587) (Pb := (· = .int 39373)) op_mulX (eg_pot1 0 rfl fun a ha hb => ⟨a, rfl, ha, hb⟩) (eg_int rfl) ?_) (eg_int rfl) ?_) rfl G.int fun t z => z) (eg_int rfl) ?_) (fun t z => z) ?_
    · rintro _ _ ⟨a, rfl, h3, h4⟩ rfl
      exact rg_I (mulx_ok (bd a h3 h4) (show (39373 : Int).natAbs < 2 ^ 40 by decide) (by decide)) ⟨_, rfl⟩
    · rintro _ _ ⟨a, rfl⟩ rfl
      exact rg_I0 ⟨_, rfl⟩
    · rintro _ _ ⟨a, rfl⟩ rfl
      have q1 := Int.emod_nonneg a (show (2147483587 : Int) ≠ 0 by decide)
      have q2 := Int.emod_lt_of_pos a (show (0 : Int) < 2147483587 by decide)
      exact rg_I (by decide) ⟨_, rfl, q1, by omega⟩
    · refine wg_retpP 0 rfl rfl (eg_bin (Pa := fun t => ∃ a : Int, t = .int a) (Pb := (· = .int m)) op_mod (eg_intIN (Pa := fun t => ∃ a : Int, t = .int a) (eg_bin (Pa := fun t => ∃ a : Int, t = .int a) (Pb := (· = .int 17)) op_fdivW (eg_bin (Pa := fun t => ∃ a : Int, t = .int a) (Pb := (· = .int 2147483563)) op_mod (eg_intIN (Pa := fun t => ∃ a : Int, t = .int a) (eg_bin (Pa := fun t => ∃ a : Int, t = .int a ∧ 0 ≤ a ∧ a ≤ 2147483587) (Pb := fun t => ∃ a : Int, t = .int a ∧ 0 ≤ a ∧ a ≤ 2147483587) op_mulX (eg_pot1 0 rfl fun a ha hb => ⟨a, rfl, ha, hb⟩) (eg_pot1 0 rfl fun a ha hb => ⟨a, rfl, ha, hb⟩) ?_) rfl G.int fun t z => z) (eg_int rfl) ?_) (eg_int rfl) ?_) rfl G.int fun t z => z) (eg_var 1 rfl rfl) ?_)
      · rintro _ _ ⟨a, rfl, h3, h4⟩ ⟨a2, rfl, h5, h6⟩
        exact rg_I (mulx_ok (bd a h3 h4) (bd a2 h5 h6) (by decide)) ⟨_, rfl⟩
      · rintro _ _ ⟨a, rfl⟩ rfl
        exact rg_I (by decide) ⟨_, rfl⟩
      · rintro _ _ ⟨a, rfl⟩ rfl
        exact rg_I ⟨by decide, by decide⟩ ⟨_, rfl⟩
      · rintro _ _ ⟨a, rfl⟩ rfl
        exact rg_I h1 ⟨_, rfl, Int.emod_nonneg _ (by omega), Int.emod_lt_of_pos _ h1⟩
/-! ### _law_pick -/
theorem scPick : scOk (top 74) ["_law_pot_here", "_law_some"] ["_law_pot_here", "_law_some"] := ⟨rfl, rfl, rfl, by decide +kernel, rfl, by decide +kernel, by decide +kernel⟩
abbrev drawF (E : Wd) : Prop := ∀ m : Int, 0 < m → m < 1000 → E.Pt "_law_draw" 1 [.int m] (Dig m)
theorem ok_pick {E : Wd} (G : Glo E) (D : Dfn E "_law_pick" (top 74) ["_law_pot_here", "_law_some"]) (h1 : drawF E) (ts : List T) (h0 : ts ≠ []) (hl : ts.length < 1000) : E.Pt "_law_pick" 2 [.lst ts] (· ∈ ts) := by
  refine Wd.pt D scPick fun f0 cdv A outer s H E0 B Hr q hr => ?_
  have hp := List.length_pos_iff.mpr h0
  refine wg_retpP 0 rfl rfl (eg_ixN (ts := ts) rfl (eg_var 1 rfl rfl) (eg_pot 0 (h1 (ts.length : Int) (by omega) (by omega)) hr rfl rfl (ag_one (eg_lenL (eg_var 1 rfl rfl) rfl G.len rfl)) rfl fun t z => z) (fun _ _ => rfl) ?_)
  rintro t ⟨d, rfl, d1, d2⟩
  have hd : d.toNat < ts.length := by omega
  refine ⟨d, ts[d.toNat], rfl, ?_, List.getElem_mem hd⟩
  have := tAt_nat (List.getElem?_eq_getElem hd)
  rwa [show ((d.toNat : Nat) : Int) = d by omega] at this
end My

set_option Elab.async false
set_option linter.all false
set_option maxRecDepth 100000
set_option maxHeartbeats 4000000
/-! La2: repr of lists whose items have a __repr__ of their own; lists against []. -/
namespace My
open PySem L2 PyProof.Rows PySem.W
/-- Ratio's __repr__, as a callee -/
structure RCal (P : Program) (w : World) (K : PySem.W.Frag) (mg : Str → Option Value) (base : Heap) (C : Addr) (k : Nat) (sp : Sp) : Prop where
  ex : ∃ (f : Addr) (fd : FuncData) (ps : List Str), FnOk P w K mg base CX0 k f fd ps sp ∧ Binds K fd ps [] ∧ PySem.W.findIn K (.ref C) "__repr__" = some (some (.ref f)) ∧ PySem.W.isFn K (.ref f) = true
theorem ifBoundBy_K {K : Frag} {M : Model} {A : Around} {E : Value → Shared → Prop} {s : Shared} {x C f : Addr} {ox : Obj} {od : Option Obj} {name : Str} {last : Value → List Value → Sem Value} {Q : Option Value → Shared → Prop} (X : K.In s.heap) (I : InstAt s.heap x ox C od) (hs : findIn K (.ref C) name = some (some (.ref f))) (hf : isFn K (.ref f) = true)
    (h : wpAny M A (last (.ref f) [.ref x]) (fun v => Q (some v)) E s) : wpAny M A (callSpecialIfBoundBy? last (.ref x) name) Q E s := by
  simp only [callSpecialIfBoundBy?, bindSpecialIfBound?]
  refine wpAny_holding (wpAny_bind (wpAny_bind (wpAny_bind (I.type.here ((looks_findIn X hs).here ?_)))))
  refine wpAny_bind (wpAny_askSetting (wpAny_ite ?_))
  have fin : wpAny M A (last (.ref f) [.ref x] >>= fun v => pure (some v)) Q E s := wpAny_bind (wpAny_mono h (fun v s' h' => wpAny_pure h') fun _ _ h' => h')
  split
  · exact wpAny_bind ((bind_fn X _ (beq_iff_eq.mp hf)).here (wpAny_pure (by exact fin)))
  · exact wpAny_tryCatch (wpAny_bind ((bind_fn X _ (beq_iff_eq.mp hf)).here (wpAny_pure (by exact fin))))
/-- an item's text, wherever room is -/
def RpE (c : Cs) (X : Cx) (k : Nat) (t : T) (y : Str) : Prop :=
  ∀ (A : Around), Room k A → A.frames = X.A.frames → ∀ (base : Nat), base + y.length ≤ sizeLine → ∀ (pins : List (Addr × Obj)) (σ : L2.St) (H Hr : Hp) (s : Shared) (x : V) (u : Value), Inv X pins σ H s → Same Hr H → holds c t x Hr → RelV x u →
    ∀ (E : Value → Shared → Prop) (Q : Str → Shared → Prop), (∀ H' Hr' s', Inv X pins σ H' s' → Stp H Hr H' Hr' → Q y s') → wpAny (model X.prog X.w) A (pyReprUnder base u) Q E s
section
variable {c : Cs} {X : Cx} {k : Nat}
theorem rpe_bl (d : Bool) : RpE c X k (.bl d) (if d then "True" else "False") := fun A hr hf base hb pins σ H Hr s x u I r2 hx rx E Q q => by
  rw [holds_is.mp hx] at rx
  cases rx
  exact ReprIs.bool d base hb A E s Q fun tk => q H Hr _ (I.tok tk) (Stp.refl r2)
theorem rpe_str (y : Str) (hz : (reprText y).length ≤ sizeLine) : RpE c X k (.str y) (reprText y) := fun A hr hf base hb pins σ H Hr s x u I r2 hx rx E Q q => by
  rw [holds_is.mp hx] at rx
  obtain ⟨t, rfl⟩ := rx
  exact ReprIs.str y t hz base hb A E s Q fun tk => q H Hr _ (I.tok tk) (Stp.refl r2)
theorem rpe_obj {kn : Kn} {t u : T} {y : Str} {pre : List T → Prop} {R : List T → T → Prop} (M : RCal X.prog X.w X.K X.mg X.base (c.cl kn) k (spOf c pre R)) (hp : pre [.obj kn t u]) (hR : ∀ r, R [.obj kn t u] r → r = .str y) : RpE c X (k + 2) (.obj kn t u) y := fun A hr hf base hb pins σ H Hr s x w I r2 hx rx E Q q => by
  obtain ⟨f, fd, ps, F, hbn, hfi, hfn⟩ := M.ex
  obtain ⟨a, dx, v1, v2, rfl, h2, h3, h4⟩ := holds_obj.mp hx
  cases rx
  obtain ⟨ox, od, J⟩ := inst_at I (r2 _ _ h2)
  refine wpAny_pyReprUnder_ref (by omega) ?_
  unfold pyReprObjUnder pyReprObjBy
  refine wpAny_bind (wpAny_cRoomFor (by have := hr.un; omega) ?_)
  refine wpAny_bind (wpAny_bind (J.type.here ((looks_findIn I.kIn hfi).here ?_)))
  show wpAny _ _ (if (some (Value.ref f)).isNone = true then _ else _) _ _ _
  rw [if_neg (by simp)]
  refine wpAny_bind (ifBoundBy_K (name := Str.ofString "__repr__") I.kIn J hfi hfn ?_)
  have e0 : Env0 X.prog X.w X.K X.mg X.base A X.stack s H := ⟨hf ▸ I.env0.frames, I.env0.mod, I.env0.bs, I.env0.bsz, I.env0.funs, I.env0.frf, I.env0.hok, I.env0.bare⟩
  have sp1 : spOf c pre R [.ref a] H (fun v H' => ∃ Hr', v = .str y ∧ Stp H Hr H' Hr') E0 := ⟨Hr, _, r2, holdsL_one hx, hp, fun t v H' Hr' hr' st hv => by
    rw [hR t hr'] at hv
    exact ⟨Hr', holds_is.mp hv, st⟩⟩
  have l2 : ([Value.ref a] ++ ([] : List Value)).length = ps.length := by rw [← F.len _ _ _ _ sp1]; rfl
  refine wpAny_call (codeAny_mono (F.run A X.stack s H ⟨[.ref a], []⟩ [.ref a] [.ref a] _ E0 (hr.mono (by omega)) e0 (hbn s [.ref a] I.kIn l2) (.cons rfl .nil) sp1) fun r s' hq => ?_)
  cases r with
  | error er => exact False.elim hq
  | ok fl =>
    cases fl with
    | ret w =>
      obtain ⟨z, H', I', rz, Hr', rfl, st⟩ := I.after hq
      obtain ⟨tk, rfl⟩ := rz
      refine wpAny_bind (wpAny_isInstance (T := "str") (b := true) (typeIs_str _ _ _) isSubtype_str_str ?_)
      exact wpAny_pure ⟨y, tk, rfl, q H' Hr' s' I' st⟩
    | next => exact False.elim hq
    | brk => exact False.elim hq
    | cont => exact False.elim hq
/-- the items' texts -/
inductive RpEs (c : Cs) (X : Cx) (k : Nat) : List T → List Str → Prop
  | nil : RpEs c X k [] []
  | cons {t : T} {y : Str} {ts : List T} {ys : List Str} : RpE c X k t y → RpEs c X k ts ys → RpEs c X k (t :: ts) (y :: ys)
theorem RpEs.len {ts : List T} {ys : List Str} (h : RpEs c X k ts ys) : ts.length = ys.length := by induction h with
  | nil => rfl
  | cons _ _ ih => rw [List.length_cons, List.length_cons, ih]
theorem RpEs.get {ts : List T} {ys : List Str} (h : RpEs c X k ts ys) : ∀ {i : Nat} {t : T}, ts[i]? = some t → ∃ y, ys[i]? = some y ∧ RpE c X k t y := by
  induction h with
  | nil => intro i t e; simp at e
  | cons h1 _ ih =>
    intro i t e
    cases i with
    | zero => simp at e; subst e; exact ⟨_, rfl, h1⟩
    | succ i => obtain ⟨y, e1, e2⟩ := ih (by simpa using e); exact ⟨y, by simpa using e1, e2⟩
theorem under_loop_frames (A : Around) (args : Args) : (A.under (.builtin "list.__repr__.loop" args)).frames = A.frames := by
  first | rfl | simp [Around.under, Code.envs, Code.isFrame, pushEnvs]
theorem under_loop_depth (A : Around) (args : Args) : (A.under (.builtin "list.__repr__.loop" args)).depth ≤ A.depth + 1 := by
  first | exact Nat.le_refl _ | exact Nat.le_succ _ | simp [Around.under, Code.weight, Code.isCreation, Code.isGuard, Code.isCaller, Code.frames, Code.isFrame, guardIds]
theorem under_loop_handled (A : Around) (args : Args) : (A.under (.builtin "list.__repr__.loop" args)).handled = A.handled := by
  first | rfl | simp [Around.under]
theorem room_under {A : Around} {args : Args} (h : Room (k + 1) A) : Room k (A.under (.builtin "list.__repr__.loop" args)) := by
  have h1 := under_loop_depth A args
  have h2 := units_under_list_loop A args
  exact ⟨by rw [under_loop_handled]; exact h.hd, by have := h.dp; omega, by have := h.un; omega⟩
theorem strs_of {ys : List Str} {its : List Value} (h : Vals (ys.map V.str) its) : ∃ done : List (Str × Tok), its = strValues done ∧ done.map (·.1) = ys := by
  induction ys generalizing its with
  | nil => cases h; exact ⟨[], rfl, rfl⟩
  | cons y ys ih =>
    cases h with
    | cons h1 h2 =>
      obtain ⟨t, rfl⟩ := h1
      obtain ⟨d, rfl, e⟩ := ih h2
      exact ⟨(y, t) :: d, rfl, by rw [List.map_cons, e]⟩
/-- the loop of list.__repr__ -/
theorem repr_loop {pins : List (Addr × Obj)} {σ : L2.St} {l p0 : Addr} {xs : List V} {ts : List T} {ys : List Str} (hT : RpEs c X k ts ys) {A : Around} (hr : Room (k + 1) A) (hf : A.frames = X.A.frames) (hsz : (listText ys).length ≤ sizeLine) {R : Result → Shared → Prop} :
    ∀ (n i : Nat) (s : Shared) (H Hr : Hp), ts.length - i = n → i ≤ ts.length → Inv X pins σ H s → Same Hr H → Hr l = some (.lst xs) → holdsL c ts xs Hr → H p0 = some (.lst ((ys.take i).map V.str)) → Hr p0 = none →
      (∀ H' Hr' s' u, Inv X pins σ H' s' → Same Hr' H' → Same Hr Hr' → (∀ a o, a ≠ p0 → H a = some o → H' a = some o) → (∀ a, H a ≠ none → Hr a = none → Hr' a = none) → R (.ok (.ret (.str (listText ys) u))) s') →
      codeAny (model X.prog X.w) A (.builtin "list.__repr__.loop" ⟨[.ref l, rawInt i, .ref p0, rawInt ((0 + piled (ys.take i) : Nat) : Int)], []⟩) R s := by
  have hX : (listText ys).length = (textFrom 0 "[" ys).length + 1 := by
    show (textFrom 0 "[" ys ++ "]").length = _
    rw [strLen_append]; rfl
  have hL := textFrom_len ys 0 "["
  have hlen := hT.len
  have hsz1 : ts.length ≤ sizeLine := by
    have h1 := hL.1
    rw [if_neg (Nat.lt_irrefl 0)] at h1
    omega
  have hsz2 : ∀ t ∈ ys, t.length ≤ sizeLine := fun t ht => by
    have h2 := hL.2.1 t ht
    omega
  have hp3 := piled_le_listText ys
  intro n
  induction n with
  | zero =>
    intro i s H Hr hn hi I r2 hl hv hP hP2 hR
    have hin : i = ts.length := by omega
    obtain ⟨_, its, m, rv, hlv, el⟩ := I.lstM (r2 _ _ hl)
    obtain ⟨_, itp, mp, rp, hlp, ep⟩ := I.lstM hP
    refine codeAny_builtin F.entry_list_repr_loop ?_
    show wpAny _ _ (Builtin.«list.__repr__.loop» ⟨[.ref l, .int i 0, .ref p0, .int ((0 + piled (ys.take i) : Nat) : Int) 0], []⟩) _ _ s
    rw [repr_loop_tree]
    refine wpAny_bind (wpAny_listItems el rfl ?_)
    have hnone : its.toArray[(i : Int).toNat]? = none := by
      have := holdsL_len hv
      simp; omega
    simp only [hnone]
    unfold reprEnd
    refine wpAny_bind (wpAny_listItems ep rfl ?_)
    obtain ⟨done, rfl, hd⟩ := strs_of rp
    show wpAny _ _ (forIn (strValues done).zipIdx _ reprBody >>= _) _ _ _
    rw [repr_fold]
    refine wpAny_bind (wpAny_pure ?_)
    rw [hd, hin, hlen, List.take_length]
    refine wpAny_bind (wpAny_mkStr (wpAny_pure ?_) hsz)
    exact hR H Hr _ _ (I.tok _) r2 (Same.refl _) (fun _ _ _ e => e) fun _ _ e => e
  | succ n ih =>
    intro i s H Hr hn hi I r2 hl hv hP hP2 hR
    have hlt : i < ts.length := by omega
    have et : ts[i]? = some ts[i] := List.getElem?_eq_getElem hlt
    obtain ⟨y, ey, hy⟩ := hT.get et
    obtain ⟨x, ex, hx⟩ := holdsL_get hv et
    obtain ⟨_, its, m, rv, hlv, el⟩ := I.lstM (r2 _ _ hl)
    have hp1 := piled_take_succ ey
    have hp2 := piled_take_le ys (i + 1)
    obtain ⟨u, eu, ru⟩ : ∃ u, its[i]? = some u ∧ RelV x u := rv.get ex
    refine codeAny_builtin F.entry_list_repr_loop ?_
    show wpAny _ _ (Builtin.«list.__repr__.loop» ⟨[.ref l, .int i 0, .ref p0, .int ((0 + piled (ys.take i) : Nat) : Int) 0], []⟩) _ _ s
    rw [repr_loop_tree]
    refine wpAny_bind (wpAny_listItems el rfl ?_)
    have hsome : its.toArray[(i : Int).toNat]? = some u := by simpa using eu
    simp only [hsome]
    rw [Int.toNat_natCast]
    refine wpAny_bind (wpAny_holding (hy _ (room_under hr) ((under_loop_frames _ _).trans hf) _ (by omega) pins σ H Hr s x u I r2 hx ru _ _ fun H1 Hr1 s1 I1 st => ?_))
    refine wpAny_bind (wpAny_mkStr ?_ (hsz2 y (List.mem_of_getElem? ey)))
    refine wpAny_bind ?_
    show wpAny _ _ (updateSeq p0 _) _ _ _
    have hP1 := st.h _ _ hP
    obtain ⟨_, itp, mp, rp, hlp, ep⟩ := (I1.tok (s1.toks + 1)).lstM hP1
    have hasz : itp.toArray.size ≤ sizeLine := by
      rw [List.size_toArray, ← hlp, List.length_map, List.length_take]; omega
    refine wpAny_updateSeq ep rfl (wpAny_pure ⟨F.quiet_list_repr_loop _, ?_⟩) hasz
    have e1 : ((i : Int) + 1) = ((i + 1 : Nat) : Int) := by omega
    have e2 : 0 + piled (ys.take i) + (y.length + 2) = 0 + piled (ys.take (i + 1)) := by omega
    rw [e1, e2]
    have e3 : (ys.take (i + 1)).map V.str = (ys.take i).map V.str ++ [V.str y] := by rw [List.take_add_one, ey, List.map_append]; rfl
    have hP1r : Hr1 p0 = none := st.g p0 (by rw [hP]; simp) hP2
    have I2 := (I1.tok (s1.toks + 1)).lset (t' := s1.toks + 1) (its' := itp ++ [.str y s1.toks]) (ys := (ys.take (i + 1)).map V.str) (f := fun z => z.push (.str y s1.toks)) hP1 ep (by simp) (by rw [e3]; exact rp.append (.cons ⟨_, rfl⟩ .nil)) (by rw [List.length_map, List.length_take]; omega)
    refine ih (i + 1) _ _ Hr1 (by omega) hlt I2 (fun a o e => ?_) (st.r _ _ hl) (holdsL_mono st.r hv) upd_same hP1r fun H' Hr' s' u' J1 J2 J3 J4 J5 => ?_
    · have z : a ≠ p0 := fun z => by subst z; rw [hP1r] at e; cases e
      rw [upd_ne z]; exact st.r2 _ _ e
    · refine hR H' Hr' s' u' J1 J2 (st.r.trans J3) (fun a o z e => J4 a o z (by rw [upd_ne z]; exact st.h _ _ e)) fun a z1 z2 => ?_
      refine J5 a (fun z3 => ?_) (st.g a z1 z2)
      by_cases z : a = p0
      · subst z; rw [upd_same] at z3; cases z3
      · rw [upd_ne z] at z3
        cases q : H a with
        | none => exact z1 q
        | some o => rw [st.h _ _ q] at z3; cases z3
end
end My

set_option Elab.async false
set_option linter.all false
set_option maxRecDepth 100000
set_option maxHeartbeats 4000000
/-! La3: repr, lists against []; defs where no guard is under way. -/
namespace My
open PySem L2 PyProof.Rows PySem.W
section
variable {c : Cs} {X : Cx} {k : Nat}
/-- repr of a list -/
theorem call_reprL {ts : List T} {ys : List Str} (hT : RpEs c X k ts ys) (hg : X.A.guards = some []) (hr : Room (k + 4) X.A) (hsz : (listText ys).length ≤ sizeLine) (h0 : ts ≠ []) :
    CallR X (.builtin "repr") (fun vs H Q => ∃ l xs Hr, vs = [.ref l] ∧ Hr l = some (.lst xs) ∧ Same Hr H ∧ holdsL c ts xs Hr ∧ ∀ H' Hr', Stp H Hr H' Hr' → Q (.str (listText ys)) H') := by
  intro pins s σ H vs us Q I r h
  obtain ⟨l, xs, Hr, rfl, hl, r2, hv, q⟩ := h
  obtain ⟨u, rfl, ru⟩ := r.one
  cases ru
  obtain ⟨_, its, n, rv, hlv, el⟩ := I.lstM (r2 _ _ hl)
  have hTy : s.TypeIs (.ref l) "list" := ⟨_, el, rfl⟩
  have hne : ∃ x r, its = x :: r := by
    cases its with
    | nil => exact absurd (by have := holdsL_len hv; have h3 : xs.length = 0 := hlv; exact List.length_eq_zero_iff.mp (by omega)) h0
    | cons x r => exact ⟨x, r, rfl⟩
  obtain ⟨x0, r0, rfl⟩ := hne
  refine Calls.call_function_entry PySem.F.kind_repr PySem.F.plain_repr PySem.F.entry_repr (PySem.F.args_repr1 _) ?_
  unfold Builtin.«repr»
  refine wpAny_bind (m := oneArg "repr" _) (wpAny_pure ?_)
  refine wpAny_bind (wpAny_cRoomFor (by have := hr.un; show X.A.units + 1 < cLine; omega) ?_)
  refine wpAny_bind (wpAny_specialOf (name := Str.ofString "__repr__") hTy F.slot_list_repr.lookup ?_)
  refine wpAny_bind (m := callSpecialIfBound? (.ref l) (Str.ofString "__repr__")) (wpAny_callSpecialIfBound?_slot (name := Str.ofString "__repr__") hTy F.slot_list_repr ?_)
  refine wpAny_call (codeAny_call_builtin F.slot_list_repr.plain F.entry_list_repr (F.slot_list_repr.check _ _ _ _ _ _ _ _ hTy (F.args_list_repr_1 _) ?_))
  refine wpAny_list_repr_head (g := []) (by first | exact hg | simpa using hg) (fun _ _ _ hm => by cases hm) el rfl ?_
  refine wpAny_bind (m := newList []) (wpAny_newObj_type ?_)
  refine wpAny_pure ⟨F.quiet_list_repr_loop _, ?_⟩
  have hn : H s.heap.objs.size = none := I.hok.fresh (Nat.le_refl _)
  have I1 := I.lnew (its := []) (ys := []) (t' := s.toks) .nil (Nat.zero_le _)
  have hnr := r2.free hn
  have hA : Room (k + 1) X.A.in1 := (hr.mono (show k + 2 ≤ k + 4 by omega)).in1
  refine repr_loop (A := X.A.in1) hT hA rfl hsz ts.length 0 _ (upd H s.heap.objs.size (.lst [])) Hr rfl (Nat.zero_le _) I1 (fun a o e => by rw [upd_ne (ne_of_none (r2 _ _ e) hn)]; exact r2 _ _ e) hl hv upd_same hnr fun H' Hr' s' u J1 J2 J3 J4 J5 => ?_
  refine wpAny_bind (wpAny_isInstance (T := "str") (b := true) (typeIs_str _ _ _) isSubtype_str_str ?_)
  refine wpAny_pure ⟨_, rfl, .str (listText ys), H', J1, ⟨_, rfl⟩, q H' Hr' ⟨fun a o e => J4 a o (ne_of_none e hn) (by rw [upd_ne (ne_of_none e hn)]; exact e), J3, J2, fun a z1 z2 => J5 a (fun z3 => ?_) z2⟩⟩
  by_cases z : a = s.heap.objs.size
  · subst z; exact z1 hn
  · rw [upd_ne z] at z3; exact z1 z3
theorem call_reprS {y : Str} (hz : (reprText y).length ≤ sizeLine) : CallR X (.builtin "repr") (fun vs H Q => vs = [.str y] ∧ Q (.str (reprText y)) H) := by
  intro pins s σ H vs us Q I r h
  obtain ⟨rfl, q⟩ := h
  obtain ⟨u, rfl, ru⟩ := r.one
  obtain ⟨t, rfl⟩ := ru
  exact P.repr_of_str (hsz := hz) ⟨.str (reprText y), H, I.tok _, ⟨_, rfl⟩, q⟩
/-- repr of an instance -/
theorem call_reprO {kn : Kn} {t u : T} {y : Str} {pre : List T → Prop} {R : List T → T → Prop} (M : RCal X.prog X.w X.K X.mg X.base (c.cl kn) k (spOf c pre R)) (hr : Room (k + 2) X.A) (hp : pre [.obj kn t u]) (hR : ∀ r, R [.obj kn t u] r → r = .str y) :
    CallR X (.builtin "repr") (fun vs H Q => ∃ v Hr, vs = [v] ∧ Same Hr H ∧ holds c (.obj kn t u) v Hr ∧ ∀ H' Hr', Stp H Hr H' Hr' → Q (.str y) H') := by
  intro pins s σ H vs us Q I r h
  obtain ⟨v, Hr, rfl, r2, hv, q⟩ := h
  obtain ⟨w, rfl, ru⟩ := r.one
  obtain ⟨f, fd, ps, F, hbn, hfi, hfn⟩ := M.ex
  obtain ⟨a, dx, v1, v2, rfl, h2, h3, h4⟩ := holds_obj.mp hv
  cases ru
  obtain ⟨ox, od, J⟩ := inst_at I (r2 _ _ h2)
  obtain ⟨m, hF⟩ := I.fr
  refine PySem.W.repr_K (by have := hr.un; show X.A.units + 1 < cLine; omega) hF I.ok.mod.kin J hfi hfn ?_
  have sp1 : spOf c pre R [.ref a] H (fun v H' => ∃ Hr', v = .str y ∧ Stp H Hr H' Hr') E0 := ⟨Hr, _, r2, holdsL_one hv, hp, fun t v H' Hr' hr' st hv => by
    rw [hR t hr'] at hv
    exact ⟨Hr', holds_is.mp hv, st⟩⟩
  have l2 : ([Value.ref a] ++ ([] : List Value)).length = ps.length := by rw [← F.len _ _ _ _ sp1]; rfl
  refine wpAny_call (codeAny_mono (F.run X.A.in1 X.stack s H ⟨[.ref a], []⟩ [.ref a] [.ref a] _ E0 ((hr.mono (show k + 1 ≤ k + 2 by omega)).in1) I.env0.in1 (hbn s [.ref a] I.kIn l2) (.cons rfl .nil) sp1) fun r s' hq => ?_)
  cases r with
  | error er => exact False.elim hq
  | ok fl =>
    cases fl with
    | ret w =>
      obtain ⟨z, H', I', rz, Hr', rfl, st⟩ := I.after hq
      obtain ⟨tk, rfl⟩ := rz
      exact ⟨.str y, H', I', ⟨_, rfl⟩, q H' Hr' st⟩
    | next => exact False.elim hq
    | brk => exact False.elim hq
    | cont => exact False.elim hq
end
section
variable {b : Bs} {X : Cx} {G : List En} {a e : Expr} {pos p p' p2 : Pos} {Phi Pa : T → Prop} {P : Bool → Prop} {k : Nat}
theorem eg_reprL {ts : List T} {ys : List Str} (hT : RpEs b.c X k ts ys) (hgd : X.A.guards = some []) (hr : Room (k + 4) X.A) (hsz : (listText ys).length ≤ sizeLine) (h0 : ts ≠ []) (ha : EG b X G a (· = .lst ts)) (hP : Phi (.str (listText ys))) (hg : Gl X "repr") (hm : X.mg "repr" = none) (he : starEach [a] X.env = (false, eval a X.env) :: starEach [] X.env := by rfl) : EG b X G (.Call (.Name "repr" p) [a] [] pos) Phi := fun σ H Hr s Q q =>
  we_of (pe_callB (call_reprL hT hgd hr hsz h0) hg hm (by decide +kernel) (pa_cons pe_self pa_nil he) (he := he)) (ha σ H Hr s _ fun t v H1 Hr1 p1 e1 s1 h1 => by
    subst p1
    obtain ⟨l, vs, rfl, hl, hv⟩ := holds_lst.mp h1
    exact ⟨l, vs, Hr1, rfl, hl, s1.r2, hv, fun H' Hr' st => q _ _ H' Hr' hP (e1.trans st.evo) (s1.stp st) (holds_is.mpr rfl)⟩)
theorem eg_reprS {y : Str} (hz : (reprText y).length ≤ sizeLine) (ha : EG b X G a (· = .str y)) (hP : Phi (.str (reprText y))) (hg : Gl X "repr") (hm : X.mg "repr" = none) (he : starEach [a] X.env = (false, eval a X.env) :: starEach [] X.env := by rfl) : EG b X G (.Call (.Name "repr" p) [a] [] pos) Phi := fun σ H Hr s Q q =>
  we_of (pe_callB (call_reprS hz) hg hm (by decide +kernel) (pa_cons pe_self pa_nil he) (he := he)) (ha σ H Hr s _ fun t v H1 Hr1 p1 e1 s1 h1 => by
    subst p1
    exact ⟨by rw [holds_is.mp h1], q _ _ H1 Hr1 hP e1 s1 (holds_is.mpr rfl)⟩)
theorem eg_reprO {kn : Kn} {t u : T} {y : Str} {pre : List T → Prop} {R : List T → T → Prop} (M : RCal X.prog X.w X.K X.mg X.base (b.c.cl kn) k (spOf b.c pre R)) (hr : Room (k + 2) X.A) (hp : pre [.obj kn t u]) (hR : ∀ r, R [.obj kn t u] r → r = .str y) (ha : EG b X G a (· = .obj kn t u)) (hP : Phi (.str y)) (hg : Gl X "repr") (hm : X.mg "repr" = none) (he : starEach [a] X.env = (false, eval a X.env) :: starEach [] X.env := by rfl) : EG b X G (.Call (.Name "repr" p) [a] [] pos) Phi := fun σ H Hr s Q q =>
  we_of (pe_callB (call_reprO M hr hp hR) hg hm (by decide +kernel) (pa_cons pe_self pa_nil he) (he := he)) (ha σ H Hr s _ fun t v H1 Hr1 p1 e1 s1 h1 => by
    subst p1
    exact ⟨v, Hr1, rfl, s1.r2, h1, fun H' Hr' st => q _ _ H' Hr' hP (e1.trans st.evo) (s1.stp st) (holds_is.mpr rfl)⟩)
/-! ### a list against [] -/
theorem op_neE (hu : X.A.units < cLine) : OpR X (compareOp .NotEq) (fun x y H Q => ∃ a b xs, x = .ref a ∧ y = .ref b ∧ H a = some (.lst xs) ∧ H b = some (.lst []) ∧ Q (.bl (!decide (xs = []))) H) := by
  intro pins s σ H x y v u Q I rx ry h
  obtain ⟨a, b, xs, rfl, rfl, ha, hb, q⟩ := h
  cases rx; cases ry
  obtain ⟨us, r1, p1, _⟩ := I.list (SqL.of ha)
  obtain ⟨ws, r2, p2, _⟩ := I.list (SqL.of hb)
  cases r2
  by_cases h0 : xs = []
  · subst h0
    cases r1
    refine SeqAt.RcNeAt.lists (e := fun _ => true) p1.isList p2.isList rfl hu (fun j h1 _ => absurd h1 (by simp)) _ _ _ _ ?_
    exact ⟨.bl false, H, I, rfl, q⟩
  · have hl : us.length ≠ 0 := fun z => h0 (List.length_eq_zero_iff.mp (r1.length.trans z))
    refine SeqAt.RcNeAt.lists_lengths p1.isList p2.isList (by simp; exact fun z => hl (by rw [z]; rfl)) hu _ _ _ _ ?_
    rw [decide_eq_false h0] at q
    exact ⟨.bl true, H, I, rfl, q⟩
theorem op_eqE (hu : X.A.units < cLine) : OpR X (compareOp .Eq) (fun x y H Q => ∃ a b xs, x = .ref a ∧ y = .ref b ∧ H a = some (.lst xs) ∧ H b = some (.lst []) ∧ Q (.bl (decide (xs = []))) H) := by
  intro pins s σ H x y v u Q I rx ry h
  obtain ⟨a, b, xs, rfl, rfl, ha, hb, q⟩ := h
  cases rx; cases ry
  obtain ⟨us, r1, p1, _⟩ := I.list (SqL.of ha)
  obtain ⟨ws, r2, p2, _⟩ := I.list (SqL.of hb)
  cases r2
  by_cases h0 : xs = []
  · subst h0
    cases r1
    refine SeqAt.RcAt.lists (e := fun _ => true) p1.isList p2.isList rfl hu (fun j h1 _ => absurd h1 (by simp)) _ _ _ _ ?_
    exact ⟨.bl true, H, I, rfl, q⟩
  · have hl : us.length ≠ 0 := fun z => h0 (List.length_eq_zero_iff.mp (r1.length.trans z))
    refine SeqAt.RcAt.lists_lengths p1.isList p2.isList (by simp; exact fun z => hl (by rw [z]; rfl)) hu _ _ _ _ ?_
    rw [decide_eq_false h0] at q
    exact ⟨.bl false, H, I, rfl, q⟩
theorem holdsL_nil_iff {c : Cs} {H : Hp} {ts : List T} {vs : List V} (h : holdsL c ts vs H) : decide (vs = []) = ts.isEmpty := by
  have := holdsL_len h
  cases vs with
  | nil => cases ts with
    | nil => rfl
    | cons t ts => simp at this
  | cons v vs => cases ts with
    | nil => simp at this
    | cons t ts => rfl
/-- e != [] -/
theorem tg_neE {ts : List T} (hu : X.A.units < cLine) (ha : EG b X G a (· = .lst ts)) (hP : P (!ts.isEmpty)) : My.TG b X G (.Compare a [.NotEq] [.List [] p] pos) P := fun σ H Hr s Q q =>
  wt_of (pt_cmpR (op_neE hu) pe_self (pe_lst pa_nil) (nomark _)) (ha σ H Hr s _ fun t v H1 Hr1 p1 e1 s1 h1 => ⟨Nat.zero_le _, fun q0 hq0 => by
    subst p1
    obtain ⟨l, vs, rfl, hl, hv⟩ := holds_lst.mp h1
    have st := Stp.new (o := .lst []) s1.r2 hq0
    refine ⟨l, q0, vs, rfl, rfl, st.h _ _ (s1.r2 _ _ hl), upd_same, ?_⟩
    rw [holdsL_nil_iff hv]
    exact ⟨_, rfl, q _ _ _ hP (e1.trans st.evo) (s1.stp st)⟩⟩)
theorem tg_eqE {ts : List T} (hu : X.A.units < cLine) (ha : EG b X G a (· = .lst ts)) (hP : P ts.isEmpty) : My.TG b X G (.Compare a [.Eq] [.List [] p] pos) P := fun σ H Hr s Q q =>
  wt_of (pt_cmpR (op_eqE hu) pe_self (pe_lst pa_nil) (nomark _)) (ha σ H Hr s _ fun t v H1 Hr1 p1 e1 s1 h1 => ⟨Nat.zero_le _, fun q0 hq0 => by
    subst p1
    obtain ⟨l, vs, rfl, hl, hv⟩ := holds_lst.mp h1
    have st := Stp.new (o := .lst []) s1.r2 hq0
    refine ⟨l, q0, vs, rfl, rfl, st.h _ _ (s1.r2 _ _ hl), upd_same, ?_⟩
    rw [holdsL_nil_iff hv]
    exact ⟨_, rfl, q _ _ _ hP (e1.trans st.evo) (s1.stp st)⟩⟩)
/-- x != [], x a list of one's own -/
theorem tg_neEM (i : Nat) {x : Str} {ts : List T} (hu : X.A.units < cLine) (hG : G[i]? = some (.mu ts)) (hP : P (!ts.isEmpty)) (hN : X.N[i]? = some x := by rfl) (hv : Vis X.env.scope x := by first | exact Or.inl rfl | exact Or.inr (Or.inl rfl) | exact Or.inr (Or.inr rfl)) (hd : (x == ("__debug__" : Str)) = false := by decide) (hcd : (x == ("__classdict__" : Str)) = false := by decide) : My.TG b X G (.Compare (.Name x p2) [.NotEq] [.List [] p] pos) P := fun σ H Hr s Q q => by
  obtain ⟨l, vs, h1, h2, h3, h4, h5⟩ := s.slot i _ hG
  refine wt_of (pt_cmpR (op_neE hu) (pe_var hN hv hd hcd) (pe_lst pa_nil) (nomark _)) ⟨_, h1, Nat.zero_le _, fun q0 hq0 => ?_⟩
  have st := Stp.new (o := .lst []) s.r2 hq0
  refine ⟨l, q0, vs, rfl, rfl, st.h _ _ h4, upd_same, ?_⟩
  rw [holdsL_nil_iff h5]
  exact ⟨_, rfl, q _ _ _ hP st.evo (s.stp st)⟩
end
end My

set_option Elab.async false
set_option linter.all false
set_option maxRecDepth 100000
set_option maxHeartbeats 4000000
/-! La4: the law's polys: bare, plus, times. -/
namespace My
open PySem L2 PyProof.Rows
/-- a number's worth -/
def ratT : T → Rat
  | .obj .R (.is (.int n)) (.is (.int d)) => mkRat n d.toNat
  | .is (.int n) => (n : Rat)
  | _ => 0
theorem ratT_rat (q : Rat) : ratT (T.rat q) = q := by
  show mkRat q.num ((q.den : Int)).toNat = q
  rw [Int.toNat_natCast, Rat.mkRat_self]
theorem ratT_nt {t : T} {q : Rat} (h : NT t q) : ratT t = q := by
  rcases h with rfl | ⟨n, rfl, rfl⟩
  · exact ratT_rat q
  · rfl
theorem sz0 : Sz 0 := ⟨sz_small (by decide), sz_small (by decide)⟩
theorem sz1 : Sz 1 := ⟨sz_small (by decide), sz_small (by decide)⟩
theorem szI_int {n : Int} (h : n.natAbs < 1000) : Sz (n : Rat) := ⟨sz_small h, sz_small (by show ((1 : Nat) : Int).natAbs < 1000; decide)⟩
/-! ### _law_bare -/
theorem scBare : scOk (top 75) ["_law_poly_here", "_law_found", "_law_number"] ["_law_poly_here"] := ⟨rfl, rfl, rfl, by decide +kernel, rfl, by decide +kernel, by decide +kernel⟩
theorem nts_map {ts : List T} {f : List Rat} (h : NTs ts f) : ts.map (fun t => T.rat (ratT t)) = f.map T.rat := by
  apply List.ext_getElem?
  intro i
  rw [List.getElem?_map, List.getElem?_map]
  by_cases hi : i < ts.length
  · have hf : i < f.length := by rw [← h.1]; exact hi
    have := h.2 i ts[i] f[i] (List.getElem?_eq_getElem hi) (List.getElem?_eq_getElem hf)
    rw [List.getElem?_eq_getElem hi, List.getElem?_eq_getElem hf]
    show some (T.rat (ratT ts[i])) = some (T.rat f[i])
    rw [ratT_nt this]
  · rw [List.getElem?_eq_none (by omega), List.getElem?_eq_none (by rw [← h.1]; omega)]; rfl
theorem take_dropLast {α : Type} (f : List α) (m : Nat) (h : m + 1 ≤ f.length) : (f.take (m + 1)).dropLast = f.take m := by
  rw [List.dropLast_eq_take, List.length_take, List.take_take]
  congr 1; omega
theorem ok_bare {E : Wd} (G : Glo E) (C : Cla E) (D : Dfn E "_law_bare" (top 75) ["_law_poly_here"]) (h1 : addOp E) (h2 : signP E) (h3 : makesRatio E) (ts : List T) (f : List Rat) (hf : NTs ts f) (hz : Szs f) (lf : f.length < 900) : E.Fn "_law_bare" 39 [.lst ts] (· = .poly (trimF f)) := by
  refine Wd.fn G D scBare fun f0 cdv A outer s H E0 B Hr hr hp => ?_
  refine wg_setLc (P := (· = ts)) (Pt := fun t => ∃ q ∈ f, NT t q) (f := fun t => T.rat (ratT t)) 2 1 (own := [("_law_number", 2)]) rfl rfl scBare.nd rfl rfl rfl (ig_lst (Pa := (· = .lst ts)) (eg_var 0 rfl rfl) fun t ht => ⟨_, ht, rfl⟩) (blkOk_by rfl) (of_decide_eq_true rfl) (of_decide_eq_true rfl) rfl (fun s H C cl fp => pg_name scBare.nd rfl (by first | exact .inl rfl | exact .inr rfl) (by first | exact .inl rfl | exact .inr rfl)) (fun us hus => ⟨by rw [hus, hf.1]; omega, fun t ht => by rw [hus] at ht; exact hf.mem ht⟩) (fun t R' s H C cl fp ⟨q, hq, hn⟩ => ?_) fun us hus => ?_
  · exact eg_addR h1 hr (eg_rat1 h3 (Room.mono hr (by decide)) (eg_int rfl) rfl) (eg_var 2 rfl rfl) hn sz0 (hz q hq) (by rw [ratT_nt hn, show ((0 : Int) : Rat) + q = q by rw [Rat.intCast_zero, Rat.zero_add]])
  subst hus
  rw [nts_map hf]
  refine wg_while (fun m G' => G' = [.sh (.lst us), .mu ((f.take m).map T.rat), .no] ∧ m ≤ f.length ∧ ∀ c ∈ f.drop m, decide (c = 0) = true) rfl ⟨f.length, by rw [List.take_length]; rfl, Nat.le_refl _, by simp⟩ ?_
  rintro m G' ⟨rfl, hm, hzz⟩
  have fin : (m = 0 ∨ ∃ c, f[m - 1]? = some c ∧ decide (c = 0) = false) → WG ⟨E.c, B, Hr, none⟩ (cxB E.P E.w E.c.K E.mg E.base ["_law_poly_here", "_law_found", "_law_number"] "_law_bare" (defScope (top 75)) f0 cdv A outer s H E0) [.sh (.lst us), .mu ((f.take m).map T.rat), .no] ((defBody (top 75)).drop 2) (fnE ⟨E.c, B, Hr, none⟩ (· = .poly (trimF f))) := fun h => by
    have e := trimZ_take hzz h
    refine wg_frz 1 rfl ?_
    exact wg_retq (eg_var 1 rfl (by rw [e]; rfl))
  match m, hm, hzz, fin with
  | 0, hm, hzz, fin => exact ⟨(· = false), UG.tg (ug_and (Pt := (· = false)) (tg_neEM 1 hr.units0 rfl rfl) (fun z => by cases z) fun _ => rfl), (fun z => by cases z), fun _ => fin (.inl rfl)⟩
  | k + 1, hm, hzz, fin =>
    have hk : k < f.length := by omega
    have ek : f[k]? = some f[k] := List.getElem?_eq_getElem hk
    have hlen : ((f.take (k + 1)).map T.rat).length = k + 1 := by rw [List.length_map, List.length_take]; omega
    have hne : ((f.take (k + 1)).map T.rat) ≠ [] := fun z => by rw [z] at hlen; cases hlen
    have hlast : tAt ((f.take (k + 1)).map T.rat) (-1) = some (T.rat f[k]) := tAt_last (by
      rw [List.getLast?_eq_getElem?, hlen, List.getElem?_map, List.getElem?_take_of_lt (by omega), Nat.add_sub_cancel, ek]; rfl)
    refine ⟨(· = decide (f[k] = 0)), UG.tg (ug_and (Pt := (· = true)) (tg_neEM 1 hr.units0 rfl (by cases hh : (f.take (k + 1)).map T.rat with
      | nil => exact absurd hh hne
      | cons a l => rfl)) (fun z => ug_and1 (tg_eq (v := .int (f[k].num.sign)) (w := .int 0) (eg_sign h2 (hr.mono (by decide)) (eg_ixM 1 rfl (eg_neg rfl) (fun _ _ => rfl) hlast rfl) rfl (hC := C.clo)) (eg_int rfl) rfl (by rw [sign_zero]))) fun z => by cases z), fun z => ?_, fun z => fin (.inr ⟨f[k], ek, z.symm⟩)⟩
    refine wg_pop 1 rfl hne ?_
    refine wg_end ⟨k, by omega, ?_, by omega, fun c hc => ?_⟩
    · rw [← List.map_dropLast, take_dropLast f k (by omega)]; rfl
    · rw [List.drop_eq_getElem_cons hk] at hc
      rcases List.mem_cons.mp hc with rfl | hc
      · exact z.symm
      · exact hzz c hc
/-! ### _law_plus -/
def padL (f : List Rat) (n : Nat) : List Rat := f ++ List.replicate (n - f.length) 0
def plusF (f g : List Rat) (c : Rat) : List Rat := trimF (List.zipWith (fun a b => a + b * c) (padL f (max f.length g.length)) (padL g (max f.length g.length)))
theorem padL_len (f : List Rat) (n : Nat) (h : f.length ≤ n) : (padL f n).length = n := by unfold padL; rw [List.length_append, List.length_replicate]; omega
theorem padL_sz {f : List Rat} (n : Nat) (h : Szs f) : Szs (padL f n) := fun q hq => by
  rcases List.mem_append.mp hq with h1 | h1
  · exact h q h1
  · rw [(List.mem_replicate.mp h1).2]; exact sz0
theorem mul_padL {f : List Rat} (n : Nat) (c : Rat) (h : ∀ q ∈ f, Sz (q * c)) : ∀ q ∈ padL f n, Sz (q * c) := fun q hq => by
  rcases List.mem_append.mp hq with h1 | h1
  · exact h q h1
  · rw [(List.mem_replicate.mp h1).2, Rat.zero_mul]; exact sz0
theorem scPlus : scOk (top 76) ["_law_one", "_law_other", "_law_number", "_law_size", "_law_near", "_law_far", "_law_first", "_law_second"] ["_law_one", "_law_other", "_law_number"] := ⟨rfl, rfl, rfl, by decide +kernel, rfl, by decide +kernel, by decide +kernel⟩
abbrev bareF (E : Wd) : Prop := ∀ (ts : List T) (f : List Rat), NTs ts f → Szs f → f.length < 900 → E.Fn "_law_bare" 39 [.lst ts] (· = .poly (trimF f))
theorem nts_rat (f : List Rat) : NTs (f.map T.rat) f := ⟨by rw [List.length_map], fun i t q e1 e2 => by
  rw [List.getElem?_map, e2] at e1
  cases e1
  exact .inl rfl⟩
theorem ok_plus {E : Wd} (G : Glo E) (D : Dfn E "_law_plus" (top 76) ["_law_one", "_law_other", "_law_number"]) (h1 : addOp E) (h2 : mulOp E) (h3 : makesRatio E) (h4 : bareF E) (f g : List Rat) (c : Rat) (hf : Szs f) (hg : Szs g) (hc : Sz c) (hgc : ∀ q ∈ g, Sz (q * c)) (lf : f.length < 400) (lg : g.length < 400)
    (hr' : Szs (List.zipWith (fun a b => a + b * c) (padL f (max f.length g.length)) (padL g (max f.length g.length)))) : E.Fn "_law_plus" 40 [.poly f, .poly g, T.rat c] (· = .poly (plusF f g c)) := by
  refine Wd.fn G D scPlus fun f0 cdv A outer s H E0 B Hr hr hp => ?_
  generalize hn : max f.length g.length = n at hr'
  have lfn : f.length ≤ n := by omega
  have lgn : g.length ≤ n := by omega
  have ln : n < 400 := by omega
  refine wg_set 3 scPlus.nd (Pa := (· = .int (n : Int))) (eg_max rfl (eg_lenL (ts := f.map T.rat) (eg_var 0 rfl rfl) rfl G.len rfl) (eg_lenL (ts := g.map T.rat) (eg_var 1 rfl rfl) rfl G.len rfl) rfl G.max (by rw [List.length_map, List.length_map, show (n : Int) = max (f.length : Int) (g.length : Int) by omega])) ?_
  rintro t rfl
  have pad : ∀ (h : List Rat), h.length ≤ n → h.length < 400 → ((h.map T.rat) ++ List.replicate ((n : Int) - (h.length : Int)).toNat (T.rat 0)) = (padL h n).map T.rat := fun h l1 l2 => by
    unfold padL
    rw [List.map_append, List.map_replicate, show ((n : Int) - (h.length : Int)).toNat = n - h.length by omega]
  refine wg_par 4 5 (Pa := (· = .poly (padL f n))) (Pb := (· = .poly (padL g n))) (by decide) rfl scPlus.nd (eg_fr (P := (· = (padL f n).map T.rat)) (fg_cat (ts := f.map T.rat) (us := List.replicate ((n : Int) - (f.length : Int)).toNat (T.rat 0)) (eg_fr (P := (· = f.map T.rat)) (fg_list rfl (eg_var 0 rfl (.inl rfl)) rfl G.lst rfl) fun ts hts => by rw [hts]) (eg_fr (P := (· = List.replicate ((n : Int) - (f.length : Int)).toNat (T.rat 0))) (fg_rep (t := T.rat 0) (n := (n : Int) - (f.length : Int)) (eg_fr (P := (· = [T.rat 0])) (fg_lst (ag_one (eg_rat1 h3 (hr.mono (by decide)) (eg_int rfl) rfl)) fun ts hts => by subst hts; exact of_decide_eq_true rfl) fun ts hts => by rw [hts]) (eg_sub (eg_var 3 rfl rfl) (eg_lenL (ts := f.map T.rat) (eg_var 0 rfl rfl) rfl G.len (by rw [List.length_map])) rfl) (by omega) (by omega) rfl) fun ts hts => by rw [hts]) (by rw [List.length_map, List.length_replicate]; omega) (pad f lfn lf)) fun ts hts => by rw [hts]; rfl) (eg_fr (P := (· = (padL g n).map T.rat)) (fg_cat (ts := g.map T.rat) (us := List.replicate ((n : Int) - (g.length : Int)).toNat (T.rat 0)) (eg_fr (P := (· = g.map T.rat)) (fg_list rfl (eg_var 1 rfl (.inl rfl)) rfl G.lst rfl) fun ts hts => by rw [hts]) (eg_fr (P := (· = List.replicate ((n : Int) - (g.length : Int)).toNat (T.rat 0))) (fg_rep (t := T.rat 0) (n := (n : Int) - (g.length : Int)) (eg_fr (P := (· = [T.rat 0])) (fg_lst (ag_one (eg_rat1 h3 (hr.mono (by decide)) (eg_int rfl) rfl)) fun ts hts => by subst hts; exact of_decide_eq_true rfl) fun ts hts => by rw [hts]) (eg_sub (eg_var 3 rfl rfl) (eg_lenL (ts := g.map T.rat) (eg_var 1 rfl rfl) rfl G.len (by rw [List.length_map])) rfl) (by omega) (by omega) rfl) fun ts hts => by rw [hts]) (by rw [List.length_map, List.length_replicate]; omega) (pad g lgn lg)) fun ts hts => by rw [hts]; rfl) ?_
  rintro t u rfl rfl
  have lz : (List.zipWith (fun a b => a + b * c) (padL f n) (padL g n)).length < 900 := by rw [List.length_zipWith, padL_len f n lfn]; omega
  have fp := padL_sz n hf
  have gp := padL_sz n hg
  have gcp := mul_padL n c hgc
  refine wg_retq (eg_fn (h4 _ _ (nts_rat (List.zipWith (fun a b => a + b * c) (padL f n) (padL g n))) hr' lz) hr rfl (ag_one (eg_fr (P := (· = (List.zipWith (fun a b => a + b * c) (padL f n) (padL g n)).map T.rat)) (fg_lc2 (P := (· = (((padL f n).map T.rat).zip ((padL g n).map T.rat)).map fun q => .tup [q.1, q.2])) (Pt2 := fun u v => ∃ a b, u = T.rat a ∧ v = T.rat b ∧ Sz a ∧ Sz b ∧ Sz (b * c)) (ft := fun u v => T.rat (ratT u + ratT v * c)) (g2 := fun t => match t with | .tup [u, v] => T.rat (ratT u + ratT v * c) | _ => .any) 6 7 (own := [("_law_first", 6), ("_law_second", 7)]) rfl (by decide) rfl scPlus.nd rfl (ig_zip (ts := (padL f n).map T.rat) (us := (padL g n).map T.rat) (eg_var 4 rfl rfl) (eg_var 5 rfl rfl) (by rw [List.length_map, List.length_map, padL_len f n lfn, padL_len g n lgn]) rfl rfl G.zip) (blkOk_by rfl) (of_decide_eq_true rfl) (of_decide_eq_true rfl) rfl rfl (fun s H C cl fp => pg_tup rfl (pgs_cons (pg_name scPlus.nd rfl (by first | exact .inl rfl | exact .inr rfl) (by first | exact .inl rfl | exact .inr rfl)) (pgs_cons (pg_name scPlus.nd rfl (by first | exact .inl rfl | exact .inr rfl) (by first | exact .inl rfl | exact .inr rfl)) pgs_nil rfl) rfl) rfl rfl) (fun ts hts => ?_) (fun u v R' s H C cl fp ⟨a, b, e1, e2, z1, z2, z3⟩ => ?_)) fun ts hts => by rw [hts])) rfl fun t z => by rw [z, ← hn]; rfl)
  · subst hts
    refine ⟨by rw [List.length_map, List.length_zip, List.length_map, padL_len f n lfn]; omega, fun t ht => ?_, ?_⟩
    · obtain ⟨p, hp, rfl⟩ := List.mem_map.mp ht
      obtain ⟨m1, m2⟩ := List.of_mem_zip (show (p.1, p.2) ∈ _ from hp)
      obtain ⟨a, ha, ea⟩ := List.mem_map.mp m1
      obtain ⟨b, hb, eb⟩ := List.mem_map.mp m2
      exact ⟨p.1, p.2, rfl, ⟨a, b, ea.symm, eb.symm, fp a ha, gp b hb, gcp b hb⟩, rfl⟩
    · rw [List.map_map, List.zip_map, List.map_map, List.zip_eq_zipWith, List.map_zipWith, List.map_zipWith]
      congr 1
      funext a b
      show T.rat (ratT (T.rat a) + ratT (T.rat b) * c) = T.rat (a + b * c)
      rw [ratT_rat, ratT_rat]
  · subst e1; subst e2
    exact eg_addR h1 (Room.mono hr (by decide)) (eg_var 6 rfl rfl) (eg_mulR h2 (Room.mono hr (by decide)) (eg_var 7 rfl rfl) (eg_var 2 rfl rfl) (nt_r _) z2 hc rfl) (nt_r _) z1 z3 (by rw [ratT_rat, ratT_rat])
end My

set_option Elab.async false
set_option linter.all false
set_option maxRecDepth 100000
set_option maxHeartbeats 4000000
/-! La5: the law's times, divided, common, lowest. -/
namespace My
open PySem L2 PyProof.Rows
/-! ### _law_times -/
section
variable {R : Type} [Add R] [Sub R] [Mul R] [OfNat R 0]
theorem rowA_snoc (l r : R) : ∀ (far : List R) (k : Nat) (cur : List R), rowA l (far ++ [r]) k cur = (rowA l far k cur).set (k + far.length) ((rowA l far k cur).getD (k + far.length) 0 + l * r)
  | [], k, cur => rfl
  | a :: far, k, cur => by
    show rowA l (far ++ [r]) (k + 1) _ = _
    rw [rowA_snoc l r far (k + 1), List.length_cons, show k + 1 + far.length = k + (far.length + 1) by omega]
    rfl
theorem convA_snoc (l : R) : ∀ (near far : List R) (k : Nat) (cur : List R), convA (near ++ [l]) far k cur = rowA l far (k + near.length) (convA near far k cur)
  | [], far, k, cur => rfl
  | a :: near, far, k, cur => by
    show convA (near ++ [l]) far (k + 1) _ = _
    rw [convA_snoc l near far (k + 1), List.length_cons, show k + 1 + near.length = k + (near.length + 1) by omega]
    rfl
end
abbrev zerosL (n : Nat) : List Rat := List.replicate n 0
def convK (f g : List Rat) (k : Nat) : List Rat := convA (f.take k) g 0 (zerosL (f.length + g.length - 1))
def timesF (f g : List Rat) : List Rat := trimF (convA f g 0 (zerosL (f.length + g.length - 1)))
structure TimesOk (f g : List Rat) : Prop where
  zf : Szs f
  zg : Szs g
  zp : ∀ l ∈ f, ∀ r ∈ g, Sz (r * l)
  zr : ∀ k j l, f[k]? = some l → j ≤ g.length → Szs (rowA l (g.take j) k (convK f g k))
  lf : f.length < 400
  lg : g.length < 400
  zc : Szs (convA f g 0 (zerosL (f.length + g.length - 1)))
theorem scTimes : scOk (top 77) ["_law_one", "_law_other", "_law_found", "_law_at_here", "_law_near", "_law_to", "_law_far"] ["_law_one", "_law_other"] := ⟨rfl, rfl, rfl, by decide +kernel, rfl, by decide +kernel, by decide +kernel⟩
theorem take_snoc {α : Type} {f : List α} {k : Nat} {a : α} (h : f[k]? = some a) : f.take (k + 1) = f.take k ++ [a] := by rw [List.take_add_one, h]; rfl
theorem ok_times {E : Wd} (G : Glo E) (D : Dfn E "_law_times" (top 77) ["_law_one", "_law_other"]) (h1 : addOp E) (h2 : mulOp E) (h3 : makesRatio E) (h4 : bareF E) (f g : List Rat) (ho : TimesOk f g) : E.Fn "_law_times" 40 [.poly f, .poly g] (· = .poly (timesF f g)) := by
  refine Wd.fn G D scTimes fun f0 cdv A outer s H E0 B Hr hr hp => ?_
  have lf := ho.lf
  have lg := ho.lg
  refine wg_setF 2 scTimes.nd (P := (· = (zerosL (f.length + g.length - 1)).map T.rat)) (fg_rep (t := T.rat 0) (n := max 0 ((f.length : Int) + (g.length : Int) - 1)) (eg_fr (P := (· = [T.rat 0])) (fg_lst (ag_one (eg_rat1 h3 (hr.mono (by decide)) (eg_int rfl) rfl)) fun ts hts => by subst hts; exact of_decide_eq_true rfl) fun ts hts => by rw [hts]) (eg_max rfl (eg_int rfl) (eg_sub (eg_add (eg_lenL (ts := f.map T.rat) (eg_var 0 rfl rfl) rfl G.len (by rw [List.length_map])) (eg_lenL (ts := g.map T.rat) (eg_var 1 rfl rfl) rfl G.len (by rw [List.length_map])) rfl) (eg_int rfl) rfl) rfl G.max rfl) (by omega) (by omega) (by rw [List.map_replicate, show (max 0 ((f.length : Int) + (g.length : Int) - 1)).toNat = f.length + g.length - 1 by omega])) ?_
  rintro ts rfl
  refine wg_for2 (P := (· = enumT 0 (f.map T.rat))) 3 4 (fun items k G' => ∃ e3 e4 e5 e6, G' = [.sh (.poly f), .sh (.poly g), .mu ((convK f g k).map T.rat), e3, e4, e5, e6]) (by decide) rfl rfl rfl scTimes.nd (ig_enum (ts := f.map T.rat) (eg_var 0 rfl rfl) rfl rfl G.enu) (fun items hi => ⟨_, _, _, _, rfl⟩) (fun items k G' ⟨e3, e4, e5, e6, hG⟩ => by rw [hG]; exact ⟨of_decide_eq_true rfl, of_decide_eq_true rfl⟩) (fun items hi R' k t G' dn ht ⟨e3, e4, e5, e6, hG⟩ => ?_) (fun items G' hi ⟨e3, e4, e5, e6, hG⟩ => ?_)
  · subst hi; subst hG
    obtain ⟨l, hk, rfl⟩ := enum_at ht
    refine ⟨_, _, rfl, ?_⟩
    rw [Nat.zero_add]
    have hkl : k < f.length := (List.getElem?_eq_some_iff.mp hk).1
    have hlm : l ∈ f := List.mem_of_getElem? hk
    have lk : (convK f g k).length = f.length + g.length - 1 := by unfold convK; rw [convA_len, List.length_replicate]
    refine wg_for2 (P := (· = enumT 0 (g.map T.rat))) 5 6 (fun items j G' => ∃ e5 e6, j ≤ g.length ∧ G' = [.sh (.poly f), .sh (.poly g), .mu ((rowA l (g.take j) k (convK f g k)).map T.rat), .sh (.int (k : Int)), .sh (T.rat l), e5, e6]) (by decide) rfl rfl rfl scTimes.nd (ig_enum (ts := g.map T.rat) (eg_var 1 rfl rfl) rfl rfl G.enu) (fun items hi => ⟨_, _, Nat.zero_le _, rfl⟩) (fun items k G' ⟨e5, e6, _, hG⟩ => by rw [hG]; exact ⟨of_decide_eq_true rfl, of_decide_eq_true rfl⟩) (fun items hi R2 j t G' dn2 ht ⟨e5, e6, _, hG⟩ => ?_) (fun items G' hi ⟨e5, e6, _, hG⟩ => ?_)
    · subst hi; subst hG
      obtain ⟨r, hj, rfl⟩ := enum_at ht
      refine ⟨_, _, rfl, ?_⟩
      rw [Nat.zero_add]
      have hjl : j < g.length := (List.getElem?_eq_some_iff.mp hj).1
      have hrm : r ∈ g := List.mem_of_getElem? hj
      have zc := ho.zr k j l hk (by omega)
      have e1 : rowA l (g.take (j + 1)) k (convK f g k) = (rowA l (g.take j) k (convK f g k)).set (k + j) ((rowA l (g.take j) k (convK f g k)).getD (k + j) 0 + l * r) := by
        rw [take_snoc hj, rowA_snoc, List.length_take, show min j g.length = j by omega]
      have lc : (rowA l (g.take j) k (convK f g k)).length = f.length + g.length - 1 := by rw [rowA_len, lk]
      generalize rowA l (g.take j) k (convK f g k) = cur at *
      have hkj : k + j < cur.length := by omega
      refine wg_seti 2 (Pa := (· = T.rat (cur.getD (k + j) 0 + l * r))) (Pb := (· = .int ((k + j : Nat) : Int))) rfl (eg_addR h1 (Room.mono hr (by decide)) (eg_ixM 2 rfl (eg_add (Phi := (· = .int ((k + j : Nat) : Int))) (eg_var 3 rfl rfl) (eg_var 5 rfl rfl) (by rw [Int.natCast_add])) (fun _ _ => rfl) (tAt_nat (poly_get (getD_at hkj))) rfl) (eg_mulR h2 (Room.mono hr (by decide)) (eg_var 6 rfl rfl) (eg_var 4 rfl rfl) (nt_r _) (ho.zg r hrm) (ho.zf l hlm) rfl) (nt_r _) (szs_at zc hkj) (ho.zp l hlm r hrm) (by rw [Rat.mul_comm r l])) (eg_add (eg_var 3 rfl rfl) (eg_var 5 rfl rfl) (by rw [Int.natCast_add])) ?_
      rintro t u rfl rfl
      refine ⟨_, k + j, rfl, by rw [List.length_map]; exact ixN_nat hkj, ?_⟩
      exact wg_end ⟨_, _, hjl, by rw [e1, ← map_set cur (k + j) (cur.getD (k + j) 0 + l * r) (emb := T.rat)]; rfl⟩
    · subst hi; subst hG
      rw [enumT_len, List.length_map, List.take_length]
      have e2 : convK f g (k + 1) = rowA l g k (convK f g k) := by
        unfold convK
        rw [take_snoc hk, convA_snoc, List.length_take, show 0 + min k f.length = k by omega]
      rw [← e2]
      exact wg_end ⟨_, _, _, _, rfl⟩
  · subst hi; subst hG
    rw [enumT_len, List.length_map]
    have e3 : convK f g f.length = convA f g 0 (zerosL (f.length + g.length - 1)) := by unfold convK; rw [List.take_length]
    rw [e3]
    refine wg_frz 2 rfl ?_
    exact wg_retq (eg_fn (h4 _ _ (nts_rat _) ho.zc (by rw [convA_len, List.length_replicate]; omega)) hr rfl (ag_one (eg_var 2 rfl rfl)) rfl fun t z => z)
/-! ### _law_divided -/
def shiftL (s : Nat) (g : List Rat) : List Rat := List.replicate s 0 ++ g
structure PlusOk (f g : List Rat) (c : Rat) : Prop where
  zf : Szs f
  zg : Szs g
  zc : Sz c
  zp : ∀ q ∈ g, Sz (q * c)
  lf : f.length < 400
  lg : g.length < 400
  zr : Szs (List.zipWith (fun a b => a + b * c) (padL f (max f.length g.length)) (padL g (max f.length g.length)))
abbrev plusO (E : Wd) : Prop := ∀ (f g : List Rat) (c : Rat), PlusOk f g c → E.Fn "_law_plus" 40 [.poly f, .poly g, T.rat c] (· = .poly (plusF f g c))
abbrev lastD (f : List Rat) : Rat := f.getD (f.length - 1) 0
/-- one step of the law's division -/
def stepL (g left : List Rat) : List Rat := plusF left (shiftL (left.length - g.length) g) (lastD left / lastD g * ((-1 : Int) : Rat))
structure LDivI (g : List Rat) (Inv : List Rat → List Rat → Prop) : Prop where
  ne : g ≠ []
  l : lastD g ≠ 0
  zg : Szs g
  lg : g.length < 400
  z : ∀ left q, Inv left q → g.length ≤ left.length → Szs left ∧ Sz (lastD left / lastD g) ∧ PlusOk left (shiftL (left.length - g.length) g) (lastD left / lastD g * ((-1 : Int) : Rat))
  s : ∀ left q, Inv left q → g.length ≤ left.length → Inv (stepL g left) (q.set (left.length - g.length) (lastD left / lastD g)) ∧ (stepL g left).length < left.length
  f : ∀ left q, Inv left q → Szs q
theorem scDivided : scOk (top 78) ["_law_one", "_law_other", "_law_left", "_law_found", "_law_shift", "_law_number"] ["_law_one", "_law_other"] := ⟨rfl, rfl, rfl, by decide +kernel, rfl, by decide +kernel, by decide +kernel⟩
theorem ok_divided {E : Wd} (G : Glo E) (C : Cla E) (D : Dfn E "_law_divided" (top 78) ["_law_one", "_law_other"]) (h1 : overM E) (h2 : mulOp E) (h3 : makesRatio E) (h4 : bareF E) (h5 : plusO E) (f g : List Rat) (Inv : List Rat → List Rat → Prop) (hI : LDivI g Inv) (hi : Inv f (zerosL (f.length + 1 - g.length))) (lf : f.length < 400) :
    E.Fn "_law_divided" 41 [.poly f, .poly g] (fun t => ∃ left q, t = .tup [.poly (trimF q), .poly left] ∧ Inv left q ∧ left.length < g.length) := by
  refine Wd.fn G D scDivided fun f0 cdv A outer s H E0 B Hr hr hp => ?_
  have lg := hI.lg
  have gp : 0 < g.length := List.length_pos_iff.mpr hI.ne
  have eg := last_rat hI.ne
  refine wg_parF 2 3 (Pa := (· = .poly f)) (P := (· = (zerosL (f.length + 1 - g.length)).map T.rat)) (by decide) rfl scDivided.nd (eg_fr (P := (· = f.map T.rat)) (fg_list rfl (eg_var 0 rfl (.inl rfl)) rfl G.lst rfl) fun ts hts => by rw [hts]; rfl) (fg_rep (t := T.rat 0) (n := max 0 ((f.length : Int) - (g.length : Int) + 1)) (eg_fr (P := (· = [T.rat 0])) (fg_lst (ag_one (eg_rat1 h3 (hr.mono (by decide)) (eg_int rfl) rfl)) fun ts hts => by subst hts; exact of_decide_eq_true rfl) fun ts hts => by rw [hts]) (eg_max rfl (eg_int rfl) (eg_add (eg_sub (eg_lenL (ts := f.map T.rat) (eg_var 0 rfl rfl) rfl G.len (by rw [List.length_map])) (eg_lenL (ts := g.map T.rat) (eg_var 1 rfl rfl) rfl G.len (by rw [List.length_map])) rfl) (eg_int rfl) rfl) rfl G.max rfl) (by omega) (by omega) (by rw [List.map_replicate, show (max 0 ((f.length : Int) - (g.length : Int) + 1)).toNat = f.length + 1 - g.length by omega])) ?_
  rintro t us rfl rfl
  refine wg_while (fun m G' => ∃ left q e4 e5, G' = [.sh (.poly f), .sh (.poly g), .sh (.poly left), .mu (q.map T.rat), e4, e5] ∧ m = left.length ∧ Inv left q ∧ left.length ≤ f.length ∧ q.length = f.length + 1 - g.length) rfl ⟨f.length, f, _, _, _, rfl, rfl, hi, Nat.le_refl _, by simp⟩ ?_
  rintro m G' ⟨left, q, e4, e5, rfl, rfl, hv, hl, hq⟩
  refine ⟨(· = decide (g.length ≤ left.length)), tg_ge (i := (left.length : Int)) (j := (g.length : Int)) (eg_lenL (ts := left.map T.rat) (eg_var 2 rfl rfl) rfl G.len (by rw [List.length_map])) (eg_lenL (ts := g.map T.rat) (eg_var 1 rfl rfl) rfl G.len (by rw [List.length_map])) (decide_eq_decide.mpr (by omega)), fun z => ?_, fun z => ?_⟩
  · have hge : g.length ≤ left.length := of_decide_eq_true z.symm
    obtain ⟨z1, z2, z3⟩ := hI.z left q hv hge
    obtain ⟨s1, s2⟩ := hI.s left q hv hge
    have el : left[left.length - 1]? = some (lastD left) := getD_at (by omega)
    refine wg_par 4 5 (Pa := (· = .int ((left.length - g.length : Nat) : Int))) (Pb := (· = T.rat (lastD left / lastD g))) (by decide) rfl scDivided.nd (eg_sub (i := (left.length : Int)) (j := (g.length : Int)) (eg_lenL (ts := left.map T.rat) (eg_var 2 rfl rfl) rfl G.len (by rw [List.length_map])) (eg_lenL (ts := g.map T.rat) (eg_var 1 rfl rfl) rfl G.len (by rw [List.length_map])) (by rw [show ((left.length - g.length : Nat) : Int) = (left.length : Int) - (g.length : Int) by omega])) (eg_over h1 (Room.mono hr (by decide)) (eg_ixL rfl (eg_var 2 rfl rfl) (eg_neg rfl) (fun _ _ => rfl) (last_at el) rfl) (eg_ixL rfl (eg_var 1 rfl rfl) (eg_neg rfl) (fun _ _ => rfl) (last_at eg) rfl) (nt_r _) (z1 _ (List.mem_of_getElem? el)) (hI.zg _ (List.mem_of_getElem? eg)) hI.l rfl (hC := C.clo)) ?_
    rintro t u rfl rfl
    have lsh : left.length - g.length < q.length := by omega
    refine wg_seti 3 (Pa := (· = T.rat (lastD left / lastD g))) (Pb := (· = .int ((left.length - g.length : Nat) : Int))) rfl (eg_var 5 rfl rfl) (eg_var 4 rfl rfl) ?_
    rintro t u rfl rfl
    refine ⟨_, left.length - g.length, rfl, by rw [List.length_map]; exact ixN_nat lsh, ?_⟩
    rw [map_set]
    refine wg_set 2 scDivided.nd (Pa := (· = .poly (stepL g left))) (eg_fn (h5 _ _ _ z3) hr rfl (ag_cons (eg_var 2 rfl rfl) (ag_cons (eg_fr (P := (· = (shiftL (left.length - g.length) g).map T.rat)) (fg_cat (ts := List.replicate (left.length - g.length) (T.rat 0)) (us := g.map T.rat) (eg_fr (P := (· = List.replicate (left.length - g.length) (T.rat 0))) (fg_rep (t := T.rat 0) (n := ((left.length - g.length : Nat) : Int)) (eg_fr (P := (· = [T.rat 0])) (fg_lst (ag_one (eg_rat1 h3 (hr.mono (by decide)) (eg_int rfl) rfl)) fun ts hts => by subst hts; exact of_decide_eq_true rfl) fun ts hts => by rw [hts]) (eg_var 4 rfl rfl) (by omega) (by omega) (by rw [Int.toNat_natCast])) fun ts hts => by rw [hts]) (eg_fr (P := (· = g.map T.rat)) (fg_list rfl (eg_var 1 rfl (.inl rfl)) rfl G.lst rfl) fun ts hts => by rw [hts]) (by rw [List.length_map, List.length_replicate]; omega) (by unfold shiftL; rw [List.map_append, List.map_replicate])) fun ts hts => by rw [hts]; rfl) (ag_one (eg_mulR h2 (Room.mono hr (by decide)) (eg_var 5 rfl rfl) (eg_neg rfl) (nt_i (-1)) z2 (szI_int (by decide)) rfl)))) rfl fun t z => z) ?_
    rintro t rfl
    exact wg_end ⟨_, s2, stepL g left, _, _, _, rfl, rfl, s1, by omega, by rw [List.length_set]; exact hq⟩
  · have hlt : ¬ g.length ≤ left.length := of_decide_eq_false z.symm
    refine wg_frz 3 rfl ?_
    exact wg_retq (eg_tup (A1 := (· = [.poly (trimF q), .poly left])) (ag_cons (eg_fn (h4 _ _ (nts_rat q) (hI.f left q hv) (by omega)) (Room.mono hr (by decide)) rfl (ag_one (eg_var 3 rfl rfl)) rfl fun t z => z) (ag_one (eg_var 2 rfl rfl))) fun ts hts => by subst hts; exact ⟨of_decide_eq_true rfl, left, q, rfl, hv, by omega⟩)
end My

set_option Elab.async false
set_option linter.all false
set_option maxRecDepth 100000
set_option maxHeartbeats 4000000
/-! La6: the law's common, lowest, at, worth. -/
namespace My
open PySem L2 PyProof.Rows
/-- a poly that may be put over its last -/
def OvOk (f g : List Rat) : Prop := Szs f ∧ f.length < 900 ∧ (f ≠ [] → g ≠ [] ∧ lastD g ≠ 0 ∧ Sz (lastD g))
theorem scLCommon : scOk (top 79) ["_law_one", "_law_other", "_law_near", "_law_far", "_law_number"] ["_law_one", "_law_other"] := ⟨rfl, rfl, rfl, by decide +kernel, rfl, by decide +kernel, by decide +kernel⟩
theorem ok_lcommon {E : Wd} (G : Glo E) (C : Cla E) (D : Dfn E "_law_common" (top 79) ["_law_one", "_law_other"]) (h1 : overM E) (f g : List Rat) (Inv : List Rat → List Rat → Prop) (hi : Inv f g)
    (hs : ∀ near far, Inv near far → far ≠ [] → E.Fn "_law_divided" 41 [.poly near, .poly far] (fun t => ∃ q r, t = .tup [.poly q, .poly r] ∧ OvOk r r ∧ Inv far (overL r r) ∧ r.length < far.length))
    (hf : ∀ near, Inv near [] → OvOk near near) : E.Fn "_law_common" 42 [.poly f, .poly g] (fun t => ∃ near, t = .poly (overL near near) ∧ Inv near []) := by
  refine Wd.fn G D scLCommon fun f0 cdv A outer s H E0 B Hr hr hp => ?_
  refine wg_unp 2 3 (Pa := (· = .tup [.poly f, .poly g])) (by decide) rfl rfl scLCommon.nd (eg_tup (A1 := (· = [.poly f, .poly g])) (ag_cons (eg_var 0 rfl rfl) (ag_one (eg_var 1 rfl rfl))) fun ts hts => by subst hts; exact ⟨of_decide_eq_true rfl, rfl⟩) fun t z => ⟨_, _, z, ?_⟩
  refine wg_while (fun m G' => ∃ near far, G' = [.sh (.poly f), .sh (.poly g), .sh (.poly near), .sh (.poly far), .no] ∧ m = far.length ∧ Inv near far) rfl ⟨_, _, _, rfl, rfl, hi⟩ ?_
  rintro m G' ⟨near, far, rfl, rfl, hv⟩
  refine ⟨(· = !(far.map T.rat).isEmpty), tg_neE hr.units0 (eg_var 3 rfl rfl) rfl, fun z => ?_, fun z => ?_⟩
  · have hne : far ≠ [] := fun q => by subst q; cases z
    refine wg_unp 2 3 (Pa := fun t => ∃ r, t = .tup [.poly far, .poly r] ∧ OvOk r r ∧ Inv far (overL r r) ∧ r.length < far.length) (by decide) rfl rfl scLCommon.nd (eg_tup (A1 := fun ts => ∃ r, ts = [.poly far, .poly r] ∧ OvOk r r ∧ Inv far (overL r r) ∧ r.length < far.length) (ag_consN (Pa := (· = .poly far)) (A2 := fun ts => ∃ r, ts = [.poly r] ∧ OvOk r r ∧ Inv far (overL r r) ∧ r.length < far.length) (eg_var 3 rfl rfl) (ag_consN (Pa := fun t => ∃ r, t = .poly r ∧ OvOk r r ∧ Inv far (overL r r) ∧ r.length < far.length) (A2 := fun ts => ts = []) (eg_ixTN rfl (eg_fn (hs near far hv hne) hr rfl (ag_cons (eg_var 2 rfl rfl) (ag_one (eg_var 3 rfl rfl))) rfl fun t z => z) (eg_int rfl) (fun _ _ => rfl) fun t ⟨q, r, h, h'⟩ => ⟨_, _, h, rfl, r, rfl, h'⟩) (ag_nil rfl) fun t ts ⟨r, h, h'⟩ h2 => ⟨r, by rw [h, h2], h'⟩) fun t ts h ⟨r, h2, h'⟩ => ⟨r, by rw [h, h2], h'⟩) fun ts ⟨r, h, h'⟩ => ⟨by rw [h]; exact of_decide_eq_true rfl, r, by rw [h], h'⟩) ?_
    rintro t ⟨r, rfl, ho, hiv, hrl⟩
    refine ⟨_, _, rfl, ?_⟩
    obtain ⟨o1, o2, o3⟩ := ho
    refine wg_set 3 scLCommon.nd (Pa := (· = .poly (overL r r))) (eg_fr (fg_lcL 4 r T.rat (fun q => T.rat (q / r.getD (r.length - 1) 0)) scLCommon.nd (fun a _ a' _ e => by rw [rat_inj e]) (ig_lst (Pa := (· = .poly r)) (eg_var 3 rfl rfl) fun t ht => ⟨_, ht, rfl⟩) (by omega) (fun q hq R' s1 H1 C1 cl fp => ?_) rfl) fun ts hts => by subst hts; rw [map_overL]; rfl) ?_
    · obtain ⟨p1, p2, p3⟩ := o3 (List.ne_nil_of_mem hq)
      exact eg_over h1 (Room.mono hr (by decide)) (eg_var 4 rfl rfl) (eg_ixL rfl (eg_var 3 rfl rfl) (eg_neg rfl) (fun _ _ => rfl) (last_at (last_rat p1)) rfl) (nt_r _) (o1 q hq) p3 p2 rfl (hC := C.clo)
    rintro t rfl
    exact wg_end ⟨_, by show (overL r r).length < _; unfold overL; rw [List.length_map]; exact hrl, far, overL r r, rfl, rfl, hiv⟩
  · have he : far = [] := by
      cases far with
      | nil => rfl
      | cons a l => cases z
    subst he
    obtain ⟨o1, o2, o3⟩ := hf near hv
    refine wg_retq (eg_fr (fg_lcL 4 near T.rat (fun q => T.rat (q / near.getD (near.length - 1) 0)) scLCommon.nd (fun a _ a' _ e => by rw [rat_inj e]) (ig_lst (Pa := (· = .poly near)) (eg_var 2 rfl rfl) fun t ht => ⟨_, ht, rfl⟩) (by omega) (fun q hq R' s1 H1 C1 cl fp => ?_) rfl) fun ts hts => by subst hts; rw [map_overL]; exact ⟨near, rfl, hv⟩)
    obtain ⟨p1, p2, p3⟩ := o3 (List.ne_nil_of_mem hq)
    exact eg_over h1 (Room.mono hr (by decide)) (eg_var 4 rfl rfl) (eg_ixL rfl (eg_var 2 rfl rfl) (eg_neg rfl) (fun _ _ => rfl) (last_at (last_rat p1)) rfl) (nt_r _) (o1 q hq) p3 p2 rfl (hC := C.clo)
/-! ### _law_lowest -/
theorem scLLowest : scOk (top 80) ["_law_top", "_law_bottom", "_law_part", "_law_near", "_law_far", "_law_number"] ["_law_top", "_law_bottom"] := ⟨rfl, rfl, rfl, by decide +kernel, rfl, by decide +kernel, by decide +kernel⟩
theorem ok_llowest {E : Wd} (G : Glo E) (C : Cla E) (D : Dfn E "_law_lowest" (top 80) ["_law_top", "_law_bottom"]) (h1 : overM E) (f g : List Rat) (CO : List Rat → Prop) (DT DB : List Rat → List Rat → Prop)
    (h2 : E.Fn "_law_common" 42 [.poly g, .poly f] (fun t => ∃ s, t = .poly s ∧ CO s))
    (h4 : ∀ s, CO s → E.Fn "_law_divided" 41 [.poly f, .poly s] (fun t => ∃ q r, t = .tup [.poly q, .poly r] ∧ DT s q))
    (h5 : ∀ s, CO s → E.Fn "_law_divided" 41 [.poly g, .poly s] (fun t => ∃ q r, t = .tup [.poly q, .poly r] ∧ DB s q))
    (h6 : ∀ s n d, CO s → DT s n → DB s d → d ≠ [] ∧ OvOk n d ∧ OvOk d d) :
    E.Fn "_law_lowest" 43 [.poly f, .poly g] (fun t => ∃ s n d, t = .tup [.poly (overL n d), .poly (overL d d)] ∧ CO s ∧ DT s n ∧ DB s d) := by
  refine Wd.fn G D scLLowest fun f0 cdv A outer s H E0 B Hr hr hp => ?_
  refine wg_set 2 scLLowest.nd (eg_fn h2 hr rfl (ag_cons (eg_var 1 rfl rfl) (ag_one (eg_var 0 rfl rfl))) rfl fun t z => z) ?_
  rintro t ⟨sh, rfl, hs⟩
  refine wg_unp 3 4 (Pa := fun t => ∃ n d, t = .tup [.poly n, .poly d] ∧ DT sh n ∧ DB sh d) (by decide) rfl rfl scLLowest.nd (eg_tup (A1 := fun ts => ∃ n d, ts = [.poly n, .poly d] ∧ DT sh n ∧ DB sh d) (ag_consN (Pa := fun t => ∃ n, t = .poly n ∧ DT sh n) (A2 := fun ts => ∃ d, ts = [.poly d] ∧ DB sh d) ?_ (ag_consN (Pa := fun t => ∃ n, t = .poly n ∧ DB sh n) (A2 := fun ts => ts = []) ?_ (ag_nil rfl) fun t ts ⟨d, h, h'⟩ h2 => ⟨d, by rw [h, h2], h'⟩) fun t ts ⟨n, h, h'⟩ ⟨d, k, k'⟩ => ⟨n, d, by rw [h, k], h', k'⟩) fun ts ⟨n, d, h, h2, h3⟩ => ⟨by rw [h]; exact of_decide_eq_true rfl, n, d, by rw [h], h2, h3⟩) fun t z => ?_
  · exact eg_ixTN rfl (eg_fn (h4 sh hs) (Room.mono hr (by decide)) rfl (ag_cons (eg_var 0 rfl rfl) (ag_one (eg_var 2 rfl rfl))) rfl fun t z => z) (eg_int rfl) (fun _ _ => rfl) fun t ⟨q, r, h, h'⟩ => ⟨_, _, h, rfl, q, rfl, h'⟩
  · exact eg_ixTN rfl (eg_fn (h5 sh hs) (Room.mono hr (by decide)) rfl (ag_cons (eg_var 1 rfl rfl) (ag_one (eg_var 2 rfl rfl))) rfl fun t z => z) (eg_int rfl) (fun _ _ => rfl) fun t ⟨q, r, h, h'⟩ => ⟨_, _, h, rfl, q, rfl, h'⟩
  obtain ⟨n, d, rfl, hn, hd⟩ := z
  refine ⟨_, _, rfl, ?_⟩
  obtain ⟨d1, ⟨a1, a2, a3⟩, b1, b2, b3⟩ := h6 sh n d hs hn hd
  obtain ⟨_, c2, c3⟩ := b3 d1
  have ed := last_rat d1
  refine wg_retq (eg_tup (A1 := (· = [.poly (overL n d), .poly (overL d d)])) (ag_cons (eg_fr (fg_lcL 5 n T.rat (fun q => T.rat (q / d.getD (d.length - 1) 0)) scLLowest.nd (fun a _ a' _ e => by rw [rat_inj e]) (ig_lst (Pa := (· = .poly n)) (eg_var 3 rfl rfl) fun t ht => ⟨_, ht, rfl⟩) (by omega) (fun q hq R' s1 H1 C1 cl fp => ?_) rfl) fun ts hts => by subst hts; rw [map_overL]; rfl) (ag_one (eg_fr (fg_lcL 5 d T.rat (fun q => T.rat (q / d.getD (d.length - 1) 0)) scLLowest.nd (fun a _ a' _ e => by rw [rat_inj e]) (ig_lst (Pa := (· = .poly d)) (eg_var 4 rfl rfl) fun t ht => ⟨_, ht, rfl⟩) (by omega) (fun q hq R' s1 H1 C1 cl fp => ?_) rfl) fun ts hts => by subst hts; rw [map_overL]; rfl))) fun ts hts => by subst hts; exact ⟨of_decide_eq_true rfl, sh, n, d, rfl, hs, hn, hd⟩)
  · exact eg_over h1 (Room.mono hr (by decide)) (eg_var 5 rfl rfl) (eg_ixL rfl (eg_var 4 rfl rfl) (eg_neg rfl) (fun _ _ => rfl) (last_at ed) rfl) (nt_r _) (a1 q hq) c3 c2 rfl (hC := C.clo)
  · exact eg_over h1 (Room.mono hr (by decide)) (eg_var 5 rfl rfl) (eg_ixL rfl (eg_var 4 rfl rfl) (eg_neg rfl) (fun _ _ => rfl) (last_at ed) rfl) (nt_r _) (b1 q hq) c3 c2 rfl (hC := C.clo)
/-! ### _law_at -/
/-- the found behind k turns -/
def hornK (f : List Rat) (p : Rat) (k : Nat) : Rat := (f.reverse.take k).foldl (fun x c => x * p + c) 0
def hornF (f : List Rat) (p : Rat) : Rat := f.reverse.foldl (fun x c => x * p + c) 0
structure AtOk (f : List Rat) (p : Rat) : Prop where
  zf : Szs f
  zp : Sz p
  zk : ∀ k, k ≤ f.length → Sz (hornK f p k) ∧ Sz (hornK f p k * p)
  l : f.length < 900
theorem AtOk.fin {f : List Rat} {p : Rat} (h : AtOk f p) : Sz (hornF f p) := by
  have := (h.zk f.length (Nat.le_refl _)).1
  unfold hornK at this
  rwa [← List.length_reverse, List.take_length] at this
theorem scAt : scOk (top 81) ["_law_poly_here", "_law_number", "_law_found", "_law_one"] ["_law_poly_here", "_law_number"] := ⟨rfl, rfl, rfl, by decide +kernel, rfl, by decide +kernel, by decide +kernel⟩
theorem ok_at {E : Wd} (G : Glo E) (D : Dfn E "_law_at" (top 81) ["_law_poly_here", "_law_number"]) (h1 : addOp E) (h2 : mulOp E) (h3 : makesRatio E) (f : List Rat) (t : T) (p : Rat) (ht : NT t p) (ho : AtOk f p) : E.Fn "_law_at" 39 [.poly f, t] (· = T.rat (hornF f p)) := by
  refine Wd.fn G D scAt fun f0 cdv A outer s H E0 B Hr hr hp => ?_
  refine wg_set 2 scAt.nd (Pa := (· = T.rat 0)) (eg_rat1 h3 (hr.mono (by decide)) (eg_int rfl) rfl) ?_
  rintro t' rfl
  refine wg_for (P := (· = f.reverse.map T.rat)) 3 (fun items k G' => ∃ r, k ≤ f.length ∧ G' = [.sh (.poly f), .sh t, .sh (T.rat (hornK f p k)), r]) rfl rfl scAt.nd (ig_lst (Pa := (· = .lst (f.reverse.map T.rat))) (eg_fr (P := (· = f.reverse.map T.rat)) (fg_rev (ts := f.map T.rat) (eg_var 0 rfl rfl) (by rw [← List.map_reverse])) fun ts hts => by rw [hts]) fun t ht => ⟨_, ht, rfl⟩) (fun items hi => ⟨_, Nat.zero_le _, rfl⟩) (fun items k G' ⟨r, _, hG⟩ => by rw [hG]; exact of_decide_eq_true rfl) (fun items hi R' k t' G' dn hk ⟨r, _, hG⟩ => ?_) (fun items G' hi ⟨r, _, hG⟩ => ?_)
  · subst hi; subst hG
    rw [List.getElem?_map] at hk
    cases hc : f.reverse[k]? with
    | none => rw [hc] at hk; cases hk
    | some c =>
      rw [hc] at hk; cases hk
      have hkl : k < f.length := by
        have := (List.getElem?_eq_some_iff.mp hc).1
        rwa [List.length_reverse] at this
      have hcm : c ∈ f := List.mem_reverse.mp (List.mem_of_getElem? hc)
      obtain ⟨z1, z2⟩ := ho.zk k (by omega)
      have e : hornK f p (k + 1) = hornK f p k * p + c := by
        unfold hornK
        rw [take_snoc hc, List.foldl_append]; rfl
      refine wg_set 2 scAt.nd (Pa := (· = T.rat (hornK f p (k + 1)))) (eg_addR h1 hr (eg_mulR h2 hr (eg_var 2 rfl rfl) (eg_var 1 rfl rfl) ht z1 ho.zp rfl) (eg_var 3 rfl rfl) (nt_r _) z2 (ho.zf c hcm) (by rw [e])) ?_
      rintro t' rfl
      exact wg_end ⟨_, hkl, rfl⟩
  · subst hi; subst hG
    rw [List.length_map]
    exact wg_retq (eg_var 2 rfl (by unfold hornK hornF; rw [List.take_length]))
/-! ### _law_worth -/
/-- the law's worth of a pair at a place -/
def dueP (f g : List Rat) : Pl → Pl
  | .inf => if g.length < f.length then .inf else .num (if f.length = g.length then lastD f / lastD g else 0)
  | .num q => quo (hornF f q) (hornF g q)
structure DueOk (f g : List Rat) (p : Pl) : Prop where
  ne : g ≠ []
  zf : Szs f
  zg : Szs g
  lg : lastD g ≠ 0
  a : ∀ q, p = .num q → AtOk f q ∧ AtOk g q
theorem scLWorth : scOk (top 82) ["_law_pair", "_law_place_here", "_law_top", "_law_bottom", "_law_below"] ["_law_pair", "_law_place_here"] := ⟨rfl, rfl, rfl, by decide +kernel, rfl, by decide +kernel, by decide +kernel⟩
abbrev atF (E : Wd) : Prop := ∀ (f : List Rat) (t : T) (p : Rat), NT t p → AtOk f p → E.Fn "_law_at" 39 [.poly f, t] (· = T.rat (hornF f p))
abbrev eqQ (E : Wd) : Prop := ∀ (q : Rat) (t : T) (d : Bool), eqT q t = some d → E.Qu .R 1 [T.rat q, t] (· = .bl d)
theorem ok_lworth {E : Wd} (G : Glo E) (C : Cla E) (D : Dfn E "_law_worth" (top 82) ["_law_pair", "_law_place_here"]) (h1 : overM E) (h2 : signP E) (h3 : makesRatio E) (h4 : atF E) (h5 : eqQ E) (f g : List Rat) (t : T) (p : Pl) (ht : PT t p) (ho : DueOk f g p) : E.Fn "_law_worth" 40 [.tup [.poly f, .poly g], t] (· = plT (dueP f g p)) := by
  refine Wd.fn G D scLWorth fun f0 cdv A outer s H E0 B Hr hr hp => ?_
  refine wg_unp 2 3 (Pa := (· = .tup [.poly f, .poly g])) (by decide) rfl rfl scLWorth.nd (eg_var 0 rfl rfl) fun t' z => ⟨_, _, z, ?_⟩
  cases p with
  | inf =>
    have ht' : t = .str "beyond" := ht
    subst ht'
    refine wg_ifT (tg_eq (v := .str "beyond") (w := .str "beyond") (eg_var 1 rfl rfl) (eg_str rfl) rfl (decide_eq_true rfl)) ?_
    refine wg_if (tg_gt (P := (· = decide (g.length < f.length))) (i := (f.length : Int)) (j := (g.length : Int)) (eg_lenL (ts := f.map T.rat) (eg_var 2 rfl rfl) rfl G.len (by rw [List.length_map])) (eg_lenL (ts := g.map T.rat) (eg_var 3 rfl rfl) rfl G.len (by rw [List.length_map])) (decide_eq_decide.mpr (by omega))) (fun z => ?_) fun z => ?_
    · rw [show dueP f g .inf = .inf from if_pos (of_decide_eq_true z.symm)]
      exact wg_retR rfl (eg_str rfl)
    · rw [show dueP f g .inf = .num (if f.length = g.length then lastD f / lastD g else 0) from if_neg (of_decide_eq_false z.symm)]
      refine wg_skip ?_
      have eq1 : decide (V.int (f.length : Int) = V.int (g.length : Int)) = decide (f.length = g.length) := decide_eq_decide.mpr ⟨fun z => by injection z with z; omega, fun z => by rw [z]⟩
      refine wg_retR rfl (eg_if (Pt := (· = decide (f.length = g.length))) (tg_eq (v := .int (f.length : Int)) (w := .int (g.length : Int)) (eg_lenL (ts := f.map T.rat) (eg_var 2 rfl rfl) rfl G.len (by rw [List.length_map])) (eg_lenL (ts := g.map T.rat) (eg_var 3 rfl rfl) rfl G.len (by rw [List.length_map])) rfl eq1) (fun z => ?_) fun z => ?_)
      · have he : f.length = g.length := of_decide_eq_true z.symm
        have gp := List.length_pos_iff.mpr ho.ne
        have hf0 : f ≠ [] := List.length_pos_iff.mp (by omega)
        rw [if_pos he]
        exact eg_over h1 (hr.mono (by decide)) (eg_ixL rfl (eg_var 2 rfl rfl) (eg_neg rfl) (fun _ _ => rfl) (last_at (last_rat hf0)) rfl) (eg_ixL rfl (eg_var 3 rfl rfl) (eg_neg rfl) (fun _ _ => rfl) (last_at (last_rat ho.ne)) rfl) (nt_r _) (ho.zf _ (List.mem_of_getElem? (last_rat hf0))) (ho.zg _ (List.mem_of_getElem? (last_rat ho.ne))) ho.lg rfl (hC := C.clo)
      · rw [if_neg (of_decide_eq_false z.symm)]
        exact eg_rat1 h3 (hr.mono (by decide)) (eg_int rfl) rfl
  | num q =>
    have ht' : NT t q := ht
    obtain ⟨a1, a2⟩ := ho.a q rfl
    have go : WG ⟨E.c, B, Hr, none⟩ (cxB E.P E.w E.c.K E.mg E.base ["_law_pair", "_law_place_here", "_law_top", "_law_bottom", "_law_below"] "_law_worth" (defScope (top 82)) f0 cdv A outer s H E0) [.sh (.tup [.poly f, .poly g]), .sh t, .sh (.poly f), .sh (.poly g), .no] ((defBody (top 82)).drop 2) (fnE ⟨E.c, B, Hr, none⟩ (· = plT (dueP f g (.num q)))) := by
      refine wg_set 4 scLWorth.nd (Pa := (· = T.rat (hornF g q))) (eg_fn (h4 g t q ht' a2) hr rfl (ag_cons (eg_var 3 rfl rfl) (ag_one (eg_var 1 rfl rfl))) rfl fun t z => z) ?_
      rintro t' rfl
      refine wg_retq (eg_if (Pt := (· = decide (hornF g q = 0))) (tg_eq (v := .int (hornF g q).num.sign) (w := .int 0) (eg_sign h2 (hr.mono (by decide)) (eg_var 4 rfl rfl) rfl (hC := C.clo)) (eg_int rfl) rfl (sign_zero _)) (fun z => ?_) fun z => ?_)
      · rw [show dueP f g (.num q) = .inf from if_pos (of_decide_eq_true z.symm)]
        exact eg_str rfl
      · have h0 : hornF g q ≠ 0 := of_decide_eq_false z.symm
        rw [show dueP f g (.num q) = .num (hornF f q / hornF g q) from if_neg h0]
        exact eg_over h1 (hr.mono (by decide)) (eg_fn (h4 f t q ht' a1) hr rfl (ag_cons (eg_var 2 rfl rfl) (ag_one (eg_var 1 rfl rfl))) rfl fun t z => z) (eg_var 4 rfl rfl) (nt_r _) a1.fin a2.fin h0 rfl (hC := C.clo)
    rcases ht' with rfl | ⟨n, rfl, rfl⟩
    · refine wg_ifF (tg_eqO (kn := .R) (h5 q (.str "beyond") false rfl) (hr.mono (by decide)) (eg_var 1 rfl rfl) (eg_str rfl) trivial rfl fun z hz => ⟨false, hz, rfl⟩) go
    · exact wg_ifF (tg_eq (v := .int n) (w := .str "beyond") (eg_var 1 rfl rfl) (eg_str rfl) rfl (decide_eq_false (fun z => by cases z))) go
end My

set_option Elab.async false
set_option linter.all false
set_option maxRecDepth 100000
set_option maxHeartbeats 4000000
/-! La7: calls whose arguments are not known; drawn polys and places. -/
namespace My
open PySem L2 PyProof.Rows
section
variable {E : Wd} {b : Bs} {X : Cx} {G : List En} {e e2 : Expr} {es : List Expr} {pos p : Pos} {Phi : T → Prop} {A1 : List T → Prop} {x : Str} {k : Nat}
/-- a call, its promise chosen when the arguments are known -/
theorem eg_fam {st : Stmt} {ps : List Str} (D : Dfn E x st ps) (C : ∀ ts, A1 ts → E.Fn x k ts Phi) (hr : Room k X.A) (hg : Gl X x) (ha : AG b X G (e :: es) A1) (hc : b.c = E.c := by rfl) (hm : X.mg = E.mg := by rfl) (hK : X.K = E.K := by rfl) (hp1 : X.prog = E.P := by rfl) (hw : X.w = E.w := by rfl) (hbs : X.base = E.base := by rfl)
    (hdb : (x == ("__debug__" : Str)) = false := by decide) (he : starEach (e :: es) X.env = (false, eval e X.env) :: starEach es X.env := by rfl) (hpl : (backTo pos (starEach es X.env)).any (·.1) = false := by rfl) : EG b X G (.Call (.Name x p) (e :: es) [] pos) Phi := fun σ H Hr s Q q => by
  obtain ⟨f, fd, F0, hmx, hB0⟩ := D.ex
  have hkp := F0.kp
  rw [← hm] at hmx
  rw [← hK] at hkp
  intro pins st' I
  refine wpAny_Call_Name_kw (ld_glob I hg hmx ?_ hdb)
  refine PySem.W.callWith_K (h₀ := X.base) I.ok.mod.kin hkp (thn (ha σ H Hr s (fun vs H1 => ∃ ts Hr1, A1 ts ∧ Evo b H Hr H1 Hr1 ∧ Sat b G σ H1 Hr1 ∧ holdsL b.c ts vs Hr1) (fun ts vs H1 Hr1 p1 e1 s1 h1 => ⟨ts, Hr1, p1, e1, s1, h1⟩) pos pins st' I) fun us s1 ⟨vs, H1, I1, r, ts, Hr1, p1, e1, sa, h1⟩ => ⟨I1.kIn, ?_⟩) he hpl
  obtain ⟨f', fd', ps', ds, F, hm', hk', hb', hv'⟩ := (C ts p1).ex
  cases hv'
  rw [← hm, hmx] at hm'
  have ef : f = f' := by injection hm' with z; injection z
  subst ef
  rw [← hp1, ← hw, ← hK, ← hm, ← hbs] at F
  rw [← hK] at hb'
  refine run_fn F hr hb' .nil pass0 I1 r ⟨Hr1, ts, sa.r2, by rw [List.append_nil, ← hc]; exact h1, rfl, fun t v H' Hr' hR stp hv => q t v H' Hr' hR (e1.trans stp.evo) (sa.stp stp) (by rw [hc]; exact hv)⟩
/-- Ratio(a, b), a and b not known -/
theorem eg_rat2N {Pa Pb : T → Prop} (D : RatD E) (h : makesRatio E) (hr : Room 37 X.A) (he : EG b X G e Pa) (he2 : EG b X G e2 Pb) (hP : ∀ t u, Pa t → Pb u → ∃ i j : Int, t = .int i ∧ u = .int j ∧ j ≠ 0 ∧ Phi (T.rat ((i : Rat) / j))) (hc : b.c = E.c := by rfl) (hm : X.mg = E.mg := by rfl) (hK : X.K = E.K := by rfl) (hp1 : X.prog = E.P := by rfl) (hw : X.w = E.w := by rfl) (hbs : X.base = E.base := by rfl) (hg : Gl X "Ratio" := by rfl)
    (hs : starEach [e, e2] X.env = (false, eval e X.env) :: starEach [e2] X.env := by rfl) (hs2 : starEach [e2] X.env = (false, eval e2 X.env) :: starEach [] X.env := by rfl) (hpl : (backTo pos (starEach [e2] X.env)).any (·.1) = false := by rfl) : EG b X G (.Call (.Name "Ratio" p) [e, e2] [] pos) Phi := fun σ H Hr s Q q => by
  obtain ⟨c, B, R, pot⟩ := b
  have hc' : c = E.c := hc
  subst hc'
  refine we_imp (Q := fun v H' => ∃ t Hr', Phi t ∧ Evo ⟨E.c, B, R, pot⟩ H Hr H' Hr' ∧ Sat ⟨E.c, B, R, pot⟩ G σ H' Hr' ∧ holds E.c t v Hr') ?_ fun v H' ⟨t, Hr', h1, h2, h3, h4⟩ => q t v H' Hr' h1 h2 h3 h4
  obtain ⟨f, fd, F0, hMk, hmx, hB1, hB2⟩ := D.ex
  have hkp := hMk.kp
  rw [← hm] at hmx
  rw [← hK] at hkp
  intro pins st' I
  refine wpAny_Call_Name_kw (ld_glob I hg hmx ?_ (by decide))
  refine PySem.W.callWith_K (h₀ := X.base) I.ok.mod.kin hkp (thn (ag_consN (A1 := fun ts => ∃ t u, ts = [t, u] ∧ Pa t ∧ Pb u) (A2 := fun ts => ∃ u, ts = [u] ∧ Pb u) he (ag_consN (A2 := fun ts => ts = []) he2 (ag_nil rfl) (fun t ts h1 h2 => ⟨t, by rw [h2], h1⟩) hs2) (fun t ts h1 ⟨u, h2, h3⟩ => ⟨t, u, by rw [h2], h1, h3⟩) hs σ H Hr s (fun vs H1 => ∃ t u Hr1, Pa t ∧ Pb u ∧ Evo ⟨E.c, B, R, pot⟩ H Hr H1 Hr1 ∧ Sat ⟨E.c, B, R, pot⟩ G σ H1 Hr1 ∧ holdsL E.c [t, u] vs Hr1) (fun ts vs H1 Hr1 ⟨t, u, hts, p1, p2⟩ e1 s1 h1 => ⟨t, u, Hr1, p1, p2, e1, s1, hts ▸ h1⟩) pos pins st' I) fun us s1 ⟨vs, H1, I1, r, t, u, Hr1, p1, p2, e1, sa, h1⟩ => ⟨I1.kIn, ?_⟩) hs hpl
  obtain ⟨i, j, rfl, rfl, hj, hPhi⟩ := hP t u p1 p2
  have M : KCal E.P E.w E.K E.mg E.base (E.c.cl .R) "Ratio" 36 [] (spIn E.c .R (· = [.int i, .int j]) fun _ t u => T.obj .R t u = T.rat ((i : Rat) / j)) := (h i j hj).2
  obtain ⟨f', fd', ps', ds, Mk', F, hm', hb', hv'⟩ := M.ex
  cases hv'
  rw [← hp1, ← hw, ← hK, ← hm, ← hbs] at F
  rw [← hK] at hb' Mk'
  refine run_make Mk' F hr hb' .nil pass0 I1 r fun y dx hy hdx hne => ?_
  have hyr := (same_down sa.toSat0 hy).2
  have r2' : Same Hr1 (upd (upd H1 dx (.own y)) y (.ins (E.c.cl .R) dx [])) := fun a o hz => by
    have hz' := sa.r2 a o hz
    rw [upd_ne (ne_of_none hz' hy), upd_ne (ne_of_none hz' hdx)]; exact hz'
  refine ⟨y, dx, Hr1, _, _, rfl, r2', hyr, upd_same, by rw [List.append_nil]; exact h1, rfl, fun t1 t2 v1 v2 dx' H' Hr' hR st hf g1 g2 => ⟨rfl, ?_⟩⟩
  have hyr' : Hr' y = none := st.g y (by rw [upd_same]; simp) hyr
  have S : Stp H1 Hr1 H' (upd Hr' y (.ins (E.c.cl .R) dx' (fld v1 v2))) := by
    refine ⟨fun a o hz => ?_, st.r.trans (same_new hyr'), fun a o hz => ?_, fun a hz1 hz2 => ?_⟩
    · refine st.h a o (ne_of_none hz hy) ?_
      rw [upd_ne (ne_of_none hz hy), upd_ne (ne_of_none hz hdx)]; exact hz
    · by_cases z : a = y
      · subst z; rw [upd_same] at hz; rw [hf]; exact hz
      · rw [upd_ne z] at hz; exact st.r2 a o hz
    · have z : a ≠ y := fun z => by subst z; exact hz1 hy
      rw [upd_ne z]
      refine st.g a (fun hz3 => ?_) hz2
      rw [upd_ne z] at hz3
      by_cases z2 : a = dx
      · subst z2; rw [upd_same] at hz3; cases hz3
      · rw [upd_ne z2] at hz3; exact hz1 hz3
  exact ⟨.obj .R t1 t2, _, hR ▸ hPhi, e1.trans S.evo, sa.stp S, holds_obj.mpr ⟨y, dx', v1, v2, rfl, upd_same, holds_mono (same_new hyr') g1, holds_mono (same_new hyr') g2⟩⟩
/-- Ratio(a), a not known -/
theorem eg_rat1N {Pa : T → Prop} (D : RatD E) (h : makesRatio E) (hr : Room 37 X.A) (he : EG b X G e Pa) (hP : ∀ t, Pa t → ∃ i : Int, t = .int i ∧ Phi (T.rat (i : Rat))) (hc : b.c = E.c := by rfl) (hm : X.mg = E.mg := by rfl) (hK : X.K = E.K := by rfl) (hp1 : X.prog = E.P := by rfl) (hw : X.w = E.w := by rfl) (hbs : X.base = E.base := by rfl) (hg : Gl X "Ratio" := by rfl)
    (hs : starEach [e] X.env = (false, eval e X.env) :: starEach [] X.env := by rfl) (hpl : (backTo pos (starEach [] X.env)).any (·.1) = false := by rfl) : EG b X G (.Call (.Name "Ratio" p) [e] [] pos) Phi := fun σ H Hr s Q q => by
  obtain ⟨c, B, R, pot⟩ := b
  have hc' : c = E.c := hc
  subst hc'
  refine we_imp (Q := fun v H' => ∃ t Hr', Phi t ∧ Evo ⟨E.c, B, R, pot⟩ H Hr H' Hr' ∧ Sat ⟨E.c, B, R, pot⟩ G σ H' Hr' ∧ holds E.c t v Hr') ?_ fun v H' ⟨t, Hr', h1, h2, h3, h4⟩ => q t v H' Hr' h1 h2 h3 h4
  obtain ⟨f, fd, F0, hMk, hmx, hB1, hB2⟩ := D.ex
  have hkp := hMk.kp
  rw [← hm] at hmx
  rw [← hK] at hkp
  intro pins st' I
  refine wpAny_Call_Name_kw (ld_glob I hg hmx ?_ (by decide))
  refine PySem.W.callWith_K (h₀ := X.base) I.ok.mod.kin hkp (thn (ag_consN (A1 := fun ts => ∃ t, ts = [t] ∧ Pa t) (A2 := fun ts => ts = []) he (ag_nil rfl) (fun t ts h1 h2 => ⟨t, by rw [h2], h1⟩) hs σ H Hr s (fun vs H1 => ∃ t Hr1, Pa t ∧ Evo ⟨E.c, B, R, pot⟩ H Hr H1 Hr1 ∧ Sat ⟨E.c, B, R, pot⟩ G σ H1 Hr1 ∧ holdsL E.c [t] vs Hr1) (fun ts vs H1 Hr1 ⟨t, hts, p1⟩ e1 s1 h1 => ⟨t, Hr1, p1, e1, s1, hts ▸ h1⟩) pos pins st' I) fun us s1 ⟨vs, H1, I1, r, t, Hr1, p1, e1, sa, h1⟩ => ⟨I1.kIn, ?_⟩) hs hpl
  obtain ⟨i, rfl, hPhi⟩ := hP t p1
  have M : KCal E.P E.w E.K E.mg E.base (E.c.cl .R) "Ratio" 36 [.int 1] (spIn E.c .R (· = [.int i, .int 1]) fun _ t u => T.obj .R t u = T.rat ((i : Rat) / ((1 : Int) : Rat))) := (h i 1 (by decide)).1
  obtain ⟨f', fd', ps', ds, Mk', F, hm', hb', hv'⟩ := M.ex
  rw [← hp1, ← hw, ← hK, ← hm, ← hbs] at F
  rw [← hK] at hb' Mk'
  refine run_make Mk' F hr hb' hv' pass0 I1 r fun y dx hy hdx hne => ?_
  have hyr := (same_down sa.toSat0 hy).2
  have r2' : Same Hr1 (upd (upd H1 dx (.own y)) y (.ins (E.c.cl .R) dx [])) := fun a o hz => by
    have hz' := sa.r2 a o hz
    rw [upd_ne (ne_of_none hz' hy), upd_ne (ne_of_none hz' hdx)]; exact hz'
  refine ⟨y, dx, Hr1, _, _, rfl, r2', hyr, upd_same, holdsL_append h1 (holdsL_one (holds_is.mpr rfl)), rfl, fun t1 t2 v1 v2 dx' H' Hr' hR st hf g1 g2 => ⟨rfl, ?_⟩⟩
  have hyr' : Hr' y = none := st.g y (by rw [upd_same]; simp) hyr
  have S : Stp H1 Hr1 H' (upd Hr' y (.ins (E.c.cl .R) dx' (fld v1 v2))) := by
    refine ⟨fun a o hz => ?_, st.r.trans (same_new hyr'), fun a o hz => ?_, fun a hz1 hz2 => ?_⟩
    · refine st.h a o (ne_of_none hz hy) ?_
      rw [upd_ne (ne_of_none hz hy), upd_ne (ne_of_none hz hdx)]; exact hz
    · by_cases z : a = y
      · subst z; rw [upd_same] at hz; rw [hf]; exact hz
      · rw [upd_ne z] at hz; exact st.r2 a o hz
    · have z : a ≠ y := fun z => by subst z; exact hz1 hy
      rw [upd_ne z]
      refine st.g a (fun hz3 => ?_) hz2
      rw [upd_ne z] at hz3
      by_cases z2 : a = dx
      · subst z2; rw [upd_same] at hz3; cases hz3
      · rw [upd_ne z2] at hz3; exact hz1 hz3
  exact ⟨.obj .R t1 t2, _, by rw [hR, show ((i : Rat) / ((1 : Int) : Rat)) = (i : Rat) by grind]; exact hPhi, e1.trans S.evo, sa.stp S, holds_obj.mpr ⟨y, dx', v1, v2, rfl, upd_same, holds_mono (same_new hyr') g1, holds_mono (same_new hyr') g2⟩⟩
end
/-! ### _law_poly -/
def Coef (c : Rat) : Prop := ∃ n d : Int, -3 ≤ n ∧ n ≤ 3 ∧ (d = 1 ∨ d = 2) ∧ c = (n : Rat) / d
structure DrawP (m : Nat) (f : List Rat) : Prop where
  ne : f ≠ []
  l : f.length ≤ m + 1
  c : ∀ q ∈ f, Coef q
  z : lastD f ≠ 0
theorem scLPoly : scOk (top 83) ["_law_pot_here", "_law_most", "_law_found", "_law_turn"] ["_law_pot_here", "_law_most"] := ⟨rfl, rfl, rfl, by decide +kernel, rfl, by decide +kernel, by decide +kernel⟩
abbrev pickF (E : Wd) : Prop := ∀ ts : List T, ts ≠ [] → ts.length < 1000 → E.Pt "_law_pick" 2 [.lst ts] (· ∈ ts)
theorem lastD_snoc (f : List Rat) (c : Rat) : lastD (f ++ [c]) = c := by
  show (f ++ [c]).getD ((f ++ [c]).length - 1) 0 = c
  rw [List.length_append, List.length_singleton, Nat.add_sub_cancel, List.getD_eq_getElem?_getD, List.getElem?_append_right (Nat.le_refl _), Nat.sub_self]; rfl
theorem rat_div1 (i : Int) : ((i : Rat) / ((1 : Int) : Rat)) = (i : Rat) := by grind
theorem ok_lpoly {E : Wd} (G : Glo E) (D : Dfn E "_law_poly" (top 83) ["_law_pot_here", "_law_most"]) (DR : RatD E) (h1 : drawF E) (h2 : pickF E) (h3 : makesRatio E) (m : Nat) (hm : m < 900) : E.Pt "_law_poly" 38 [.int (m : Int)] (fun t => ∃ f, t = .poly f ∧ DrawP m f) := by
  refine Wd.pt D scLPoly fun f0 cdv A outer s H E0 B Hr q hr => ?_
  refine wg_setF 2 scLPoly.nd (P := (· = [])) (fg_lst (ag_nil rfl) fun ts hts => by subst hts; exact of_decide_eq_true rfl) ?_
  rintro ts rfl
  refine wg_for (P := fun items => items.length ≤ m) 3 (fun items k G' => ∃ f r, G' = [.pt, .sh (.int (m : Int)), .mu (f.map T.rat), r] ∧ f.length ≤ k ∧ ∀ c ∈ f, Coef c) rfl rfl scLPoly.nd (ig_rng (Pa := Dig ((m : Int) + 1)) (eg_pot 0 (h1 ((m : Int) + 1) (by omega) (by omega)) (hr.mono (by decide)) rfl rfl (ag_one (eg_add (eg_var 1 rfl rfl) (eg_int rfl) rfl)) rfl fun t z => z) (fun t ⟨d, hd, d1, d2⟩ => ⟨d, hd, by omega, by omega, by rw [List.length_map, List.length_range]; omega⟩) rfl G.rng) (fun items hi => ⟨[], _, rfl, Nat.zero_le _, fun c hc => by cases hc⟩) (fun items k G' ⟨f, r, hG, _⟩ => by rw [hG]; exact of_decide_eq_true rfl) (fun items hi R' k t G' dn ht ⟨f, r, hG, hl, hc⟩ => ?_) (fun items G' hi ⟨f, r, hG, hl, hc⟩ => ?_)
  · subst hG
    have hk : k < items.length := (List.getElem?_eq_some_iff.mp ht).1
    refine wg_app 2 rfl (by rw [List.length_map]; omega) (Pa := fun t => ∃ c, t = T.rat c ∧ Coef c) (eg_rat2N (Pa := fun t => ∃ n : Int, t = .int n ∧ -3 ≤ n ∧ n ≤ 3) (Pb := (· ∈ [T.int 1, T.int 1, T.int 1, T.int 2])) DR h3 hr (eg_subN (Pa := Dig 7) (eg_pot 0 (h1 7 (by decide) (by decide)) (Room.mono hr (by decide)) rfl rfl (ag_one (eg_int rfl)) rfl fun t z => z) (eg_int rfl) fun t ⟨d, hd, d1, d2⟩ => ⟨d, hd, d - 3, rfl, by omega, by omega⟩) (eg_pot 0 (h2 [T.int 1, T.int 1, T.int 1, T.int 2] (by simp) (of_decide_eq_true rfl)) (Room.mono hr (by decide)) rfl rfl (ag_one (eg_fr (P := (· = [T.int 1, T.int 1, T.int 1, T.int 2])) (fg_lst (ag_cons (eg_int rfl) (ag_cons (eg_int rfl) (ag_cons (eg_int rfl) (ag_one (eg_int rfl))))) fun ts hts => by subst hts; exact of_decide_eq_true rfl) fun ts hts => by rw [hts])) rfl fun t z => z) ?_) ?_
    · rintro t u ⟨n, rfl, n1, n2⟩ hu
      have : u = T.int 1 ∨ u = T.int 2 := by
        simp only [List.mem_cons, List.not_mem_nil, or_false] at hu
        rcases hu with h | h | h | h
        · exact .inl h
        · exact .inl h
        · exact .inl h
        · exact .inr h
      rcases this with rfl | rfl
      · exact ⟨n, 1, rfl, rfl, by decide, _, rfl, n, 1, n1, n2, .inl rfl, rfl⟩
      · exact ⟨n, 2, rfl, rfl, by decide, _, rfl, n, 2, n1, n2, .inr rfl, rfl⟩
    · rintro t ⟨c, rfl, hcc⟩
      refine wg_end ⟨f ++ [c], _, by rw [List.map_append]; rfl, by rw [List.length_append, List.length_singleton]; omega, fun c' hc' => ?_⟩
      rcases List.mem_append.mp hc' with h | h
      · exact hc c' h
      · rw [List.mem_singleton.mp h]; exact hcc
  · subst hG
    refine wg_frz 2 rfl ?_
    refine wg_retpP 0 rfl rfl (eg_fr (P := fun ts => ∃ g, ts = g.map T.rat ∧ DrawP m g) (fg_catN (ts := f.map T.rat) (Pb := fun t => ∃ c : Int, t = .lst [T.rat (c : Rat)] ∧ (c = 1 ∨ c = -1 ∨ c = 2 ∨ c = 3)) (eg_var 2 rfl rfl) (eg_fr (P := fun ts => ∃ c : Int, ts = [T.rat (c : Rat)] ∧ (c = 1 ∨ c = -1 ∨ c = 2 ∨ c = 3)) (fg_lst (ag_consN (Pa := fun t => ∃ c : Int, t = T.rat (c : Rat) ∧ (c = 1 ∨ c = -1 ∨ c = 2 ∨ c = 3)) (A2 := fun ts => ts = []) (eg_rat1N (Pa := (· ∈ [T.int 1, T.int (-1), T.int 2, T.int 3])) DR h3 hr (eg_pot 0 (h2 [T.int 1, T.int (-1), T.int 2, T.int 3] (by simp) (of_decide_eq_true rfl)) (Room.mono hr (by decide)) rfl rfl (ag_one (eg_fr (P := (· = [T.int 1, T.int (-1), T.int 2, T.int 3])) (fg_lst (ag_cons (eg_int rfl) (ag_cons (eg_neg rfl) (ag_cons (eg_int rfl) (ag_one (eg_int rfl))))) fun ts hts => by subst hts; exact of_decide_eq_true rfl) fun ts hts => by rw [hts])) rfl fun t z => z) ?_) (ag_nil rfl) fun t ts ⟨c, h, h'⟩ h2 => ⟨c, by rw [h, h2], h'⟩) fun ts ⟨c, h, _⟩ => by rw [h]; exact of_decide_eq_true rfl) fun ts ⟨c, h, h'⟩ => ⟨c, by rw [h], h'⟩) fun t ⟨c, h, h'⟩ => ⟨_, h, by rw [List.length_map, List.length_singleton]; omega, f ++ [(c : Rat)], by rw [List.map_append]; rfl, ?_⟩) fun ts ⟨g, h, h'⟩ => ⟨g, by rw [h]; rfl, h'⟩)
    · intro t ht
      simp only [List.mem_cons, List.not_mem_nil, or_false] at ht
      rcases ht with rfl | rfl | rfl | rfl
      · exact ⟨1, rfl, _, rfl, .inl rfl⟩
      · exact ⟨-1, rfl, _, rfl, .inr (.inl rfl)⟩
      · exact ⟨2, rfl, _, rfl, .inr (.inr (.inl rfl))⟩
      · exact ⟨3, rfl, _, rfl, .inr (.inr (.inr rfl))⟩
    · refine ⟨by simp, by rw [List.length_append, List.length_singleton]; omega, fun q hq => ?_, ?_⟩
      · rcases List.mem_append.mp hq with h | h
        · exact hc q h
        · rw [List.mem_singleton.mp h]
          exact ⟨c, 1, by omega, by omega, .inl rfl, (rat_div1 c).symm⟩
      · rw [lastD_snoc]
        intro z
        have := Rat.intCast_eq_zero_iff.mp z
        omega
end My

set_option Elab.async false
set_option linter.all false
set_option maxRecDepth 100000
set_option maxHeartbeats 4000000
/-! La8: drawn, passed, made. -/
namespace My
open PySem L2 PyProof.Rows
section
variable {b : Bs} {X : Cx} {G : List En} {a e c : Expr} {pos p p' : Pos} {Pa : T → Prop} {x y : Str} {rest : List Stmt} {D : Ends}
/-- x, y = e, a list of two -/
theorem wg_unl (i j : Nat) {px py2 pt : Pos} {kt : Nat} (hij : i ≠ j) (hc1 : X.calm = true) (hN : X.N.Nodup) (he : EG b X G e Pa) (h : ∀ t, Pa t → ∃ u v, t = .lst [u, v] ∧ WG b X ((G.set i (.sh u)).set j (.sh v)) rest D) (hl : i < G.length := by exact of_decide_eq_true rfl) (hlj : j < G.length := by exact of_decide_eq_true rfl)
    (hi : X.N[i]? = some x := by rfl) (hj : X.N[j]? = some y := by rfl) (hx : Loc X.env.scope x := by first | exact .inl rfl | exact .inr rfl) (hy : Loc X.env.scope y := by first | exact .inl rfl | exact .inr rfl)
    (hfx : X.fn x = true ∨ X.env.scope.names.lookup x = some .local := by first | exact .inl rfl | exact .inr rfl) (hfy : X.fn y = true ∨ X.env.scope.names.lookup y = some .local := by first | exact .inl rfl | exact .inr rfl)
    (hs1 : (assignEach [.Name x px, .Name y py2] X.env).map (·.2) = assign (.Name x px) X.env :: (assignEach [.Name y py2] X.env).map (·.2) := by rfl) (hs2 : (assignEach [.Name y py2] X.env).map (·.2) = assign (.Name y py2) X.env :: (assignEach [] X.env).map (·.2) := by rfl)
    (hn : (assignEach [.Name x px, .Name y py2] X.env).length = 2 := by rfl) (hst : (assignEach [.Name x px, .Name y py2] X.env).findIdx? (·.1) = none := by rfl)
    (hs : swapsWithSole [.Tuple [.Name x px, .Name y py2] kt pt] e pos.line X.env = pure false := by rfl) (hw : swappedStores [.Tuple [.Name x px, .Name y py2] kt pt] e X.env = pure none := by rfl)
    (h1 : (assignEach [.Tuple [.Name x px, .Name y py2] kt pt] X.env).map (·.2) = [assign (.Tuple [.Name x px, .Name y py2] kt pt) X.env] := by rfl) : WG b X G (.Assign [.Tuple [.Name x px, .Name y py2] kt pt] e pos :: rest) D := fun σ H Hr s =>
  wb_of (pss_cons (ps_asg pe_self (pg_unl hc1 (pgs_cons (pg_name hN hi hx hfx) (pgs_cons (pg_name hN hj hy hfy) pgs_nil hs2) hs1) hn hst) hs hw h1) pss_self) (he σ H Hr s _ fun t w H1 Hr1 p1 e1 s1 g1 => by
    obtain ⟨u, v, rfl, hW⟩ := h t p1
    obtain ⟨l, vs, rfl, k1, k2⟩ := holds_lst.mp g1
    obtain ⟨v1, r1, rfl, hv1, k3⟩ := holdsL_cons.mp k2
    obtain ⟨v2, r2, rfl, hv2, k4⟩ := holdsL_cons.mp k3
    obtain rfl := holdsL_nil.mp k4
    exact ⟨l, _, rfl, SqL.of (s1.r2 _ _ k1), rfl, v1, [v2], rfl, v2, [], rfl, rfl, hW _ H1 Hr1 ((s1.put i hl hv1).put j (by rw [List.length_set]; exact hlj) hv2)⟩)
end
/-! ### _law_drawn -/
def DrawF (m : Nat) (f : List Rat) : Prop := f = [] ∨ DrawP m f
def DrawG (m : Nat) (g : List Rat) : Prop := g = [1] ∨ DrawP m g
theorem scDrawn : scOk (top 84) ["_law_pot_here", "_law_most", "_law_top"] ["_law_pot_here", "_law_most"] := ⟨rfl, rfl, rfl, by decide +kernel, rfl, by decide +kernel, by decide +kernel⟩
abbrev lpolyF (E : Wd) : Prop := ∀ m : Nat, m < 900 → E.Pt "_law_poly" 38 [.int (m : Int)] (fun t => ∃ f, t = .poly f ∧ DrawP m f)
theorem ok_drawn {E : Wd} (G : Glo E) (D : Dfn E "_law_drawn" (top 84) ["_law_pot_here", "_law_most"]) (DL : Dfn E "_law_lowest" (top 80) ["_law_top", "_law_bottom"]) (h1 : drawF E) (h2 : lpolyF E) (h3 : makesRatio E) (m : Nat) (hm : m < 900) (LR : List Rat → List Rat → Prop)
    (h4 : ∀ f g, DrawF m f → DrawG m g → E.Fn "_law_lowest" 43 [.poly f, .poly g] (fun t => ∃ n d, t = .tup [.poly n, .poly d] ∧ LR n d)) : E.Pt "_law_drawn" 44 [.int (m : Int)] (fun t => ∃ n d, t = .tup [.poly n, .poly d] ∧ LR n d) := by
  refine Wd.pt D scDrawn fun f0 cdv A outer s H E0 B Hr q hr => ?_
  refine wg_set 2 scDrawn.nd (Pa := fun t => ∃ f, t = .poly f ∧ DrawF m f) (eg_if (Pt := fun _ => True) (tg_gtN (Pa := Dig 12) (eg_pot 0 (h1 12 (by decide) (by decide)) (hr.mono (by decide)) rfl rfl (ag_one (eg_int rfl)) rfl fun t z => z) (eg_int rfl) fun t ⟨d, hd, _⟩ => ⟨d, hd, trivial⟩) (fun _ => eg_pot 0 (h2 m hm) (hr.mono (by decide)) rfl rfl (ag_one (eg_var 1 rfl rfl)) rfl fun t ⟨f, h, h'⟩ => ⟨f, h, .inr h'⟩) fun _ => eg_fr (P := (· = [])) (fg_lst (ag_nil rfl) fun ts hts => by subst hts; exact of_decide_eq_true rfl) fun ts hts => ⟨[], by rw [hts]; rfl, .inl rfl⟩) ?_
  rintro t ⟨f, rfl, hf⟩
  refine wg_retpP 0 rfl rfl (eg_fam DL (A1 := fun ts => ∃ g, ts = [.poly f, .poly g] ∧ DrawG m g) (fun ts ⟨g, h, hg⟩ => by subst h; exact h4 f g hf hg) hr rfl (ag_consN (Pa := (· = .poly f)) (A2 := fun ts => ∃ g, ts = [.poly g] ∧ DrawG m g) (eg_var 2 rfl rfl) (ag_consN (Pa := fun t => ∃ g, t = .poly g ∧ DrawG m g) (A2 := fun ts => ts = []) (eg_if (Pt := fun _ => True) (tg_gtN (Pa := Dig 4) (eg_pot 0 (h1 4 (by decide) (by decide)) (hr.mono (by decide)) rfl rfl (ag_one (eg_int rfl)) rfl fun t z => z) (eg_int rfl) fun t ⟨d, hd, _⟩ => ⟨d, hd, trivial⟩) (fun _ => eg_pot 0 (h2 m hm) (hr.mono (by decide)) rfl rfl (ag_one (eg_var 1 rfl rfl)) rfl fun t ⟨f, h, h'⟩ => ⟨f, h, .inr h'⟩) fun _ => eg_fr (P := (· = [T.rat 1])) (fg_lst (ag_one (eg_rat1 h3 (hr.mono (by decide)) (eg_int rfl) rfl)) fun ts hts => by subst hts; exact of_decide_eq_true rfl) fun ts hts => ⟨[1], by rw [hts]; rfl, .inl rfl⟩) (ag_nil rfl) fun t ts ⟨g, h, h'⟩ h2 => ⟨g, by rw [h, h2], h'⟩) fun t ts h ⟨g, h2, h'⟩ => ⟨g, by rw [h, h2], h'⟩))
/-! ### _law_passed -/
/-- a row that stands for f -/
def RowP (f : List Rat) (t : T) : Prop := ∃ ts j, SeqT t ts ∧ NTs ts (f ++ zerosL j) ∧ j < 3
theorem nts_nil : NTs [] [] := ⟨rfl, fun i t q h => by simp at h⟩
theorem nts_append {ts us : List T} {f g : List Rat} (h1 : NTs ts f) (h2 : NTs us g) : NTs (ts ++ us) (f ++ g) := by
  refine ⟨by rw [List.length_append, List.length_append, h1.1, h2.1], fun i t q e1 e2 => ?_⟩
  by_cases hi : i < ts.length
  · rw [List.getElem?_append_left hi] at e1
    rw [List.getElem?_append_left (by rw [← h1.1]; exact hi)] at e2
    exact h1.2 i t q e1 e2
  · rw [List.getElem?_append_right (by omega)] at e1
    rw [List.getElem?_append_right (by rw [← h1.1]; omega), ← h1.1] at e2
    exact h2.2 _ t q e1 e2
theorem nts_one {t : T} {q : Rat} (h : NT t q) : NTs [t] [q] := ⟨rfl, fun i u r e1 e2 => by
  cases i with
  | zero => simp at e1 e2; subst e1; subst e2; exact h
  | succ i => simp at e1⟩
theorem nts_zeros (j : Nat) : NTs (List.replicate j (T.int 0)) (zerosL j) := ⟨by simp, fun i t q e1 e2 => by
  rw [List.getElem?_replicate] at e1 e2
  split at e1
  · rename_i hh
    rw [if_pos hh] at e2
    cases e1; cases e2
    exact nt_i 0
  · cases e1⟩
theorem scPassed : scOk (top 85) ["_law_pot_here", "_law_pair", "_law_both", "_law_found", "_law_part", "_law_row", "_law_number"] ["_law_pot_here", "_law_pair"] := ⟨rfl, rfl, rfl, by decide +kernel, rfl, by decide +kernel, by decide +kernel⟩
abbrev topP (E : Wd) : Prop := ∀ q : Rat, E.Pr .R "top" 1 [T.rat q] (· = .int q.num)
abbrev wholeP (E : Wd) : Prop := ∀ q : Rat, E.Pr .R "is_whole" 1 [T.rat q] (· = .bl (decide (q.den = 1)))
section
variable {E : Wd} {b : Bs} {X : Cx} {Gm : List En} {e : Expr} {pos : Pos} {Phi : T → Prop} {q : Rat}
theorem eg_ptop (h : topP E) (hr : Room 2 X.A) (he : EG b X Gm e (· = T.rat q)) (hP : Phi (.int q.num)) (hC : ∀ k, ClO E.c k) (hc : b.c = E.c := by rfl) (hm : X.mg = E.mg := by rfl) (hK : X.K = E.K := by rfl) (hp1 : X.prog = E.P := by rfl) (hw : X.w = E.w := by rfl) (hbs : X.base = E.base := by rfl) (hb : attributeBase e "top" X.env (eval e X.env) = eval e X.env := by rfl) : EG b X Gm (.Attribute e "top" pos) Phi := by
  obtain ⟨c, B, R, pot⟩ := b
  have hc' : c = E.c := hc
  subst hc'
  have M : PCal E.P E.w E.K E.mg E.base (E.c.cl .R) "top" 1 (spOf E.c (· = [T.rat q]) fun _ u => u = .int q.num) := h q
  rw [← hp1, ← hw, ← hK, ← hm, ← hbs] at M
  exact eg_prop (kn := .R) hK.symm (hC .R) M hr he rfl (fun u z => by rw [z]; exact hP) hb
theorem eg_pwhole (h : wholeP E) (hr : Room 2 X.A) (he : EG b X Gm e (· = T.rat q)) (hP : Phi (.bl (decide (q.den = 1)))) (hC : ∀ k, ClO E.c k) (hc : b.c = E.c := by rfl) (hm : X.mg = E.mg := by rfl) (hK : X.K = E.K := by rfl) (hp1 : X.prog = E.P := by rfl) (hw : X.w = E.w := by rfl) (hbs : X.base = E.base := by rfl) (hb : attributeBase e "is_whole" X.env (eval e X.env) = eval e X.env := by rfl) : EG b X Gm (.Attribute e "is_whole" pos) Phi := by
  obtain ⟨c, B, R, pot⟩ := b
  have hc' : c = E.c := hc
  subst hc'
  have M : PCal E.P E.w E.K E.mg E.base (E.c.cl .R) "is_whole" 1 (spOf E.c (· = [T.rat q]) fun _ u => u = .bl (decide (q.den = 1))) := h q
  rw [← hp1, ← hw, ← hK, ← hm, ← hbs] at M
  exact eg_prop (kn := .R) hK.symm (hC .R) M hr he rfl (fun u z => by rw [z]; exact hP) hb
end
theorem nt_num {q : Rat} (h : q.den = 1) : NT (T.int q.num) q := .inr ⟨q.num, rfl, Rat.ext rfl h⟩
abbrev timesO (E : Wd) : Prop := ∀ f g : List Rat, TimesOk f g → E.Fn "_law_times" 40 [.poly f, .poly g] (· = .poly (timesF f g))
theorem ok_passed {E : Wd} (G : Glo E) (C : Cla E) (D : Dfn E "_law_passed" (top 85) ["_law_pot_here", "_law_pair"]) (h1 : drawF E) (h2 : lpolyF E) (h3 : makesRatio E) (h4 : timesO E) (h5 : topP E) (h6 : wholeP E) (f g : List Rat) (hf : ∀ both, DrawG 1 both → TimesOk f both ∧ TimesOk g both) (ll : ∀ both, DrawG 1 both → (timesF f both).length < 900 ∧ (timesF g both).length < 900) :
    E.Pt "_law_passed" 41 [.tup [.poly f, .poly g]] (fun t => ∃ both t1 t2, DrawG 1 both ∧ t = .lst [t1, t2] ∧ RowP (timesF f both) t1 ∧ RowP (timesF g both) t2) := by
  refine Wd.pt D scPassed fun f0 cdv A outer s H E0 B Hr q hr => ?_
  refine wg_parF 2 3 (Pa := fun t => ∃ both, t = .poly both ∧ DrawG 1 both) (P := (· = [])) (by decide) rfl scPassed.nd (eg_if (Pt := fun _ => True) (tg_eqN (Pa := Dig 3) (w := .int 0) (eg_pot 0 (h1 3 (by decide) (by decide)) (hr.mono (by decide)) rfl rfl (ag_one (eg_int rfl)) rfl fun t z => z) (eg_int rfl) fun t ⟨d, hd, _⟩ => ⟨.int d, hd, rfl, trivial⟩) (fun _ => eg_pot 0 (h2 1 (by decide)) (hr.mono (by decide)) rfl rfl (ag_one (eg_int rfl)) rfl fun t ⟨f, h, h'⟩ => ⟨f, h, .inr h'⟩) fun _ => eg_fr (P := (· = [T.rat 1])) (fg_lst (ag_one (eg_rat1 h3 (hr.mono (by decide)) (eg_int rfl) rfl)) fun ts hts => by subst hts; exact of_decide_eq_true rfl) fun ts hts => ⟨[1], by rw [hts]; rfl, .inl rfl⟩) (fg_lst (ag_nil rfl) fun ts hts => by subst hts; exact of_decide_eq_true rfl) ?_
  rintro t us ⟨both, rfl, hb⟩ rfl
  obtain ⟨tf, tg⟩ := hf both hb
  obtain ⟨lf, lg⟩ := ll both hb
  refine wg_for (P := (· = [f, g].map T.poly)) 4 (fun items k G' => ∃ done e4 e5 e6, G' = [.pt, .sh (.tup [.poly f, .poly g]), .sh (.poly both), .mu done, e4, e5, e6] ∧ done.length = k ∧ ∀ (i : Nat) t h, done[i]? = some t → [f, g][i]? = some h → RowP (timesF h both) t) rfl rfl scPassed.nd (ig_tup rfl (eg_var 1 rfl rfl) rfl) (fun items hi => ⟨[], _, _, _, rfl, rfl, fun i t h e => by simp at e⟩) (fun items k G' ⟨done, e4, e5, e6, hG, _⟩ => by rw [hG]; exact of_decide_eq_true rfl) (fun items hi R' k t G' dn ht ⟨done, e4, e5, e6, hG, hdl, hd⟩ => ?_) (fun items G' hi ⟨done, e4, e5, e6, hG, hdl, hd⟩ => ?_)
  · subst hi; subst hG
    have hk : k < 2 := (List.getElem?_eq_some_iff.mp ht).1
    obtain ⟨h, eh⟩ : ∃ h, [f, g][k]? = some h := ⟨[f, g][k], List.getElem?_eq_getElem hk⟩
    rw [List.getElem?_map, eh] at ht
    cases ht
    have hth : TimesOk h both ∧ (timesF h both).length < 900 := by
      match k, eh with
      | 0, eh => cases eh; exact ⟨tf, lf⟩
      | 1, eh => cases eh; exact ⟨tg, lg⟩
      | k + 2, eh => simp at eh
    obtain ⟨th, lh⟩ := hth
    refine wg_setF 5 scPassed.nd (P := (· = [])) (fg_lst (ag_nil rfl) fun ts hts => by subst hts; exact of_decide_eq_true rfl) ?_
    rintro ts rfl
    refine wg_for (P := (· = (timesF h both).map T.rat)) 6 (fun items k2 G' => ∃ row e6, G' = [.pt, .sh (.tup [.poly f, .poly g]), .sh (.poly both), .mu done, .sh (.poly h), .mu row, e6] ∧ NTs row ((timesF h both).take k2)) rfl rfl scPassed.nd (ig_lst (Pa := (· = .poly (timesF h both))) (eg_fn (h4 h both th) hr rfl (ag_cons (eg_var 4 rfl rfl) (ag_one (eg_var 2 rfl rfl))) rfl fun t z => z) fun t ht => ⟨_, ht, rfl⟩) (fun items hi => ⟨[], _, rfl, nts_nil⟩) (fun items k G' ⟨row, e6, hG, _⟩ => by rw [hG]; exact of_decide_eq_true rfl) (fun items hi R2 k2 t G' dn2 ht ⟨row, e6, hG, hrow⟩ => ?_) (fun items G' hi ⟨row, e6, hG, hrow⟩ => ?_)
    · subst hi; subst hG
      rw [List.getElem?_map] at ht
      cases hc : (timesF h both)[k2]? with
      | none => rw [hc] at ht; cases ht
      | some c =>
        rw [hc] at ht; cases ht
        have hk2 : k2 < (timesF h both).length := (List.getElem?_eq_some_iff.mp hc).1
        refine wg_app 5 rfl (by rw [hrow.1, List.length_take]; omega) (Pa := fun t => NT t c) (eg_if (Pt := fun d => d = true → c.den = 1) (UG.tg (ug_and (Pt := (· = decide (c.den = 1))) (tg_val (Pa := (· = .bl (decide (c.den = 1)))) (eg_pwhole h6 (Room.mono hr (by decide)) (eg_var 6 rfl rfl) rfl (hC := C.clo)) fun t z => ⟨_, z, rfl⟩) (fun z => ug_and1 (tg_eqN (Pa := Dig 2) (w := .int 0) (eg_pot 0 (h1 2 (by decide) (by decide)) (Room.mono hr (by decide)) rfl rfl (ag_one (eg_int rfl)) rfl fun t z => z) (eg_int rfl) fun t ⟨d, hd, _⟩ => ⟨.int d, hd, rfl, fun _ => of_decide_eq_true z.symm⟩)) fun _ z => by cases z)) (fun z => eg_ptop h5 (Room.mono hr (by decide)) (eg_var 6 rfl rfl) (nt_num (z rfl)) (hC := C.clo)) fun _ => eg_var 6 rfl (nt_r c)) ?_
        intro t ht
        exact wg_end ⟨row ++ [t], _, rfl, by rw [take_snoc hc]; exact nts_append hrow (nts_one ht)⟩
    · subst hi; subst hG
      rw [List.length_map, List.take_length] at hrow
      refine wg_ext 5 rfl (Pa := fun t => ∃ j : Nat, t = .lst (List.replicate j (T.int 0)) ∧ j < 3) (eg_fr (P := fun ts => ∃ j : Nat, ts = List.replicate j (T.int 0) ∧ j < 3) (fg_repN (t := T.int 0) (Pb := Dig 3) (eg_fr (P := (· = [T.int 0])) (fg_lst (ag_one (eg_int rfl)) fun ts hts => by subst hts; exact of_decide_eq_true rfl) fun ts hts => by rw [hts]) (eg_pot 0 (h1 3 (by decide) (by decide)) (Room.mono hr (by decide)) rfl rfl (ag_one (eg_int rfl)) rfl fun t z => z) fun u ⟨d, hd, d1, d2⟩ => ⟨d, hd, by omega, by omega, d.toNat, rfl, by omega⟩) fun ts ⟨j, h, h'⟩ => ⟨j, by rw [h], h'⟩) ?_
      rintro t ⟨j, rfl, hj⟩
      refine ⟨_, rfl, by rw [hrow.1, List.length_replicate]; omega, ?_⟩
      have hrow2 := nts_append hrow (nts_zeros j)
      refine wg_frz 5 rfl ?_
      refine wg_app 3 rfl (by omega) (Pa := RowP (timesF h both)) (eg_if (Pt := fun _ => True) (tg_eqN (Pa := Dig 2) (w := .int 0) (eg_pot 0 (h1 2 (by decide) (by decide)) (Room.mono hr (by decide)) rfl rfl (ag_one (eg_int rfl)) rfl fun t z => z) (eg_int rfl) fun t ⟨d, hd, _⟩ => ⟨.int d, hd, rfl, trivial⟩) (fun _ => eg_tuple (ts := row ++ List.replicate j (T.int 0)) (eg_var 5 rfl rfl) rfl G.tup ⟨_, j, .inr rfl, hrow2, hj⟩) fun _ => eg_var 5 rfl ⟨_, j, .inl rfl, hrow2, hj⟩) ?_
      intro t ht
      refine wg_end ⟨done ++ [t], _, _, _, rfl, by rw [List.length_append, List.length_singleton, hdl], fun i u h' e1 e2 => ?_⟩
      by_cases hi : i < done.length
      · rw [List.getElem?_append_left hi] at e1
        exact hd i u h' e1 e2
      · have : i = done.length := by
          have := (List.getElem?_eq_some_iff.mp e1).1
          rw [List.length_append, List.length_singleton] at this
          omega
        subst this
        rw [List.getElem?_append_right (Nat.le_refl _), Nat.sub_self] at e1
        cases e1
        rw [hdl, eh] at e2
        cases e2
        exact ht
  · subst hi; subst hG
    have hd2 : done.length = 2 := hdl
    match done, hd2, hd with
    | [t1, t2], _, hd =>
      refine wg_frz 3 rfl ?_
      exact wg_retpP 0 rfl rfl (eg_var 3 rfl ⟨both, t1, t2, hb, rfl, hd 0 t1 f rfl rfl, hd 1 t2 g rfl rfl⟩)
end My

set_option Elab.async false
set_option linter.all false
set_option maxRecDepth 100000
set_option maxHeartbeats 4000000
/-! La9: made, values, places, built. -/
namespace My
open PySem L2 PyProof.Rows
/-! ### a class's making by keywords -/
structure KfnK (E : Wd) (kn : Kn) (x qual : Str) (st : Stmt) (dvs : List V) (ps ks : List Str) (gV : List V → List V → List V) : Prop where
  ex : ∃ (f : Addr) (fd : FuncData) (g : List Value → List Value → List Value), FunD E.K "__init__" qual (defArgs st) (defBody st) (defScope st) dvs [] f fd ∧ Mk E.K (E.c.cl kn) f ∧ E.mg x = some (.ref (E.c.cl kn)) ∧ KBn E.K fd ps 1 ks g gV
structure KCalK (P : Program) (w : World) (K : PySem.W.Frag) (mg : Str → Option Value) (base : Heap) (C : Addr) (x : Str) (k : Nat) (ks : List Str) (gV : List V → List V → List V) (sp : Sp) : Prop where
  ex : ∃ (f : Addr) (fd : FuncData) (ps : List Str) (g : List Value → List Value → List Value), Mk K C f ∧ FnOk P w K mg base CX0 k f fd ps sp ∧ mg x = some (.ref C) ∧ KBn K fd ps 1 ks g gV
abbrev fkV : List V → List V → List V := fun vs zs => [vs.getD 0 .non, zs.getD 1 .non, zs.getD 0 .non]
abbrev FraK (E : Wd) (dv : V) : Prop := KfnK E .F "Fraction" "Fraction.__init__" (inC 52 0) [dv] ["self", "top", "bottom"] ["bottom", "top"] fkV
abbrev Wd.MkK (E : Wd) (kn : Kn) (x : Str) (k : Nat) (ks : List Str) (gV : List V → List V → List V) (ts : List T) (Phi : T → T → Prop) : Prop := KCalK E.P E.w E.K E.mg E.base (E.c.cl kn) x k ks gV (spIn E.c kn (· = ts) fun _ t u => Phi t u)
theorem Finit_bodyP {E : Wd} (G : Glo E) (C : Cla E) (t u : T) (ts : List T) (ht : SeqT t ts) (LR : List Rat → List Rat → Prop) (h1 : E.Fn "right_pair" 41 [t, u] (fun r => ∃ n d, r = .tup [.poly n, .poly d] ∧ LR n d)) : E.BodyI .F "Fraction.__init__" (defScope (inC 52 0)) (defBody (inC 52 0)) ["self", "top", "bottom"] 41 [t, u] (fun a b => ∃ n d, a = .poly n ∧ b = .poly d ∧ LR n d) := fun f0 cdv A outer s H E0 B Hr q hr hp => by
  obtain ⟨tv, e1, e2⟩ := kb_list C ht
  refine wg_if (Pc := (· = false)) (tg_val (Pa := (· = .bl false)) (eg_isiO rfl C.clo C.iso (t := t) (eg_var 1 rfl rfl) e1 e2 rfl G.isi rfl rfl G.kno (by decide)) fun t z => ⟨_, z, rfl⟩) (fun z => by cases z) fun _ => ?_
  refine wg_fld2 (p4 := ⟨0, 0, 0, 0⟩) 0 rfl rfl (C.clo _) rfl (plain3 (i := 0)) (eg_fn h1 hr rfl (ag_cons (eg_var 1 rfl rfl) (ag_one (eg_var 2 rfl rfl))) rfl fun t z => z) fun r ⟨n, d, z, hl⟩ => ⟨_, _, z, ?_⟩
  refine wg_skip ?_
  exact wg_initEnd 0 rfl ⟨n, d, rfl, rfl, hl⟩
theorem ok_FinitPK {E : Wd} (G : Glo E) (C : Cla E) {dv : V} (D : FraK E dv) (t u : T) (ts : List T) (ht : SeqT t ts) (LR : List Rat → List Rat → Prop) (h1 : E.Fn "right_pair" 41 [t, u] (fun r => ∃ n d, r = .tup [.poly n, .poly d] ∧ LR n d)) :
    E.MkK .F "Fraction" 42 ["bottom", "top"] fkV [t, u] (fun a b => ∃ n d, a = .poly n ∧ b = .poly d ∧ LR n d) := by
  obtain ⟨f, fd, g, F, hM, hm, hB⟩ := D.ex
  exact ⟨f, fd, _, g, hM, Wd.fnokI G F scFinit (Finit_bodyP G C t u ts ht LR h1) rfl (by decide), hm, hB⟩
theorem holdsL_getD {c : Cs} {H : Hp} {us : List T} {zs : List V} (h : holdsL c us zs H) (i : Nat) : holds c (us.getD i .any) (zs.getD i .non) H := by
  by_cases hi : i < us.length
  · obtain ⟨v, e1, e2⟩ := holdsL_get h (List.getElem?_eq_getElem hi)
    rw [List.getD_eq_getElem?_getD, List.getD_eq_getElem?_getD, e1, List.getElem?_eq_getElem hi]
    exact e2
  · rw [List.getD_eq_getElem?_getD, List.getElem?_eq_none (by omega)]
    show holds c .any _ H
    unfold holds; trivial
section
variable {E : Wd} {b : Bs} {X : Cx} {G : List En} {e1 e2 : Expr} {pos p k1 k2 : Pos} {Phi : T → Prop} {t u : T} {R2 : T → T → Prop}
/-- Fraction(bottom = e1, top = e2) -/
theorem eg_fracK (M : E.MkK .F "Fraction" 42 ["bottom", "top"] fkV [t, u] R2) (hr : Room 43 X.A) (he1 : EG b X G e1 (· = u)) (he2 : EG b X G e2 (· = t)) (h : ∀ a c, R2 a c → Phi (.obj .F a c)) (hc : b.c = E.c := by rfl) (hm : X.mg = E.mg := by rfl) (hK : X.K = E.K := by rfl) (hp1 : X.prog = E.P := by rfl) (hw : X.w = E.w := by rfl) (hbs : X.base = E.base := by rfl) (hg : Gl X "Fraction" := by rfl)
    (hall : (backToKw pos (keywordEach [⟨some "bottom", e1, k1⟩, ⟨some "top", e2, k2⟩] X.env)).all (·.1.isSome) = true := by rfl) (hks : (backToKw pos (keywordEach [⟨some "bottom", e1, k1⟩, ⟨some "top", e2, k2⟩] X.env)).filterMap (·.1) = (["bottom", "top"] : List Str) := by rfl)
    (hpl : ((backTo pos (starEach [] X.env)).any (·.1) || (backToKw pos (keywordEach [⟨some "bottom", e1, k1⟩, ⟨some "top", e2, k2⟩] X.env)).any (·.1.isNone)) = false := by rfl) : EG b X G (.Call (.Name "Fraction" p) [] [⟨some "bottom", e1, k1⟩, ⟨some "top", e2, k2⟩] pos) Phi := by
  obtain ⟨c, B, R, pot⟩ := b
  have hc' : c = E.c := hc
  subst hc'
  obtain ⟨f, fd, ps, g, hM, F, hmg, hB⟩ := M.ex
  rw [← hp1, ← hw, ← hK, ← hm, ← hbs] at F
  rw [← hm] at hmg
  rw [← hK] at hM hB
  refine eg_makeK (gT := fun l => [l.getD 1 .any, l.getD 0 .any]) (ts := [u, t]) hM F hr hg hmg hB (fun y zs => ⟨[zs.getD 1 .non, zs.getD 0 .non], rfl, fun us H hv => ?_⟩) (pk_cons pe_self (pk_cons pe_self pk_nil)) (fun σ H Hr s Q q => ?_) rfl rfl (fun a c h' => h a c h') (pe_makeK0 hM F hr hg hmg hB pass0 (pk_cons pe_self (pk_cons pe_self pk_nil)) hall hks (by decide) hpl)
  · exact holdsL_cons.mpr ⟨_, _, rfl, holdsL_getD hv 1, holdsL_one (holdsL_getD hv 0)⟩
  · refine he1 σ H Hr s _ fun t1 v H1 Hr1 p1 ev1 s1 h1 => he2 σ H1 Hr1 s1 _ fun t2 w H2 Hr2 p2 ev2 s2 h2 => ?_
    subst p1; subst p2
    exact q [v, w] H2 Hr2 (ev1.trans ev2) s2 (holdsL_cons.mpr ⟨v, [w], rfl, holds_mono ev2.r h1, holdsL_one h2⟩)
end
/-! ### _law_made -/
theorem scMade : scOk (top 86) ["_law_pot_here", "_law_pair", "_law_top", "_law_bottom"] ["_law_pot_here", "_law_pair"] := ⟨rfl, rfl, rfl, by decide +kernel, rfl, by decide +kernel, by decide +kernel⟩
theorem ok_made {E : Wd} (G : Glo E) (D : Dfn E "_law_made" (top 86) ["_law_pot_here", "_law_pair"]) (h1 : drawF E) (f g : List Rat) (PP : T → T → Prop) (LR : List Rat → List Rat → Prop)
    (h2 : E.Pt "_law_passed" 41 [.tup [.poly f, .poly g]] (fun t => ∃ t1 t2, t = .lst [t1, t2] ∧ PP t1 t2))
    (h3 : ∀ t1 t2, PP t1 t2 → E.Mk .F "Fraction" [] 42 [t1, t2] (fun a b => ∃ n d, a = .poly n ∧ b = .poly d ∧ LR n d)) (h4 : ∀ t1 t2, PP t1 t2 → E.MkK .F "Fraction" 42 ["bottom", "top"] fkV [t1, t2] (fun a b => ∃ n d, a = .poly n ∧ b = .poly d ∧ LR n d)) :
    E.Pt "_law_made" 44 [.tup [.poly f, .poly g]] (fun t => ∃ n d, t = T.frac n d ∧ LR n d) := by
  refine Wd.pt D scMade fun f0 cdv A outer s H E0 B Hr q hr => ?_
  refine wg_unl 2 3 (by decide) rfl scMade.nd (eg_pot 0 h2 (hr.mono (by decide)) rfl rfl (ag_one (eg_var 1 rfl rfl)) rfl fun t z => z) ?_
  rintro t ⟨t1, t2, rfl, hp⟩
  refine ⟨_, _, rfl, ?_⟩
  refine wg_retpP 0 rfl rfl (eg_if (Pt := fun _ => True) (tg_eqN (Pa := Dig 2) (w := .int 0) (eg_pot 0 (h1 2 (by decide) (by decide)) (hr.mono (by decide)) rfl rfl (ag_one (eg_int rfl)) rfl fun t z => z) (eg_int rfl) fun t ⟨d, hd, _⟩ => ⟨.int d, hd, rfl, trivial⟩) (fun _ => eg_make (dts := []) (kn := .F) (h3 t1 t2 hp) hr rfl (A1 := (· = [t1, t2])) (ag_cons (eg_var 2 rfl rfl) (ag_one (eg_var 3 rfl rfl))) (fun _ => holdsL_nil.mpr rfl) fun ts z => by subst z; exact ⟨rfl, fun a c ⟨n, d, z1, z2, hl⟩ => ⟨n, d, by rw [z1, z2]; rfl, hl⟩⟩) fun _ => eg_fracK (h4 t1 t2 hp) hr (eg_var 3 rfl rfl) (eg_var 2 rfl rfl) fun a c ⟨n, d, z1, z2, hl⟩ => ⟨n, d, by rw [z1, z2]; rfl, hl⟩)
/-! ### _law_is_place -/
theorem scLIsPlace : scOk (top 88) ["_law_value"] ["_law_value"] := ⟨rfl, rfl, rfl, by decide +kernel, rfl, by decide +kernel, by decide +kernel⟩
theorem okT_str {t : T} (h : isStrT t = true) : isIntT t = false ∧ isBlT t = false ∧ isRT t = false := by
  obtain ⟨y, rfl⟩ := str_of h
  exact ⟨rfl, rfl, rfl⟩
theorem ok_lisPlace {E : Wd} (G : Glo E) (C : Cla E) (D : Dfn E "_law_is_place" (top 88) ["_law_value"]) (t : T) (ht : okT t = true) : E.Fn "_law_is_place" 1 [t] (· = .bl (isPl t)) := by
  obtain ⟨u, k1, k2, k3, _, _⟩ := kit_cases C ht
  refine Wd.fn G D scLIsPlace fun f0 cdv A outer s H E0 B Hr hr hp => ?_
  cases hs : isStrT t with
  | true =>
    refine wg_ifT (tg_val (Pa := (· = .bl true)) (eg_isS G C ht (eg_var 0 rfl rfl) hs) fun t z => ⟨_, z, rfl⟩) ?_
    obtain ⟨y, rfl⟩ := str_of hs
    refine wg_retR rfl (eg_eq (v := .str y) (w := .str "beyond") (eg_var 0 rfl rfl) (eg_str rfl) rfl ?_)
    show T.bl _ = T.bl _
    congr 1
    show decide (V.str y = V.str "beyond") = (false || decide (y = "beyond"))
    rw [Bool.false_or]
    exact decide_eq_decide.mpr ⟨fun q => by injection q, fun q => by rw [q]⟩
  | false =>
    refine wg_ifF (tg_val (Pa := (· = .bl false)) (eg_isS G C ht (eg_var 0 rfl rfl) hs) fun t z => ⟨_, z, rfl⟩) ?_
    have hb := bey_str hs
    refine wg_retq (eg_or (d := isRT t) (eg_isR G C ht (eg_var 0 rfl rfl) rfl) (fun z => eg_one (eg_and (d := isIntT t || isBlT t) (eg_isiB rfl C.clo C.iso (eg_var 0 rfl rfl) k1 k2 rfl G.isi rfl rfl G.int (by decide +kernel)) (fun z2 => eg_one (eg_not (d := isBlT t) (eg_isiB rfl C.clo C.iso (eg_var 0 rfl rfl) k1 (k3 z2) rfl G.isi rfl rfl G.bool (by decide +kernel)) ?_)) fun z2 => ?_)) fun z => ?_)
    · unfold isPl isNuT
      rw [hb, z]
      cases hA : isIntT t with
      | true => rw [int_bl hA]; rfl
      | false => rw [hA] at z2; rw [show isBlT t = true from z2]; rfl
    · unfold isPl isNuT
      rw [hb, z]
      cases hA : isIntT t with
      | true => rw [hA] at z2; cases z2
      | false => rfl
    · unfold isPl isNuT
      rw [hb, z]; cases isIntT t <;> rfl
/-! ### _law_place -/
def PlaceP : Pl → Prop
  | .inf => True
  | .num q => ∃ n d : Int, -4 ≤ n ∧ n ≤ 4 ∧ (d = 1 ∨ d = 2 ∨ d = 3) ∧ q = (n : Rat) / d
theorem scLPlace : scOk (top 89) ["_law_pot_here"] ["_law_pot_here"] := ⟨rfl, rfl, rfl, by decide +kernel, rfl, by decide +kernel, by decide +kernel⟩
theorem ok_lplace {E : Wd} (G : Glo E) (D : Dfn E "_law_place" (top 89) ["_law_pot_here"]) (DR : RatD E) (h1 : drawF E) (h2 : pickF E) (h3 : makesRatio E) : E.Pt "_law_place" 38 [] (fun t => ∃ p, t = plT p ∧ PlaceP p) := by
  refine Wd.pt D scLPlace fun f0 cdv A outer s H E0 B Hr q hr => ?_
  refine wg_if (Pc := fun _ => True) (tg_eqN (Pa := Dig 5) (w := .int 0) (eg_pot 0 (h1 5 (by decide) (by decide)) (hr.mono (by decide)) rfl rfl (ag_one (eg_int rfl)) rfl fun t z => z) (eg_int rfl) fun t ⟨d, hd, _⟩ => ⟨.int d, hd, rfl, trivial⟩) (fun _ => ?_) fun _ => ?_
  · exact wg_retpP 0 rfl rfl (eg_str ⟨.inf, rfl, trivial⟩)
  · refine wg_skip ?_
    refine wg_retpP 0 rfl rfl (eg_rat2N (Pa := fun t => ∃ n : Int, t = .int n ∧ -4 ≤ n ∧ n ≤ 4) (Pb := (· ∈ [T.int 1, T.int 1, T.int 2, T.int 3])) DR h3 hr (eg_subN (Pa := Dig 9) (eg_pot 0 (h1 9 (by decide) (by decide)) (Room.mono hr (by decide)) rfl rfl (ag_one (eg_int rfl)) rfl fun t z => z) (eg_int rfl) fun t ⟨d, hd, d1, d2⟩ => ⟨d, hd, d - 4, rfl, by omega, by omega⟩) (eg_pot 0 (h2 [T.int 1, T.int 1, T.int 2, T.int 3] (by simp) (of_decide_eq_true rfl)) (Room.mono hr (by decide)) rfl rfl (ag_one (eg_fr (P := (· = [T.int 1, T.int 1, T.int 2, T.int 3])) (fg_lst (ag_cons (eg_int rfl) (ag_cons (eg_int rfl) (ag_cons (eg_int rfl) (ag_one (eg_int rfl))))) fun ts hts => by subst hts; exact of_decide_eq_true rfl) fun ts hts => by rw [hts])) rfl fun t z => z) ?_)
    rintro t u ⟨n, rfl, n1, n2⟩ hu
    have : u = T.int 1 ∨ u = T.int 2 ∨ u = T.int 3 := by
      simp only [List.mem_cons, List.not_mem_nil, or_false] at hu
      rcases hu with h | h | h | h
      · exact .inl h
      · exact .inl h
      · exact .inr (.inl h)
      · exact .inr (.inr h)
    rcases this with rfl | rfl | rfl
    · exact ⟨n, 1, rfl, rfl, by decide, .num _, rfl, n, 1, n1, n2, .inl rfl, rfl⟩
    · exact ⟨n, 2, rfl, rfl, by decide, .num _, rfl, n, 2, n1, n2, .inr (.inl rfl), rfl⟩
    · exact ⟨n, 3, rfl, rfl, by decide, .num _, rfl, n, 3, n1, n2, .inr (.inr rfl), rfl⟩
/-! ### _law_built -/
def NumP (t : T) (q : Rat) : Prop := NT t q ∧ Sz q ∧ (q = 0 ∨ q = 1 ∨ q = -1 ∨ q = 1 / 2)
theorem scBuilt : scOk (top 90) ["_law_pot_here", "_law_pair", "_law_number", "_law_way", "_law_line"] ["_law_pot_here"] := ⟨rfl, rfl, rfl, by decide +kernel, rfl, by decide +kernel, by decide +kernel⟩
/-- x - q as a poly -/
def lineF (q : Rat) : List Rat := trimF [0 - q, 1]
theorem ok_built {E : Wd} (G : Glo E) (C : Cla E) (D : Dfn E "_law_built" (top 90) ["_law_pot_here"]) (h1 : drawF E) (h2 : pickF E) (h3 : makesRatio E) (h4 : subOp E) (h5 : bareF E) (h6 : timesO E) (R0 R1 : List Rat → List Rat → Prop)
    (hd : E.Pt "_law_drawn" 44 [.int 2] (fun t => ∃ n d, t = .tup [.poly n, .poly d] ∧ R0 n d)) (h01 : ∀ n d, R0 n d → R1 n d)
    (hz : ∀ q : Rat, (q = 0 ∨ q = 1 ∨ q = -1 ∨ q = 1 / 2) → Sz (0 - q))
    (ht : ∀ n d q, R0 n d → (q = 0 ∨ q = 1 ∨ q = -1 ∨ q = 1 / 2) → n ≠ [] → TimesOk n (lineF q) ∧ E.Fn "_law_lowest" 43 [.poly (timesF n (lineF q)), .poly d] (fun t => ∃ n' d', t = .tup [.poly n', .poly d'] ∧ R1 n' d'))
    (hb : ∀ n d q, R0 n d → (q = 0 ∨ q = 1 ∨ q = -1 ∨ q = 1 / 2) → n ≠ [] → TimesOk d (lineF q) ∧ E.Fn "_law_lowest" 43 [.poly n, .poly (timesF d (lineF q))] (fun t => ∃ n' d', t = .tup [.poly n', .poly d'] ∧ R1 n' d')) :
    E.Pt "_law_built" 45 [] (fun r => ∃ n d t q, r = .tup [.tup [.poly n, .poly d], t] ∧ NumP t q ∧ R1 n d) := by
  refine Wd.pt D scBuilt fun f0 cdv A outer s H E0 B Hr q0 hr => ?_
  refine wg_par 1 2 (Pa := fun t => ∃ n d, t = .tup [.poly n, .poly d] ∧ R0 n d) (Pb := (· ∈ [T.int 0, T.int 1, T.int (-1), T.rat (1 / 2)])) (by decide) rfl scBuilt.nd (eg_pot 0 hd (hr.mono (by decide)) rfl rfl (ag_one (eg_int rfl)) rfl fun t z => z) (eg_pot 0 (h2 [T.int 0, T.int 1, T.int (-1), T.rat (1 / 2)] (by simp) (of_decide_eq_true rfl)) (hr.mono (by decide)) rfl rfl (ag_one (eg_fr (P := (· = [T.int 0, T.int 1, T.int (-1), T.rat (1 / 2)])) (fg_lst (ag_cons (eg_int rfl) (ag_cons (eg_int rfl) (ag_cons (eg_neg rfl) (ag_one (eg_rat2 (i := 1) (j := 2) h3 (hr.mono (by decide)) (eg_int rfl) (eg_int rfl) (by decide) rfl))))) fun ts hts => by subst hts; exact of_decide_eq_true rfl) fun ts hts => by rw [hts])) rfl fun t z => z) ?_
  rintro t u ⟨n, d, rfl, hr0⟩ hu
  have hnum : ∃ q, NumP u q := by
    simp only [List.mem_cons, List.not_mem_nil, or_false] at hu
    have hh : Sz (1 / 2 : Rat) := ⟨sz_small (by decide +kernel), sz_small (by decide +kernel)⟩
    rcases hu with rfl | rfl | rfl | rfl
    · exact ⟨0, nt_i 0, sz0, .inl rfl⟩
    · exact ⟨1, nt_i 1, sz1, .inr (.inl rfl)⟩
    · exact ⟨-1, nt_i (-1), szI_int (by decide), .inr (.inr (.inl rfl))⟩
    · exact ⟨1 / 2, nt_r _, hh, .inr (.inr (.inr rfl))⟩
  obtain ⟨q, hn, hsz, hq⟩ := hnum
  have hzq := hz q hq
  refine wg_par 3 4 (Pa := Dig 3) (Pb := (· = .poly (lineF q))) (by decide) rfl scBuilt.nd (eg_pot 0 (h1 3 (by decide) (by decide)) (hr.mono (by decide)) rfl rfl (ag_one (eg_int rfl)) rfl fun t z => z) (eg_fn (h5 [T.rat (0 - q), T.int 1] [0 - q, 1] (nts_append (nts_one (nt_r _)) (nts_one (nt_i 1))) (fun c hc => by
    simp only [List.mem_cons, List.not_mem_nil, or_false] at hc
    rcases hc with rfl | rfl
    · exact hzq
    · exact sz1) (of_decide_eq_true rfl)) (hr.mono (by decide)) rfl (ag_one (eg_fr (P := (· = [T.rat (0 - q), T.int 1])) (fg_lst (ag_cons (eg_subR h4 (hr.mono (by decide)) (eg_rat1 h3 (hr.mono (by decide)) (eg_int rfl) rfl) (eg_var 2 rfl rfl) hn sz0 hsz rfl) (ag_one (eg_int rfl))) fun ts hts => by subst hts; exact of_decide_eq_true rfl) fun ts hts => by rw [hts])) rfl fun t z => z) ?_
  rintro t u' ⟨w, rfl, w1, w2⟩ rfl
  have fin : ∀ {e : Expr} {pos : Pos} {kk : Nat} {D' : Ends} {rest : List Stmt} {p2 : Pos}, D'.rt = RetP ⟨E.c, B, Hr, some q0⟩ (fun r => ∃ n d t q, r = .tup [.tup [.poly n, .poly d], t] ∧ NumP t q ∧ R1 n d) →
      EG ⟨E.c, B, Hr, some q0⟩ (cxB E.P E.w E.c.K E.mg E.base ["_law_pot_here", "_law_pair", "_law_number", "_law_way", "_law_line"] "_law_built" (defScope (top 90)) f0 cdv A outer s H E0) [.pt, .sh (.tup [.poly n, .poly d]), .sh u, .sh (.int w), .sh (.poly (lineF q))] e (fun t => ∃ n' d', t = .tup [.poly n', .poly d'] ∧ R1 n' d') →
      (starEach [e, .Name "_law_number" p2] (cxB E.P E.w E.c.K E.mg E.base ["_law_pot_here", "_law_pair", "_law_number", "_law_way", "_law_line"] "_law_built" (defScope (top 90)) f0 cdv A outer s H E0).env = (false, eval e (cxB E.P E.w E.c.K E.mg E.base ["_law_pot_here", "_law_pair", "_law_number", "_law_way", "_law_line"] "_law_built" (defScope (top 90)) f0 cdv A outer s H E0).env) :: starEach [.Name "_law_number" p2] (cxB E.P E.w E.c.K E.mg E.base ["_law_pot_here", "_law_pair", "_law_number", "_law_way", "_law_line"] "_law_built" (defScope (top 90)) f0 cdv A outer s H E0).env) →
      ∀ {pt : Pos}, WG ⟨E.c, B, Hr, some q0⟩ (cxB E.P E.w E.c.K E.mg E.base ["_law_pot_here", "_law_pair", "_law_number", "_law_way", "_law_line"] "_law_built" (defScope (top 90)) f0 cdv A outer s H E0) [.pt, .sh (.tup [.poly n, .poly d]), .sh u, .sh (.int w), .sh (.poly (lineF q))] (.Return (some (.Tuple [e, .Name "_law_number" p2] kk pt)) pos :: rest) D' := by
    intro e pos kk D' rest p2 hD he hst pt
    exact wg_retpP 0 rfl hD (eg_tup (A1 := fun ts => ∃ n' d', ts = [.tup [.poly n', .poly d'], u] ∧ R1 n' d') (ag_consN (Pa := fun t => ∃ n' d', t = .tup [.poly n', .poly d'] ∧ R1 n' d') (A2 := fun ts => ts = [u]) he (ag_one (eg_var 2 rfl rfl)) (fun t ts ⟨n', d', h, h'⟩ h2 => ⟨n', d', by rw [h, h2], h'⟩) hst) fun ts ⟨n', d', h, h'⟩ => ⟨by rw [h]; exact of_decide_eq_true rfl, n', d', u, q, by rw [h], ⟨hn, hsz, hq⟩, h'⟩)
  refine wg_if (Pc := fun b => b = false → n ≠ []) (UG.tg (ug_or (Pt := fun _ => True) (tg_eqN (Pa := Dig 3) (w := .int 0) (eg_var 3 rfl ⟨w, rfl, w1, w2⟩) (eg_int rfl) fun t ⟨d, hd, _⟩ => ⟨.int d, hd, rfl, trivial⟩) (fun _ => ug_or1 (tg_eqE (ts := n.map T.rat) hr.units0 (eg_ixT rfl (eg_var 1 rfl rfl) (eg_int rfl) (fun _ _ => rfl) rfl rfl) fun z hn => by subst hn; cases z)) fun _ z => by cases z)) (fun _ => ?_) fun hn0 => ?_
  · exact fin rfl (eg_var 1 rfl ⟨n, d, rfl, h01 n d hr0⟩) rfl
  · have hne := hn0 rfl
    obtain ⟨t1, t2⟩ := ht n d q hr0 hq hne
    obtain ⟨b1, b2⟩ := hb n d q hr0 hq hne
    refine wg_skip ?_
    refine wg_if (Pc := fun _ => True) (tg_eqN (Pa := Dig 3) (w := .int 1) (eg_var 3 rfl ⟨w, rfl, w1, w2⟩) (eg_int rfl) fun t ⟨d, hd, _⟩ => ⟨.int d, hd, rfl, trivial⟩) (fun _ => ?_) fun _ => ?_
    · exact fin rfl (eg_fn t2 (hr.mono (by decide)) rfl (ag_cons (eg_fn (h6 _ _ t1) (hr.mono (by decide)) rfl (ag_cons (eg_ixT rfl (eg_var 1 rfl rfl) (eg_int rfl) (fun _ _ => rfl) rfl rfl) (ag_one (eg_var 4 rfl rfl))) rfl fun t z => z) (ag_one (eg_ixT rfl (eg_var 1 rfl rfl) (eg_int rfl) (fun _ _ => rfl) rfl rfl))) rfl fun t z => z) rfl
    · refine wg_skip ?_
      exact fin rfl (eg_fn b2 (hr.mono (by decide)) rfl (ag_cons (eg_ixT rfl (eg_var 1 rfl rfl) (eg_int rfl) (fun _ _ => rfl) rfl rfl) (ag_one (eg_fn (h6 _ _ b1) (hr.mono (by decide)) rfl (ag_cons (eg_ixT rfl (eg_var 1 rfl rfl) (eg_int rfl) (fun _ _ => rfl) rfl rfl) (ag_one (eg_var 4 rfl rfl))) rfl fun t z => z))) rfl fun t z => z) rfl
end My

set_option Elab.async false
set_option linter.all false
set_option maxRecDepth 100000
set_option maxHeartbeats 4000000
/-! LaA: defs where no repr is under way; worths_right. -/
namespace My
open PySem L2 PyProof.Rows
/-- a def that is called where no guard is under way -/
structure FnG (P : Program) (w : World) (K : PySem.W.Frag) (mg : Str → Option Value) (base : Heap) (k : Nat) (f : Addr) (fd : FuncData) (ps : List Str) (sp : Sp) : Prop where
  len : ∀ vs H Q E, sp vs H Q E → vs.length = ps.length
  run : ∀ (A : Around) (outer : List Env) (s : Shared) (H : Hp) (args : Args) (us : List Value) (vs : List V) (Q : VK) (E : XK), A.guards = some [] → Room k A → Env0 P w K mg base A outer s H → BindsTo s fd args (ps.zip us) → Vals vs us → sp vs H Q E →
    codeAny (model P w) A (.call (.ref f) args) (CR CX0 outer P w H s Q E) s
theorem FnOk.toG {P : Program} {w : World} {K : PySem.W.Frag} {mg : Str → Option Value} {base : Heap} {k : Nat} {f : Addr} {fd : FuncData} {ps : List Str} {sp : Sp} (F : FnOk P w K mg base CX0 k f fd ps sp) : FnG P w K mg base k f fd ps sp := ⟨F.len, fun A outer s H args us vs Q E _ => F.run A outer s H args us vs Q E⟩
theorem fn_ofG {P : Program} {w : World} {K : PySem.W.Frag} {mg : Str → Option Value} {base : Heap} {k : Nat} {x qual : Str} {st : Stmt} {f : Addr} {fd : FuncData}
    {N ps : List Str} {sp : Sp} (F : Fun K x qual st f fd) (S : FnScope N ps (defScope st)) (len : ∀ vs H Q E, sp vs H Q E → vs.length = ps.length)
    (hbody : ∀ (cdv : Value) (A : Around) (outer : List Env) (s : Shared) (H : Hp) (vs : List V) (Q : VK) (E : XK), (A.deeper (envOfC qual (defScope st) s.heap.objs.size f cdv)).guards = some [] → Room k (A.deeper (envOfC qual (defScope st) s.heap.objs.size f cdv)) → sp vs H Q E →
      ∃ t, PSs (cxOf CX0 P w K mg base N qual (defScope st) f cdv A outer s H E).nox (defBody st) t ∧ t { nx := fun _ H' => Q .non H', rt := Q } (start N vs) H) : FnG P w K mg base (k + 1) f fd ps sp := by
  obtain ⟨oc, od, kV, doc, pm, an, cdv, ct, osl, rfl, lk, hcd⟩ := F.ex
  refine ⟨len, fun A outer s H args us vs Q E hgd hr e0 hb r hsp => ?_⟩
  have hl := len _ _ _ _ hsp
  have KX : K.In s.heap := e0.mod.kin.keeps fun b o e => (e0.bs b o e).1
  have lim : s.heap.NoLimit := e0.mod.nolimit.keeps fun b o e => (e0.bs b o e).1
  have hkind : ∀ y ∈ ps.zip us, (defScope st).names.lookup y.1 = some .local ∨ ((defScope st).names.lookup y.1 = some .cell ∧ ((PySem.cellsFrom (s.heap.objs.size + 1) (defScope st).names []).lookup y.1).isSome = true) := fun ⟨n, v⟩ hy => by
    rcases S.par n (List.of_mem_zip hy).1 with q | q
    · exact .inl q
    · exact .inr ⟨q, PySem.W.cellsFrom_some _ _ _ (.inl q)⟩
  refine codeAny_call_function hr.depth (KX _ _ lk) rfl S.co S.gen rfl (PySem.W.codeRec_of KX hcd) (hb _ _ _ _ ?_)
  refine wpAny_newFunctionEnv_cells S.kind hkind fun env he s1 x => ?_
  subst he
  refine ⟨lim.keeps x.toInCall.keep, codeAny_func ?_⟩
  obtain ⟨t, ht, hq⟩ := hbody cdv A outer s H vs Q E (by first | exact hgd | simpa using hgd) (hr.deeper _) hsp
  have I : Inv (cxOf CX0 P w K mg base N qual (defScope st) f cdv A outer s H E) [] (start N vs) H s1 := inv_start S hr.hd e0 hl r x
  refine wpAny_mono (ht.nox.run [] s1 (start N vs) H _ I hq) (fun fl s' hs => ?_) fun e s' hs => hs
  have fin : ∀ {σ' : L2.St} {H' : Hp} {v : V} {u : Value}, Inv (cxOf CX0 P w K mg base N qual (defScope st) f cdv A outer s H E) [] σ' H' s' → RelV v u → Q v H' → CE outer P w H s Q u s' :=
    fun {σ' H' v u} J rv q => ⟨v, H', J.os, J.bare, J.base, J.hok, rv, q⟩
  cases fl with
  | ret u =>
    obtain ⟨v, σ', H', J, rv, q⟩ := hs
    exact fin J rv q
  | next =>
    obtain ⟨σ', H', J, q⟩ := hs
    exact fin (v := V.non) (u := Value.none) J rfl q
  | brk =>
    obtain ⟨_, _, _, q⟩ := hs
    exact False.elim q
  | cont =>
    obtain ⟨_, _, _, q⟩ := hs
    exact False.elim q
/-! ### Ratio's text -/
def reprR (q : Rat) : Str := joinS Str.empty ["Ratio(", digS q.num, ", ", digS (q.den : Int), ")"]
structure SzRq (q : Rat) : Prop where
  n : SzR q.num
  d : SzR (q.den : Int)
theorem digL_lt {left : Int} {told : Str} (h : ¬ PT0 ≤ left) : digL left told = (left, told) := by
  unfold digL
  rw [dif_neg h]
theorem digL_ge {left : Int} {told : Str} (h : PT0 ≤ left) : digL left told = digL (left / PT0) (pieceS left told) := by
  conv => lhs; unfold digL
  rw [dif_pos h]
theorem pt_61 : PT0 < (10 : Int) ^ 61 := by decide
theorem pt_1 : (1 : Int) < PT0 := by decide
theorem digL_spec (m : Nat) : ∀ (left : Int) (told : Str), 0 ≤ left → left < 10 ^ (60 * m) → (digL left told).2.length ≤ told.length + 62 * m ∧ 0 ≤ (digL left told).1 ∧ (digL left told).1 < 10 ^ 61 := by
  have p61 := pt_61
  have p1 := pt_1
  generalize (10 : Int) ^ 61 = B at *
  induction m with
  | zero =>
    intro left told h0 h
    have h1 : left < 1 := h
    have e := digL_lt (told := told) (show ¬ PT0 ≤ left by omega)
    rw [e]
    exact ⟨Nat.le_add_right _ _, h0, by show left < B; omega⟩
  | succ m ih =>
    intro left told h0 h
    by_cases hge : PT0 ≤ left
    · rw [pow_PT] at h
      have hd : left / PT0 < 10 ^ (60 * m) := Int.ediv_lt_of_lt_mul (by omega) h
      have h2 : 0 ≤ left / PT0 := Int.ediv_nonneg h0 (by omega)
      obtain ⟨i1, i2, i3⟩ := ih (left / PT0) (pieceS left told) h2 hd
      have pl := piece_len left told
      rw [digL_ge hge]
      exact ⟨by omega, i2, i3⟩
    · rw [digL_lt hge]
      exact ⟨Nat.le_add_right _ _, h0, by show left < B; omega⟩
theorem digS_len {n : Int} (h : SzR n) : (digS n).length ≤ 62 * mostP + 62 := by
  have ha : (if 0 ≤ n then n else 0 - n) < 10 ^ (60 * mostP) := by
    have h1 : (if 0 ≤ n then n else 0 - n) = (n.natAbs : Int) := by split <;> omega
    rw [h1]
    have h2 : ((n.natAbs : Nat) : Int) < ((10 ^ (60 * mostP) : Nat) : Int) := Int.ofNat_lt.mpr h
    rw [Int.natCast_pow] at h2
    exact h2
  have ha0 : 0 ≤ (if 0 ≤ n then n else 0 - n) := by split <;> omega
  obtain ⟨h1, h2, h3⟩ := digL_spec mostP _ "" ha0 ha
  have tl := toString_length_le h2 (k := 61) (by decide) h3
  unfold digS
  rw [joinS_len, empty_len]
  have sgl : (if n < 0 then ("-" : Str) else "").length ≤ 1 := by split <;> decide
  have e0 : ("" : Str).length = 0 := rfl
  simp only [List.map_cons, List.map_nil, List.sum_cons, List.sum_nil]
  omega
theorem reprR_len {q : Rat} (h : SzRq q) : (reprR q).length ≤ 124 * mostP + 200 := by
  have h1 := digS_len h.n
  have h2 := digS_len h.d
  unfold reprR
  rw [joinS_len, empty_len]
  have e1 : ("Ratio(" : Str).length = 6 := rfl
  have e2 : (", " : Str).length = 2 := rfl
  have e3 : (")" : Str).length = 1 := rfl
  simp only [List.map_cons, List.map_nil, List.sum_cons, List.sum_nil]
  omega
structure Rfn (E : Wd) : Prop where
  ex : ∃ (f : Addr) (fd : FuncData), Fun E.K "__repr__" "Ratio.__repr__" (inC 22 19) f fd ∧ Binds E.K fd ["self"] [] ∧ PySem.W.findIn E.K (.ref (E.c.cl .R)) "__repr__" = some (some (.ref f)) ∧ PySem.W.isFn E.K (.ref f) = true
theorem scRrepr : scOk (inC 22 19) ["self"] ["self"] := ⟨rfl, rfl, rfl, by decide +kernel, rfl, by decide +kernel, by decide +kernel⟩
abbrev digitsF (E : Wd) : Prop := ∀ n : Int, SzR n → E.Fn "digits_of" 36 [.int n] (· = .str (digS n))
abbrev Wd.Re (E : Wd) (k : Nat) (ts : List T) (Phi : T → Prop) : Prop := RCal E.P E.w E.K E.mg E.base (E.c.cl .R) k (spOf E.c (· = ts) fun _ t => Phi t)
theorem ok_Rrepr {E : Wd} (G : Glo E) (C : Cla E) (D : Rfn E) (h1 : digitsF E) (q : Rat) (h : SzRq q) : E.Re 37 [T.rat q] (· = .str (reprR q)) := by
  obtain ⟨f, fd, F, hB, hf, hn⟩ := D.ex
  refine ⟨f, fd, _, Wd.fnok G F scRrepr (fun f0 cdv A outer s H E0 B Hr hr hp => ?_) rfl (by decide), hB, hf, hn⟩
  have l1 := digS_len h.n
  have l2 := digS_len h.d
  have sl : 124 * mostP + 400 ≤ sizeLine := by decide
  refine wg_retq (eg_joined (ys := ["Ratio(", digS q.num, ", ", digS (q.den : Int), ")"]) (.cons (eg_str rfl) (.cons (eg_fmtS (eg_fn (h1 _ h.n) hr rfl (ag_one (eg_top (kn := .R) rfl (C.clo _) (eg_var 0 rfl rfl) rfl)) rfl fun t z => z) (by omega) rfl) (.cons (eg_str rfl) (.cons (eg_fmtS (eg_fn (h1 _ h.d) hr rfl (ag_one (eg_bot (kn := .R) rfl (C.clo _) (eg_var 0 rfl rfl) rfl)) rfl fun t z => z) (by omega) rfl) (.cons (eg_str rfl) .nil))))) ?_ rfl)
  have e1 : ("Ratio(" : Str).length = 6 := rfl
  have e2 : (", " : Str).length = 2 := rfl
  have e3 : (")" : Str).length = 1 := rfl
  simp only [List.map_cons, List.map_nil, List.sum_cons, List.sum_nil]
  omega
/-! ### pot defs, guards none -/
structure PCalG (E : Wd) (x : Str) (k : Nat) (sp : Sp) : Prop where
  ex : ∃ (f : Addr) (fd : FuncData) (ps : List Str), FnG E.P E.w E.K E.mg E.base k f fd ps sp ∧ E.mg x = some (.ref f) ∧ PySem.W.keepIn E.K (.ref f) = true ∧ Binds E.K fd ps []
abbrev Wd.PtG (E : Wd) (x : Str) (k : Nat) (ts : List T) (Phi : T → Prop) : Prop := PCalG E x k (spPt E.c (· = ts) fun _ t => Phi t)
def Wd.BodyG (E : Wd) (x : Str) (st : Stmt) (N : List Str) (k : Nat) (ts : List T) (Phi : T → Prop) : Prop :=
  ∀ (f : Addr) (cdv : Value) (A : Around) (outer : List Env) (s : Shared) (H : Hp) (E0 : XK) (B Hr : Hp) (q : Addr), (cxB E.P E.w E.c.K E.mg E.base N x (defScope st) f cdv A outer s H E0).A.guards = some [] → Room k (cxB E.P E.w E.c.K E.mg E.base N x (defScope st) f cdv A outer s H E0).A →
    WG ⟨E.c, B, Hr, some q⟩ (cxB E.P E.w E.c.K E.mg E.base N x (defScope st) f cdv A outer s H E0) (.pt :: startG (N.length - 1) ts) (defBody st) (fnP ⟨E.c, B, Hr, some q⟩ Phi)
theorem Wd.ptG {E : Wd} {x : Str} {st : Stmt} {N ps : List Str} {k : Nat} {ts : List T} {Phi : T → Prop} (D : Dfn E x st ps) (S : FnScope N ps (defScope st)) (hb : E.BodyG x st N k ts Phi) (hl : ts.length + 1 = ps.length := by rfl) (hn : ps.length ≤ N.length := by decide) : E.PtG x (k + 1) ts Phi := by
  obtain ⟨f, fd, F, hm, hB⟩ := D.ex
  refine ⟨f, fd, ps, fn_ofG F S (fun vs H Q E h => ?_) (fun cdv A outer s H vs Q E0 hg hr h => ⟨_, pss_self, ?_⟩), hm, F.kp, hB⟩
  · obtain ⟨p, Hr, us, vr, rfl, r2, _, _, hv, hp, _⟩ := h
    rw [List.length_cons, holdsL_len hv, hp, hl]
  · obtain ⟨p, Hr, us, vr, rfl, r2, hq, hpt, hv, rfl, q⟩ := h
    have hqH : H p ≠ none := by
      obtain ⟨_, _, _, _, _, _, e⟩ := hpt
      rw [e]; simp
    have fin : ∀ v H', RetP ⟨E.c, H, Hr, some p⟩ Phi v H' → Q v H' := fun v H' ⟨t, Hr', p', h1, h2, h3, h4, h5⟩ => by
      cases h4
      exact q t v H' Hr' h1 ⟨fun a o z e => h2.bx a o (fun z2 => z (by cases z2; rfl)) e, h5, h2.r1, h2.r2, fun a e1 e2 => h2.keep a e2 e1⟩ h3
    exact wb_mono (hb f cdv A outer s H E0 H Hr p hg hr _ H Hr (start_sat1 r2 hv (by rw [hl]; exact hn) hq hqH ⟨p, rfl, rfl, hpt⟩ (fun _ z => nomatch z))) (fun σ H' => fin .non H') fin (fun _ _ z => z) (fun _ _ z => z)
section
variable {E : Wd} {b : Bs} {X : Cx} {G : List En} {p p' pos : Pos} {Phi : T → Prop} {x pn : Str} {k : Nat}
/-- x(pot), where no guard is under way -/
theorem eg_potG (i : Nat) (C : E.PtG x k [] Phi) (hgd : X.A.guards = some []) (hr : Room k X.A) (hg : Gl X x) (hG : G[i]? = some .pt) (hc : b.c = E.c := by rfl) (hm : X.mg = E.mg := by rfl) (hK : X.K = E.K := by rfl) (hp1 : X.prog = E.P := by rfl) (hw : X.w = E.w := by rfl) (hbs : X.base = E.base := by rfl)
    (hN : X.N[i]? = some pn := by rfl) (hv : Vis X.env.scope pn := by first | exact Or.inl rfl | exact Or.inr (Or.inl rfl) | exact Or.inr (Or.inr rfl)) (hd : (pn == ("__debug__" : Str)) = false := by decide) (hcd : (pn == ("__classdict__" : Str)) = false := by decide)
    (hdb : (x == ("__debug__" : Str)) = false := by decide) (he : starEach [.Name pn p'] X.env = (false, eval (.Name pn p') X.env) :: starEach [] X.env := by rfl) (hpl : (backTo pos (starEach [] X.env)).any (·.1) = false := by rfl) : EG b X G (.Call (.Name x p) [.Name pn p'] [] pos) Phi := fun σ H Hr s Q q => by
  obtain ⟨c, B, R, pot⟩ := b
  have hc' : c = E.c := hc
  subst hc'
  obtain ⟨f, fd, ps, F, hmx, hk, hb⟩ := C.ex
  obtain ⟨q0, hq1, hq2, hq3⟩ := s.slot i _ hG
  rw [← hp1, ← hw, ← hK, ← hm, ← hbs] at F
  rw [← hm] at hmx
  rw [← hK] at hk hb
  have hnp : Hr q0 = none := s.keep q0 (s.ptw q0 hq1).1 (s.ptw q0 hq1).2
  have sp1 : spPt E.c (· = []) (fun _ t => Phi t) [.ref q0] H Q E0 := ⟨q0, Hr, [], [], rfl, s.r2, hnp, hq3, holdsL_nil.mpr rfl, rfl, fun t v H' Hr' hR st hv => q t v H' Hr' hR (st.evo hq1) (s.pot hq1 hq3 st) hv⟩
  intro pins st' I
  refine wpAny_Call_Name_kw (ld_glob I hg hmx ?_ hdb)
  refine PySem.W.callWith_K (h₀ := X.base) I.ok.mod.kin hk (thn ((pa_cons (pe_var hN hv hd hcd) pa_nil he).run pos pins st' σ H (fun vs H1 => vs = [.ref q0] ∧ H1 = H) I ⟨_, hq2, rfl, rfl⟩) fun us s1 ⟨vs, H1, I1, r, e1, e2⟩ => ⟨I1.kIn, ?_⟩) he hpl
  subst e1; subst e2
  have hl : us.length = ps.length := by rw [← r.length]; exact F.len _ _ _ _ sp1
  refine wpAny_call (codeAny_mono (F.run X.A X.stack s1 H1 ⟨us, []⟩ (us ++ []) [.ref q0] Q E0 hgd hr I1.env0 (hb s1 us I1.kIn (by rw [List.append_nil]; exact hl)) (by rw [List.append_nil]; exact r) sp1) fun r s' hq => ?_)
  cases r with
  | error e => exact False.elim hq
  | ok fl =>
    cases fl with
    | ret u => exact I1.after hq
    | next => exact False.elim hq
    | brk => exact False.elim hq
    | cont => exact False.elim hq
end
end My

set_option Elab.async false
set_option linter.all false
set_option maxRecDepth 100000
set_option maxHeartbeats 4000000
/-! LaB: worths_right. -/
namespace My
open PySem L2 PyProof.Rows
/-- a def's call by keywords alone -/
structure DfnK (E : Wd) (x : Str) (st : Stmt) (ps ks : List Str) (gV : List V → List V) : Prop where
  ex : ∃ (f : Addr) (fd : FuncData) (g : List Value → List Value → List Value), Fun E.K x x st f fd ∧ E.mg x = some (.ref f) ∧ KBn E.K fd ps 0 ks g (fun _ zs => gV zs)
abbrev Wd.FnK (E : Wd) (x : Str) (k : Nat) (ks : List Str) (gV : List V → List V) (ts : List T) (Phi : T → Prop) : Prop := CalK E.P E.w E.K E.mg E.base x k ks gV (spOf E.c (· = ts) fun _ t => Phi t)
theorem Wd.fnK {E : Wd} {x : Str} {st : Stmt} {N ps ks : List Str} {gV : List V → List V} {k : Nat} {ts : List T} {Phi : T → Prop} (G : Glo E) (D : DfnK E x st ps ks gV) (S : FnScope N ps (defScope st)) (hb : E.Body x st N k ts Phi) (hl : ts.length = ps.length := by rfl) (hn : ps.length ≤ N.length := by decide) : E.FnK x (k + 1) ks gV ts Phi := by
  obtain ⟨f, fd, g, F, hm, hB⟩ := D.ex
  exact ⟨f, fd, ps, g, Wd.fnok G F S hb hl hn, hm, F.kp, hB⟩
abbrev swV : List V → List V := fun zs => [zs.getD 1 .non, zs.getD 0 .non]
abbrev idV : List V → List V := fun zs => [zs.getD 0 .non]
section
variable {E : Wd} {b : Bs} {X : Cx} {G : List En} {e1 e2 : Expr} {pos p k1 k2 : Pos} {Phi Phi' : T → Prop} {t u : T} {x n1 n2 : Str} {k : Nat}
/-- x(n1 = e1, n2 = e2), the parameters the other way -/
theorem eg_kw2 (M : E.FnK x k [n1, n2] swV [t, u] Phi) (hr : Room k X.A) (he1 : EG b X G e1 (· = u)) (he2 : EG b X G e2 (· = t)) (hg : Gl X x) (hc : b.c = E.c := by rfl) (hm : X.mg = E.mg := by rfl) (hK : X.K = E.K := by rfl) (hp1 : X.prog = E.P := by rfl) (hw : X.w = E.w := by rfl) (hbs : X.base = E.base := by rfl)
    (hall : (backToKw pos (keywordEach [⟨some n1, e1, k1⟩, ⟨some n2, e2, k2⟩] X.env)).all (·.1.isSome) = true := by rfl) (hks : (backToKw pos (keywordEach [⟨some n1, e1, k1⟩, ⟨some n2, e2, k2⟩] X.env)).filterMap (·.1) = [n1, n2] := by rfl) (hdb : (x == ("__debug__" : Str)) = false := by decide)
    (hpl : ((backTo pos (starEach [] X.env)).any (·.1) || (backToKw pos (keywordEach [⟨some n1, e1, k1⟩, ⟨some n2, e2, k2⟩] X.env)).any (·.1.isNone)) = false := by rfl) : EG b X G (.Call (.Name x p) [] [⟨some n1, e1, k1⟩, ⟨some n2, e2, k2⟩] pos) Phi := by
  obtain ⟨c, B, R, pot⟩ := b
  have hc' : c = E.c := hc
  subst hc'
  have M' : CalK E.P E.w E.K E.mg E.base x k [n1, n2] swV (spOf E.c (· = [t, u]) fun _ t => Phi t) := M
  rw [← hp1, ← hw, ← hK, ← hm, ← hbs] at M'
  refine eg_fnK (gT := fun l => [l.getD 1 .any, l.getD 0 .any]) (ts := [u, t]) M' hr hg (pk_cons pe_self (pk_cons pe_self pk_nil)) (fun σ H Hr s Q q => ?_) rfl (fun vs H hv => holdsL_cons.mpr ⟨_, _, rfl, holdsL_getD hv 1, holdsL_one (holdsL_getD hv 0)⟩) rfl (fun t z => z) hall hks hdb hpl
  refine he1 σ H Hr s _ fun t1 v H1 Hr1 p1 ev1 s1 h1 => he2 σ H1 Hr1 s1 _ fun t2 w H2 Hr2 p2 ev2 s2 h2 => ?_
  subst p1; subst p2
  exact q [v, w] H2 Hr2 (ev1.trans ev2) s2 (holdsL_cons.mpr ⟨v, [w], rfl, holds_mono ev2.r h1, holdsL_one h2⟩)
/-- x(n1 = e1) -/
theorem eg_kw1 (M : E.FnK x k [n1] idV [t] Phi) (hr : Room k X.A) (he1 : EG b X G e1 (· = t)) (hg : Gl X x) (hc : b.c = E.c := by rfl) (hm : X.mg = E.mg := by rfl) (hK : X.K = E.K := by rfl) (hp1 : X.prog = E.P := by rfl) (hw : X.w = E.w := by rfl) (hbs : X.base = E.base := by rfl)
    (hall : (backToKw pos (keywordEach [⟨some n1, e1, k1⟩] X.env)).all (·.1.isSome) = true := by rfl) (hks : (backToKw pos (keywordEach [⟨some n1, e1, k1⟩] X.env)).filterMap (·.1) = [n1] := by rfl) (hdb : (x == ("__debug__" : Str)) = false := by decide)
    (hpl : ((backTo pos (starEach [] X.env)).any (·.1) || (backToKw pos (keywordEach [⟨some n1, e1, k1⟩] X.env)).any (·.1.isNone)) = false := by rfl) : EG b X G (.Call (.Name x p) [] [⟨some n1, e1, k1⟩] pos) Phi := by
  obtain ⟨c, B, R, pot⟩ := b
  have hc' : c = E.c := hc
  subst hc'
  have M' : CalK E.P E.w E.K E.mg E.base x k [n1] idV (spOf E.c (· = [t]) fun _ t => Phi t) := M
  rw [← hp1, ← hw, ← hK, ← hm, ← hbs] at M'
  refine eg_fnK (gT := fun l => [l.getD 0 .any]) (ts := [t]) M' hr hg (pk_cons pe_self pk_nil) (fun σ H Hr s Q q => ?_) rfl (fun vs H hv => holdsL_one (holdsL_getD hv 0)) rfl (fun t z => z) hall hks hdb hpl
  refine he1 σ H Hr s _ fun t1 v H1 Hr1 p1 ev1 s1 h1 => ?_
  subst p1
  exact q [v] H1 Hr1 ev1 s1 (holdsL_one h1)
end
/-! ### a worth's text -/
def txtP : Pl → Str
  | .inf => reprText "beyond"
  | .num q => reprR q
def SzRp : Pl → Prop
  | .inf => True
  | .num q => SzRq q
theorem bey_len : (reprText "beyond").length ≤ 20 := by decide +kernel
theorem txtP_len {p : Pl} (h : SzRp p) : (txtP p).length ≤ 124 * mostP + 200 := by
  cases p with
  | inf => have := bey_len; show (reprText "beyond").length ≤ _; omega
  | num q => exact reprR_len h
abbrev reprRc (E : Wd) : Prop := ∀ q : Rat, SzRq q → E.Re 37 [T.rat q] (· = .str (reprR q))
theorem rpe_pl {E : Wd} {X : Cx} (h : reprRc E) {p : Pl} (hp : SzRp p) (hm : X.mg = E.mg) (hK : X.K = E.K) (hp1 : X.prog = E.P) (hw : X.w = E.w) (hbs : X.base = E.base) : RpE E.c X 39 (plT p) (txtP p) := by
  cases p with
  | inf => exact rpe_str "beyond" (Nat.le_trans bey_len (by decide))
  | num q =>
    have M : RCal E.P E.w E.K E.mg E.base (E.c.cl .R) 37 (spOf E.c (· = [T.rat q]) fun _ t => t = .str (reprR q)) := h q hp
    rw [← hp1, ← hw, ← hK, ← hm, ← hbs] at M
    exact rpe_obj (kn := .R) M rfl fun r z => z
theorem listText_len (ts : List Str) (n : Nat) (h : ∀ t ∈ ts, t.length ≤ n) : (listText ts).length ≤ ts.length * (n + 2) + 4 := by
  have pl : ∀ ts : List Str, (∀ t ∈ ts, t.length ≤ n) → piled ts ≤ ts.length * (n + 2) := by
    intro ts
    induction ts with
    | nil => intro _; exact Nat.zero_le _
    | cons t r ih =>
      intro h
      rw [piled_cons, List.length_cons, Nat.succ_mul]
      have h1 := h t (List.mem_cons_self ..)
      have h2 := ih fun u hu => h u (List.mem_cons_of_mem _ hu)
      omega
  cases ts with
  | nil =>
    show (textFrom 0 "[" [] ++ "]").length ≤ _
    rw [strLen_append]
    show 1 + 1 ≤ _
    omega
  | cons t r =>
    have h2 := textFrom_length_pos r 1 (("[" : Str) ++ (if (0 : Nat) > 0 then ", " else "" : String) ++ t) (Nat.succ_pos 0)
    have e : ((("[" : Str) ++ (if (0 : Nat) > 0 then ", " else "" : String) ++ t)).length = 1 + t.length := by
      rw [strLen_append, strLen_append]; rfl
    have h3 := pl r fun u hu => h u (List.mem_cons_of_mem _ hu)
    have h4 := h t (List.mem_cons_self ..)
    show (textFrom 0 "[" (t :: r) ++ "]").length ≤ _
    rw [strLen_append]
    show (textFrom 1 (("[" : Str) ++ (if (0 : Nat) > 0 then ", " else "" : String) ++ t) r).length + 1 ≤ _
    rw [h2, e, List.length_cons, Nat.succ_mul]
    omega
/-! ### worths_right -/
/-- the places that are asked -/
def PlaceQ : Pl → Prop
  | .inf => True
  | .num q => (q = 0 ∨ q = 1 ∨ q = -1 ∨ q = 1 / 2) ∨ PlaceP (.num q)
theorem plq {p : Pl} (h : PlaceP p) : PlaceQ p := by
  cases p with
  | inf => trivial
  | num q => exact .inr h
/-- what is known of a pair's worth at a place -/
structure WrOk (E : Wd) (n d : List Rat) (p : Pl) : Prop where
  w : ∀ t, PT t p → E.Fn "worth" 41 [T.frac n d, t] (· = plT (dueP n d p)) ∧ E.FnK "worth" 41 ["place", "fraction"] swV [T.frac n d, t] (· = plT (dueP n d p))
  l : ∀ t, PT t p → E.Fn "_law_worth" 40 [.tup [.poly n, .poly d], t] (· = plT (dueP n d p))
  s : SzRp (dueP n d p)
theorem scWRight : scOk (top 91) ["_law_pot_here", "_law_pair", "_law_number", "_law_one", "_law_place_here", "_law_due", "_law_handed"] ["_law_pot_here"] := ⟨rfl, rfl, rfl, by decide +kernel, rfl, by decide +kernel, by decide +kernel⟩
theorem ok_wright {E : Wd} (G : Glo E) (C : Cla E) (D : Dfn E "_law_worths_right" (top 91) ["_law_pot_here"]) (h1 : drawF E) (h2 : topP E) (h3 : wholeP E) (h4 : reprRc E) (R1 : List Rat → List Rat → Prop)
    (hb : E.Pt "_law_built" 45 [] (fun r => ∃ n d t q, r = .tup [.tup [.poly n, .poly d], t] ∧ NumP t q ∧ R1 n d)) (hm : ∀ n d, R1 n d → E.Pt "_law_made" 44 [.tup [.poly n, .poly d]] (· = T.frac n d)) (hp : E.Pt "_law_place" 38 [] (fun t => ∃ p, t = plT p ∧ PlaceP p)) (hw : ∀ n d p, R1 n d → PlaceQ p → WrOk E n d p) : E.PtG "_law_worths_right" 47 [] (· = .bl true) := by
  refine Wd.ptG D scWRight fun f0 cdv A outer s H E0 B Hr q0 hgd hr => ?_
  refine wg_unp 1 2 (by decide) rfl rfl scWRight.nd (eg_pot 0 hb (hr.mono (by decide)) rfl rfl (ag_nil rfl) rfl fun t z => z) ?_
  rintro t ⟨n, d, t, q, rfl, hn, hr1⟩
  refine ⟨_, _, rfl, ?_⟩
  refine wg_set 3 scWRight.nd (Pa := (· = T.frac n d)) (eg_pot 0 (hm n d hr1) (hr.mono (by decide)) rfl rfl (ag_one (eg_var 1 rfl rfl)) rfl fun t z => z) ?_
  rintro t' rfl
  refine wg_for (P := fun items => ∀ u ∈ items, ∃ p, PT u p ∧ PlaceQ p) 4 (fun items k G' => ∃ e4 e5 e6, G' = [.pt, .sh (.tup [.poly n, .poly d]), .sh t, .sh (T.frac n d), e4, e5, e6]) rfl rfl scWRight.nd (ig_lst (Pa := fun t => ∃ ts, t = .lst ts ∧ ∀ u ∈ ts, ∃ p, PT u p ∧ PlaceQ p) (eg_fr (P := fun ts => ts.length = 4 ∧ ∀ u ∈ ts, ∃ p, PT u p ∧ PlaceQ p) (fg_lst (A1 := fun ts => ts.length = 4 ∧ ∀ u ∈ ts, ∃ p, PT u p ∧ PlaceQ p) (ag_consN (Pa := fun u => ∃ p, PT u p ∧ PlaceQ p) (A2 := fun ts => ts.length = 3 ∧ ∀ u ∈ ts, ∃ p, PT u p ∧ PlaceQ p) (eg_str ⟨.inf, rfl, trivial⟩) (ag_consN (Pa := fun u => ∃ p, PT u p ∧ PlaceQ p) (A2 := fun ts => ts.length = 2 ∧ ∀ u ∈ ts, ∃ p, PT u p ∧ PlaceQ p) (eg_var 2 rfl ⟨.num q, hn.1, .inl hn.2.2⟩) (ag_consN (Pa := fun u => ∃ p, PT u p ∧ PlaceQ p) (A2 := fun ts => ts.length = 1 ∧ ∀ u ∈ ts, ∃ p, PT u p ∧ PlaceQ p) (eg_pot 0 hp (hr.mono (by decide)) rfl rfl (ag_nil rfl) rfl fun t ⟨p, h, h'⟩ => ⟨p, h ▸ pt_plT p, plq h'⟩) (ag_consN (Pa := fun u => ∃ p, PT u p ∧ PlaceQ p) (A2 := fun ts => ts = []) (eg_pot 0 hp (hr.mono (by decide)) rfl rfl (ag_nil rfl) rfl fun t ⟨p, h, h'⟩ => ⟨p, h ▸ pt_plT p, plq h'⟩) (ag_nil rfl) (fun t ts h h2 => ⟨by rw [h2]; rfl, fun u hu => by rw [h2] at hu; rw [List.mem_singleton.mp hu]; exact h⟩)) (fun t ts h ⟨h1, h2⟩ => ⟨by rw [List.length_cons, h1], fun u hu => by
      rcases List.mem_cons.mp hu with rfl | hu
      · exact h
      · exact h2 u hu⟩)) (fun t ts h ⟨h1, h2⟩ => ⟨by rw [List.length_cons, h1], fun u hu => by
      rcases List.mem_cons.mp hu with rfl | hu
      · exact h
      · exact h2 u hu⟩)) (fun t ts h ⟨h1, h2⟩ => ⟨by rw [List.length_cons, h1], fun u hu => by
      rcases List.mem_cons.mp hu with rfl | hu
      · exact h
      · exact h2 u hu⟩)) fun ts hts => by rw [hts.1]; decide) fun ts hts => ⟨ts, rfl, hts.2⟩) fun t ⟨ts, h, h'⟩ => ⟨ts, h, h'⟩) (fun items hi => ⟨_, _, _, rfl⟩) (fun items k G' ⟨e4, e5, e6, hG⟩ => by rw [hG]; exact of_decide_eq_true rfl) (fun items hi R' k u G' dn ht ⟨e4, e5, e6, hG⟩ => ?_) (fun items G' hi ⟨e4, e5, e6, hG⟩ => ?_)
  · subst hG
    obtain ⟨p, hup, hpq⟩ := hi u (List.mem_of_getElem? ht)
    have W := hw n d p hr1 hpq
    refine wg_set 5 scWRight.nd (Pa := (· = plT (dueP n d p))) (eg_fn (W.l u hup) (Room.mono hr (by decide)) rfl (ag_cons (eg_var 1 rfl rfl) (ag_one (eg_var 4 rfl rfl))) rfl fun t z => z) ?_
    rintro t' rfl
    have hu0 := (pl_ok hup).1
    refine wg_set 6 scWRight.nd (Pa := fun v => PT v p) (eg_if (Pt := fun b => b = true → ∃ q, p = .num q ∧ u = T.rat q ∧ q.den = 1) (UG.tg ?_) (fun z => ?_) fun _ => eg_var 4 rfl hup) ?_
    · cases p with
      | inf =>
        have hup' : u = .str "beyond" := hup
        subst hup'
        exact ug_and (Pt := (· = false)) (tg_val (Pa := (· = .bl false)) (eg_isR G C (t := .str "beyond") rfl (eg_var 4 rfl rfl) rfl) fun t z => ⟨_, z, rfl⟩) (fun z => by cases z) fun _ z => by cases z
      | num q' =>
        rcases hup with rfl | ⟨m, rfl, rfl⟩
        · exact ug_and (Pt := (· = true)) (tg_val (Pa := (· = .bl true)) (eg_isR G C (t := T.rat q') rfl (eg_var 4 rfl rfl) rfl) fun t z => ⟨_, z, rfl⟩) (fun _ => ug_and (Pt := (· = decide (q'.den = 1))) (tg_val (Pa := (· = .bl (decide (q'.den = 1)))) (eg_pwhole h3 (Room.mono hr (by decide)) (eg_var 4 rfl rfl) rfl (hC := C.clo)) fun t z => ⟨_, z, rfl⟩) (fun z => ug_and1 (tg_eqN (Pa := Dig 2) (w := .int 0) (eg_pot 0 (h1 2 (by decide) (by decide)) (Room.mono hr (by decide)) rfl rfl (ag_one (eg_int rfl)) rfl fun t z => z) (eg_int rfl) fun t ⟨d, hd, _⟩ => ⟨.int d, hd, rfl, fun _ => ⟨q', rfl, rfl, of_decide_eq_true z.symm⟩⟩)) fun _ z => by cases z) fun z => by cases z
        · exact ug_and (Pt := (· = false)) (tg_val (Pa := (· = .bl false)) (eg_isR G C (t := T.int m) rfl (eg_var 4 rfl rfl) rfl) fun t z => ⟨_, z, rfl⟩) (fun z => by cases z) fun _ z => by cases z
    · obtain ⟨q', rfl, rfl, hq'⟩ := z rfl
      exact eg_ptop h2 (Room.mono hr (by decide)) (eg_var 4 rfl rfl) (nt_num hq') (hC := C.clo)
    · intro v hv
      obtain ⟨w1, w2⟩ := W.w v hv
      have rp : RpEs E.c (cxB E.P E.w E.c.K E.mg E.base ["_law_pot_here", "_law_pair", "_law_number", "_law_one", "_law_place_here", "_law_due", "_law_handed"] "_law_worths_right" (defScope (top 91)) f0 cdv A outer s H E0) 39 [plT (dueP n d p), plT (dueP n d p)] [txtP (dueP n d p), txtP (dueP n d p)] := .cons (rpe_pl h4 W.s rfl rfl rfl rfl rfl) (.cons (rpe_pl h4 W.s rfl rfl rfl rfl rfl) .nil)
      have hlen : (listText [txtP (dueP n d p), txtP (dueP n d p)]).length ≤ sizeLine := by
        refine Nat.le_trans (listText_len _ (124 * mostP + 200) fun t ht => ?_) (show 2 * (124 * mostP + 200 + 2) + 4 ≤ sizeLine by decide)
        simp only [List.mem_cons, List.not_mem_nil, or_false] at ht
        rcases ht with rfl | rfl <;> exact txtP_len W.s
      refine wg_ifF (tg_ne (v := .str (listText [txtP (dueP n d p), txtP (dueP n d p)])) (w := .str (listText [txtP (dueP n d p), txtP (dueP n d p)])) (eg_reprL rp hgd (Room.mono hr (by decide)) hlen (by simp) (eg_fr (P := (· = [plT (dueP n d p), plT (dueP n d p)])) (fg_lst (ag_cons (eg_fn w1 (Room.mono hr (by decide)) rfl (ag_cons (eg_var 3 rfl rfl) (ag_one (eg_var 6 rfl rfl))) rfl fun t z => z) (ag_one (eg_kw2 w2 (Room.mono hr (by decide)) (eg_var 6 rfl rfl) (eg_var 3 rfl rfl) rfl))) fun ts hts => by subst hts; exact of_decide_eq_true rfl) fun ts hts => by rw [hts]) rfl rfl G.rep) (eg_reprL rp hgd (Room.mono hr (by decide)) hlen (by simp) (eg_fr (P := (· = [plT (dueP n d p), plT (dueP n d p)])) (fg_lst (ag_cons (eg_var 5 rfl rfl) (ag_one (eg_var 5 rfl rfl))) fun ts hts => by subst hts; exact of_decide_eq_true rfl) fun ts hts => by rw [hts]) rfl rfl G.rep) rfl (by rw [decide_eq_true rfl]; rfl)) ?_
      exact wg_end ⟨_, _, _, rfl⟩
  · subst hG
    exact wg_retpP 0 rfl rfl (eg_bl rfl)
end My

set_option Elab.async false
set_option linter.all false
set_option maxRecDepth 100000
set_option maxHeartbeats 4000000
/-! LaC: rules_right, values, right. -/
namespace My
open PySem L2 PyProof.Rows
section
variable {E : Wd} {b : Bs} {X : Cx} {G : List En} {a c : Expr} {pos p : Pos} {j : Nat}
/-- two worths that are the same -/
theorem tg_neP (h : eqQ E) (hr : Room 2 X.A) {v : Pl} (ha : EG b X G a (· = plT v)) (hc : EG b X G c (· = plT v)) (hbc : b.c = E.c := by rfl) (hm : X.mg = E.mg := by rfl) (hK : X.K = E.K := by rfl) (hp1 : X.prog = E.P := by rfl) (hw : X.w = E.w := by rfl) (hbs : X.base = E.base := by rfl) : My.TG b X G (.Compare a [.NotEq] [c] pos) (· = false) := by
  obtain ⟨cc, B, R, pot⟩ := b
  have hc' : cc = E.c := hbc
  subst hc'
  cases v with
  | inf => exact tg_ne (v := .str "beyond") (w := .str "beyond") ha hc rfl (by rw [decide_eq_true rfl]; rfl)
  | num q =>
    have M : QCal E.P E.w E.K E.mg E.base (E.c.cl .R) 1 (spOf E.c (· = [T.rat q, T.rat q]) fun _ t => t = .bl true) := h q (T.rat q) true (by rw [eqT_rat, decide_eq_true rfl])
    rw [← hp1, ← hw, ← hK, ← hm, ← hbs] at M
    exact tg_neO (kn := .R) M hr ha hc rfl rfl fun z hz => ⟨true, hz, rfl⟩
/-- a worth against 'beyond' -/
theorem tg_neB (h : eqQ E) (hr : Room 2 X.A) {v : Pl} {P : Bool → Prop} (ha : EG b X G a (· = plT v)) (hP : P (!isInf v)) (hbc : b.c = E.c := by rfl) (hm : X.mg = E.mg := by rfl) (hK : X.K = E.K := by rfl) (hp1 : X.prog = E.P := by rfl) (hw : X.w = E.w := by rfl) (hbs : X.base = E.base := by rfl) : My.TG b X G (.Compare a [.NotEq] [.Constant (.str "beyond") j p] pos) P := by
  obtain ⟨cc, B, R, pot⟩ := b
  have hc' : cc = E.c := hbc
  subst hc'
  cases v with
  | inf => exact tg_ne (v := .str "beyond") (w := .str "beyond") ha (eg_str rfl) rfl (by rw [decide_eq_true rfl]; exact hP)
  | num q =>
    have M : QCal E.P E.w E.K E.mg E.base (E.c.cl .R) 1 (spOf E.c (· = [T.rat q, .str "beyond"]) fun _ t => t = .bl false) := h q (.str "beyond") false rfl
    rw [← hp1, ← hw, ← hK, ← hm, ← hbs] at M
    exact tg_neO (kn := .R) M hr ha (eg_str rfl) trivial rfl fun z hz => ⟨false, hz, hP⟩
theorem eg_full (h : ∀ f g : List Rat, E.Pr .F "is_full" 1 [T.frac f g] (· = .bl (decide (1 < f.length) || decide (1 < g.length)))) (hr : Room 2 X.A) {f g : List Rat} {Phi : T → Prop} (he : EG b X G a (· = T.frac f g)) (hP : Phi (.bl (decide (1 < f.length) || decide (1 < g.length)))) (hC : ∀ k, ClO E.c k) (hc : b.c = E.c := by rfl) (hm : X.mg = E.mg := by rfl) (hK : X.K = E.K := by rfl) (hp1 : X.prog = E.P := by rfl) (hw : X.w = E.w := by rfl) (hbs : X.base = E.base := by rfl) (hb : attributeBase a "is_full" X.env (eval a X.env) = eval a X.env := by rfl) : EG b X G (.Attribute a "is_full" pos) Phi := by
  obtain ⟨c, B, R, pot⟩ := b
  have hc' : c = E.c := hc
  subst hc'
  have M : PCal E.P E.w E.K E.mg E.base (E.c.cl .F) "is_full" 1 (spOf E.c (· = [T.frac f g]) fun _ u => u = .bl (decide (1 < f.length) || decide (1 < g.length))) := h f g
  rw [← hp1, ← hw, ← hK, ← hm, ← hbs] at M
  exact eg_prop (kn := .F) hK.symm (hC .F) M hr he rfl (fun u z => by rw [z]; exact hP) hb
/-- an operator of fractions -/
theorem eg_fop {op : Operator} {f g n m : List Rat} {Phi : T → Prop} (h : E.Op .F op 47 [T.frac f g, T.frac n m] Phi) (hr : Room 47 X.A) (ha : EG b X G a (· = T.frac f g)) (hc : EG b X G c (· = T.frac n m)) (hbc : b.c = E.c := by rfl) (hm : X.mg = E.mg := by rfl) (hK : X.K = E.K := by rfl) (hp1 : X.prog = E.P := by rfl) (hw : X.w = E.w := by rfl) (hbs : X.base = E.base := by rfl) : EG b X G (.BinOp a op c pos) Phi := by
  obtain ⟨cc, B, R, pot⟩ := b
  have hc' : cc = E.c := hbc
  subst hc'
  have M : OCal E.P E.w E.K E.mg E.base (E.c.cl .F) op 47 (spOf E.c (· = [T.frac f g, T.frac n m]) fun _ u => Phi u) := h
  rw [← hp1, ← hw, ← hK, ← hm, ← hbs] at M
  exact eg_own (kn := .F) M hr ha hc rfl fun u z => z
end
/-! ### rules_right -/
structure RuOk (E : Wd) (n d n' d' : List Rat) (p : Pl) : Prop where
  ex : ∃ v1 v2 : Pl, E.Fn "worth" 41 [T.frac n d, plT p] (· = plT v1) ∧ E.Fn "worth" 41 [T.frac n' d', plT p] (· = plT v2) ∧
    ((1 < n'.length ∨ 1 < d'.length) → ∃ (v3 : Pl) (PU : List Rat → List Rat → Prop), E.Fn "put" 46 [T.frac n d, T.frac n' d'] (fun t => ∃ a b, t = T.frac a b ∧ PU a b) ∧ (∀ a b, PU a b → E.Fn "worth" 41 [T.frac a b, plT p] (· = plT v3)) ∧ E.Fn "worth" 41 [T.frac n d, plT v2] (· = plT v3)) ∧
    ∀ a b, v1 = .num a → v2 = .num b → Sz a ∧ Sz b ∧ (∃ SU : List Rat → List Rat → Prop, E.Op .F .Add 47 [T.frac n d, T.frac n' d'] (fun t => ∃ x y, t = T.frac x y ∧ SU x y) ∧ ∀ x y, SU x y → E.Fn "worth" 41 [T.frac x y, plT p] (· = T.rat (a + b))) ∧
      ∃ SU : List Rat → List Rat → Prop, E.Op .F .Mult 47 [T.frac n d, T.frac n' d'] (fun t => ∃ x y, t = T.frac x y ∧ SU x y) ∧ ∀ x y, SU x y → E.Fn "worth" 41 [T.frac x y, plT p] (· = T.rat (a * b))
theorem scRuRight : scOk (top 92) ["_law_pot_here", "_law_near", "_law_far", "_law_one", "_law_other", "_law_turn", "_law_place_here", "_law_first", "_law_second"] ["_law_pot_here"] := ⟨rfl, rfl, rfl, by decide +kernel, rfl, by decide +kernel, by decide +kernel⟩
theorem ok_ruRight {E : Wd} (G : Glo E) (C : Cla E) (D : Dfn E "_law_rules_right" (top 92) ["_law_pot_here"]) (DW : Dfn E "worth" (top 70) ["fraction", "place"]) (h1 : eqQ E) (h2 : addOp E) (h3 : mulOp E) (h4 : ∀ f g : List Rat, E.Pr .F "is_full" 1 [T.frac f g] (· = .bl (decide (1 < f.length) || decide (1 < g.length)))) (R3 : List Rat → List Rat → Prop)
    (hd : E.Pt "_law_drawn" 44 [.int 3] (fun t => ∃ n d, t = .tup [.poly n, .poly d] ∧ R3 n d)) (hm : ∀ n d, R3 n d → E.Pt "_law_made" 44 [.tup [.poly n, .poly d]] (· = T.frac n d)) (hp : E.Pt "_law_place" 38 [] (fun t => ∃ p, t = plT p ∧ PlaceP p)) (hw : ∀ n d n' d' p, R3 n d → R3 n' d' → PlaceP p → RuOk E n d n' d' p) : E.Pt "_law_rules_right" 48 [] (· = .bl true) := by
  refine Wd.pt D scRuRight fun f0 cdv A outer s H E0 B Hr q0 hr => ?_
  refine wg_par 1 2 (Pa := fun t => ∃ n d, t = .tup [.poly n, .poly d] ∧ R3 n d) (Pb := fun t => ∃ n d, t = .tup [.poly n, .poly d] ∧ R3 n d) (by decide) rfl scRuRight.nd (eg_pot 0 hd (hr.mono (by decide)) rfl rfl (ag_one (eg_int rfl)) rfl fun t z => z) (eg_pot 0 hd (hr.mono (by decide)) rfl rfl (ag_one (eg_int rfl)) rfl fun t z => z) ?_
  rintro t u ⟨n, d, rfl, r1⟩ ⟨n', d', rfl, r2⟩
  refine wg_par 3 4 (Pa := (· = T.frac n d)) (Pb := (· = T.frac n' d')) (by decide) rfl scRuRight.nd (eg_pot 0 (hm n d r1) (hr.mono (by decide)) rfl rfl (ag_one (eg_var 1 rfl rfl)) rfl fun t z => z) (eg_pot 0 (hm n' d' r2) (hr.mono (by decide)) rfl rfl (ag_one (eg_var 2 rfl rfl)) rfl fun t z => z) ?_
  rintro t u rfl rfl
  refine wg_for (P := fun _ => True) 5 (fun items k G' => ∃ e5 e6 e7 e8, G' = [.pt, .sh (.tup [.poly n, .poly d]), .sh (.tup [.poly n', .poly d']), .sh (T.frac n d), .sh (T.frac n' d'), e5, e6, e7, e8]) rfl rfl scRuRight.nd (ig_rng (Pa := (· = .int 3)) (eg_int rfl) (fun t ht => ⟨3, ht, by decide, by decide, trivial⟩) rfl G.rng) (fun items hi => ⟨_, _, _, _, rfl⟩) (fun items k G' ⟨e5, e6, e7, e8, hG⟩ => by rw [hG]; exact of_decide_eq_true rfl) (fun items hi R' k u G' dn ht ⟨e5, e6, e7, e8, hG⟩ => ?_) (fun items G' hi ⟨e5, e6, e7, e8, hG⟩ => ?_)
  · subst hG
    refine wg_set 6 scRuRight.nd (Pa := fun t => ∃ p, t = plT p ∧ PlaceP p) (eg_pot 0 hp (Room.mono hr (by decide)) rfl rfl (ag_nil rfl) rfl fun t z => z) ?_
    rintro t ⟨p, rfl, hpp⟩
    obtain ⟨v1, v2, w1, w2, hput, hsum⟩ := (hw n d n' d' p r1 r2 hpp).ex
    refine wg_par 7 8 (Pa := (· = plT v1)) (Pb := (· = plT v2)) (by decide) rfl scRuRight.nd (eg_fn w1 (Room.mono hr (by decide)) rfl (ag_cons (eg_var 3 rfl rfl) (ag_one (eg_var 6 rfl rfl))) rfl fun t z => z) (eg_fn w2 (Room.mono hr (by decide)) rfl (ag_cons (eg_var 4 rfl rfl) (ag_one (eg_var 6 rfl rfl))) rfl fun t z => z) ?_
    rintro t u rfl rfl
    refine wg_ifF (UG.tg (ug_and (Pt := (· = (decide (1 < n'.length) || decide (1 < d'.length)))) (tg_val (Pa := (· = .bl (decide (1 < n'.length) || decide (1 < d'.length)))) (eg_full h4 (Room.mono hr (by decide)) (eg_var 4 rfl rfl) rfl (hC := C.clo)) fun t z => ⟨_, z, rfl⟩) (fun z => ?_) fun _ => rfl)) ?_
    · have hf : 1 < n'.length ∨ 1 < d'.length := by
        rcases Bool.or_eq_true_iff.mp z.symm with h | h
        · exact .inl (of_decide_eq_true h)
        · exact .inr (of_decide_eq_true h)
      obtain ⟨v3, PU, p1, p2, p3⟩ := hput hf
      exact ug_and1 (tg_neP h1 (Room.mono hr (by decide)) (v := v3) (eg_fam DW (A1 := fun ts => ∃ a b, ts = [T.frac a b, plT p] ∧ PU a b) (fun ts ⟨a, b, h, h'⟩ => by subst h; exact p2 a b h') (Room.mono hr (by decide)) rfl (ag_consN (Pa := fun t => ∃ a b, t = T.frac a b ∧ PU a b) (A2 := fun ts => ts = [plT p]) (eg_fn p1 (Room.mono hr (by decide)) rfl (ag_cons (eg_var 3 rfl rfl) (ag_one (eg_var 4 rfl rfl))) rfl fun t z => z) (ag_one (eg_var 6 rfl rfl)) fun t ts ⟨a, b, h, h'⟩ h2 => ⟨a, b, by rw [h, h2], h'⟩)) (eg_fn p3 (Room.mono hr (by decide)) rfl (ag_cons (eg_var 3 rfl rfl) (ag_one (eg_var 8 rfl rfl))) rfl fun t z => z))
    · refine wg_if (Pc := fun b => b = true → ∃ a c, v1 = .num a ∧ v2 = .num c) (UG.tg (ug_and (Pt := (· = !isInf v1)) (tg_neB h1 (Room.mono hr (by decide)) (eg_var 7 rfl rfl) rfl) (fun z => ug_and1 (tg_neB h1 (Room.mono hr (by decide)) (eg_var 8 rfl rfl) fun z2 => by
        cases v1 with
        | inf => cases z
        | num a => cases v2 with
          | inf => cases z2
          | num c => exact ⟨a, c, rfl, rfl⟩)) fun _ z => by cases z)) (fun z => ?_) fun _ => wg_endE ⟨_, _, _, _, rfl⟩
      obtain ⟨a, c, rfl, rfl⟩ := z rfl
      obtain ⟨za, zc, ⟨SU, s1, s2⟩, MU, m1, m2⟩ := hsum a c rfl rfl
      refine wg_ifF (UG.tg (ug_or (Pt := (· = false)) (tg_neP h1 (Room.mono hr (by decide)) (v := .num (a + c)) (eg_fam DW (A1 := fun ts => ∃ x y, ts = [T.frac x y, plT p] ∧ SU x y) (fun ts ⟨x, y, h, h'⟩ => by subst h; exact s2 x y h') (Room.mono hr (by decide)) rfl (ag_consN (Pa := fun t => ∃ a b, t = T.frac a b ∧ SU a b) (A2 := fun ts => ts = [plT p]) (eg_fop s1 hr (eg_var 3 rfl rfl) (eg_var 4 rfl rfl)) (ag_one (eg_var 6 rfl rfl)) fun t ts ⟨a, b, h, h'⟩ h2 => ⟨a, b, by rw [h, h2], h'⟩)) (eg_addR h2 (Room.mono hr (by decide)) (eg_var 7 rfl rfl) (eg_var 8 rfl rfl) (nt_r _) za zc rfl)) (fun _ => ug_or1 (tg_neP h1 (Room.mono hr (by decide)) (v := .num (a * c)) (eg_fam DW (A1 := fun ts => ∃ x y, ts = [T.frac x y, plT p] ∧ MU x y) (fun ts ⟨x, y, h, h'⟩ => by subst h; exact m2 x y h') (Room.mono hr (by decide)) rfl (ag_consN (Pa := fun t => ∃ a b, t = T.frac a b ∧ MU a b) (A2 := fun ts => ts = [plT p]) (eg_fop m1 hr (eg_var 3 rfl rfl) (eg_var 4 rfl rfl)) (ag_one (eg_var 6 rfl rfl)) fun t ts ⟨a, b, h, h'⟩ h2 => ⟨a, b, by rw [h, h2], h'⟩)) (eg_mulR h3 (Room.mono hr (by decide)) (eg_var 7 rfl rfl) (eg_var 8 rfl rfl) (nt_r _) za zc rfl))) fun z => by cases z)) ?_
      refine wg_endE ?_
      exact ⟨_, _, _, _, rfl⟩
  · subst hG
    exact wg_retpP 0 rfl rfl (eg_bl rfl)
end My

set_option Elab.async false
set_option linter.all false
set_option maxRecDepth 100000
set_option maxHeartbeats 4000000
/-! LaD: values, right. -/
namespace My
open PySem L2 PyProof.Rows
theorem eg_emp {b : Bs} {X : Cx} {G : List En} {pos : Pos} {Phi : T → Prop} (hP : Phi .emp) : EG b X G (.Dict [] [] pos) Phi := fun σ H Hr s Q q =>
  we_of pe_dnewK (fun p hp => by
    have st := Stp.new (o := .dK []) s.r2 hp
    exact q .emp (.ref p) _ _ hP st.evo (s.stp st) (holds_emp.mpr ⟨p, rfl, upd_same⟩))
/-- a value that is asked -/
structure ValT (u : T) : Prop where
  ok : okT u = true
  sz : ∀ q, NT u q → Sz q ∧ SzRq q
  pl : isPl u = true → ∃ p, PT u p
theorem sz_smallR {n : Int} (h : n.natAbs < 1000000) : SzR n := by
  unfold SzR
  refine Nat.lt_of_lt_of_le h ?_
  have : (1000000 : Nat) ≤ 10 ^ 6 := by decide
  exact Nat.le_trans this (Nat.pow_le_pow_right (by decide) (by unfold mostP; decide))
theorem sz_smallI {n : Int} (h : n.natAbs < 1000000) : SzI n := by
  unfold SzI
  refine Nat.lt_of_lt_of_le h ?_
  have : (1000000 : Nat) ≤ 2 ^ 20 := by decide
  exact Nat.le_trans this (Nat.pow_le_pow_right (by decide) (by unfold szB; decide))
theorem val_no {u : T} (h : okT u = true) (h2 : isPl u = false) : ValT u := by
  refine ⟨h, fun q hq => ?_, fun z => ?_⟩
  · unfold isPl at h2; rw [nt_nu hq] at h2; cases h2
  · rw [h2] at z; cases z
theorem val_str (y : Str) : ValT (.str y) := by
  refine ⟨rfl, fun q hq => ?_, fun z => ⟨.inf, ?_⟩⟩
  · have := nt_nu hq
    cases this
  · have : y = "beyond" := of_decide_eq_true z
    rw [this]; rfl
theorem val_num0 {u : T} {q : Rat} (h : NT u q) (h1 : q.num.natAbs < 1000000) (h2 : q.den < 1000000) : ValT u := ⟨nt_ok h, fun r hr => by
  have := nt_fun h hr
  subst this
  exact ⟨⟨sz_smallI h1, sz_smallI (by omega)⟩, sz_smallR h1, sz_smallR (by omega)⟩, fun _ => ⟨.num q, h⟩⟩
theorem val_ten : ValT (.int (10 ^ (5 : Int).toNat)) := by
  rw [show ((10 : Int) ^ (5 : Int).toNat) = 100000 by decide]
  exact val_num0 (nt_i 100000) (by decide) (by decide)
theorem scValues : scOk (top 87) ["_law_some"] [] := ⟨rfl, rfl, rfl, by decide +kernel, rfl, by decide +kernel, by decide +kernel⟩
theorem ag_val {b : Bs} {X : Cx} {G : List En} {e : Expr} {es : List Expr} {n : Nat} (he : EG b X G e ValT) (hr : AG b X G es (fun ts => ts.length = n ∧ ∀ u ∈ ts, ValT u)) (hs : starEach (e :: es) X.env = (false, eval e X.env) :: starEach es X.env := by rfl) : AG b X G (e :: es) (fun ts => ts.length = n + 1 ∧ ∀ u ∈ ts, ValT u) :=
  ag_consN he hr (fun t ts h ⟨h1, h2⟩ => ⟨by rw [List.length_cons, h1], fun u hu => by
    rcases List.mem_cons.mp hu with rfl | hu
    · exact h
    · exact h2 u hu⟩) hs
theorem ag_val0 {b : Bs} {X : Cx} {G : List En} : AG b X G [] (fun ts => ts.length = 0 ∧ ∀ u ∈ ts, ValT u) := ag_nil ⟨rfl, fun u hu => by cases hu⟩
def valE : Expr := match (defBody (top 87)).head! with
  | .Assign _ e _ => e
  | _ => .Constant .none 0 ⟨0, 0, 0, 0⟩
def valL : List Expr := match valE with
  | .List es _ => es
  | _ => []
def valP : Pos := match valE with
  | .List _ p => p
  | _ => ⟨0, 0, 0, 0⟩
def vE (k : Nat) : Expr := valL.getD k (.Constant .none 0 ⟨0, 0, 0, 0⟩)
theorem valE_eq : valE = .List valL valP := rfl
theorem valL_eq : valL = [vE 0, vE 1, vE 2, vE 3, vE 4, vE 5, vE 6, vE 7, vE 8, vE 9, vE 10, vE 11, vE 12, vE 13, vE 14, vE 15, vE 16, vE 17] := rfl
theorem valE_eq2 : valE = .List [vE 0, vE 1, vE 2, vE 3, vE 4, vE 5, vE 6, vE 7, vE 8, vE 9, vE 10, vE 11, vE 12, vE 13, vE 14, vE 15, vE 16, vE 17] valP := by rw [valE_eq, valL_eq]
/-- each item of a display may stand first -/
def St1 (X : Cx) (e : Expr) : Prop := ∀ es : List Expr, starEach (e :: es) X.env = (false, eval e X.env) :: starEach es X.env
theorem val18 {b : Bs} {X : Cx} {G : List En} {e e0 e1 e2 e3 e4 e5 e6 e7 e8 e9 e10 e11 e12 e13 e14 e15 e16 e17 : Expr} {p : Pos} (he : e = .List [e0, e1, e2, e3, e4, e5, e6, e7, e8, e9, e10, e11, e12, e13, e14, e15, e16, e17] p)
    (h0 : EG b X G e0 ValT ∧ St1 X e0)
    (h1 : EG b X G e1 ValT ∧ St1 X e1)
    (h2 : EG b X G e2 ValT ∧ St1 X e2)
    (h3 : EG b X G e3 ValT ∧ St1 X e3)
    (h4 : EG b X G e4 ValT ∧ St1 X e4)
    (h5 : EG b X G e5 ValT ∧ St1 X e5)
    (h6 : EG b X G e6 ValT ∧ St1 X e6)
    (h7 : EG b X G e7 ValT ∧ St1 X e7)
    (h8 : EG b X G e8 ValT ∧ St1 X e8)
    (h9 : EG b X G e9 ValT ∧ St1 X e9)
    (h10 : EG b X G e10 ValT ∧ St1 X e10)
    (h11 : EG b X G e11 ValT ∧ St1 X e11)
    (h12 : EG b X G e12 ValT ∧ St1 X e12)
    (h13 : EG b X G e13 ValT ∧ St1 X e13)
    (h14 : EG b X G e14 ValT ∧ St1 X e14)
    (h15 : EG b X G e15 ValT ∧ St1 X e15)
    (h16 : EG b X G e16 ValT ∧ St1 X e16)
    (h17 : EG b X G e17 ValT ∧ St1 X e17)
    : EG b X G e (fun t => ∃ ts, t = .lst ts ∧ ts.length = 18 ∧ ∀ u ∈ ts, ValT u) := by
  subst he
  refine eg_fr (P := fun ts => ts.length = 18 ∧ ∀ u ∈ ts, ValT u) (fg_lst ?_ fun ts hts => by rw [hts.1]; decide) fun ts hts => ⟨ts, rfl, hts⟩
  exact ag_val h0.1 (ag_val h1.1 (ag_val h2.1 (ag_val h3.1 (ag_val h4.1 (ag_val h5.1 (ag_val h6.1 (ag_val h7.1 (ag_val h8.1 (ag_val h9.1 (ag_val h10.1 (ag_val h11.1 (ag_val h12.1 (ag_val h13.1 (ag_val h14.1 (ag_val h15.1 (ag_val h16.1 (ag_val h17.1 (ag_val0) (hs := h17.2 _)) (hs := h16.2 _)) (hs := h15.2 _)) (hs := h14.2 _)) (hs := h13.2 _)) (hs := h12.2 _)) (hs := h11.2 _)) (hs := h10.2 _)) (hs := h9.2 _)) (hs := h8.2 _)) (hs := h7.2 _)) (hs := h6.2 _)) (hs := h5.2 _)) (hs := h4.2 _)) (hs := h3.2 _)) (hs := h2.2 _)) (hs := h1.2 _)) (hs := h0.2 _)
theorem set_val {b : Bs} {X : Cx} {D : Ends} {rest : List Stmt} {p1 pos1 p : Pos} {e e0 e1 e2 e3 e4 e5 e6 e7 e8 e9 e10 e11 e12 e13 e14 e15 e16 e17 : Expr} (he : e = .List [e0, e1, e2, e3, e4, e5, e6, e7, e8, e9, e10, e11, e12, e13, e14, e15, e16, e17] p) (hN : X.N.Nodup) (hi : X.N[0]? = some ("_law_some" : Str)) (hx : L2.Loc X.env.scope "_law_some") (hs : swapsWith e (some (.Name "_law_some" p1)) pos1.line X.env = pure false) (hf : X.fn "_law_some" = true ∨ X.env.scope.names.lookup ("_law_some" : Str) = some .local)
    (g0 : EG b X [En.no] e0 ValT ∧ St1 X e0)
    (g1 : EG b X [En.no] e1 ValT ∧ St1 X e1)
    (g2 : EG b X [En.no] e2 ValT ∧ St1 X e2)
    (g3 : EG b X [En.no] e3 ValT ∧ St1 X e3)
    (g4 : EG b X [En.no] e4 ValT ∧ St1 X e4)
    (g5 : EG b X [En.no] e5 ValT ∧ St1 X e5)
    (g6 : EG b X [En.no] e6 ValT ∧ St1 X e6)
    (g7 : EG b X [En.no] e7 ValT ∧ St1 X e7)
    (g8 : EG b X [En.no] e8 ValT ∧ St1 X e8)
    (g9 : EG b X [En.no] e9 ValT ∧ St1 X e9)
    (g10 : EG b X [En.no] e10 ValT ∧ St1 X e10)
    (g11 : EG b X [En.no] e11 ValT ∧ St1 X e11)
    (g12 : EG b X [En.no] e12 ValT ∧ St1 X e12)
    (g13 : EG b X [En.no] e13 ValT ∧ St1 X e13)
    (g14 : EG b X [En.no] e14 ValT ∧ St1 X e14)
    (g15 : EG b X [En.no] e15 ValT ∧ St1 X e15)
    (g16 : EG b X [En.no] e16 ValT ∧ St1 X e16)
    (g17 : EG b X [En.no] e17 ValT ∧ St1 X e17)
    (h : ∀ ts, (ts.length = 18 ∧ ∀ u ∈ ts, ValT u) → WG b X [.sh (.lst ts)] rest D) : WG b X [.no] (.Assign [.Name "_law_some" p1] e pos1 :: rest) D := by
  have he0 := val18 he g0 g1 g2 g3 g4 g5 g6 g7 g8 g9 g10 g11 g12 g13 g14 g15 g16 g17
  clear g0 g1 g2 g3 g4 g5 g6 g7 g8 g9 g10 g11 g12 g13 g14 g15 g16 g17 he
  exact wg_set 0 hN he0 (fun t ⟨ts, e, h1⟩ => by rw [e]; exact h ts h1) (of_decide_eq_true rfl) hi hx hs hf
theorem ok_values {E : Wd} (G : Glo E) (D : Dfn E "_law_values" (top 87) []) (h3 : makesRatio E) {dv : V} (hdv : ∀ H, holdsL E.c [.tup [.int 1]] [dv] H)
    (h1 : E.Mk .F "Fraction" [dv] 42 [.lst [.int 0, .int 1], .tup [.int 1]] (fun a b => ∃ n d, a = .poly n ∧ b = .poly d)) (h2 : E.Mk .F "Fraction" [dv] 42 [.lst [.int 1], .tup [.int 1]] (fun a b => ∃ n d, a = .poly n ∧ b = .poly d)) : E.Fn "_law_values" 44 [] (fun t => ∃ ts, t = .lst ts ∧ ∀ u ∈ ts, ValT u) := by
  refine Wd.fn G D scValues fun f0 cdv A outer s H E0 B Hr hr hp => ?_
  have g0 : EG ⟨E.c, B, Hr, none⟩ (cxB E.P E.w E.c.K E.mg E.base ["_law_some"] "_law_values" (defScope (top 87)) f0 cdv A outer s H E0) [En.no] (vE 0) ValT ∧ St1 (cxB E.P E.w E.c.K E.mg E.base ["_law_some"] "_law_values" (defScope (top 87)) f0 cdv A outer s H E0) (vE 0) := by
    refine ⟨?_, fun es => rfl⟩
    exact eg_non (val_no rfl rfl)
  have g1 : EG ⟨E.c, B, Hr, none⟩ (cxB E.P E.w E.c.K E.mg E.base ["_law_some"] "_law_values" (defScope (top 87)) f0 cdv A outer s H E0) [En.no] (vE 1) ValT ∧ St1 (cxB E.P E.w E.c.K E.mg E.base ["_law_some"] "_law_values" (defScope (top 87)) f0 cdv A outer s H E0) (vE 1) := by
    refine ⟨?_, fun es => rfl⟩
    exact eg_bl (val_no rfl rfl)
  have g2 : EG ⟨E.c, B, Hr, none⟩ (cxB E.P E.w E.c.K E.mg E.base ["_law_some"] "_law_values" (defScope (top 87)) f0 cdv A outer s H E0) [En.no] (vE 2) ValT ∧ St1 (cxB E.P E.w E.c.K E.mg E.base ["_law_some"] "_law_values" (defScope (top 87)) f0 cdv A outer s H E0) (vE 2) := by
    refine ⟨?_, fun es => rfl⟩
    exact eg_bl (val_no rfl rfl)
  have g3 : EG ⟨E.c, B, Hr, none⟩ (cxB E.P E.w E.c.K E.mg E.base ["_law_some"] "_law_values" (defScope (top 87)) f0 cdv A outer s H E0) [En.no] (vE 3) ValT ∧ St1 (cxB E.P E.w E.c.K E.mg E.base ["_law_some"] "_law_values" (defScope (top 87)) f0 cdv A outer s H E0) (vE 3) := by
    refine ⟨?_, fun es => rfl⟩
    exact eg_str (val_str _)
  have g4 : EG ⟨E.c, B, Hr, none⟩ (cxB E.P E.w E.c.K E.mg E.base ["_law_some"] "_law_values" (defScope (top 87)) f0 cdv A outer s H E0) [En.no] (vE 4) ValT ∧ St1 (cxB E.P E.w E.c.K E.mg E.base ["_law_some"] "_law_values" (defScope (top 87)) f0 cdv A outer s H E0) (vE 4) := by
    refine ⟨?_, fun es => rfl⟩
    exact eg_str (val_str _)
  have g5 : EG ⟨E.c, B, Hr, none⟩ (cxB E.P E.w E.c.K E.mg E.base ["_law_some"] "_law_values" (defScope (top 87)) f0 cdv A outer s H E0) [En.no] (vE 5) ValT ∧ St1 (cxB E.P E.w E.c.K E.mg E.base ["_law_some"] "_law_values" (defScope (top 87)) f0 cdv A outer s H E0) (vE 5) := by
    refine ⟨?_, fun es => rfl⟩
    exact eg_str (val_str _)
  have g6 : EG ⟨E.c, B, Hr, none⟩ (cxB E.P E.w E.c.K E.mg E.base ["_law_some"] "_law_values" (defScope (top 87)) f0 cdv A outer s H E0) [En.no] (vE 6) ValT ∧ St1 (cxB E.P E.w E.c.K E.mg E.base ["_law_some"] "_law_values" (defScope (top 87)) f0 cdv A outer s H E0) (vE 6) := by
    refine ⟨?_, fun es => rfl⟩
    exact eg_str (val_str _)
  have g7 : EG ⟨E.c, B, Hr, none⟩ (cxB E.P E.w E.c.K E.mg E.base ["_law_some"] "_law_values" (defScope (top 87)) f0 cdv A outer s H E0) [En.no] (vE 7) ValT ∧ St1 (cxB E.P E.w E.c.K E.mg E.base ["_law_some"] "_law_values" (defScope (top 87)) f0 cdv A outer s H E0) (vE 7) := by
    refine ⟨?_, fun es => rfl⟩
    exact eg_str (val_str _)
  have g8 : EG ⟨E.c, B, Hr, none⟩ (cxB E.P E.w E.c.K E.mg E.base ["_law_some"] "_law_values" (defScope (top 87)) f0 cdv A outer s H E0) [En.no] (vE 8) ValT ∧ St1 (cxB E.P E.w E.c.K E.mg E.base ["_law_some"] "_law_values" (defScope (top 87)) f0 cdv A outer s H E0) (vE 8) := by
    refine ⟨?_, fun es => rfl⟩
    exact eg_fr (P := (· = [])) (fg_lst (ag_nil rfl) fun ts hts => by subst hts; exact of_decide_eq_true rfl) fun ts hts => val_no rfl rfl
  have g9 : EG ⟨E.c, B, Hr, none⟩ (cxB E.P E.w E.c.K E.mg E.base ["_law_some"] "_law_values" (defScope (top 87)) f0 cdv A outer s H E0) [En.no] (vE 9) ValT ∧ St1 (cxB E.P E.w E.c.K E.mg E.base ["_law_some"] "_law_values" (defScope (top 87)) f0 cdv A outer s H E0) (vE 9) := by
    refine ⟨?_, fun es => rfl⟩
    exact eg_fr (P := (· = [T.int 0])) (fg_lst (ag_one (eg_int rfl)) fun ts hts => by subst hts; exact of_decide_eq_true rfl) fun ts hts => val_no rfl rfl
  have g10 : EG ⟨E.c, B, Hr, none⟩ (cxB E.P E.w E.c.K E.mg E.base ["_law_some"] "_law_values" (defScope (top 87)) f0 cdv A outer s H E0) [En.no] (vE 10) ValT ∧ St1 (cxB E.P E.w E.c.K E.mg E.base ["_law_some"] "_law_values" (defScope (top 87)) f0 cdv A outer s H E0) (vE 10) := by
    refine ⟨?_, fun es => rfl⟩
    exact eg_tup (A1 := (· = [T.int 1])) (ag_one (eg_int rfl)) fun ts hts => by subst hts; exact ⟨of_decide_eq_true rfl, val_no rfl rfl⟩
  have g11 : EG ⟨E.c, B, Hr, none⟩ (cxB E.P E.w E.c.K E.mg E.base ["_law_some"] "_law_values" (defScope (top 87)) f0 cdv A outer s H E0) [En.no] (vE 11) ValT ∧ St1 (cxB E.P E.w E.c.K E.mg E.base ["_law_some"] "_law_values" (defScope (top 87)) f0 cdv A outer s H E0) (vE 11) := by
    refine ⟨?_, fun es => rfl⟩
    exact eg_emp (val_no rfl rfl)
  have g12 : EG ⟨E.c, B, Hr, none⟩ (cxB E.P E.w E.c.K E.mg E.base ["_law_some"] "_law_values" (defScope (top 87)) f0 cdv A outer s H E0) [En.no] (vE 12) ValT ∧ St1 (cxB E.P E.w E.c.K E.mg E.base ["_law_some"] "_law_values" (defScope (top 87)) f0 cdv A outer s H E0) (vE 12) := by
    refine ⟨?_, fun es => rfl⟩
    exact eg_int (val_num0 (nt_i 0) (by decide) (by decide))
  have g13 : EG ⟨E.c, B, Hr, none⟩ (cxB E.P E.w E.c.K E.mg E.base ["_law_some"] "_law_values" (defScope (top 87)) f0 cdv A outer s H E0) [En.no] (vE 13) ValT ∧ St1 (cxB E.P E.w E.c.K E.mg E.base ["_law_some"] "_law_values" (defScope (top 87)) f0 cdv A outer s H E0) (vE 13) := by
    refine ⟨?_, fun es => rfl⟩
    exact eg_neg (val_num0 (nt_i (-3)) (by decide) (by decide))
  have g14 : EG ⟨E.c, B, Hr, none⟩ (cxB E.P E.w E.c.K E.mg E.base ["_law_some"] "_law_values" (defScope (top 87)) f0 cdv A outer s H E0) [En.no] (vE 14) ValT ∧ St1 (cxB E.P E.w E.c.K E.mg E.base ["_law_some"] "_law_values" (defScope (top 87)) f0 cdv A outer s H E0) (vE 14) := by
    refine ⟨?_, fun es => rfl⟩
    exact eg_pow (eg_int rfl) (eg_int rfl) ⟨by decide, by decide, by decide⟩ val_ten
  have g15 : EG ⟨E.c, B, Hr, none⟩ (cxB E.P E.w E.c.K E.mg E.base ["_law_some"] "_law_values" (defScope (top 87)) f0 cdv A outer s H E0) [En.no] (vE 15) ValT ∧ St1 (cxB E.P E.w E.c.K E.mg E.base ["_law_some"] "_law_values" (defScope (top 87)) f0 cdv A outer s H E0) (vE 15) := by
    refine ⟨?_, fun es => rfl⟩
    exact eg_rat2 (i := 1) (j := 2) h3 (hr.mono (by decide)) (eg_int rfl) (eg_int rfl) (by decide) (val_num0 (nt_r _) (by decide +kernel) (by decide +kernel))
  have g16 : EG ⟨E.c, B, Hr, none⟩ (cxB E.P E.w E.c.K E.mg E.base ["_law_some"] "_law_values" (defScope (top 87)) f0 cdv A outer s H E0) [En.no] (vE 16) ValT ∧ St1 (cxB E.P E.w E.c.K E.mg E.base ["_law_some"] "_law_values" (defScope (top 87)) f0 cdv A outer s H E0) (vE 16) := by
    refine ⟨?_, fun es => rfl⟩
    exact eg_rat1 (i := -4) h3 (hr.mono (by decide)) (eg_neg rfl) (val_num0 (nt_r _) (by decide +kernel) (by decide +kernel))
  have g17 : EG ⟨E.c, B, Hr, none⟩ (cxB E.P E.w E.c.K E.mg E.base ["_law_some"] "_law_values" (defScope (top 87)) f0 cdv A outer s H E0) [En.no] (vE 17) ValT ∧ St1 (cxB E.P E.w E.c.K E.mg E.base ["_law_some"] "_law_values" (defScope (top 87)) f0 cdv A outer s H E0) (vE 17) := by
    refine ⟨?_, fun es => rfl⟩
    exact eg_fr (P := (· = [T.str "beyond"])) (fg_lst (ag_one (eg_str rfl)) fun ts hts => by subst hts; exact of_decide_eq_true rfl) fun ts hts => val_no rfl rfl
  have hb : ∃ p pos rest, defBody (top 87) = .Assign [.Name "_law_some" p] valE pos :: rest ∧ rest = (defBody (top 87)).drop 1 := ⟨_, _, _, rfl, rfl⟩
  obtain ⟨p1, pos1, rest1, hb1, hb2⟩ := hb
  rw [hb1, hb2]
  clear hb1 hb2
  have hs : swapsWith valE (some (.Name "_law_some" p1)) pos1.line (cxB E.P E.w E.c.K E.mg E.base ["_law_some"] "_law_values" (defScope (top 87)) f0 cdv A outer s H E0).env = pure false := by rfl
  refine @set_val ⟨E.c, B, Hr, none⟩ (cxB E.P E.w E.c.K E.mg E.base ["_law_some"] "_law_values" (defScope (top 87)) f0 cdv A outer s H E0) (fnE ⟨E.c, B, Hr, none⟩ (fun t => ∃ ts, t = .lst ts ∧ ∀ u ∈ ts, ValT u)) ((defBody (top 87)).drop 1) p1 pos1 valP valE (vE 0) (vE 1) (vE 2) (vE 3) (vE 4) (vE 5) (vE 6) (vE 7) (vE 8) (vE 9) (vE 10) (vE 11) (vE 12) (vE 13) (vE 14) (vE 15) (vE 16) (vE 17) ?_ ?_ ?_ ?_ ?_ ?_ ?_ ?_ ?_ ?_ ?_ ?_ ?_ ?_ ?_ ?_ ?_ ?_ ?_ ?_ ?_ ?_ ?_ ?_ ?_
  · exact valE_eq2
  · exact scValues.nd
  · rfl
  · first | exact .inl rfl | exact .inr rfl
  · exact hs
  · first | exact .inl rfl | exact .inr rfl
  · exact g0
  · exact g1
  · exact g2
  · exact g3
  · exact g4
  · exact g5
  · exact g6
  · exact g7
  · exact g8
  · exact g9
  · exact g10
  · exact g11
  · exact g12
  · exact g13
  · exact g14
  · exact g15
  · exact g16
  · exact g17
  rintro ts ⟨hl, hts⟩
  have frac : ∀ {t u : T}, (∃ n d, t = T.poly n ∧ u = T.poly d) → ValT (.obj .F t u) := fun _ => val_no rfl rfl
  refine wg_retq (eg_fr (P := fun vs => ∀ u ∈ vs, ValT u) (fg_catN (ts := ts) (Pb := fun t => ∃ us, t = .lst us ∧ us.length = 3 ∧ ∀ u ∈ us, ValT u) (eg_var 0 rfl rfl) (eg_fr (P := fun ts => ts.length = 3 ∧ ∀ u ∈ ts, ValT u) (fg_lst (ag_val (eg_make (dts := [.tup [.int 1]]) (kn := .F) h1 hr rfl (A1 := (· = [.lst [.int 0, .int 1]])) (ag_one (eg_fr (P := (· = [T.int 0, T.int 1])) (fg_lst (ag_cons (eg_int rfl) (ag_one (eg_int rfl))) fun ts hts => by subst hts; exact of_decide_eq_true rfl) fun ts hts => by rw [hts])) hdv fun ts z => by subst z; exact ⟨rfl, fun t u h => frac h⟩) (ag_val (eg_make (dts := [.tup [.int 1]]) (kn := .F) h2 hr rfl (A1 := (· = [.lst [.int 1]])) (ag_one (eg_fr (P := (· = [T.int 1])) (fg_lst (ag_one (eg_int rfl)) fun ts hts => by subst hts; exact of_decide_eq_true rfl) fun ts hts => by rw [hts])) hdv fun ts z => by subst z; exact ⟨rfl, fun t u h => frac h⟩) (ag_val (eg_tup (A1 := (· = [T.str "beyond"])) (ag_one (eg_str rfl)) fun ts hts => by subst hts; exact ⟨of_decide_eq_true rfl, val_no rfl rfl⟩) ag_val0))) fun ts hts => by rw [hts.1]; decide) fun ts hts => ⟨ts, rfl, hts⟩) fun t ⟨us, h, h1, h2⟩ => ⟨us, h, by omega, fun u hu => by
    rcases List.mem_append.mp hu with h' | h'
    · exact hts u h'
    · exact h2 u h'⟩) fun vs hvs => ⟨vs, rfl, hvs⟩)
/-! ### _law_right -/
theorem scRightL : scOk (top 93) ["_law_pot_here", "_law_value"] ["_law_pot_here"] := ⟨rfl, rfl, rfl, by decide +kernel, rfl, by decide +kernel, by decide +kernel⟩
end My

set_option Elab.async false
set_option linter.all false
set_option maxRecDepth 100000
set_option maxHeartbeats 1000000
/-! LaE: right. -/
namespace My
open PySem L2 PyProof.Rows
section
variable {E : Wd} {b : Bs} {X : Cx} {G : List En} {a : Expr} {p pos : Pos} {Phi : T → Prop}
/-- repr of a worth -/
theorem eg_reprP (h : reprRc E) (hr : Room 39 X.A) {v : Pl} (hv : SzRp v) (ha : EG b X G a (· = plT v)) (hP : Phi (.str (txtP v))) (hg : Gl X "repr") (hm0 : X.mg "repr" = none) (hc : b.c = E.c := by rfl) (hm : X.mg = E.mg := by rfl) (hK : X.K = E.K := by rfl) (hp1 : X.prog = E.P := by rfl) (hw : X.w = E.w := by rfl) (hbs : X.base = E.base := by rfl) (he : starEach [a] X.env = (false, eval a X.env) :: starEach [] X.env := by rfl) : EG b X G (.Call (.Name "repr" p) [a] [] pos) Phi := by
  obtain ⟨cc, B, R, pot⟩ := b
  have hc' : cc = E.c := hc
  subst hc'
  cases v with
  | inf => exact eg_reprS (Nat.le_trans bey_len (by decide)) ha hP hg hm0 he
  | num q =>
    have M : RCal E.P E.w E.K E.mg E.base (E.c.cl .R) 37 (spOf E.c (· = [T.rat q]) fun _ t => t = .str (reprR q)) := h q hv
    rw [← hp1, ← hw, ← hK, ← hm, ← hbs] at M
    exact eg_reprO (kn := .R) M hr rfl (fun r z => z) ha hP hg hm0 he
end
theorem ok_right {E : Wd} (G : Glo E) (C : Cla E) (D : Dfn E "_law_right" (top 93) ["_law_pot_here"]) (h1 : isPlaceF E) (h2 : ∀ t, okT t = true → E.FnK "is_place" 4 ["value"] idV [t] (· = .bl (isPl t))) (h3 : ∀ t, okT t = true → E.Fn "_law_is_place" 1 [t] (· = .bl (isPl t))) (h4 : ∀ (t : T) (p : Pl), PT t p → E.Fn "told_place" 40 [t] (· = plT p)) (h5 : reprRc E) (h6 : makesRatio E) (h7 : addOp E)
    (hv : E.Fn "_law_values" 44 [] (fun t => ∃ ts, t = .lst ts ∧ ∀ u ∈ ts, ValT u)) (hw : E.PtG "_law_worths_right" 47 [] (· = .bl true)) (hru : E.Pt "_law_rules_right" 48 [] (· = .bl true)) : E.PtG "_law_right" 50 [] (· = .bl true) := by
  refine Wd.ptG D scRightL fun f0 cdv A outer s H E0 B Hr q0 hgd hr => ?_
  refine wg_for (P := fun items => ∀ u ∈ items, ValT u) 1 (fun items k G' => ∃ e1, G' = [.pt, e1]) rfl rfl scRightL.nd (ig_lst (Pa := fun t => ∃ ts, t = .lst ts ∧ ∀ u ∈ ts, ValT u) (eg_fn0 hv (hr.mono (by decide)) rfl rfl fun t z => z) fun t z => z) (fun items hi => ⟨_, rfl⟩) (fun items k G' ⟨e1, hG⟩ => by rw [hG]; exact of_decide_eq_true rfl) (fun items hi R' k u G' dn ht ⟨e1, hG⟩ => ?_) (fun items G' hi ⟨e1, hG⟩ => ?_)
  · subst hG
    have V := hi u (List.mem_of_getElem? ht)
    have rp : RpEs E.c (cxB E.P E.w E.c.K E.mg E.base ["_law_pot_here", "_law_value"] "_law_right" (defScope (top 93)) f0 cdv A outer s H E0) 0 [T.bl (isPl u), T.bl (isPl u)] [if isPl u then "True" else "False", if isPl u then "True" else "False"] := .cons (rpe_bl _) (.cons (rpe_bl _) .nil)
    have hlen : (listText [if isPl u then ("True" : Str) else "False", if isPl u then "True" else "False"]).length ≤ sizeLine := by cases isPl u <;> decide +kernel
    generalize hS : listText [if isPl u then ("True" : Str) else "False", if isPl u then "True" else "False"] = S at *
    refine wg_ifF (tg_ne (v := .str S) (w := .str S) (eg_reprL rp hgd (Room.mono hr (by decide)) (by rw [hS]; exact hlen) (by simp) (eg_fr (P := (· = [T.bl (isPl u), T.bl (isPl u)])) (fg_lst (ag_cons (eg_fn (h1 u V.ok) (Room.mono hr (by decide)) rfl (ag_one (eg_var 1 rfl rfl)) rfl fun t z => z) (ag_one (eg_kw1 (h2 u V.ok) (Room.mono hr (by decide)) (eg_var 1 rfl rfl) rfl))) fun ts hts => by subst hts; exact of_decide_eq_true rfl) fun ts hts => by rw [hts]) (by rw [hS]) rfl G.rep) (eg_reprL rp hgd (Room.mono hr (by decide)) (by rw [hS]; exact hlen) (by simp) (eg_fr (P := (· = [T.bl (isPl u), T.bl (isPl u)])) (fg_rep (t := T.bl (isPl u)) (n := 2) (eg_fr (P := (· = [T.bl (isPl u)])) (fg_lst (ag_one (eg_fn (h3 u V.ok) (Room.mono hr (by decide)) rfl (ag_one (eg_var 1 rfl rfl)) rfl fun t z => z)) fun ts hts => by subst hts; exact of_decide_eq_true rfl) fun ts hts => by rw [hts]) (eg_int rfl) (by decide) (by decide) rfl) fun ts hts => by rw [hts]) (by rw [hS]) rfl G.rep) rfl (by rw [decide_eq_true rfl]; rfl)) ?_
    refine wg_ifF (UG.tg (ug_and (Pt := (· = isPl u)) (tg_val (Pa := (· = .bl (isPl u))) (eg_fn (h3 u V.ok) (Room.mono hr (by decide)) rfl (ag_one (eg_var 1 rfl rfl)) rfl fun t z => z) fun t z => ⟨_, z, rfl⟩) (fun z => ?_) fun _ => rfl)) (wg_end ⟨_, rfl⟩)
    obtain ⟨p, hp⟩ := V.pl z.symm
    have hsz : SzRp p := by
      cases p with
      | inf => trivial
      | num q => exact (V.sz q hp).2
    refine ug_and1 (tg_ne (v := .str (txtP p)) (w := .str (txtP p)) (eg_reprP h5 (Room.mono hr (by decide)) hsz (eg_fn (h4 u p hp) (Room.mono hr (by decide)) rfl (ag_one (eg_var 1 rfl rfl)) rfl fun t z => z) rfl rfl G.rep) (eg_reprP h5 (Room.mono hr (by decide)) hsz ?_ rfl rfl G.rep) rfl (by rw [decide_eq_true rfl]; rfl))
    cases p with
    | inf =>
      have hu : u = .str "beyond" := hp
      subst hu
      exact eg_if (Pt := (· = true)) (tg_val (Pa := (· = .bl true)) (eg_isS G C (t := .str "beyond") rfl (eg_var 1 rfl rfl) rfl) fun t z => ⟨_, z, rfl⟩) (fun _ => eg_var 1 rfl rfl) fun z => by cases z
    | num q =>
      have hn : isStrT u = false := by rcases hp with rfl | ⟨n, rfl, _⟩ <;> rfl
      exact eg_if (Pt := (· = false)) (tg_val (Pa := (· = .bl false)) (eg_isS G C V.ok (eg_var 1 rfl rfl) hn) fun t z => ⟨_, z, rfl⟩) (fun z => by cases z) fun _ => eg_addR h7 (Room.mono hr (by decide)) (eg_rat1 h6 (Room.mono hr (by decide)) (eg_int rfl) rfl) (eg_var 1 rfl rfl) hp sz0 (V.sz q hp).1 (by rw [show ((0 : Int) : Rat) + q = q by rw [Rat.intCast_zero, Rat.zero_add]]; rfl)
  · subst hG
    exact wg_retpP 0 rfl rfl (eg_and (d := true) (eg_potG 0 hw hgd (hr.mono (by decide)) rfl rfl) (fun _ => eg_and (d := true) (eg_potG 0 hw hgd (hr.mono (by decide)) rfl rfl) (fun _ => eg_one (eg_pot 0 hru (hr.mono (by decide)) rfl rfl (ag_nil rfl) rfl fun t z => z)) fun z => by cases z) fun z => by cases z)
end My

set_option Elab.async false
set_option linter.all false
set_option maxRecDepth 100000
set_option maxHeartbeats 1000000
/-! LaF: the pot, law. -/
namespace My
open PySem L2 PyProof.Rows
theorem sqL_mono {K : PySem.W.Frag} {H H' : Hp} {a : Addr} {xs : List V} (e : ∀ o, H a = some o → H' a = some o) (h : SqL K H a xs) : SqL K H' a xs := by
  rcases h with (h | ⟨o, h⟩) | h
  · exact .inl (.inl (e _ h))
  · exact .inl (.inr ⟨o, e _ h⟩)
  · exact .inr h
section
variable {b : Bs} {X : Cx} {G : List En} {a c : Expr} {pos p : Pos} {Phi Pa : T → Prop} {l : Addr} {xs : List V}
/-- the script is read where it stands -/
theorem sat_seq {σ : L2.St} {H Hr : Hp} (s : Sat b G σ H Hr) (hp : b.pot = none) (h : SqL X.K b.B l xs) : SqL X.K H l xs := sqL_mono (fun o e => s.bx l o (by rw [hp]; exact fun z => nomatch z) e) h
theorem eg_lenQ (hp : b.pot = none) (h : SqL X.K b.B l xs) (ha : EG b X G a (· = .is (.ref l))) (hg : Gl X "len") (hm : X.mg "len" = none) (hP : Phi (.int (xs.length : Int))) (he : starEach [a] X.env = (false, eval a X.env) :: starEach [] X.env := by rfl) : EG b X G (.Call (.Name "len" p) [a] [] pos) Phi := fun σ H Hr s Q q =>
  we_of (pe_callB call_len_seq hg hm PySem.boot_len (pa_cons pe_self pa_nil he) (he := he)) (ha σ H Hr s _ fun t v H1 Hr1 p1 e1 s1 h1 => by
    subst p1
    exact ⟨l, xs, by rw [holds_is.mp h1], .inl (sat_seq s1 hp h), q (.int (xs.length : Int)) _ H1 Hr1 hP e1 s1 (holds_is.mpr rfl)⟩)
theorem eg_ixQ {n : Int} {v0 : V} (hp : b.pot = none) (h : SqL X.K b.B l xs) (ha : EG b X G a (· = .is (.ref l))) (hi : EG b X G c (· = .int n)) (hx : PlainIx c) (hu : atI xs n = some v0) (hP : Phi (.is v0)) : EG b X G (.Subscript a c pos) Phi := fun σ H Hr s Q q =>
  we_of (pe_ix ix_list pe_self pe_self hx) (we_two ha hi s fun ta tb x y H2 Hr2 p1 p2 e2 s2 h1 h2 => by
    subst p1; subst p2
    exact ⟨l, xs, n, v0, holds_is.mp h1, holds_is.mp h2, sat_seq s2 hp h, hu, q (.is v0) v0 H2 Hr2 hP e2 s2 (holds_is.mpr rfl)⟩)
end
/-- _law_pot's promise: a new pot -/
def spPot (c : Cs) : Sp := fun vs H Q _ => ∃ (a : Addr) (ns : List Int), vs = [.ref a, .int 0] ∧ SqL c.K H a (ns.map V.int) ∧ (∀ z ∈ ns, z.natAbs < 2 ^ 1048577) ∧ ∀ p H', H p = none → Same H H' → PotAt H' p → Q (.ref p) H'
theorem scPot : scOk (top 72) ["_law_script", "_law_k", "_law_cell"] ["_law_script", "_law_k"] := ⟨rfl, rfl, rfl, by decide +kernel, rfl, by decide +kernel, by decide +kernel⟩
/-- where a pot is handed back -/
def potR (B : Hp) : VK := fun v H' => ∃ p, v = .ref p ∧ B p = none ∧ Same B H' ∧ PotAt H' p
theorem wg_retNew {b : Bs} {X : Cx} {G : List En} {e : Expr} {pos : Pos} {rest : List Stmt} {D : Ends} (hp : b.pot = none) (he : FG b X G e (fun ts => ∃ x y : Int, ts = [.int x, .int y] ∧ 0 ≤ x ∧ x.natAbs < 2 ^ 1048577 ∧ 0 ≤ y ∧ y ≤ 2147483587)) (hD : D.rt = potR b.B) : WG b X G (.Return (some e) pos :: rest) D := fun σ H Hr s =>
  wb_of (pss_cons (ps_ret pe_self) pss_self) (he σ H Hr s _ fun ts p vs H1 Hr1 ⟨x, y, hts, x0, x1, y0, y1⟩ e1 s1 h0 h1 h2 h3 h4 _ => by
    subst hts
    obtain ⟨v1, r1, rfl, k1, k2⟩ := holdsL_cons.mp h4
    obtain ⟨v2, r2, rfl, k3, k4⟩ := holdsL_cons.mp k2
    obtain rfl := holdsL_nil.mp k4
    rw [holds_is.mp k1, holds_is.mp k3] at h3
    show D.rt (.ref p) H1
    rw [hD]
    exact ⟨p, rfl, h1, fun a o z => s1.bx a o (by rw [hp]; exact fun z => nomatch z) z, x, y, x0, x1, y0, y1, h3⟩)
theorem ok_lpot {E : Wd} (G : Glo E) (D : Dfn E "_law_pot" (top 72) ["_law_script", "_law_k"]) : ∃ (f : Addr) (fd : FuncData), FnOk E.P E.w E.K E.mg E.base CX0 4 f fd ["_law_script", "_law_k"] (spPot E.c) ∧ E.mg "_law_pot" = some (.ref f) ∧ PySem.W.keepIn E.K (.ref f) = true ∧ Binds E.K fd ["_law_script", "_law_k"] [] := by
  obtain ⟨f, fd, F, hm, hB⟩ := D.ex
  refine ⟨f, fd, F.ok scPot (fun vs H Q E0 h => ?_) (fun cdv A outer s H vs Q E0 hr h => ⟨_, pss_self, ?_⟩), hm, F.kp, hB⟩
  · obtain ⟨a, ns, rfl, _⟩ := h
    rfl
  · obtain ⟨a, ns, rfl, hs, hb, q⟩ := h
    have hbody : WG ⟨E.c, H, fun _ => none, none⟩ (cxB E.P E.w E.c.K E.mg E.base ["_law_script", "_law_k", "_law_cell"] "_law_pot" (defScope (top 72)) f cdv A outer s H E0) (startG 3 [.is (.ref a), .int 0]) (defBody (top 72)) { nx := fun _ _ => False, rt := potR H } := by
      generalize hM : (2 : Nat) ^ 1048577 = M at *
      have hM2 : 1000 < M := by
        rw [← hM]
        exact Nat.lt_of_lt_of_le (show 1000 < 2 ^ 10 by decide) (Nat.pow_le_pow_right (by decide) (by decide))
      refine wg_set 2 scPot.nd (Pa := (· = .int 439)) (eg_add (eg_mul (eg_int rfl) (eg_var 1 rfl rfl) ((sz_small (by decide)).mul (sz_small (by decide))) rfl) (eg_int rfl) rfl) ?_
      rintro t rfl
      have fin : ∀ cell : Int, 0 ≤ cell → cell.natAbs < M → WG ⟨E.c, H, fun _ => none, none⟩ (cxB E.P E.w E.c.K E.mg E.base ["_law_script", "_law_k", "_law_cell"] "_law_pot" (defScope (top 72)) f cdv A outer s H E0) [.sh (.is (.ref a)), .sh (.int 0), .sh (.int cell)] ((defBody (top 72)).drop 2) { nx := fun _ _ => False, rt := potR H } := fun cell c0 c1 => by
        have m1 := Int.emod_nonneg cell (show (2147483549 : Int) ≠ 0 by decide)
        have m2 := Int.emod_lt_of_pos cell (show (0 : Int) < 2147483549 by decide)
        have z1 : (cell % 2147483549).natAbs < 2 ^ 40 := by
          have : (2147483549 : Nat) < 2 ^ 40 := by decide
          omega
        refine wg_retNew rfl (fg_lst (ag_consN (Pa := fun t => ∃ x : Int, t = .int x ∧ 0 ≤ x ∧ x.natAbs < 2 ^ 1048577) (A2 := fun ts => ∃ y : Int, ts = [.int y] ∧ 0 ≤ y ∧ y ≤ 2147483587) (eg_max rfl (eg_int rfl) (eg_sub (eg_var 2 rfl rfl) (eg_pow (eg_int rfl) (eg_int rfl) ⟨by decide, by decide, by decide⟩ rfl) rfl) rfl G.max ⟨_, rfl, by omega, ?_⟩) (ag_consN (Pa := fun t => ∃ y : Int, t = .int y ∧ 0 ≤ y ∧ y ≤ 2147483587) (A2 := fun ts => ts = []) (eg_add (eg_mod (eg_intI (eg_add (eg_add (eg_mul (eg_mod (eg_intI (eg_var 2 rfl rfl) rfl G.int rfl) (eg_int rfl) (by decide) rfl) (eg_int rfl) (mulx_ok z1 (show (48271 : Int).natAbs < 2 ^ 40 by decide) (by decide)) rfl) (eg_mul (eg_int rfl) (eg_var 1 rfl rfl) (mulx_ok (show (5531 : Int).natAbs < 2 ^ 40 by decide) (show (0 : Int).natAbs < 2 ^ 40 by decide) (by decide)) rfl) rfl) (eg_int rfl) rfl) rfl G.int rfl) (eg_int rfl) (by decide) rfl) (eg_int rfl) ⟨_, rfl, ?_, ?_⟩) (ag_nil rfl) fun t ts ⟨y, h, h'⟩ h2 => ⟨y, by rw [h, h2], h'⟩) fun t ts ⟨x, h, h1, h2⟩ ⟨y, k, k'⟩ => ⟨x, y, by rw [h, k], h1, h2, k'⟩) fun ts ⟨x, y, h, _⟩ => by rw [h]; exact of_decide_eq_true rfl) rfl
        · rw [hM]
          have : (0 : Int) ≤ 10 ^ (18 : Int).toNat := by decide
          generalize (10 : Int) ^ (18 : Int).toNat = w at *
          omega
        · have := Int.emod_nonneg (cell % 2147483549 * 48271 + 5531 * 0 + 479) (show (2147483563 : Int) ≠ 0 by decide)
          omega
        · have := Int.emod_lt_of_pos (cell % 2147483549 * 48271 + 5531 * 0 + 479) (show (0 : Int) < 2147483563 by decide)
          omega
      refine wg_if (tg_lt (P := (· = decide (0 < ns.length))) (i := 0) (j := (ns.length : Int)) (eg_var 1 rfl rfl) (eg_lenQ (xs := ns.map V.int) rfl hs (eg_var 0 rfl rfl) rfl G.len (by rw [List.length_map])) (decide_eq_decide.mpr (by omega))) (fun z => ?_) fun z => ?_
      · have hn : 0 < ns.length := of_decide_eq_true z.symm
        refine wg_set 2 scPot.nd (Pa := (· = .int ((ns[0]).natAbs : Int))) (eg_abs (i := ns[0]) (eg_ixQ (n := 0) (v0 := .int ns[0]) rfl hs (eg_var 0 rfl rfl) (eg_var 1 rfl rfl) (fun _ _ => rfl) (by
          unfold atI
          rw [show (0 : Int) = ((0 : Nat) : Int) from rfl, ixN_nat (by simpa using hn)]
          show (ns.map V.int)[0]? = _
          rw [List.getElem?_map, List.getElem?_eq_getElem hn]; rfl) rfl) rfl G.abs rfl) ?_
        rintro t rfl
        exact wg_skip (fin _ (by omega) (by have := hb ns[0] (List.getElem_mem hn); omega))
      · exact wg_skip (fin 439 (by decide) (by show (439 : Int).natAbs < M; omega))
    have hst := start_sat (c := E.c) (N := ["_law_script", "_law_k", "_law_cell"]) (ts := [.is (.ref a), .int 0]) (vs := [.ref a, .int 0]) (H := H) (Hr := fun _ => none) (fun a o z => nomatch z) (holdsL_cons.mpr ⟨_, _, rfl, holds_is.mpr rfl, holdsL_one (holds_is.mpr rfl)⟩) (of_decide_eq_true rfl)
    exact wb_mono (hbody _ H _ hst) (fun σ H' z => z.elim) (fun v H' ⟨p, h1, h2, h3, h4⟩ => by rw [h1]; exact q p H' h2 h3 h4) (fun _ _ z => z) (fun _ _ z => z)
end My

set_option Elab.async false
set_option linter.all false
set_option maxRecDepth 100000
set_option maxHeartbeats 1000000
/-! LaG: law. -/
namespace My
open PySem L2 PyProof.Rows
/-- law's promise -/
def spLaw (c : Cs) : Sp := fun vs H Q _ => ∃ (a : Addr) (ns : List Int), vs = [.ref a] ∧ SqL c.K H a (ns.map V.int) ∧ (∀ z ∈ ns, z.natAbs < 2 ^ 1048577) ∧ ∀ H', Q (.bl true) H'
theorem scLaw : scOk (top 94) ["_law_script"] ["_law_script"] := ⟨rfl, rfl, rfl, by decide +kernel, rfl, by decide +kernel, by decide +kernel⟩
section
variable {X : Cx} {k : Nat} {f : Addr} {fd : FuncData} {ps : List Str} {sp : Sp} {x : Str} {e : Expr} {es : List Expr} {p pos : Pos} {t : TA}
/-- x(..), where no guard is under way -/
theorem pe_callG (F : FnG X.prog X.w X.K X.mg X.base k f fd ps sp) (hgd : X.A.guards = some []) (hr : Room k X.A) (hg : Gl X x) (hm : X.mg x = some (.ref f)) (hk : PySem.W.keepIn X.K (.ref f) = true) (hb : Binds X.K fd ps []) (ha : PA X (e :: es) t)
    (hdb : (x == ("__debug__" : Str)) = false := by decide) (he : starEach (e :: es) X.env = (false, eval e X.env) :: starEach es X.env := by rfl) (hpl : (backTo pos (starEach es X.env)).any (·.1) = false := by rfl) : PE X (.Call (.Name x p) (e :: es) [] pos) (tCall sp [] E0 t) := by
  refine ⟨fun pins s σ H Q I h => ?_⟩
  refine wpAny_Call_Name_kw (ld_glob I hg hm ?_ hdb)
  refine PySem.W.callWith_K (h₀ := X.base) I.ok.mod.kin hk (thn (ha.run pos pins s σ H _ I h) fun us s1 ⟨vs, H1, I1, r, q⟩ => ⟨I1.kIn, ?_⟩) he hpl
  have hl : (us ++ ([] : List Value)).length = ps.length := by rw [List.append_nil, ← r.length]; have := F.len _ _ _ _ q; rwa [List.append_nil] at this
  refine wpAny_call (codeAny_mono (F.run X.A X.stack s1 H1 ⟨us, []⟩ (us ++ []) (vs ++ []) Q E0 hgd hr I1.env0 (hb s1 us I1.kIn hl) (by rw [List.append_nil, List.append_nil]; exact r) q) fun r' s' hq => ?_)
  cases r' with
  | error e => exact False.elim hq
  | ok fl =>
    cases fl with
    | ret u => exact I1.after hq
    | next => exact False.elim hq
    | brk => exact False.elim hq
    | cont => exact False.elim hq
end
theorem ok_law {E : Wd} {f : Addr} {fd : FuncData} (F : Fun E.K "law" "law" (top 94) f fd) (hp : ∃ (f : Addr) (fd : FuncData), FnOk E.P E.w E.K E.mg E.base CX0 4 f fd ["_law_script", "_law_k"] (spPot E.c) ∧ E.mg "_law_pot" = some (.ref f) ∧ PySem.W.keepIn E.K (.ref f) = true ∧ Binds E.K fd ["_law_script", "_law_k"] []) (hr0 : E.PtG "_law_right" 50 [] (· = .bl true)) : FnG E.P E.w E.K E.mg E.base 51 f fd ["_law_script"] (spLaw E.c) := by
  refine fn_ofG F scLaw (fun vs H Q E0 h => ?_) (fun cdv A outer s H vs Q E0 hg hr h => ?_)
  · obtain ⟨a, ns, rfl, _⟩ := h
    rfl
  · obtain ⟨a, ns, rfl, hs, hb, q⟩ := h
    obtain ⟨fp, fdp, Fp, mp, kp, bp⟩ := hp
    obtain ⟨fr, fdr, psr, Fr, mr, kr, br⟩ := hr0.ex
    refine ⟨_, pss_cons (ps_ret (pe_callG (X := cxB E.P E.w E.c.K E.mg E.base ["_law_script"] "law" (defScope (top 94)) f cdv A outer s H E0) Fr hg hr rfl mr kr br (pa_cons (pe_call Fp (hr.mono (by decide)) rfl mp kp bp .nil pass0 (pa_cons (pe_var (i := 0) rfl (.inl rfl) (by decide) (by decide)) (pa_cons pe_int pa_nil rfl) rfl)) pa_nil rfl))) pss_nil, ?_⟩
    refine ⟨.ref a, rfl, a, ns, rfl, hs, hb, fun p H' h1 h2 h3 => ?_⟩
    exact ⟨p, fun _ => none, [], [], rfl, (fun _ _ z => nomatch z), rfl, h3, holdsL_nil.mpr rfl, rfl, fun t v H'' Hr'' ht st hv => by subst ht; rw [holds_is.mp hv]; exact q H''⟩
end My

set_option Elab.async false
set_option linter.all false
set_option maxRecDepth 100000
set_option maxHeartbeats 1000000
/-! LaH: the end of the row. -/
namespace My
open PySem L2 PyProof.Rows PySem.Spec
theorem my_law_call {P : Program} {w : World} {K : PySem.W.Frag} {mg mb : Str → Option Value} {k : Nat} {fa a : Addr} {fd : FuncData} {x : Str} {sp : Sp} {s₁ : Shared} {vs : List Value} {ns : List Int}
    (KX : K.In s₁.heap) (hns : s₁.heap.Ns mainGlobals mg) (hb : s₁.heap.Ns builtinsNs mb) (hbb : ∀ x : Str, x ≠ "__name__" → mb x = bootBuiltins x) (hlim : s₁.heap.NoLimit) (hse : s₁.heap.NoSeer) (hg : s₁.gens = #[])
    (ha : s₁.heap.get? a = some { cls := .type "list", data := .seq vs.toArray }) (hi : IntsAre vs ns) (hl : ns.length ≤ sizeLine) (hr : Room k callerA)
    (F : ∀ base : Heap, K.In base → base.Ns mainGlobals mg → base.NoSeer → FnG P w K mg base k fa fd [x] sp) (hbind : ∀ (s : Shared) (u : Value), BindsTo s fd ⟨[u], []⟩ [(x, u)])
    (hsp : ∀ H : Hp, Only H → SqL K H a (ns.map V.int) → sp [.ref a] H (fun v _ => v = .bl true) fun _ _ _ => False) :
    codeAny (model P w) callerA (.call (.ref fa) ⟨[.ref a], []⟩) (fun r s' => r = .ok (.ret (.bool true)) ∧ OldK s₁.heap s'.heap ∧ s'.os = s₁.os ∧ AllBare s'.gens) s₁ := by
  have rv := vals_ints hi
  have lenV := hi.length
  have core : ∀ H : Hp, Only H → SqL K H a (ns.map V.int) → HOk P w H s₁.heap → (∀ b, H b ≠ none → b = a) → (H a ≠ none → K.lookup a = none) →
      codeAny (model P w) callerA (.call (.ref fa) ⟨[.ref a], []⟩) (fun r s' => r = .ok (.ret (.bool true)) ∧ OldK s₁.heap s'.heap ∧ s'.os = s₁.os ∧ AllBare s'.gens) s₁ := by
    intro H hO hS hok hA hK
    have base_of : ∀ {b : Addr} {o : Obj}, s₁.heap.get? b = some o → H b = none → (hidT s₁.heap H).get? b = some o := fun e n => hidT_get e n
    have noA : ∀ {b : Addr} {o : Obj} {es : Array DictEntry} {ep : Nat}, s₁.heap.get? b = some o → o.data = .dict es ep → H b = none := fun {b o es ep} e d => by
      cases q : H b with
      | none => rfl
      | some u =>
        have e' : b = a := hA b (by rw [q]; simp)
        subst e'
        rw [ha] at e; cases e
        have d' : Data.seq vs.toArray _ = Data.dict es ep := d
        cases d'
    have noM : ∀ {b : Addr} {o : Obj}, s₁.heap.get? b = some o → o.cls = .type "module" → H b = none := fun {b o} e d => by
      cases q : H b with
      | none => rfl
      | some u =>
        have e' : b = a := hA b (by rw [q]; simp)
        subst e'
        rw [ha] at e; cases e
        have d2 : Value.type "list" = Value.type "module" := d
        exact absurd d2 (by decide)
    have nsK : ∀ {b : Addr} {m : Str → Option Value}, s₁.heap.Ns b m → (hidT s₁.heap H).Ns b m := fun {b m} ⟨o, es, ep, e, d, r⟩ => ⟨o, es, ep, base_of e (noA e d), d, r⟩
    have hKb : K.In (hidT s₁.heap H) := fun b o e => base_of (KX b o e) (by
      cases q : H b with
      | none => rfl
      | some u =>
        have e' : b = a := hA b (by rw [q]; simp)
        subst e'
        rw [hK (by rw [q]; simp)] at e; cases e)
    have hM : Mod K mg (hidT s₁.heap H) := ⟨hKb, nsK hns, ⟨mb, nsK hb, hbb⟩, let ⟨mc, h1, h2⟩ := hlim; ⟨mc, nsK h1, h2⟩⟩
    have hSe : (hidT s₁.heap H).NoSeer := ⟨let ⟨mc, h1, h2⟩ := hse.statics; ⟨mc, nsK h1, h2⟩, let ⟨mc, h1, h2⟩ := hse.mods; ⟨mc, nsK h1, h2⟩, let ⟨mc, h1, h2⟩ := hse.imp; ⟨mc, nsK h1, h2⟩, let ⟨m1, bm, ob, h1, h2, h3, h4, h5⟩ := hse.main; ⟨m1, bm, ob, nsK h1, h2, base_of h3 (noM h3 h4), h4, h5⟩⟩
    have e0 : Env0 P w K mg (hidT s₁.heap H) callerA [] s₁ H := ⟨rfl, hM, fun b o e => of_hidT e, Nat.le_of_eq (hidT_size _ _), trivial, fun b hb => absurd (show b ∈ ([] : List Addr) from hb) (by simp), hok, .of_eq hg⟩
    refine codeAny_mono ((F _ hKb (nsK hns) hSe).run callerA [] s₁ H ⟨[.ref a], []⟩ [.ref a] [.ref a] _ _ rfl hr e0 (hbind s₁ (.ref a)) (.cons rfl .nil) (hsp H hO hS)) fun r s' h => ?_
    cases r with
    | error e => exact False.elim h
    | ok fl =>
      cases fl with
      | next => exact False.elim h
      | brk => exact False.elim h
      | cont => exact False.elim h
      | ret u =>
        obtain ⟨v, H', os, bare, un, hok', r', q⟩ := h
        have q' : v = .bl true := q
        subst q'
        obtain rfl : u = Value.bool true := r'
        refine ⟨rfl, OldK.of_keep fun b o e => ?_, os, bare⟩
        cases q : H b with
        | none => exact un.keep b o e q (by intro z; exact absurd (show b ∈ ([] : List Addr) from z) (by simp)) (by simp)
        | some u =>
          rcases hO b with z | ⟨ob, xs, z⟩
          · rw [q] at z; cases z
          · have z2 := un.frzs b ob _ z
            obtain ⟨e1, _⟩ := hok b _ z
            obtain ⟨e2, _⟩ := hok' b _ z2
            rw [e] at e1; cases e1
            exact e2
  cases hk : K.lookup a with
  | some o =>
    have e := KX a o hk
    rw [ha] at e
    cases e
    refine core (fun _ => none) (fun _ => .inl rfl) (.inr ⟨_, vs.toArray, _, hk, rfl, rfl, rfl, by rw [List.size_toArray, lenV]; exact hl, by simpa using rv⟩) (fun b u z => by have z' : (none : Option HO) = some u := z; cases z') (fun b z => absurd rfl z) fun z => absurd rfl z
  | none =>
    refine core (fun b => if b = a then some (.frz { cls := .type "list", data := .seq vs.toArray } (.lst (ns.map V.int))) else none) (fun b => ?_) (.inl (.inr ⟨{ cls := .type "list", data := .seq vs.toArray }, if_pos rfl⟩)) (fun b u z => ?_) (fun b z => ?_) fun _ => hk
    · by_cases hb : b = a
      · exact .inr ⟨_, _, if_pos hb⟩
      · exact .inl (if_neg hb)
    · by_cases hb : b = a
      · have z' := (if_pos hb).symm.trans z
        cases z'
        subst hb
        exact ⟨ha, by rw [List.length_map]; exact hl, vs, _, rv, ha⟩
      · have z' := (if_neg hb).symm.trans z
        cases z'
    · by_cases hb : b = a
      · exact hb
      · exact absurd (if_neg hb) z
end My

set_option Elab.async false
set_option linter.all false
set_option maxRecDepth 100000
set_option maxHeartbeats 1000000
/-! LaI: the row's end from law's promise. -/
namespace My
open PySem L2 PyProof.Rows PySem.Spec
theorem my_walk {l : PySem.W.OpenLaw} {n k : Nat} {q : Program} {loose : List Str} {XP : (Str → Option Value) → Heap → Prop} {YP : World → Heap → Prop} {d : DefRec} {K : Params → PySem.W.Frag} {sp : World → Sp} {x : Str}
    (hn : l.most = some n) (hn2 : n ≤ sizeLine) (hdf : d.params.defaults = []) (hr : Room k callerA) (hi : importsNone q = true)
    (hY : ∀ (w : World) (h : Heap), YP w h → (K w.params).In h)
    (F : ∀ (w : World) (mg : Str → Option Value) (fa : Addr) (h : Heap), (K w.params).In h → h.Ns mainGlobals mg → mg d.name = some (.ref fa) →
      ∃ fd : FuncData, (∀ (s : Shared) (u : Value), BindsTo s fd ⟨[u], []⟩ [(x, u)]) ∧
        ∀ base : Heap, (K w.params).In base → base.Ns mainGlobals mg → base.NoSeer → FnG l.prog w (K w.params) mg base k fa fd [x] (sp w))
    (hsp : ∀ (w : World) (H : Hp) (a : Addr) (ns : List Int), (∀ z ∈ ns, Builtin.Int.intBits z ≤ 1048576) → SqL (K w.params) H a (ns.map V.int) → sp w [.ref a] H (fun v _ => v = .bl true) fun _ _ _ => False) :
    PySem.W.WalkO q loose XP YP l.row.toRowW d [] (fun f vs => PySem.call f vs) := by
  refine Att.attach_callB hn hdf fun w s₀ s₁ mg mb fa o pm cd doc a vs ns G Y ho hd hcd hmg hobj hints hlen hbits hg => ?_
  have KX := hY w _ Y
  obtain ⟨fd, hb, hF⟩ := F w mg fa _ KX G.T.g hmg
  exact my_law_call KX G.T.g G.T.b G.T.builtins G.T.nolimit (G.T.seer hi) hg hobj hints (Nat.le_trans hlen hn2) hr hF hb (fun H hO hS => hsp w H a ns hbits hS)
end My

set_option Elab.async false
set_option linter.all false
set_option maxHeartbeats 1000000
/-! M1: polynomials as lists of Rats: evaluation, when equal. -/
namespace My
/-- f at x -/
def ev : List Rat → Rat → Rat
  | [], _ => 0
  | c :: f, x => c + x * ev f x
theorem ev_add : ∀ (f g : List Rat) (x : Rat), ev (addL f g) x = ev f x + ev g x
  | [], g, x => by show ev g x = 0 + ev g x; grind
  | a :: f, [], x => by show ev (a :: f) x = ev (a :: f) x + 0; grind
  | a :: f, b :: g, x => by
    show (a + b) + x * ev (addL f g) x = (a + x * ev f x) + (b + x * ev g x)
    rw [ev_add f g x]; grind
theorem ev_scale (c : Rat) : ∀ (f : List Rat) (x : Rat), ev (f.map (· * c)) x = ev f x * c
  | [], x => by show (0 : Rat) = 0 * c; grind
  | a :: f, x => by
    show a * c + x * ev (f.map (· * c)) x = (a + x * ev f x) * c
    rw [ev_scale c f x]; grind
theorem ev_trim : ∀ (f : List Rat) (x : Rat), ev (trimF f) x = ev f x
  | [], x => rfl
  | a :: f, x => by
    unfold trimF
    rw [trimZ_cons]
    have ih := ev_trim f x
    unfold trimF at ih
    split
    · rename_i h
      rw [Bool.and_eq_true, List.isEmpty_iff] at h
      have ha : a = 0 := of_decide_eq_true h.2
      rw [h.1] at ih
      show (0 : Rat) = a + x * ev f x
      rw [← ih, ha]
      show (0 : Rat) = 0 + x * 0
      grind
    · show a + x * ev (trimZ _ f) x = a + x * ev f x
      rw [ih]
/-- the last is not nought -/
def Tr (f : List Rat) : Prop := f ≠ [] → f.getD (f.length - 1) 0 ≠ 0
theorem last_cons {c : Rat} {g : List Rat} (h : g ≠ []) : (c :: g).getD ((c :: g).length - 1) 0 = g.getD (g.length - 1) 0 := by
  have hp := List.length_pos_iff.mpr h
  rw [List.length_cons, show g.length + 1 - 1 = (g.length - 1) + 1 by omega]
  rfl
/-- far out f is away from nought -/
theorem far_out : ∀ (f : List Rat), f ≠ [] → f.getD (f.length - 1) 0 ≠ 0 → ∃ M d : Rat, 0 < d ∧ ∀ x : Rat, M ≤ x → d ≤ ev f x ∨ ev f x ≤ -d
  | [], h, _ => absurd rfl h
  | [c], _, h => by
    have hc : c ≠ 0 := h
    refine ⟨0, if 0 < c then c else -c, ?_, fun x _ => ?_⟩
    · split
      · assumption
      · grind
    · show (if 0 < c then c else -c) ≤ c + x * 0 ∨ c + x * 0 ≤ -(if 0 < c then c else -c)
      split
      · left; grind
      · right; grind
  | c :: b :: g, _, h => by
    rw [last_cons (by simp)] at h
    obtain ⟨M, d, hd, hM⟩ := far_out (b :: g) (by simp) h
    let K : Rat := if 0 ≤ c then c else -c
    have hK : -K ≤ c ∧ c ≤ K := by
      show -(if 0 ≤ c then c else -c) ≤ c ∧ c ≤ (if 0 ≤ c then c else -c)
      split <;> constructor <;> grind
    have hK0 : 0 ≤ K := by
      show 0 ≤ (if 0 ≤ c then c else -c)
      split <;> grind
    generalize K = K at hK hK0
    let T : Rat := (d + K) / d
    have hT : T * d = d + K := Rat.div_mul_cancel (by grind)
    have hT0 : 0 ≤ T := by
      rcases Rat.le_total (a := 0) (b := T) with z | z
      · exact z
      · have := Rat.mul_le_mul_of_nonneg_right z (show 0 ≤ d by grind)
        grind
    generalize T = T at hT hT0
    refine ⟨max M T, d, hd, fun x hx => ?_⟩
    have h1 : M ≤ x := by grind
    have h2 : T ≤ x := by grind
    have hx0 : 0 ≤ x := by grind
    have h3 := Rat.mul_le_mul_of_nonneg_right h2 (show 0 ≤ d by grind)
    show d ≤ c + x * ev (b :: g) x ∨ c + x * ev (b :: g) x ≤ -d
    rcases hM x h1 with h4 | h4
    · left
      have := Rat.mul_le_mul_of_nonneg_left h4 hx0
      grind
    · right
      have := Rat.mul_le_mul_of_nonneg_left h4 hx0
      grind
theorem tr_trim (f : List Rat) : Tr (trimF f) := fun h => by
  obtain ⟨c, e1, e2⟩ := trimZ_last (z := fun q : Rat => decide (q = 0)) (f := f) h
  show (trimZ _ f).getD _ 0 ≠ 0
  rw [List.getD_eq_getElem?_getD, e1]
  exact of_decide_eq_false e2
theorem tr_nil : Tr [] := fun h => absurd rfl h
theorem tr_tail {a : Rat} {f : List Rat} (h : Tr (a :: f)) : Tr f := fun h0 => by
  have := h (by simp)
  rwa [last_cons h0] at this
/-- from some x on -/
def Evt (P : Rat → Prop) : Prop := ∃ N : Rat, ∀ x, N ≤ x → P x
theorem Evt.and {P Q : Rat → Prop} (h : Evt P) (g : Evt Q) : Evt fun x => P x ∧ Q x := by
  obtain ⟨N, h⟩ := h
  obtain ⟨M, g⟩ := g
  exact ⟨max N M, fun x hx => ⟨h x (by grind), g x (by grind)⟩⟩
theorem Evt.imp {P Q : Rat → Prop} (h : Evt P) (i : ∀ x, P x → Q x) : Evt Q := let ⟨N, h⟩ := h; ⟨N, fun x hx => i x (h x hx)⟩
theorem Evt.of {P : Rat → Prop} (h : ∀ x, P x) : Evt P := ⟨0, fun x _ => h x⟩
theorem Evt.get {P : Rat → Prop} (h : Evt P) : ∃ x, P x := let ⟨N, h⟩ := h; ⟨N, h N Rat.le_refl⟩
theorem evt_ne {f : List Rat} (h : Tr f) (h0 : f ≠ []) : Evt fun x => ev f x ≠ 0 := by
  obtain ⟨M, d, hd, hM⟩ := far_out f h0 (h h0)
  exact ⟨M, fun x hx z => by rcases hM x hx with q | q <;> grind⟩
theorem ev_zero {f : List Rat} (h : Tr f) (hz : Evt fun x => ev f x = 0) : f = [] := Classical.byContradiction fun h0 => by
  obtain ⟨x, h1, h2⟩ := ((evt_ne h h0).and hz).get
  exact h1 h2
theorem ev_eq_of {f g : List Rat} (hz : Evt fun x => ev f x = ev g x) (x : Rat) : ev f x = ev g x := by
  have h : trimF (addL f (g.map (· * (-1)))) = [] := ev_zero (tr_trim _) (hz.imp fun y hy => by rw [ev_trim, ev_add, ev_scale, hy]; grind)
  have := ev_trim (addL f (g.map (· * (-1)))) x
  rw [h, ev_add, ev_scale] at this
  have z : ev [] x = 0 := rfl
  rw [z] at this
  grind
theorem ev_inj : ∀ {f g : List Rat}, Tr f → Tr g → (Evt fun x => ev f x = ev g x) → f = g
  | [], g, _, hg, h => (ev_zero hg (h.imp fun x hx => hx.symm)).symm
  | a :: f, [], hf, _, h => ev_zero hf h
  | a :: f, b :: g, hf, hg, h => by
    have all := ev_eq_of h
    have e0 : a = b := by
      have := all 0
      show a = b
      have h1 : a + 0 * ev f 0 = b + 0 * ev g 0 := this
      grind
    have e1 : f = g := ev_inj (tr_tail hf) (tr_tail hg) ⟨1, fun x hx => by
      have h1 : a + x * ev f x = b + x * ev g x := all x
      have h2 : x * (ev f x - ev g x) = 0 := by grind
      rcases Rat.mul_eq_zero.mp h2 with z | z
      · grind
      · grind⟩
    rw [e0, e1]
end My

set_option Elab.async false
set_option linter.all false
set_option maxHeartbeats 1000000
/-! M2: functions of polynomials, products, what is coprime. -/
namespace My
/-- a polynomial's function -/
def Pf (p : Rat → Rat) : Prop := ∃ f : List Rat, ∀ x, ev f x = p x
theorem pf_ev (f : List Rat) : Pf (ev f) := ⟨f, fun _ => rfl⟩
theorem pf_const (c : Rat) : Pf fun _ => c := ⟨[c], fun x => by show c + x * 0 = c; grind⟩
def mulL : List Rat → List Rat → List Rat
  | [], _ => []
  | a :: f, g => addL (g.map (· * a)) (0 :: mulL f g)
theorem ev_mulL : ∀ (f g : List Rat) (x : Rat), ev (mulL f g) x = ev f x * ev g x
  | [], g, x => by show (0 : Rat) = 0 * ev g x; grind
  | a :: f, g, x => by
    show ev (addL _ _) x = (a + x * ev f x) * ev g x
    rw [ev_add, ev_scale]
    show ev g x * a + (0 + x * ev (mulL f g) x) = _
    rw [ev_mulL f g x]; grind
theorem pf_add {p q : Rat → Rat} (h : Pf p) (g : Pf q) : Pf fun x => p x + q x := by
  obtain ⟨f, h⟩ := h
  obtain ⟨k, g⟩ := g
  exact ⟨addL f k, fun x => by rw [ev_add, h, g]⟩
theorem pf_mul {p q : Rat → Rat} (h : Pf p) (g : Pf q) : Pf fun x => p x * q x := by
  obtain ⟨f, h⟩ := h
  obtain ⟨k, g⟩ := g
  exact ⟨mulL f k, fun x => by rw [ev_mulL, h, g]⟩
theorem pf_scale {p : Rat → Rat} (c : Rat) (h : Pf p) : Pf fun x => c * p x := pf_mul (pf_const c) h
theorem pf_sub {p q : Rat → Rat} (h : Pf p) (g : Pf q) : Pf fun x => p x - q x := by
  have := pf_add h (pf_scale (-1) g)
  obtain ⟨f, k⟩ := this
  exact ⟨f, fun x => by rw [k]; grind⟩
theorem Pf.of {p q : Rat → Rat} (h : Pf p) (e : ∀ x, p x = q x) : Pf q := let ⟨f, h⟩ := h; ⟨f, fun x => by rw [h, e]⟩
theorem pf_rep {p : Rat → Rat} (h : Pf p) : ∃ f, Tr f ∧ ∀ x, ev f x = p x := let ⟨f, h⟩ := h; ⟨trimF f, tr_trim f, fun x => by rw [ev_trim, h]⟩
theorem pf_eq {p q : Rat → Rat} (h : Pf p) (g : Pf q) (e : Evt fun x => p x = q x) : ∀ x, p x = q x := by
  obtain ⟨f, h⟩ := h
  obtain ⟨k, g⟩ := g
  intro x
  rw [← h, ← g]
  exact ev_eq_of (e.imp fun y hy => by rw [h, g]; exact hy) x
theorem pf_ne {p : Rat → Rat} (h : Pf p) (x0 : Rat) (h0 : p x0 ≠ 0) : Evt fun x => p x ≠ 0 := by
  obtain ⟨f, t, h⟩ := pf_rep h
  have hf : f ≠ [] := fun z => by
    subst z
    have : ev [] x0 = p x0 := h x0
    exact h0 (this ▸ rfl)
  exact (evt_ne t hf).imp fun x hx => by rw [← h]; exact hx
theorem pf_cancel {p q r : Rat → Rat} (hp : Pf p) (hq : Pf q) (hr : Evt fun x => r x ≠ 0) (e : ∀ x, r x * p x = r x * q x) : ∀ x, p x = q x :=
  pf_eq hp hq (hr.imp fun x hx => by
    have := e x
    have h2 : r x * (p x - q x) = 0 := by grind
    rcases Rat.mul_eq_zero.mp h2 with z | z
    · exact absurd z hx
    · grind)
/-- f of two numbers or more grows -/
theorem far_out2 {c : Rat} {g : List Rat} (h : Tr (c :: g)) (h0 : g ≠ []) (B : Rat) : Evt fun x => B ≤ ev (c :: g) x ∨ ev (c :: g) x ≤ -B := by
  obtain ⟨M, d, hd, hM⟩ := far_out g h0 (tr_tail h h0)
  let K : Rat := if 0 ≤ c then c else -c
  have hK : -K ≤ c ∧ c ≤ K := by
    show -(if 0 ≤ c then c else -c) ≤ c ∧ c ≤ (if 0 ≤ c then c else -c)
    split <;> constructor <;> grind
  generalize K = K at hK
  let T : Rat := (B + K) / d
  have hT : T * d = B + K := Rat.div_mul_cancel (by grind)
  generalize T = T at hT
  refine ⟨max (max M T) 0, fun x hx => ?_⟩
  have h1 : M ≤ x := by grind
  have h2 : T ≤ x := by grind
  have hx0 : 0 ≤ x := by grind
  have h3 := Rat.mul_le_mul_of_nonneg_right h2 (show 0 ≤ d by grind)
  show B ≤ c + x * ev g x ∨ c + x * ev g x ≤ -B
  rcases hM x h1 with h4 | h4
  · left
    have := Rat.mul_le_mul_of_nonneg_left h4 hx0
    grind
  · right
    have := Rat.mul_le_mul_of_nonneg_left h4 hx0
    grind
/-- what divides 1 is a number -/
theorem unit_const {p q : Rat → Rat} (hp : Pf p) (hq : Pf q) (h : ∀ x, p x * q x = 1) : ∃ c, c ≠ 0 ∧ ∀ x, p x = c := by
  obtain ⟨f, tf, ef⟩ := pf_rep hp
  obtain ⟨g, tg, eg⟩ := pf_rep hq
  have hg : g ≠ [] := fun z => by
    subst z
    have h1 : ev [] 0 = q 0 := eg 0
    have h2 : (0 : Rat) = q 0 := h1
    have := h 0
    rw [← h2] at this
    grind
  match f, tf, ef with
  | [], _, ef =>
    have h1 : (0 : Rat) = p 0 := ef 0
    have := h 0
    rw [← h1] at this
    grind
  | [c], _, ef =>
    have hc : ∀ x, p x = c := fun x => by rw [← ef x]; show c + x * 0 = c; grind
    refine ⟨c, fun z => ?_, hc⟩
    have := h 0
    rw [hc, z] at this
    grind
  | c :: b :: k, tf, ef =>
    obtain ⟨M, d, hd, hM⟩ := far_out g hg (tg hg)
    let B : Rat := 2 / d
    have hB : B * d = 2 := Rat.div_mul_cancel (by grind)
    have hB0 : 0 ≤ B := by
      rcases Rat.le_total (a := 0) (b := B) with z | z
      · exact z
      · have := Rat.mul_le_mul_of_nonneg_right z (show 0 ≤ d by grind)
        grind
    generalize B = B at hB hB0
    obtain ⟨x, h1, h2⟩ := ((far_out2 tf (by simp) B).and ⟨M, hM⟩).get
    rw [ef] at h1
    rw [eg] at h2
    have e := h x
    exfalso
    rcases h1 with h1 | h1 <;> rcases h2 with h2 | h2
    · have a1 := Rat.mul_nonneg (show 0 ≤ p x - B by grind) (show 0 ≤ q x - d by grind)
      have a2 := Rat.mul_nonneg (show 0 ≤ p x - B by grind) (show 0 ≤ d by grind)
      have a3 := Rat.mul_nonneg hB0 (show 0 ≤ q x - d by grind)
      grind
    · have a1 := Rat.mul_nonneg (show 0 ≤ p x - B by grind) (show 0 ≤ -d - q x by grind)
      have a2 := Rat.mul_nonneg (show 0 ≤ p x - B by grind) (show 0 ≤ d by grind)
      have a3 := Rat.mul_nonneg hB0 (show 0 ≤ -d - q x by grind)
      grind
    · have a1 := Rat.mul_nonneg (show 0 ≤ -B - p x by grind) (show 0 ≤ q x - d by grind)
      have a2 := Rat.mul_nonneg (show 0 ≤ -B - p x by grind) (show 0 ≤ d by grind)
      have a3 := Rat.mul_nonneg hB0 (show 0 ≤ q x - d by grind)
      grind
    · have a1 := Rat.mul_nonneg (show 0 ≤ -B - p x by grind) (show 0 ≤ -d - q x by grind)
      have a2 := Rat.mul_nonneg (show 0 ≤ -B - p x by grind) (show 0 ≤ d by grind)
      have a3 := Rat.mul_nonneg hB0 (show 0 ≤ -d - q x by grind)
      grind
/-! ### coprime pairs -/
def Cop (n d : List Rat) : Prop := ∃ u v, Pf u ∧ Pf v ∧ ∀ x, u x * ev n x + v x * ev d x = 1
theorem lastD_map (f : List Rat) (c : Rat) : lastD (f.map (· * c)) = lastD f * c := by
  unfold lastD
  rw [List.length_map, List.getD_eq_getElem?_getD, List.getElem?_map, List.getD_eq_getElem?_getD]
  cases f[f.length - 1]? with
  | none => show (0 : Rat) = 0 * c; grind
  | some a => rfl
theorem tr_scale {f : List Rat} {c : Rat} (h : Tr f) (hc : c ≠ 0) : Tr (f.map (· * c)) := fun h0 => by
  have h1 : f ≠ [] := fun z => by subst z; exact h0 rfl
  have := lastD_map f c
  unfold lastD at this
  rw [this]
  intro z
  rcases Rat.mul_eq_zero.mp z with z | z
  · exact h h1 z
  · exact hc z
theorem ne_of_lastD {d : List Rat} (h : lastD d ≠ 0) : d ≠ [] := fun z => by subst z; exact h rfl
theorem tr_of {d : List Rat} (h : lastD d ≠ 0) : Tr d := fun _ => h
theorem evt_of_last {d : List Rat} (h : lastD d ≠ 0) : Evt fun x => ev d x ≠ 0 := evt_ne (tr_of h) (ne_of_lastD h)
theorem cop_div {n d n' d' : List Rat} (c : Cop n d) (h : ∀ x, ev n x * ev d' x = ev n' x * ev d x) : ∃ w, Pf w ∧ ∀ x, ev d' x = ev d x * w x := by
  obtain ⟨u, v, hu, hv, e⟩ := c
  refine ⟨fun x => u x * ev n' x + v x * ev d' x, pf_add (pf_mul hu (pf_ev _)) (pf_mul hv (pf_ev _)), fun x => ?_⟩
  have h1 := h x
  have h2 := e x
  grind
theorem cop_uniq {n d n' d' : List Rat} (c : Cop n d) (c' : Cop n' d') (tn : Tr n) (tn' : Tr n') (m : lastD d = 1) (m' : lastD d' = 1) (h : ∀ x, ev n x * ev d' x = ev n' x * ev d x) : n = n' ∧ d = d' := by
  have l0 : lastD d ≠ 0 := by rw [m]; decide
  have l0' : lastD d' ≠ 0 := by rw [m']; decide
  obtain ⟨w, hw, e1⟩ := cop_div c h
  obtain ⟨w', hw', e2⟩ := cop_div c' fun x => (h x).symm
  have e3 : ∀ x, w x * w' x = 1 := pf_cancel (pf_mul hw hw') (pf_const 1) (evt_of_last l0) fun x => by
    have := e1 x
    have := e2 x
    grind
  obtain ⟨k, hk, e4⟩ := unit_const hw hw' e3
  have ed : d' = d.map (· * k) := ev_inj (tr_of l0') (tr_scale (tr_of l0) hk) (Evt.of fun x => by rw [ev_scale, e1, e4])
  have k1 : k = 1 := by
    have : lastD d' = lastD d * k := by rw [ed, lastD_map]
    rw [m, m'] at this
    grind
  have dd : d = d' := ev_inj (tr_of l0) (tr_of l0') (Evt.of fun x => by rw [e1, e4, k1]; grind)
  refine ⟨ev_inj tn tn' ((evt_of_last l0).imp fun x hx => ?_), dd⟩
  have h1 := h x
  rw [← dd] at h1
  have h2 : ev d x * (ev n x - ev n' x) = 0 := by grind
  rcases Rat.mul_eq_zero.mp h2 with z | z
  · exact absurd z hx
  · grind
/-! ### what two polys have in common -/
structure Idl (f g near far : List Rat) : Prop where
  a : ∃ u v, Pf u ∧ Pf v ∧ ∀ x, ev near x = u x * ev f x + v x * ev g x
  b : ∃ u v, Pf u ∧ Pf v ∧ ∀ x, ev far x = u x * ev f x + v x * ev g x
  c : ∃ u v, Pf u ∧ Pf v ∧ ∀ x, ev f x = u x * ev near x + v x * ev far x
  d : ∃ u v, Pf u ∧ Pf v ∧ ∀ x, ev g x = u x * ev near x + v x * ev far x
theorem Idl.refl (f g : List Rat) : Idl f g f g :=
  ⟨⟨_, _, pf_const 1, pf_const 0, fun x => by grind⟩, ⟨_, _, pf_const 0, pf_const 1, fun x => by grind⟩, ⟨_, _, pf_const 1, pf_const 0, fun x => by grind⟩, ⟨_, _, pf_const 0, pf_const 1, fun x => by grind⟩⟩
/-- near is q times far and r times c -/
theorem Idl.step {f g near far r : List Rat} {q : Rat → Rat} {c h : Rat} (I : Idl f g near far) (hq : Pf q) (hc : c ≠ 0) (hh : h ≠ 0) (e : ∀ x, h * ev near x = q x * ev far x + c * ev r x) : Idl f g far r := by
  obtain ⟨⟨u1, v1, pu1, pv1, e1⟩, ⟨u2, v2, pu2, pv2, e2⟩, ⟨u3, v3, pu3, pv3, e3⟩, ⟨u4, v4, pu4, pv4, e4⟩⟩ := I
  have k1 : c⁻¹ * c = 1 := Rat.inv_mul_cancel c hc
  have k2 : h⁻¹ * h = 1 := Rat.inv_mul_cancel h hh
  generalize c⁻¹ = ci at k1
  generalize h⁻¹ = hi at k2
  refine ⟨⟨u2, v2, pu2, pv2, e2⟩, ⟨fun x => ci * (h * u1 x - q x * u2 x), fun x => ci * (h * v1 x - q x * v2 x), pf_scale _ (pf_sub (pf_scale _ pu1) (pf_mul hq pu2)), pf_scale _ (pf_sub (pf_scale _ pv1) (pf_mul hq pv2)), fun x => ?_⟩,
    ⟨fun x => hi * (u3 x * q x) + v3 x, fun x => hi * c * u3 x, pf_add (pf_scale _ (pf_mul pu3 hq)) pv3, pf_scale _ pu3, fun x => ?_⟩, ⟨fun x => hi * (u4 x * q x) + v4 x, fun x => hi * c * u4 x, pf_add (pf_scale _ (pf_mul pu4 hq)) pv4, pf_scale _ pu4, fun x => ?_⟩⟩
  · have := e x; have := e1 x; have := e2 x; grind
  · have := e x; have := e3 x; grind
  · have := e x; have := e4 x; grind
/-- near and far but for numbers -/
theorem Idl.scale {f g near far near' far' : List Rat} {c c' : Rat} (I : Idl f g near far) (hc : c ≠ 0) (hc' : c' ≠ 0) (e : ∀ x, ev near' x = c * ev near x) (e' : ∀ x, ev far' x = c' * ev far x) : Idl f g near' far' := by
  obtain ⟨⟨u1, v1, pu1, pv1, e1⟩, ⟨u2, v2, pu2, pv2, e2⟩, ⟨u3, v3, pu3, pv3, e3⟩, ⟨u4, v4, pu4, pv4, e4⟩⟩ := I
  have k1 : c⁻¹ * c = 1 := Rat.inv_mul_cancel c hc
  have k2 : c'⁻¹ * c' = 1 := Rat.inv_mul_cancel c' hc'
  generalize c⁻¹ = ci at k1
  generalize c'⁻¹ = hi at k2
  refine ⟨⟨_, _, pf_scale c pu1, pf_scale c pv1, fun x => ?_⟩, ⟨_, _, pf_scale c' pu2, pf_scale c' pv2, fun x => ?_⟩, ⟨_, _, pf_scale ci pu3, pf_scale hi pv3, fun x => ?_⟩, ⟨_, _, pf_scale ci pu4, pf_scale hi pv4, fun x => ?_⟩⟩
  · have := e x; have := e1 x; grind
  · have := e' x; have := e2 x; grind
  · have := e x; have := e' x; have := e3 x; grind
  · have := e x; have := e' x; have := e4 x; grind
structure Gc (f g s : List Rat) : Prop where
  a : ∃ u v, Pf u ∧ Pf v ∧ ∀ x, ev s x = u x * ev f x + v x * ev g x
  f : ∃ u, Pf u ∧ ∀ x, ev f x = u x * ev s x
  g : ∃ u, Pf u ∧ ∀ x, ev g x = u x * ev s x
theorem Idl.fin {f g near : List Rat} {s : List Rat} {c : Rat} (I : Idl f g near []) (hc : c ≠ 0) (e : ∀ x, ev s x = c * ev near x) : Gc f g s := by
  obtain ⟨⟨u1, v1, pu1, pv1, e1⟩, _, ⟨u3, v3, pu3, pv3, e3⟩, ⟨u4, v4, pu4, pv4, e4⟩⟩ := I.scale (near' := s) (far' := []) hc (show (1 : Rat) ≠ 0 by decide) e (fun x => by grind)
  refine ⟨⟨u1, v1, pu1, pv1, e1⟩, ⟨u3, pu3, fun x => ?_⟩, ⟨u4, pu4, fun x => ?_⟩⟩
  · have : ev [] x = 0 := rfl
    have := e3 x; grind
  · have : ev [] x = 0 := rfl
    have := e4 x; grind
theorem Gc.swap {f g s : List Rat} (h : Gc f g s) : Gc g f s := by
  obtain ⟨⟨u, v, pu, pv, e⟩, hf, hg⟩ := h
  exact ⟨⟨v, u, pv, pu, fun x => by rw [e]; grind⟩, hg, hf⟩
/-- both over what they have in common -/
theorem Gc.cop {f g s n d : List Rat} {c : Rat} (h : Gc f g s) (h0 : lastD s ≠ 0) (hc : c ≠ 0) (en : ∀ x, ev f x * c = ev n x * ev s x) (ed : ∀ x, ev g x * c = ev d x * ev s x) : Cop n d := by
  obtain ⟨⟨u, v, pu, pv, e⟩, _, _⟩ := h
  have k1 : c⁻¹ * c = 1 := Rat.inv_mul_cancel c hc
  generalize c⁻¹ = ci at k1
  refine ⟨_, _, pf_scale ci pu, pf_scale ci pv, pf_cancel (r := ev s) (pf_add (pf_mul (pf_scale ci pu) (pf_ev _)) (pf_mul (pf_scale ci pv) (pf_ev _))) (pf_const 1) (evt_of_last h0) fun x => ?_⟩
  have := e x
  have := en x
  have := ed x
  grind
end My

set_option Elab.async false
set_option linter.all false
set_option maxHeartbeats 1000000
/-! M3: numbers of lists by places; products; worths by forms. -/
namespace My
theorem addL_getD : ∀ (f g : List Rat) (i : Nat), (addL f g).getD i 0 = f.getD i 0 + g.getD i 0
  | [], g, i => by show g.getD i 0 = [].getD i 0 + g.getD i 0; rw [List.getD_nil]; grind
  | a :: f, [], i => by show (a :: f).getD i 0 = (a :: f).getD i 0 + [].getD i 0; rw [List.getD_nil]; grind
  | a :: f, b :: g, 0 => rfl
  | a :: f, b :: g, i + 1 => by
    show (addL f g).getD i 0 = f.getD i 0 + g.getD i 0
    exact addL_getD f g i
theorem map_getD (f : List Rat) (c : Rat) (i : Nat) : (f.map (· * c)).getD i 0 = f.getD i 0 * c := by
  rw [List.getD_eq_getElem?_getD, List.getElem?_map, List.getD_eq_getElem?_getD]
  cases f[i]? with
  | none => show (0 : Rat) = 0 * c; grind
  | some a => rfl
theorem trim_getD : ∀ (f : List Rat) (i : Nat), (trimF f).getD i 0 = f.getD i 0
  | [], i => rfl
  | a :: f, i => by
    unfold trimF
    rw [trimZ_cons]
    have ih := trim_getD f
    unfold trimF at ih
    split
    · rename_i h
      rw [Bool.and_eq_true, List.isEmpty_iff] at h
      have ha : a = 0 := of_decide_eq_true h.2
      rw [h.1] at ih
      cases i with
      | zero => rw [ha]; rfl
      | succ i => exact ih i
    · cases i with
      | zero => rfl
      | succ i => exact ih i
theorem getD_big {f : List Rat} {i : Nat} (h : f.length ≤ i) : f.getD i 0 = 0 := by
  rw [List.getD_eq_getElem?_getD, List.getElem?_eq_none h]; rfl
theorem mulL_len : ∀ {f g : List Rat}, f ≠ [] → g ≠ [] → (mulL f g).length = f.length + g.length - 1
  | [], _, h, _ => absurd rfl h
  | [a], g, _, h => by
    have := List.length_pos_iff.mpr h
    show (addL (g.map (· * a)) [0]).length = _
    rw [addL_len, List.length_map]
    show max g.length 1 = 1 + g.length - 1
    omega
  | a :: b :: f, g, _, h => by
    have := List.length_pos_iff.mpr h
    have ih := mulL_len (f := b :: f) (g := g) (by simp) h
    show (addL (g.map (· * a)) (0 :: mulL (b :: f) g)).length = _
    rw [addL_len, List.length_map, List.length_cons, ih]
    show max g.length (f.length + 1 + g.length - 1 + 1) = f.length + 1 + 1 + g.length - 1
    omega
theorem mulL_top : ∀ {f g : List Rat} {m k : Nat}, f.length ≤ m + 1 → g.length ≤ k + 1 → (mulL f g).getD (m + k) 0 = f.getD m 0 * g.getD k 0
  | [], g, m, k, _, _ => by show (0 : Rat) = 0 * g.getD k 0; grind
  | [a], g, 0, k, _, _ => by
    show (addL (g.map (· * a)) [0]).getD (0 + k) 0 = a * g.getD k 0
    rw [addL_getD, map_getD, Nat.zero_add]
    cases k with
    | zero => show g.getD 0 0 * a + 0 = _; grind
    | succ k => show g.getD (k + 1) 0 * a + 0 = _; grind
  | a :: b :: f, g, 0, k, h, _ => by simp at h
  | a :: f, g, m + 1, k, h, h2 => by
    show (addL (g.map (· * a)) (0 :: mulL f g)).getD (m + 1 + k) 0 = f.getD m 0 * g.getD k 0
    rw [addL_getD, map_getD, getD_big (f := g) (by omega), show m + 1 + k = (m + k) + 1 by omega]
    show 0 * a + (mulL f g).getD (m + k) 0 = _
    rw [mulL_top (by simpa using h) h2]; grind
theorem mulL_last {f g : List Rat} (hf : f ≠ []) (hg : g ≠ []) : lastD (mulL f g) = lastD f * lastD g := by
  have h1 := List.length_pos_iff.mpr hf
  have h2 := List.length_pos_iff.mpr hg
  unfold lastD
  rw [mulL_len hf hg, show f.length + g.length - 1 - 1 = (f.length - 1) + (g.length - 1) by omega]
  exact mulL_top (by omega) (by omega)
theorem tr_mulL {f g : List Rat} (hf : Tr f) (hg : Tr g) (h0 : g ≠ []) : Tr (mulL f g) := by
  by_cases h : f = []
  · subst h; exact tr_nil
  · refine tr_of ?_
    rw [mulL_last h h0]
    intro z
    rcases Rat.mul_eq_zero.mp z with z | z
    · exact hf h z
    · exact hg h0 z
theorem tr_last {f : List Rat} (h : Tr f) (h0 : f ≠ []) : lastD f ≠ 0 := h h0
theorem ev_inj_len : ∀ {f g : List Rat}, f.length = g.length → (Evt fun x => ev f x = ev g x) → f = g
  | [], [], _, _ => rfl
  | [], b :: g, h, _ => by simp at h
  | a :: f, [], h, _ => by simp at h
  | a :: f, b :: g, hl, h => by
    have all := ev_eq_of h
    have e0 : a = b := by
      have h1 : a + 0 * ev f 0 = b + 0 * ev g 0 := all 0
      grind
    have e1 : f = g := ev_inj_len (by simpa using hl) ⟨1, fun x hx => by
      have h1 : a + x * ev f x = b + x * ev g x := all x
      have h2 : x * (ev f x - ev g x) = 0 := by grind
      rcases Rat.mul_eq_zero.mp h2 with z | z
      · grind
      · grind⟩
    rw [e0, e1]
/-! ### rows -/
theorem ev_set : ∀ (f : List Rat) (k : Nat) (c x : Rat), k < f.length → ev (f.set k (f.getD k 0 + c)) x = ev f x + c * x ^ k
  | [], k, c, x, h => by simp at h
  | a :: f, 0, c, x, _ => by
    show (a + c) + x * ev f x = (a + x * ev f x) + c * x ^ 0
    rw [Rat.pow_zero]; grind
  | a :: f, k + 1, c, x, h => by
    show a + x * ev (f.set k (f.getD k 0 + c)) x = (a + x * ev f x) + c * x ^ (k + 1)
    rw [ev_set f k c x (by simpa using h), Rat.pow_succ]; grind
theorem ev_rowA (l : Rat) : ∀ (far : List Rat) (k : Nat) (cur : List Rat) (x : Rat), k + far.length ≤ cur.length → ev (rowA l far k cur) x = ev cur x + l * x ^ k * ev far x
  | [], k, cur, x, _ => by show ev cur x = ev cur x + l * x ^ k * 0; grind
  | r :: far, k, cur, x, h => by
    rw [List.length_cons] at h
    show ev (rowA l far (k + 1) (cur.set k (cur.getD k 0 + l * r))) x = _ + _ * (r + x * ev far x)
    rw [ev_rowA l far (k + 1) _ x (by rw [List.length_set]; omega), ev_set cur k _ x (by omega), Rat.pow_succ]; grind
theorem rowS_A (l : Rat) : ∀ (far : List Rat) (k : Nat) (cur : List Rat), rowS l far k cur = rowA (-l) far k cur
  | [], _, _ => rfl
  | r :: far, k, cur => by
    show rowS l far (k + 1) (cur.set k (cur.getD k 0 - l * r)) = rowA (-l) far (k + 1) (cur.set k (cur.getD k 0 + -l * r))
    rw [rowS_A l far, show cur.getD k 0 - l * r = cur.getD k 0 + -l * r by grind]
theorem ev_convA : ∀ (near far : List Rat) (k : Nat) (cur : List Rat) (x : Rat), k + near.length + far.length ≤ cur.length + 1 → ev (convA near far k cur) x = ev cur x + x ^ k * ev near x * ev far x
  | [], far, k, cur, x, _ => by show ev cur x = ev cur x + x ^ k * 0 * ev far x; grind
  | l :: near, far, k, cur, x, h => by
    rw [List.length_cons] at h
    show ev (convA near far (k + 1) (rowA l far k cur)) x = _ + _ * (l + x * ev near x) * _
    rw [ev_convA near far (k + 1) _ x (by rw [rowA_len]; omega), ev_rowA l far k cur x (by omega), Rat.pow_succ]; grind
theorem ev_zeros (n : Nat) (x : Rat) : ev (List.replicate n 0) x = 0 := by
  induction n with
  | zero => rfl
  | succ n ih => rw [List.replicate_succ]; show 0 + x * ev _ x = 0; rw [ih]; grind
theorem zerosL_len (n : Nat) : (zerosL n).length = n := List.length_replicate
theorem convA_mul {f g : List Rat} (hf : f ≠ []) (hg : g ≠ []) : convA f g 0 (zerosL (f.length + g.length - 1)) = mulL f g := by
  have h1 := List.length_pos_iff.mpr hf
  have h2 := List.length_pos_iff.mpr hg
  refine ev_inj_len (by rw [convA_len, zerosL_len, mulL_len hf hg]) (Evt.of fun x => ?_)
  rw [ev_convA f g 0 _ x (by rw [zerosL_len]; omega), ev_zeros, ev_mulL, Rat.pow_zero]; grind
theorem timesF_eq (f g : List Rat) : timesF f g = trimF (mulL f g) := by
  refine ev_inj (tr_trim _) (tr_trim _) (Evt.of fun x => ?_)
  unfold timesF
  rw [ev_trim, ev_trim, ev_mulL]
  by_cases hf : f = []
  · subst hf
    show ev (zerosL _) x = 0 * ev g x
    rw [ev_zeros]; grind
  · by_cases hg : g = []
    · subst hg
      have := List.length_pos_iff.mpr hf
      rw [ev_convA f [] 0 _ x (by rw [zerosL_len]; simp; omega), ev_zeros]; grind
    · rw [convA_mul hf hg, ev_mulL]
theorem ev_times (f g : List Rat) (x : Rat) : ev (timesF f g) x = ev f x * ev g x := by rw [timesF_eq, ev_trim, ev_mulL]
/-! ### ints -/
def cst (l : List Int) : List Rat := l.map fun n : Int => (n : Rat)
theorem cst_len (l : List Int) : (cst l).length = l.length := List.length_map ..
theorem cst_getD (l : List Int) (i : Nat) : (cst l).getD i 0 = ((l.getD i 0 : Int) : Rat) := by
  unfold cst
  rw [List.getD_eq_getElem?_getD, List.getElem?_map, List.getD_eq_getElem?_getD]
  cases l[i]? with
  | none => rfl
  | some a => rfl
theorem cst_set (l : List Int) (k : Nat) (n : Int) : cst (l.set k n) = (cst l).set k (n : Rat) := by unfold cst; rw [List.map_set]
theorem cst_rowA (l : Int) : ∀ (far : List Int) (k : Nat) (cur : List Int), cst (rowA l far k cur) = rowA (l : Rat) (cst far) k (cst cur)
  | [], _, _ => rfl
  | r :: far, k, cur => by
    show cst (rowA l far (k + 1) (cur.set k (cur.getD k 0 + l * r))) = rowA (l : Rat) (cst far) (k + 1) ((cst cur).set k ((cst cur).getD k 0 + (l : Rat) * (r : Rat)))
    rw [cst_rowA l far, cst_set, cst_getD, Rat.intCast_add, Rat.intCast_mul]
theorem cst_rowS (l : Int) : ∀ (far : List Int) (k : Nat) (cur : List Int), cst (rowS l far k cur) = rowS (l : Rat) (cst far) k (cst cur)
  | [], _, _ => rfl
  | r :: far, k, cur => by
    show cst (rowS l far (k + 1) (cur.set k (cur.getD k 0 - l * r))) = rowS (l : Rat) (cst far) (k + 1) ((cst cur).set k ((cst cur).getD k 0 - (l : Rat) * (r : Rat)))
    rw [cst_rowS l far, cst_set, cst_getD, Rat.intCast_sub, Rat.intCast_mul]
theorem cst_convA : ∀ (near far : List Int) (k : Nat) (cur : List Int), cst (convA near far k cur) = convA (cst near) (cst far) k (cst cur)
  | [], _, _, _ => rfl
  | l :: near, far, k, cur => by
    show cst (convA near far (k + 1) (rowA l far k cur)) = convA (cst near) (cst far) (k + 1) (rowA (l : Rat) (cst far) k (cst cur))
    rw [cst_convA near far, cst_rowA]
theorem cst_zeros (n : Nat) : cst (List.replicate n 0) = zerosL n := by unfold cst; rw [List.map_replicate]; rfl
theorem rat_parts (q : Rat) : (q.num : Rat) = q * (q.den : Rat) := by
  have h : (q.num : Rat) / (q.den : Rat) = q := by
    have := Rat.num_divInt_den q
    rw [Rat.divInt_eq_div] at this
    exact this
  have hd : (q.den : Rat) ≠ 0 := by
    intro z
    have h2 : q.den = 0 := by exact_mod_cast z
    exact q.den_nz h2
  have := Rat.div_mul_cancel (a := (q.num : Rat)) hd
  rw [h] at this
  exact this.symm
theorem whole_one {q : Rat} {d : Nat} (h : q.den ∣ d) : ((q.num * ((d : Int) / (q.den : Int)) : Int) : Rat) = q * (d : Rat) := by
  obtain ⟨k, hk⟩ := h
  have hz : (q.den : Int) ≠ 0 := by have := q.den_nz; omega
  have e : ((d : Int) / (q.den : Int)) = (k : Int) := by
    rw [hk, Int.natCast_mul, Int.mul_ediv_cancel_left _ hz]
  rw [e, Rat.intCast_mul, rat_parts, hk]
  have e2 : ((q.den * k : Nat) : Rat) = (q.den : Rat) * (k : Rat) := Rat.natCast_mul ..
  have e3 : ((k : Int) : Rat) = (k : Rat) := rfl
  rw [e2, e3]; grind
theorem cst_wholeI (f : List Rat) : cst (wholeI f) = f.map (· * (dl f : Rat)) := by
  unfold cst wholeI
  rw [List.map_map]
  refine List.map_congr_left fun q hq => ?_
  exact whole_one (den_dl hq)
theorem prodF_eq {f g : List Rat} (hf : f ≠ []) (hg : g ≠ []) : prodF f g = mulL f g := by
  have h1 := List.length_pos_iff.mpr hf
  have h2 := List.length_pos_iff.mpr hg
  have hw : wholeI f ≠ [] := fun z => by have := wholeI_len f; rw [z] at this; simp at this; omega
  have hw2 : wholeI g ≠ [] := fun z => by have := wholeI_len g; rw [z] at this; simp at this; omega
  have df := dl_pos f
  have dg := dl_pos g
  have zf : (dl f : Rat) ≠ 0 := fun z => by have : dl f = 0 := by exact_mod_cast z
                                            omega
  have zg : (dl g : Rat) ≠ 0 := fun z => by have : dl g = 0 := by exact_mod_cast z
                                            omega
  unfold prodF
  rw [if_neg (by rintro (z | z); exact hf z; exact hg z)]
  have e : ((convA (wholeI f) (wholeI g) 0 (List.replicate (f.length + g.length - 1) 0)).map fun n : Int => (n : Rat) / (((dl f : Int) * (dl g : Int) : Int) : Rat)) = (cst (convA (wholeI f) (wholeI g) 0 (List.replicate (f.length + g.length - 1) 0))).map (· * ((dl f : Rat) * (dl g : Rat))⁻¹) := by
    unfold cst
    rw [List.map_map]
    refine List.map_congr_left fun n _ => ?_
    show (n : Rat) / _ = (n : Rat) * _
    rw [Rat.div_def, Rat.intCast_mul]; rfl
  rw [e]
  refine ev_inj_len (by rw [List.length_map, cst_len, convA_len, List.length_replicate, mulL_len hf hg]) (Evt.of fun x => ?_)
  rw [ev_scale, cst_convA, cst_zeros, cst_wholeI, cst_wholeI]
  rw [ev_convA _ _ 0 _ x (by rw [zerosL_len, List.length_map, List.length_map]; omega), ev_zeros, ev_scale, ev_scale, ev_mulL, Rat.pow_zero]
  have hz : (dl f : Rat) * (dl g : Rat) ≠ 0 := fun z => by
    rcases Rat.mul_eq_zero.mp z with z | z
    · exact zf z
    · exact zg z
  have k := Rat.inv_mul_cancel _ hz
  generalize ((dl f : Rat) * (dl g : Rat))⁻¹ = i at k
  grind
theorem prodF_nil (f g : List Rat) (h : f = [] ∨ g = []) : prodF f g = [] := by unfold prodF; rw [if_pos h]
theorem ev_prod (f g : List Rat) (x : Rat) : ev (prodF f g) x = ev f x * ev g x := by
  by_cases hf : f = []
  · rw [prodF_nil _ _ (.inl hf), hf]; show (0 : Rat) = 0 * ev g x; grind
  · by_cases hg : g = []
    · rw [prodF_nil _ _ (.inr hg), hg]; show (0 : Rat) = ev f x * 0; grind
    · rw [prodF_eq hf hg, ev_mulL]
theorem tr_prod {f g : List Rat} (hf : Tr f) (hg : Tr g) : Tr (prodF f g) := by
  by_cases h1 : f = []
  · rw [prodF_nil _ _ (.inl h1)]; exact tr_nil
  · by_cases h2 : g = []
    · rw [prodF_nil _ _ (.inr h2)]; exact tr_nil
    · rw [prodF_eq h1 h2]; exact tr_mulL hf hg h2
theorem prod_len (f g : List Rat) : (prodF f g).length ≤ f.length + g.length - 1 := by
  by_cases h1 : f = []
  · rw [prodF_nil _ _ (.inl h1)]; exact Nat.zero_le _
  · by_cases h2 : g = []
    · rw [prodF_nil _ _ (.inr h2)]; exact Nat.zero_le _
    · rw [prodF_eq h1 h2, mulL_len h1 h2]; exact Nat.le_refl _
/-! ### forms at places -/
def val (m : Nat) (f : List Rat) : Pl → Rat
  | .inf => f.getD m 0
  | .num q => ev f q
theorem val_mul {f g : List Rat} {m k : Nat} (hf : f.length ≤ m + 1) (hg : g.length ≤ k + 1) (p : Pl) : val (m + k) (mulL f g) p = val m f p * val k g p := by
  cases p with
  | inf => exact mulL_top hf hg
  | num q => exact ev_mulL f g q
theorem val_add (m : Nat) (f g : List Rat) (p : Pl) : val m (addL f g) p = val m f p + val m g p := by
  cases p with
  | inf => exact addL_getD f g m
  | num q => exact ev_add f g q
theorem val_trim (m : Nat) (f : List Rat) (p : Pl) : val m (trimF f) p = val m f p := by
  cases p with
  | inf => exact trim_getD f m
  | num q => exact ev_trim f q
theorem val_scale (m : Nat) (f : List Rat) (c : Rat) (p : Pl) : val m (f.map (· * c)) p = val m f p * c := by
  cases p with
  | inf => exact map_getD f c m
  | num q => exact ev_scale c f q
theorem val_nil (m : Nat) (p : Pl) : val m [] p = 0 := by cases p <;> rfl
theorem val_prod {f g : List Rat} {m k : Nat} (hf : f.length ≤ m + 1) (hg : g.length ≤ k + 1) (p : Pl) : val (m + k) (prodF f g) p = val m f p * val k g p := by
  by_cases h1 : f = []
  · rw [prodF_nil _ _ (.inl h1), h1, val_nil, val_nil]; grind
  · by_cases h2 : g = []
    · rw [prodF_nil _ _ (.inr h2), h2, val_nil, val_nil]; grind
    · rw [prodF_eq h1 h2, val_mul hf hg]
/-- lists that are the same function -/
theorem val_ev {f g : List Rat} (h : ∀ x, ev f x = ev g x) (m : Nat) (p : Pl) : val m f p = val m g p := by
  have e : trimF f = trimF g := ev_inj (tr_trim _) (tr_trim _) (Evt.of fun x => by rw [ev_trim, ev_trim, h])
  rw [← val_trim m f, e, val_trim]
end My

set_option Elab.async false
set_option linter.all false
set_option maxHeartbeats 1000000
/-! M4: division and what is common, by functions. -/
namespace My
theorem rowA_far (l : Rat) : ∀ (far : List Rat) (k : Nat) (cur : List Rat) (i : Nat), k + far.length ≤ i → (rowA l far k cur).getD i 0 = cur.getD i 0
  | [], _, _, _, _ => rfl
  | r :: far, k, cur, i, h => by
    rw [List.length_cons] at h
    show (rowA l far (k + 1) _).getD i 0 = _
    rw [rowA_far l far (k + 1) _ i (by omega), List.getD_eq_getElem?_getD, List.getElem?_set_ne (by omega), List.getD_eq_getElem?_getD]
theorem ev_take : ∀ (f : List Rat) (x : Rat), f ≠ [] → ev (f.take (f.length - 1)) x = ev f x - lastD f * x ^ (f.length - 1)
  | [], _, h => absurd rfl h
  | [a], x, _ => by
    show (0 : Rat) = (a + x * 0) - a * x ^ 0
    rw [Rat.pow_zero]; grind
  | a :: b :: f, x, _ => by
    have ih := ev_take (b :: f) x (by simp)
    have e : lastD (a :: b :: f) = lastD (b :: f) := last_cons (by simp)
    rw [e]
    show ev ((a :: b :: f).take (f.length + 1)) x = (a + x * ev (b :: f) x) - lastD (b :: f) * x ^ (f.length + 1)
    rw [List.take_succ_cons]
    show a + x * ev ((b :: f).take ((b :: f).length - 1)) x = _
    rw [ih, Rat.pow_succ]
    show a + x * (ev (b :: f) x - lastD (b :: f) * x ^ f.length) = _
    grind
theorem rat_pow_add (x : Rat) (m : Nat) : ∀ n : Nat, x ^ (m + n) = x ^ m * x ^ n
  | 0 => by rw [Nat.add_zero, Rat.pow_zero]; grind
  | n + 1 => by rw [← Nat.add_assoc, Rat.pow_succ, rat_pow_add x m n, Rat.pow_succ]; grind
theorem ev_stepF {g rest : List Rat} (hg : lastD g ≠ 0) (h : g.length ≤ rest.length) (x : Rat) : ev (stepF g rest) x = ev rest x - lastD rest / lastD g * x ^ (rest.length - g.length) * ev g x := by
  have g0 := ne_of_lastD hg
  have gp := List.length_pos_iff.mpr g0
  have r0 : rest ≠ [] := fun z => by rw [z] at h; exact g0 (List.length_eq_zero_iff.mp (Nat.le_zero.mp h))
  unfold stepF
  rw [ev_trim]
  generalize hl : rest.getD (rest.length - 1) 0 / g.getD (g.length - 1) 0 = l
  have hl' : lastD rest / lastD g = l := hl
  have hc : l * lastD g = lastD rest := by rw [← hl']; exact Rat.div_mul_cancel hg
  rw [rowS_A]
  have len := rowA_len (-l) (g.take (g.length - 1)) (rest.length - g.length) rest
  have lt : (g.take (g.length - 1)).length = g.length - 1 := by rw [List.length_take]; omega
  have a := ev_take (rowA (-l) (g.take (g.length - 1)) (rest.length - g.length) rest) x (by rw [← List.length_pos_iff, len, List.length_pos_iff]; exact r0)
  rw [len] at a
  rw [a, ev_rowA _ _ _ _ _ (by rw [lt]; omega), ev_take g x g0]
  have el : lastD (rowA (-l) (g.take (g.length - 1)) (rest.length - g.length) rest) = lastD rest := by
    unfold lastD
    rw [len, rowA_far _ _ _ _ _ (by rw [lt]; omega)]
  rw [el, ← hc, show rest.length - 1 = (rest.length - g.length) + (g.length - 1) by omega, rat_pow_add]
  grind
theorem tr_stepF (g rest : List Rat) : Tr (stepF g rest) := tr_trim _
theorem ev_append : ∀ (f g : List Rat) (x : Rat), ev (f ++ g) x = ev f x + x ^ f.length * ev g x
  | [], g, x => by show ev g x = 0 + x ^ 0 * ev g x; rw [Rat.pow_zero]; grind
  | a :: f, g, x => by
    show a + x * ev (f ++ g) x = (a + x * ev f x) + x ^ (f.length + 1) * ev g x
    rw [ev_append f g x, Rat.pow_succ]; grind
theorem ev_pad (f : List Rat) (n : Nat) (x : Rat) : ev (padL f n) x = ev f x := by
  unfold padL
  rw [ev_append, ev_zeros]; grind
theorem ev_shift (s : Nat) (g : List Rat) (x : Rat) : ev (shiftL s g) x = x ^ s * ev g x := by
  unfold shiftL
  rw [ev_append, ev_zeros, List.length_replicate]; grind
theorem ev_zip (c : Rat) : ∀ (f g : List Rat) (x : Rat), f.length = g.length → ev (List.zipWith (fun a b => a + b * c) f g) x = ev f x + c * ev g x
  | [], [], x, _ => by show (0 : Rat) = 0 + c * 0; grind
  | [], b :: g, x, h => by simp at h
  | a :: f, [], x, h => by simp at h
  | a :: f, b :: g, x, h => by
    show (a + b * c) + x * ev (List.zipWith _ f g) x = (a + x * ev f x) + c * (b + x * ev g x)
    rw [ev_zip c f g x (by simpa using h)]; grind
theorem ev_plusF (f g : List Rat) (c x : Rat) : ev (plusF f g c) x = ev f x + c * ev g x := by
  unfold plusF
  rw [ev_trim, ev_zip c _ _ x (by rw [padL_len f _ (by omega), padL_len g _ (by omega)]), ev_pad, ev_pad]
theorem stepL_eq {g left : List Rat} (hg : lastD g ≠ 0) (h : g.length ≤ left.length) : stepL g left = stepF g left := by
  refine ev_inj (tr_trim _) (tr_trim _) (Evt.of fun x => ?_)
  rw [ev_stepF hg h]
  unfold stepL
  rw [ev_plusF, ev_shift]
  have : ((-1 : Int) : Rat) = -1 := rfl
  rw [this]; grind
/-- a division all along -/
structure DivA (f g rest q : List Rat) : Prop where
  tr : Tr rest
  ql : q.length = f.length + 1 - g.length
  rl : rest.length ≤ f.length
  z : ∀ i, i + g.length ≤ rest.length → q.getD i 0 = 0
  e : ∀ x, ev f x = ev q x * ev g x + ev rest x
theorem zerosL_getD (n i : Nat) : (zerosL n).getD i 0 = 0 := by
  rw [List.getD_eq_getElem?_getD, List.getElem?_replicate]
  split <;> rfl
theorem DivA.start {f : List Rat} (g : List Rat) (h : Tr f) : DivA f g f (zerosL (f.length + 1 - g.length)) :=
  ⟨h, zerosL_len _, Nat.le_refl _, fun i _ => zerosL_getD _ i, fun x => by rw [ev_zeros]; grind⟩
theorem DivA.step {f g rest q : List Rat} (D : DivA f g rest q) (hg : lastD g ≠ 0) (h : g.length ≤ rest.length) : DivA f g (stepF g rest) (q.set (rest.length - g.length) (lastD rest / lastD g)) := by
  have gp := List.length_pos_iff.mpr (ne_of_lastD hg)
  have hl := stepF_len g (show 0 < rest.length by omega)
  have hs : rest.length - g.length < q.length := by rw [D.ql]; have := D.rl; omega
  refine ⟨tr_stepF _ _, by rw [List.length_set]; exact D.ql, by have := D.rl; omega, fun i hi => ?_, fun x => ?_⟩
  · rw [List.getD_eq_getElem?_getD, List.getElem?_set_ne (by omega), ← List.getD_eq_getElem?_getD]
    exact D.z i (by omega)
  · have e := ev_set q (rest.length - g.length) (lastD rest / lastD g) x hs
    rw [D.z _ (by omega), show (0 : Rat) + lastD rest / lastD g = lastD rest / lastD g by grind] at e
    rw [e, ev_stepF hg h, D.e x]
    grind
/-- what divides leaves no rest -/
theorem exact_div {f s q r : List Rat} {u : Rat → Rat} (hu : Pf u) (h0 : lastD s ≠ 0) (e : ∀ x, ev f x = u x * ev s x) (e2 : ∀ x, ev f x = ev q x * ev s x + ev r x) (tr : Tr r) (hr : r.length < s.length) : r = [] := by
  obtain ⟨b, tb, eb⟩ := pf_rep (pf_sub hu (pf_ev q))
  have s0 := ne_of_lastD h0
  by_cases hb : b = []
  · refine ev_zero tr (Evt.of fun x => ?_)
    have h1 : ev b x = u x - ev q x := eb x
    have h2 : ev b x = 0 := by rw [hb]; rfl
    have := e x
    have := e2 x
    grind
  · have : mulL b s = r := ev_inj (tr_mulL tb (tr_of h0) s0) tr (Evt.of fun x => by
      rw [ev_mulL]
      have h1 : ev b x = u x - ev q x := eb x
      have := e x
      have := e2 x
      grind)
    have l := mulL_len hb s0
    rw [this] at l
    have := List.length_pos_iff.mpr hb
    omega
theorem ev_overL (f g : List Rat) (x : Rat) : ev (overL f g) x = ev f x * (lastD g)⁻¹ := by
  have : overL f g = f.map (· * (lastD g)⁻¹) := by
    unfold overL
    exact List.map_congr_left fun q _ => Rat.div_def q _
  rw [this, ev_scale]
theorem overL_len (f g : List Rat) : (overL f g).length = f.length := by unfold overL; rw [List.length_map]
theorem inv_ne {c : Rat} (h : c ≠ 0) : c⁻¹ ≠ 0 := fun z => by
  have := Rat.inv_mul_cancel c h
  rw [z] at this
  grind
theorem overL_eq (f g : List Rat) : overL f g = f.map (· * (lastD g)⁻¹) := by
  unfold overL
  exact List.map_congr_left fun q _ => Rat.div_def q _
theorem tr_overL {f g : List Rat} (h : Tr f) (hg : lastD g ≠ 0) : Tr (overL f g) := by
  rw [overL_eq]
  exact tr_scale h (inv_ne hg)
theorem lastD_over {d : List Rat} (h : lastD d ≠ 0) : lastD (overL d d) = 1 := by
  rw [overL_eq, lastD_map]
  exact Rat.mul_inv_cancel _ h
theorem overL_nil (g : List Rat) : overL [] g = [] := rfl
/-- top and bottom in lowest terms -/
structure Low (f g n d : List Rat) : Prop where
  tn : Tr n
  hd : lastD d = 1
  cop : Cop n d
  e : ∀ x, ev f x * ev d x = ev n x * ev g x
theorem Low.d0 {f g n d : List Rat} (h : Low f g n d) : lastD d ≠ 0 := by rw [h.hd]; decide
theorem Low.of {f g s n d : List Rat} (c : Gc f g s) (h0 : lastD s ≠ 0) (g0 : lastD g ≠ 0) (tn : Tr n) (td : Tr d) (en : ∀ x, ev f x = ev n x * ev s x) (ed : ∀ x, ev g x = ev d x * ev s x) : lastD d ≠ 0 ∧ Low f g (overL n d) (overL d d) := by
  have d0 : d ≠ [] := fun z => by
    subst z
    obtain ⟨x, hx⟩ := (evt_of_last g0).get
    apply hx
    rw [ed x]
    show (0 : Rat) * _ = 0
    grind
  have dl : lastD d ≠ 0 := td d0
  refine ⟨dl, tr_overL tn dl, lastD_over dl, c.cop h0 (inv_ne dl) (fun x => ?_) (fun x => ?_), fun x => ?_⟩
  · rw [ev_overL, en]; grind
  · rw [ev_overL, ed]; grind
  · rw [ev_overL, ev_overL, en, ed]; grind
theorem Low.uniq {f g f' g' n d n' d' : List Rat} (a : Low f g n d) (b : Low f' g' n' d') (hg : Evt fun x => ev g x ≠ 0) (hg' : Evt fun x => ev g' x ≠ 0) (h : ∀ x, ev f x * ev g' x = ev f' x * ev g x) : n = n' ∧ d = d' := by
  refine cop_uniq a.cop b.cop a.tn b.tn a.hd b.hd (pf_cancel (r := fun x => ev g x * ev g' x) (pf_mul (pf_ev _) (pf_ev _)) (pf_mul (pf_ev _) (pf_ev _)) ((hg.and hg').imp fun x hx z => ?_) fun x => ?_)
  · rcases Rat.mul_eq_zero.mp z with z | z
    · exact hx.1 z
    · exact hx.2 z
  · have h1 := a.e x
    have h2 := b.e x
    have h3 := h x
    grind
/-! ### ints -/
theorem trimI_F : ∀ l : List Int, cst (trimI l) = trimF (cst l)
  | [] => rfl
  | a :: l => by
    have ih := trimI_F l
    unfold trimI at ih ⊢
    unfold trimF at ih ⊢
    show cst (trimZ _ (a :: l)) = trimZ _ ((a : Rat) :: cst l)
    rw [trimZ_cons, trimZ_cons, ← ih]
    have e1 : (cst (trimZ (fun q : Int => decide (q = 0)) l)).isEmpty = (trimZ (fun q : Int => decide (q = 0)) l).isEmpty := by
      cases trimZ (fun q : Int => decide (q = 0)) l <;> rfl
    have e2 : decide ((a : Rat) = 0) = decide (a = 0) := by
      have : ((a : Rat) = 0) ↔ a = 0 := by exact_mod_cast Iff.rfl
      simp only [this]
    rw [e1, e2]
    split <;> rfl
theorem cst_nil {l : List Int} : cst l = [] ↔ l = [] := by cases l <;> simp [cst]
theorem ev_plainI (l : List Int) : ∃ c : Rat, c ≠ 0 ∧ ∀ x, ev (cst l) x = c * ev (cst (plainI l)) x := by
  by_cases h : trimI l = []
  · refine ⟨1, by decide, fun x => ?_⟩
    unfold plainI
    rw [← ev_trim, ← trimI_F, h]
    show (0 : Rat) = 1 * 0
    grind
  · obtain ⟨c, h1, h2⟩ := trimZ_last h
    have hc : c ≠ 0 := of_decide_eq_false h2
    have hm := List.mem_of_getElem? h1
    have hg := gcdI_ne hm hc
    refine ⟨((gcdI (trimI l) : Int) : Rat), fun z => hg (by exact_mod_cast z), fun x => ?_⟩
    rw [← ev_trim, ← trimI_F]
    have e : cst (trimI l) = (cst (plainI l)).map (· * ((gcdI (trimI l) : Int) : Rat)) := by
      unfold plainI cst
      rw [List.map_map, List.map_map]
      refine List.map_congr_left fun n hn => ?_
      show (n : Rat) = ((n / (gcdI (trimI l) : Int) : Int) : Rat) * _
      rw [← Rat.intCast_mul, Int.ediv_mul_cancel (gcdI_dvd hn)]
    rw [e, ev_scale]; grind
theorem tr_plainI (l : List Int) : Tr (cst (plainI l)) := by
  obtain ⟨c, hc, e⟩ := ev_plainI l
  intro h
  have h1 : plainI l ≠ [] := fun z => h (cst_nil.mpr z)
  have h2 : trimI l ≠ [] := fun z => h1 (by unfold plainI; rw [z]; rfl)
  obtain ⟨c, h3, h4⟩ := trimZ_last h2
  have hc : c ≠ 0 := of_decide_eq_false h4
  have hm := List.mem_of_getElem? h3
  have hg := gcdI_ne hm hc
  have e : (plainI l)[(plainI l).length - 1]? = some (c / (gcdI (trimI l) : Int)) := by
    rw [plainI_len]
    unfold plainI
    rw [List.getElem?_map, h3]; rfl
  rw [cst_getD, cst_len, List.getD_eq_getElem?_getD, e]
  intro z
  have z2 : c / (gcdI (trimI l) : Int) = 0 := by exact_mod_cast z
  have := Int.ediv_mul_cancel (gcdI_dvd hm)
  rw [z2] at this
  omega
theorem ev_rawI {g rest : List Int} (hg : g ≠ []) (h : g.length ≤ rest.length) (x : Rat) : ev (cst (rawI g rest)) x = (headI g : Rat) * ev (cst rest) x - (lastI g rest : Rat) * x ^ (rest.length - g.length) * ev (cst g) x := by
  unfold rawI
  have e : cst (rest.map (· * headI g)) = (cst rest).map (· * (headI g : Rat)) := by
    unfold cst
    rw [List.map_map, List.map_map]
    refine List.map_congr_left fun n _ => ?_
    show ((n * headI g : Int) : Rat) = _
    rw [Rat.intCast_mul]; rfl
  rw [cst_rowS, rowS_A, e, ev_rowA _ _ _ _ _ (by rw [cst_len, List.length_map, cst_len]; omega), ev_scale]
  grind
/-- a division of ints, all along -/
structure IntA (f g rest : List Int) : Prop where
  tr : Tr (cst rest)
  rl : rest.length ≤ f.length
  e : ∃ (h c : Rat) (q : Rat → Rat), h ≠ 0 ∧ c ≠ 0 ∧ Pf q ∧ ∀ x, h * ev (cst f) x = q x * ev (cst g) x + c * ev (cst rest) x
theorem IntA.start {f : List Int} (g : List Int) (h : Tr (cst f)) : IntA f g f := ⟨h, Nat.le_refl _, 1, 1, fun _ => 0, by decide, by decide, pf_const 0, fun x => by grind⟩
theorem headI_ne {g : List Int} (h : Tr (cst g)) (h0 : g ≠ []) : (headI g : Rat) ≠ 0 := by
  have h1 := h (fun z => h0 (cst_nil.mp z))
  rw [cst_getD, cst_len] at h1
  intro z
  apply h1
  have z2 : headI g = 0 := by exact_mod_cast z
  unfold headI at z2
  have : g.getD (g.length - 1) 0 = 0 := by omega
  rw [this]; rfl
theorem pf_pow (n : Nat) : Pf fun x => x ^ n := by
  induction n with
  | zero => exact (pf_const 1).of fun x => (Rat.pow_zero x).symm
  | succ n ih => exact (pf_mul ih ⟨[0, 1], fun x => by show 0 + x * (1 + x * 0) = x; grind⟩).of fun x => (Rat.pow_succ x n).symm
theorem IntA.step {f g rest : List Int} (D : IntA f g rest) (tg : Tr (cst g)) (hg : g ≠ []) (h : g.length ≤ rest.length) : IntA f g (stepI g rest) := by
  obtain ⟨hh, c, q, h1, h2, pq, e⟩ := D.e
  obtain ⟨k, k0, ek⟩ := ev_plainI (rawI g rest)
  have n0 := headI_ne tg hg
  refine ⟨tr_plainI _, by have := stepI_len hg h; have := D.rl; omega, hh * (headI g : Rat), c * k, fun x => (headI g : Rat) * q x + c * ((lastI g rest : Rat) * x ^ (rest.length - g.length)), fun z => ?_, fun z => ?_, pf_add (pf_scale _ pq) (pf_scale _ (pf_scale _ (pf_pow _))), fun x => ?_⟩
  · rcases Rat.mul_eq_zero.mp z with z | z
    · exact h1 z
    · exact n0 z
  · rcases Rat.mul_eq_zero.mp z with z | z
    · exact h2 z
    · exact k0 z
  · have a := ev_rawI hg h x
    have b := ek x
    have := e x
    unfold stepI
    grind
end My

set_option Elab.async false
set_option linter.all false
set_option maxHeartbeats 1000000
/-! M5: sizes. -/
namespace My
/-- bits as a common divisor is sought -/
def bt (k : Nat) : Nat → Nat
  | 0 => k
  | i + 1 => k + (i + 1) * (bt k i + 1)
theorem bt_le (k i : Nat) : bt k i ≤ bt k (i + 1) := by
  show bt k i ≤ k + (i + 1) * (bt k i + 1)
  have : 1 * (bt k i + 1) ≤ (i + 1) * (bt k i + 1) := Nat.mul_le_mul_right _ (by omega)
  omega
theorem bt_mono (k : Nat) {i j : Nat} (h : i ≤ j) : bt k i ≤ bt k j := by
  induction h with
  | refl => exact Nat.le_refl _
  | step _ ih => exact Nat.le_trans ih (bt_le k _)
theorem bt_step (k : Nat) {t j i : Nat} (h1 : t ≤ i) (h2 : j < i) : bt k t + (i - t) * (bt k j + 1) ≤ bt k i := by
  by_cases ht : t = i
  · subst ht
    rw [Nat.sub_self, Nat.zero_mul]
    exact Nat.le_refl _
  · obtain ⟨i', rfl⟩ : ∃ i', i = i' + 1 := ⟨i - 1, by omega⟩
    show _ ≤ k + (i' + 1) * (bt k i' + 1)
    have a := bt_mono k (show j ≤ i' by omega)
    have b := bt_mono k (show t ≤ i' by omega)
    have c : (i' + 1 - t) * (bt k j + 1) ≤ (i' + 1 - t) * (bt k i' + 1) := Nat.mul_le_mul_left _ (by omega)
    have d : bt k t ≤ k + t * (bt k i' + 1) := by
      cases t with
      | zero => show k ≤ _; omega
      | succ t =>
        have : 1 * (bt k i' + 1) ≤ (t + 1) * (bt k i' + 1) := Nat.mul_le_mul_right _ (by omega)
        omega
    have e : (i' + 1) * (bt k i' + 1) = t * (bt k i' + 1) + (i' + 1 - t) * (bt k i' + 1) := by
      rw [← Nat.add_mul]; congr 1; omega
    omega
/-- c times D is an int of k bits -/
def IsI (c : Rat) (D k : Nat) : Prop := ∃ m : Int, c * (D : Rat) = (m : Rat) ∧ m.natAbs ≤ 2 ^ k
theorem pow_mono {k j : Nat} (h : k ≤ j) : 2 ^ k ≤ 2 ^ j := Nat.pow_le_pow_right (by decide) h
theorem IsI.mono {c : Rat} {D k j : Nat} (h : IsI c D k) (hk : k ≤ j) : IsI c D j := let ⟨m, e, l⟩ := h; ⟨m, e, Nat.le_trans l (pow_mono hk)⟩
theorem isI_zero (D k : Nat) : IsI 0 D k := ⟨0, by show (0 : Rat) * _ = 0; grind, Nat.zero_le _⟩
theorem isI_int {m : Int} {k : Nat} (h : m.natAbs ≤ 2 ^ k) : IsI (m : Rat) 1 k := ⟨m, by show (m : Rat) * ((1 : Nat) : Rat) = _; have : ((1 : Nat) : Rat) = 1 := rfl; rw [this]; grind, h⟩
theorem IsI.add {c e : Rat} {D k : Nat} (h : IsI c D k) (g : IsI e D k) : IsI (c + e) D (k + 1) := by
  obtain ⟨m, h1, h2⟩ := h
  obtain ⟨n, g1, g2⟩ := g
  refine ⟨m + n, by rw [Rat.intCast_add, ← h1, ← g1]; grind, ?_⟩
  rw [Nat.pow_succ]
  omega
theorem IsI.neg {c : Rat} {D k : Nat} (h : IsI c D k) : IsI (-c) D k := by
  obtain ⟨m, h1, h2⟩ := h
  exact ⟨-m, by rw [Rat.intCast_neg, ← h1]; grind, by omega⟩
theorem IsI.mul {c e : Rat} {D E k j : Nat} (h : IsI c D k) (g : IsI e E j) : IsI (c * e) (D * E) (k + j) := by
  obtain ⟨m, h1, h2⟩ := h
  obtain ⟨n, g1, g2⟩ := g
  refine ⟨m * n, by rw [Rat.intCast_mul, ← h1, ← g1, Rat.natCast_mul]; grind, ?_⟩
  rw [Int.natAbs_mul, Nat.pow_add]
  exact Nat.mul_le_mul h2 g2
theorem isI_nat {E j : Nat} (h : E ≤ 2 ^ j) (c : Rat) {D k : Nat} (hc : IsI c D k) : IsI c (D * E) (k + j) := by
  obtain ⟨m, h1, h2⟩ := hc
  refine ⟨m * (E : Int), by rw [Rat.intCast_mul, ← h1, Rat.natCast_mul]; show _ = _ * ((E : Nat) : Rat); grind, ?_⟩
  rw [Int.natAbs_mul, Nat.pow_add, Int.natAbs_natCast]
  exact Nat.mul_le_mul h2 h
theorem isI_parts {c : Rat} {D k : Nat} (hD : 0 < D) (h : IsI c D k) : c.den ∣ D ∧ c.num.natAbs ≤ 2 ^ k := by
  obtain ⟨m, h1, h2⟩ := h
  have e : c.num * (D : Int) = m * (c.den : Int) := by
    have : ((c.num * (D : Int) : Int) : Rat) = ((m * (c.den : Int) : Int) : Rat) := by
      rw [Rat.intCast_mul, Rat.intCast_mul, ← h1, rat_parts]
      show c * (c.den : Rat) * ((D : Nat) : Rat) = c * ((D : Nat) : Rat) * ((c.den : Nat) : Rat)
      grind
    exact_mod_cast this
  have e2 : c.num.natAbs * D = m.natAbs * c.den := by
    have := congrArg Int.natAbs e
    rwa [Int.natAbs_mul, Int.natAbs_mul, Int.natAbs_natCast, Int.natAbs_natCast] at this
  have dv : c.den ∣ D := by
    have cop : Nat.Coprime c.den c.num.natAbs := c.reduced.symm
    exact cop.dvd_of_dvd_mul_left ⟨m.natAbs, by rw [e2, Nat.mul_comm]⟩
  refine ⟨dv, ?_⟩
  obtain ⟨k', hk⟩ := dv
  have k0 : 0 < k' := by
    cases k' with
    | zero => rw [Nat.mul_zero] at hk; omega
    | succ n => omega
  have dp : 0 < c.den := Nat.pos_of_ne_zero c.den_nz
  have e3 : c.num.natAbs * k' = m.natAbs := by
    rw [hk, Nat.mul_comm c.den k', ← Nat.mul_assoc] at e2
    exact Nat.eq_of_mul_eq_mul_right dp e2
  have : c.num.natAbs * 1 ≤ c.num.natAbs * k' := Nat.mul_le_mul_left _ k0
  omega
theorem IsI.sz {c : Rat} {D k j : Nat} (hD : 0 < D) (hd : D ≤ 2 ^ j) (h : IsI c D k) (hk : k < szB) (hj : j < szB) : Sz c := by
  obtain ⟨a, b⟩ := isI_parts hD h
  have l1 : 2 ^ k < 2 ^ szB := Nat.pow_lt_pow_right (by decide) hk
  have l2 : 2 ^ j < 2 ^ szB := Nat.pow_lt_pow_right (by decide) hj
  have := Nat.le_of_dvd hD a
  refine ⟨Nat.lt_of_le_of_lt b l1, ?_⟩
  show ((c.den : Nat) : Int).natAbs < 2 ^ szB
  rw [Int.natAbs_natCast]
  exact Nat.lt_of_le_of_lt (Nat.le_trans this hd) l2
structure PHD (D k : Nat) (f : List Rat) : Prop where
  p : 0 < D
  d : D ≤ 2 ^ k
  n : ∀ c ∈ f, IsI c D k
def PH (k : Nat) (f : List Rat) : Prop := ∃ D, PHD D k f
theorem PH.mono {k j : Nat} {f : List Rat} (h : PH k f) (hk : k ≤ j) : PH j f := let ⟨D, p, d, n⟩ := h; ⟨D, p, Nat.le_trans d (pow_mono hk), fun c hc => (n c hc).mono hk⟩
theorem PH.nil (k : Nat) : PH k [] := ⟨1, by decide, Nat.one_le_two_pow, fun c hc => by cases hc⟩
theorem PH.sub {k : Nat} {f g : List Rat} (h : PH k f) (hs : ∀ c ∈ g, c ∈ f) : PH k g := let ⟨D, p, d, n⟩ := h; ⟨D, p, d, fun c hc => n c (hs c hc)⟩
theorem PHD.sz {D k : Nat} {f : List Rat} (h : PHD D k f) (hk : k < szB) : Szs f := fun c hc => (h.n c hc).sz h.p h.d hk hk
theorem PH.sz {k : Nat} {f : List Rat} (h : PH k f) (hk : k < szB) : Szs f := let ⟨_, h⟩ := h; h.sz hk
theorem trimZ_mem {α : Type} {z : α → Bool} : ∀ {f : List α} {c : α}, c ∈ trimZ z f → c ∈ f
  | [], c, h => h
  | a :: f, c, h => by
    rw [trimZ_cons] at h
    split at h
    · cases h
    · rcases List.mem_cons.mp h with h | h
      · exact h ▸ List.mem_cons_self ..
      · exact List.mem_cons_of_mem _ (trimZ_mem h)
theorem mem_zip {F : Rat → Rat → Rat} : ∀ {f g : List Rat} {c : Rat}, c ∈ List.zipWith F f g → ∃ a b, a ∈ f ∧ b ∈ g ∧ c = F a b
  | [], g, c, h => by simp at h
  | a :: f, [], c, h => by simp at h
  | a :: f, b :: g, c, h => by
    rw [List.zipWith_cons_cons] at h
    rcases List.mem_cons.mp h with h | h
    · exact ⟨a, b, List.mem_cons_self .., List.mem_cons_self .., h⟩
    · obtain ⟨a', b', h1, h2, h3⟩ := mem_zip h
      exact ⟨a', b', List.mem_cons_of_mem _ h1, List.mem_cons_of_mem _ h2, h3⟩
theorem mem_pad {f : List Rat} {n : Nat} {c : Rat} (h : c ∈ padL f n) : c ∈ f ∨ c = 0 := by
  unfold padL at h
  rcases List.mem_append.mp h with h | h
  · exact .inl h
  · exact .inr (List.mem_replicate.mp h).2
theorem mem_shift {f : List Rat} {n : Nat} {c : Rat} (h : c ∈ shiftL n f) : c ∈ f ∨ c = 0 := by
  unfold shiftL at h
  rcases List.mem_append.mp h with h | h
  · exact .inr (List.mem_replicate.mp h).2
  · exact .inl h
theorem lastD_mem {f : List Rat} (h : f ≠ []) : lastD f ∈ f := by
  have := List.length_pos_iff.mpr h
  exact List.mem_of_getElem? (getD_at (show f.length - 1 < f.length by omega))
theorem sign_abs (w : Int) : w * w.sign = ((w.natAbs : Nat) : Int) := by
  rcases Int.lt_trichotomy w 0 with h | h | h
  · rw [Int.sign_eq_neg_one_of_neg h]; omega
  · subst h; rfl
  · rw [Int.sign_eq_one_of_pos h]; omega
theorem abs_sign (w : Int) : ((w.natAbs : Nat) : Rat) = (w : Rat) * (w.sign : Rat) := by
  rw [← Rat.intCast_mul, sign_abs]; rfl
theorem sign_le (w : Int) : w.sign.natAbs ≤ 1 := by
  rcases Int.lt_trichotomy w 0 with h | h | h
  · rw [Int.sign_eq_neg_one_of_neg h]; decide
  · subst h; decide
  · rw [Int.sign_eq_one_of_pos h]; decide
/-- what stands over the last of g -/
theorem over_isI {g : List Rat} {E b : Nat} {a : Rat} {D k : Nat} (hg : PHD E b g) (h0 : lastD g ≠ 0) (ha : IsI a D k) (hD : 0 < D) (hk : D ≤ 2 ^ k) :
    ∃ W : Nat, 0 < W ∧ W ≤ 2 ^ b ∧ IsI (a / lastD g) (D * W) (k + b) ∧ ∀ o j, IsI o E j → IsI (a / lastD g * o) (D * W) (k + j) := by
  obtain ⟨w, e1, l1⟩ := hg.n _ (lastD_mem (ne_of_lastD h0))
  obtain ⟨r, e2, l2⟩ := ha
  have E0 : ((E : Nat) : Rat) ≠ 0 := fun z => by
    have z2 : E = 0 := by exact_mod_cast z
    have := hg.p; omega
  have w0 : w ≠ 0 := fun z => by
    subst z
    have e1' : lastD g * (E : Rat) = 0 := e1
    rcases Rat.mul_eq_zero.mp e1' with z | z
    · exact h0 z
    · exact E0 z
  have c := Rat.div_mul_cancel (a := a) h0
  generalize a / lastD g = l at c
  have key : ∀ o : Rat, l * o * ((D * w.natAbs : Nat) : Rat) = (r : Rat) * (o * (E : Rat)) * (w.sign : Rat) := fun o => by
    rw [Rat.natCast_mul, abs_sign, ← e1, ← e2, ← c]; grind
  have sl := sign_le w
  refine ⟨w.natAbs, by omega, l1, ⟨r * (E : Int) * w.sign, ?_, ?_⟩, fun o j ho => ?_⟩
  · have := key 1
    rw [Rat.intCast_mul, Rat.intCast_mul]
    show _ = (r : Rat) * ((E : Nat) : Rat) * _
    grind
  · rw [Int.natAbs_mul, Int.natAbs_mul, Int.natAbs_natCast, Nat.pow_add]
    have a1 := Nat.mul_le_mul (Nat.mul_le_mul l2 hg.d) sl
    omega
  · obtain ⟨m, e3, l3⟩ := ho
    refine ⟨r * m * w.sign, ?_, ?_⟩
    · rw [key o, e3, Rat.intCast_mul, Rat.intCast_mul]
    · rw [Int.natAbs_mul, Int.natAbs_mul, Nat.pow_add]
      have a1 := Nat.mul_le_mul (Nat.mul_le_mul l2 l3) sl
      omega
theorem PH.over {f g : List Rat} {k j : Nat} (hf : PH k f) (hg : PH j g) (h0 : lastD g ≠ 0) : PH (k + j) (overL f g) := by
  obtain ⟨D, hD⟩ := hf
  obtain ⟨E, hE⟩ := hg
  by_cases hf0 : f = []
  · subst hf0; exact PH.nil _
  · obtain ⟨w, e1, l1⟩ := hE.n _ (lastD_mem (ne_of_lastD h0))
    have E0 : ((E : Nat) : Rat) ≠ 0 := fun z => by
      have z2 : E = 0 := by exact_mod_cast z
      have := hE.p; omega
    have w0 : w ≠ 0 := fun z => by
      subst z
      have e1' : lastD g * (E : Rat) = 0 := e1
      rcases Rat.mul_eq_zero.mp e1' with z | z
      · exact h0 z
      · exact E0 z
    refine ⟨D * w.natAbs, Nat.mul_pos hD.p (by omega), by rw [Nat.pow_add]; exact Nat.mul_le_mul hD.d l1, fun c hc => ?_⟩
    unfold overL at hc
    obtain ⟨a, ha, rfl⟩ := List.mem_map.mp hc
    obtain ⟨r, e2, l2⟩ := hD.n a ha
    have c := Rat.div_mul_cancel (a := a) h0
    have sl := sign_le w
    refine ⟨r * (E : Int) * w.sign, ?_, ?_⟩
    · show a / lastD g * _ = _
      generalize a / lastD g = l at c
      rw [Rat.natCast_mul, abs_sign, Rat.intCast_mul, Rat.intCast_mul, ← e1, ← e2, ← c]
      show _ = _ * ((E : Nat) : Rat) * _
      grind
    · rw [Int.natAbs_mul, Int.natAbs_mul, Int.natAbs_natCast, Nat.pow_add]
      have a1 := Nat.mul_le_mul (Nat.mul_le_mul l2 hE.d) sl
      omega
/-- .. over its own last -/
theorem PH.self {f : List Rat} {k : Nat} (hf : PH k f) (h0 : f ≠ [] → lastD f ≠ 0) : PH k (overL f f) := by
  obtain ⟨D, hD⟩ := hf
  by_cases hf0 : f = []
  · subst hf0; exact PH.nil _
  · obtain ⟨w, e1, l1⟩ := hD.n _ (lastD_mem hf0)
    have h0 := h0 hf0
    have E0 : ((D : Nat) : Rat) ≠ 0 := fun z => by
      have z2 : D = 0 := by exact_mod_cast z
      have := hD.p; omega
    have w0 : w ≠ 0 := fun z => by
      subst z
      have e1' : lastD f * (D : Rat) = 0 := e1
      rcases Rat.mul_eq_zero.mp e1' with z | z
      · exact h0 z
      · exact E0 z
    refine ⟨w.natAbs, by omega, l1, fun c hc => ?_⟩
    unfold overL at hc
    obtain ⟨a, ha, rfl⟩ := List.mem_map.mp hc
    obtain ⟨r, e2, l2⟩ := hD.n a ha
    have c := Rat.div_mul_cancel (a := a) h0
    have sl := sign_le w
    refine ⟨r * w.sign, ?_, ?_⟩
    · show a / lastD f * _ = _
      generalize a / lastD f = l at c
      rw [abs_sign, Rat.intCast_mul, ← e1, ← e2, ← c]
      grind
    · rw [Int.natAbs_mul]
      have a1 := Nat.mul_le_mul l2 sl
      omega
end My

set_option Elab.async false
set_option linter.all false
set_option maxHeartbeats 1000000
/-! M6: divisions with their sizes; common divisors. -/
namespace My
theorem neg1 : ((-1 : Int) : Rat) = -1 := rfl
/-- what one step of a division meets -/
theorem step_z {g rest : List Rat} {E b D A : Nat} (hg : PHD E b g) (h0 : lastD g ≠ 0) (hD : 0 < D) (hd : D ≤ 2 ^ A) (hr : ∀ c ∈ rest, IsI c D A) (h : g.length ≤ rest.length) :
    ∃ W : Nat, 0 < W ∧ W ≤ 2 ^ b ∧ IsI (lastD rest / lastD g) (D * W) (A + b) ∧ (∀ o ∈ g, IsI (lastD rest / lastD g * o) (D * W) (A + b)) ∧ (∀ n c, c ∈ List.zipWith (fun x y => x + y * (lastD rest / lastD g * ((-1 : Int) : Rat))) (padL rest n) (padL (shiftL (rest.length - g.length) g) n) → IsI c (D * W) (A + b + 1)) ∧ ∀ c ∈ stepF g rest, IsI c (D * W) (A + b + 1) := by
  have gp := List.length_pos_iff.mpr (ne_of_lastD h0)
  have r0 : rest ≠ [] := List.length_pos_iff.mp (by omega)
  obtain ⟨W, w1, w2, w3, w4⟩ := over_isI (a := lastD rest) hg h0 (hr _ (lastD_mem r0)) hD hd
  have w5 : ∀ o ∈ g, IsI (lastD rest / lastD g * o) (D * W) (A + b) := fun o ho => w4 o b (hg.n o ho)
  have w6 : ∀ n c, c ∈ List.zipWith (fun x y => x + y * (lastD rest / lastD g * ((-1 : Int) : Rat))) (padL rest n) (padL (shiftL (rest.length - g.length) g) n) → IsI c (D * W) (A + b + 1) := fun n c hc => by
    obtain ⟨x, y, hx, hy, rfl⟩ := mem_zip hc
    refine IsI.add ?_ ?_
    · rcases mem_pad hx with hx | rfl
      · exact isI_nat w2 _ (hr x hx)
      · exact isI_zero _ _
    · have e : y * (lastD rest / lastD g * ((-1 : Int) : Rat)) = -(lastD rest / lastD g * y) := by
        rw [neg1]
        generalize lastD rest / lastD g = l
        grind
      rw [e]
      refine IsI.neg ?_
      rcases mem_pad hy with hy | rfl
      · rcases mem_shift hy with hy | rfl
        · exact w5 y hy
        · rw [Rat.mul_zero]; exact isI_zero _ _
      · rw [Rat.mul_zero]; exact isI_zero _ _
  refine ⟨W, w1, w2, w3, w5, w6, fun c hc => ?_⟩
  rw [← stepL_eq h0 h] at hc
  exact w6 _ c (trimZ_mem hc)
/-- a division's bits where so many numbers are left -/
def dv (a b n m len : Nat) : Nat := a + min (n - len) (n + 1 - m) * (b + 1)
theorem dv_step {a b n m len len' : Nat} (h1 : m ≤ len) (h2 : len' < len) (h3 : len ≤ n) : dv a b n m len + b + 1 ≤ dv a b n m len' := by
  unfold dv
  have : (min (n - len) (n + 1 - m) + 1) * (b + 1) ≤ min (n - len') (n + 1 - m) * (b + 1) := Nat.mul_le_mul_right _ (by omega)
  rw [Nat.add_mul] at this
  omega
theorem dv_most (a b n m len : Nat) : dv a b n m len ≤ a + (n + 1 - m) * (b + 1) := by
  unfold dv
  have : min (n - len) (n + 1 - m) * (b + 1) ≤ (n + 1 - m) * (b + 1) := Nat.mul_le_mul_right _ (by omega)
  omega
structure DivZ (a b n m : Nat) (rest q : List Rat) : Prop where
  ex : ∃ D, 0 < D ∧ D ≤ 2 ^ dv a b n m rest.length ∧ (∀ c ∈ rest, IsI c D (dv a b n m rest.length)) ∧ ∀ c ∈ q, IsI c D (dv a b n m rest.length + b)
def DivJ (a b : Nat) (f g rest q : List Rat) : Prop := DivA f g rest q ∧ DivZ a b f.length g.length rest q
theorem DivZ.step {a b n m : Nat} {f g rest q : List Rat} (h : DivZ a b n m rest q) (hg : PH b g) (h0 : lastD g ≠ 0) (hm : g.length = m) (hn : rest.length ≤ n) (hl : g.length ≤ rest.length) : DivZ a b n m (stepF g rest) (q.set (rest.length - g.length) (lastD rest / lastD g)) := by
  obtain ⟨E, hE⟩ := hg
  obtain ⟨D, d1, d2, d3, d4⟩ := h.ex
  obtain ⟨W, w1, w2, w3, w4, w5, w6⟩ := step_z hE h0 d1 d2 d3 hl
  have gp := List.length_pos_iff.mpr (ne_of_lastD h0)
  have st := dv_step (a := a) (b := b) (n := n) (m := m) (by omega) (stepF_len g (show 0 < rest.length by omega)) hn
  refine ⟨D * W, Nat.mul_pos d1 w1, ?_, fun c hc => (w6 c hc).mono st, fun c hc => ?_⟩
  · refine Nat.le_trans ?_ (pow_mono (show dv a b n m rest.length + b ≤ _ by omega))
    rw [Nat.pow_add]
    exact Nat.mul_le_mul d2 w2
  · rcases List.mem_or_eq_of_mem_set hc with hc | rfl
    · exact (isI_nat w2 c (d4 c hc)).mono (by omega)
    · exact w3.mono (by omega)
theorem DivZ.start {a : Nat} (b : Nat) {f g : List Rat} (h : PH a f) : DivZ a b f.length g.length f (zerosL (f.length + 1 - g.length)) := by
  obtain ⟨D, hD⟩ := h
  have e : dv a b f.length g.length f.length = a := by unfold dv; rw [Nat.sub_self, Nat.zero_min, Nat.zero_mul, Nat.add_zero]
  refine ⟨D, hD.p, by rw [e]; exact hD.d, by rw [e]; exact hD.n, fun c hc => ?_⟩
  rw [(List.mem_replicate.mp hc).2]
  exact isI_zero _ _
theorem div_inv {f g : List Rat} {a b : Nat} (tf : Tr f) (h0 : lastD g ≠ 0) (hf : PH a f) (hg : PH b g) (lf : f.length < 400) (lg : g.length < 400) (lim : a + (f.length + 1 - g.length) * (b + 1) + b + 1 < szB) :
    DivI g (DivJ a b f g) ∧ LDivI g (DivJ a b f g) ∧ DivJ a b f g f (zerosL (f.length + 1 - g.length)) := by
  have st : ∀ rest q, DivJ a b f g rest q → g.length ≤ rest.length → DivJ a b f g (stepF g rest) (q.set (rest.length - g.length) (lastD rest / lastD g)) := fun rest q h hl => ⟨h.1.step h0 hl, h.2.step (f := f) hg h0 rfl h.1.rl hl⟩
  have bz : b < szB := by omega
  have fin : ∀ rest q, DivJ a b f g rest q → Szs rest ∧ Szs q := fun rest q h => by
    obtain ⟨D, d1, d2, d3, d4⟩ := h.2.ex
    have := dv_most a b f.length g.length rest.length
    exact ⟨fun c hc => (d3 c hc).sz d1 d2 (by omega) (by omega), fun c hc => (d4 c hc).sz d1 d2 (by omega) (by omega)⟩
  refine ⟨⟨ne_of_lastD h0, h0, hg.sz bz, lg, fun rest q h hl => ?_, st⟩, ⟨ne_of_lastD h0, h0, hg.sz bz, lg, fun left q h hl => ?_, fun left q h hl => ?_, fun rest q h => (fin rest q h).2⟩, DivA.start g tf, DivZ.start b hf⟩
  · obtain ⟨E, hE⟩ := hg
    obtain ⟨D, d1, d2, d3, d4⟩ := h.2.ex
    obtain ⟨W, w1, w2, w3, w4, w5, w6⟩ := step_z hE h0 d1 d2 d3 hl
    have dd : D * W ≤ 2 ^ (dv a b f.length g.length rest.length + b) := by rw [Nat.pow_add]; exact Nat.mul_le_mul d2 w2
    have := dv_most a b f.length g.length rest.length
    exact ⟨(fin rest q h).1, w3.sz (Nat.mul_pos d1 w1) dd (by omega) (by omega), fun o ho => (w4 o ho).sz (Nat.mul_pos d1 w1) dd (by omega) (by omega)⟩
  · have gz := hg.sz bz
    obtain ⟨E, hE⟩ := hg
    obtain ⟨D, d1, d2, d3, d4⟩ := h.2.ex
    obtain ⟨W, w1, w2, w3, w4, w5, w6⟩ := step_z hE h0 d1 d2 d3 hl
    have dd : D * W ≤ 2 ^ (dv a b f.length g.length left.length + b) := by rw [Nat.pow_add]; exact Nat.mul_le_mul d2 w2
    have dp := Nat.mul_pos d1 w1
    have := dv_most a b f.length g.length left.length
    have lz := h.1.rl
    have sz0' : Sz (0 : Rat) := (isI_zero 1 0).sz (k := 0) (j := 0) (by decide) (by decide) (by unfold szB; decide) (by unfold szB; decide)
    have e : ∀ y, y * (lastD left / lastD g * ((-1 : Int) : Rat)) = -(lastD left / lastD g * y) := fun y => by
      rw [neg1]
      generalize lastD left / lastD g = l
      grind
    have sl : (shiftL (left.length - g.length) g).length = left.length := by unfold shiftL; rw [List.length_append, List.length_replicate]; omega
    refine ⟨(fin left q h).1, w3.sz dp dd (by omega) (by omega), ⟨(fin left q h).1, fun c hc => ?_, ?_, fun c hc => ?_, by omega, by omega, fun c hc => ?_⟩⟩
    · rcases mem_shift hc with hc | rfl
      · exact gz c hc
      · exact sz0'
    · have := w3.neg.sz dp dd (by omega) (by omega)
      have e1 := e 1
      rw [show (1 : Rat) * (lastD left / lastD g * ((-1 : Int) : Rat)) = lastD left / lastD g * ((-1 : Int) : Rat) by grind, show lastD left / lastD g * 1 = lastD left / lastD g by grind] at e1
      rw [e1]; exact this
    · rw [e]
      rcases mem_shift hc with hc | rfl
      · exact (w4 c hc).neg.sz dp dd (by omega) (by omega)
      · rw [Rat.mul_zero]; exact sz0'
    · exact (w5 _ c hc).sz dp dd (by omega) (by omega)
  · have gp := List.length_pos_iff.mpr (ne_of_lastD h0)
    rw [stepL_eq h0 hl]
    exact ⟨st left q h hl, stepF_len g (by omega)⟩
theorem DivJ.q {a b : Nat} {f g rest q : List Rat} (h : DivJ a b f g rest q) : PH (a + (f.length + 1 - g.length) * (b + 1) + b) q := by
  obtain ⟨D, d1, d2, d3, d4⟩ := h.2.ex
  have := dv_most a b f.length g.length rest.length
  exact ⟨D, d1, Nat.le_trans d2 (pow_mono (by omega)), fun c hc => (d4 c hc).mono (by omega)⟩
theorem DivJ.r {a b : Nat} {f g rest q : List Rat} (h : DivJ a b f g rest q) : PH (a + (f.length - rest.length) * (b + 1)) rest := by
  obtain ⟨D, d1, d2, d3, d4⟩ := h.2.ex
  have : dv a b f.length g.length rest.length ≤ a + (f.length - rest.length) * (b + 1) := by
    unfold dv
    have : min (f.length - rest.length) (f.length + 1 - g.length) * (b + 1) ≤ (f.length - rest.length) * (b + 1) := Nat.mul_le_mul_right _ (by omega)
    omega
  exact ⟨D, d1, Nat.le_trans d2 (pow_mono this), fun c hc => (d3 c hc).mono this⟩
/-! ### the law's common divisor -/
structure LInv (k L : Nat) (f g near far : List Rat) : Prop where
  i : Idl f g near far
  tn : Tr near
  tf : Tr far
  n0 : near ≠ []
  ln : near.length ≤ L
  lf : far.length ≤ L
  zn : PH (bt k (L - near.length)) near
  zf : PH (bt k (L - far.length)) far
theorem bt_0 (k i : Nat) : k ≤ bt k i := bt_mono k (Nat.zero_le i)
theorem LInv.start {k L : Nat} {f g : List Rat} (tf : Tr f) (tg : Tr g) (f0 : f ≠ []) (lf : f.length ≤ L) (lg : g.length ≤ L) (zf : PH k f) (zg : PH k g) : LInv k L f g f g :=
  ⟨Idl.refl f g, tf, tg, f0, lf, lg, zf.mono (bt_0 _ _), zg.mono (bt_0 _ _)⟩
theorem div_lim {k L n m : Nat} (hm : 0 < m) (hn : n ≤ L) (hL : m ≤ L) : bt k (L - n) + (n + 1 - m) * (bt k (L - m) + 1) ≤ bt k L := by
  by_cases h : m ≤ n
  · have := bt_step k (t := L - n) (j := L - m) (i := L - m + 1) (by omega) (by omega)
    rw [show L - m + 1 - (L - n) = n + 1 - m by omega] at this
    exact Nat.le_trans this (bt_mono k (by omega))
  · rw [show n + 1 - m = 0 by omega, Nat.zero_mul]
    exact bt_mono k (by omega)
theorem LInv.step {k L : Nat} {f g near far r q : List Rat} (I : LInv k L f g near far) (h0 : far ≠ []) (d : DivJ (bt k (L - near.length)) (bt k (L - far.length)) near far r q) (hr : r.length < far.length) : LInv k L f g far (overL r r) := by
  have tr := d.1.tr
  have id : Idl f g far r := I.i.step (pf_ev q) (c := 1) (h := 1) (by decide) (by decide) fun x => by have := d.1.e x; grind
  have zr := d.r
  have b := bt_step k (t := L - near.length) (j := L - far.length) (i := L - r.length) (by have := d.1.rl; omega) (by have := I.lf; omega)
  rw [show L - r.length - (L - near.length) = near.length - r.length by have := I.ln; have := d.1.rl; omega] at b
  have zr' := zr.mono b
  refine ⟨?_, I.tf, ?_, h0, I.lf, by rw [overL_len]; have := I.lf; omega, I.zf, by rw [overL_len]; exact zr'.self fun h => tr h⟩
  · by_cases e : r = []
    · subst e; exact id
    · exact id.scale (c := 1) (c' := (lastD r)⁻¹) (by decide) (inv_ne (tr e)) (fun x => by grind) fun x => by rw [ev_overL]; grind
  · by_cases e : r = []
    · subst e; exact tr_nil
    · exact tr_overL tr (tr e)
/-- what is common, as both sides find it -/
structure Com (k L : Nat) (f g s : List Rat) : Prop where
  gc : Gc f g s
  h : lastD s = 1
  l : s.length ≤ L
  z : PH (bt k (L - s.length)) s
theorem Com.d0 {k L : Nat} {f g s : List Rat} (h : Com k L f g s) : lastD s ≠ 0 := by rw [h.h]; decide
theorem LInv.fin {k L : Nat} {f g near : List Rat} (I : LInv k L f g near []) : Com k L f g (overL near near) := by
  have h0 := I.tn I.n0
  refine ⟨I.i.fin (c := (lastD near)⁻¹) (inv_ne h0) fun x => by rw [ev_overL]; grind, lastD_over h0, by rw [overL_len]; exact I.ln, ?_⟩
  rw [overL_len]
  exact I.zn.self fun _ => h0
/-- .. by fewer bits: what has one number is 1 -/
theorem Com.z2 {k L : Nat} {f g s : List Rat} (h : Com k L f g s) (hL : 2 ≤ L) : PH (bt k (L - 2)) s := by
  have s0 := List.length_pos_iff.mpr (ne_of_lastD h.d0)
  by_cases h1 : s.length = 1
  · obtain ⟨c, rfl⟩ := List.length_eq_one_iff.mp h1
    have : c = 1 := h.h
    subst this
    refine ⟨1, by decide, Nat.one_le_two_pow, fun c hc => ?_⟩
    rw [List.mem_singleton] at hc
    subst hc
    exact isI_int (m := 1) (k := bt k (L - 2)) Nat.one_le_two_pow
  · have := h.l
    exact h.z.mono (bt_mono k (by omega))
/-- the bits of what is in lowest terms -/
def lowB (k L : Nat) : Nat := k + L * (bt k (L - 2) + 1) + bt k (L - 2)
theorem low_quot {k L b : Nat} {f s r q : List Rat} (hb : b = bt k (L - 2)) (d : DivJ k b f s r q) (l1 : f.length ≤ L) (l2 : 0 < s.length) : PH (lowB k L) q := by
  refine d.q.mono ?_
  subst hb
  unfold lowB
  have : (f.length + 1 - s.length) * (bt k (L - 2) + 1) ≤ L * (bt k (L - 2) + 1) := Nat.mul_le_mul_right _ (by omega)
  omega
/-! ### ints -/
def PB (k : Nat) (l : List Int) : Prop := ∀ n ∈ l, n.natAbs ≤ 2 ^ k
theorem PB.mono {k j : Nat} {l : List Int} (h : PB k l) (hk : k ≤ j) : PB j l := fun n hn => Nat.le_trans (h n hn) (pow_mono hk)
theorem PB.sz {k : Nat} {l : List Int} (h : PB k l) (hk : k < szB) : SzIs l := fun n hn => Nat.lt_of_le_of_lt (h n hn) (Nat.pow_lt_pow_right (by decide) hk)
theorem div_abs (n : Int) (g : Nat) : (n / (g : Int)).natAbs ≤ n.natAbs ∨ ¬ ((g : Int) ∣ n) := by
  by_cases h : (g : Int) ∣ n
  · left
    obtain ⟨k, rfl⟩ := h
    by_cases hg : g = 0
    · subst hg; simp
    · rw [Int.mul_ediv_cancel_left _ (by omega), Int.natAbs_mul, Int.natAbs_natCast]
      have : 1 * k.natAbs ≤ g * k.natAbs := Nat.mul_le_mul_right _ (by omega)
      omega
  · exact .inr h
theorem PB.plain {k : Nat} {l : List Int} (h : PB k l) : PB k (plainI l) := fun n hn => by
  unfold plainI at hn
  obtain ⟨m, hm, rfl⟩ := List.mem_map.mp hn
  rcases div_abs m (gcdI (trimI l)) with z | z
  · exact Nat.le_trans z (h m (trimZ_mem hm))
  · exact absurd (gcdI_dvd hm) z
theorem getD_mem_or {l : List Int} (i : Nat) : l.getD i 0 = 0 ∨ l.getD i 0 ∈ l := by
  rw [List.getD_eq_getElem?_getD]
  cases h : l[i]? with
  | none => exact .inl rfl
  | some a => exact .inr (List.mem_of_getElem? h)
theorem PB.get {k : Nat} {l : List Int} (h : PB k l) (i : Nat) : (l.getD i 0).natAbs ≤ 2 ^ k := by
  rcases getD_mem_or (l := l) i with z | z
  · rw [z]; exact Nat.zero_le _
  · exact h _ z
theorem PB.raw {a b : Nat} {g rest : List Int} (h : PB a rest) (hg : PB b g) : PB (a + b + 1) (rawI g rest) := fun n hn => by
  obtain ⟨i, hi, e⟩ := List.mem_iff_getElem.mp hn
  have e2 : (rawI g rest).getD i 0 = n := by rw [List.getD_eq_getElem?_getD, List.getElem?_eq_getElem hi, ← e]; rfl
  rw [rawI_len] at hi
  unfold rawI at e2
  rw [rowS_get _ _ _ _ _ (by rw [List.length_map]; exact hi)] at e2
  have e3 : (rest.map (· * headI g)).getD i 0 = rest.getD i 0 * headI g := by
    rw [List.getD_eq_getElem?_getD, List.getElem?_map, List.getD_eq_getElem?_getD]
    cases rest[i]? with
    | none => show (0 : Int) = 0 * _; omega
    | some a => rfl
  rw [e3] at e2
  have b1 : (headI g).natAbs ≤ 2 ^ b := by
    unfold headI
    rw [Int.natAbs_natCast]
    exact hg.get _
  have b2 : (lastI g rest).natAbs ≤ 2 ^ a := by
    unfold lastI
    have := h.get (rest.length - 1)
    split <;> omega
  have c1 := Nat.mul_le_mul (h.get i) b1
  rw [← Int.natAbs_mul, ← Nat.pow_add] at c1
  have c2 : (if rest.length - g.length ≤ i then lastI g rest * g.getD (i - (rest.length - g.length)) 0 else 0).natAbs ≤ 2 ^ (a + b) := by
    split
    · rw [Int.natAbs_mul, Nat.pow_add]
      exact Nat.mul_le_mul b2 (hg.get _)
    · exact Nat.zero_le _
  rw [Nat.pow_succ]
  omega
def IntJ (a b : Nat) (f g rest : List Int) : Prop := IntA f g rest ∧ PB (dv a b f.length g.length rest.length) rest
theorem int_inv {f g : List Int} {a b : Nat} (tf : Tr (cst f)) (tg : Tr (cst g)) (h0 : g ≠ []) (hf : PB a f) (hg : PB b g) (lg : g.length < 400) (lim : a + (f.length + 1 - g.length) * (b + 1) < szB) (lb : b < szB) : IntI g (IntJ a b f g) ∧ IntJ a b f g f := by
  have e : dv a b f.length g.length f.length = a := by unfold dv; rw [Nat.sub_self, Nat.zero_min, Nat.zero_mul, Nat.add_zero]
  refine ⟨⟨h0, hg.sz lb, lg, fun rest h hl => h.2.sz (by have := dv_most a b f.length g.length rest.length; omega), fun rest h hl => ⟨h.1.step tg h0 hl, ?_⟩⟩, IntA.start g tf, by rw [e]; exact hf⟩
  have st := dv_step (a := a) (b := b) (n := f.length) (m := g.length) hl (stepI_len h0 hl) h.1.rl
  exact (h.2.raw hg).plain.mono st
structure PInv (k L : Nat) (f g : List Rat) (near far : List Int) : Prop where
  i : Idl f g (cst near) (cst far)
  tn : Tr (cst near)
  tf : Tr (cst far)
  n0 : near ≠ []
  ln : near.length ≤ L
  lf : far.length ≤ L
  zn : PB (bt k (L - near.length)) near
  zf : PB (bt k (L - far.length)) far
theorem plainI_le (l : List Int) : (plainI l).length ≤ l.length := by
  rw [plainI_len]
  exact trimZ_le _ l
theorem PInv.step {k L : Nat} {f g : List Rat} {near far r : List Int} (I : PInv k L f g near far) (h0 : far ≠ []) (d : IntJ (bt k (L - near.length)) (bt k (L - far.length)) near far r) (hr : r.length < far.length) : PInv k L f g far (plainI r) := by
  obtain ⟨h, c, q, h1, h2, pq, e⟩ := d.1.e
  obtain ⟨k', k0, ek⟩ := ev_plainI r
  have b := bt_step k (t := L - near.length) (j := L - far.length) (i := L - r.length) (by have := d.1.rl; omega) (by have := I.lf; omega)
  rw [show L - r.length - (L - near.length) = near.length - r.length by have := I.ln; have := d.1.rl; omega] at b
  have b2 : dv (bt k (L - near.length)) (bt k (L - far.length)) near.length far.length r.length ≤ bt k (L - r.length) := by
    unfold dv
    have : min (near.length - r.length) (near.length + 1 - far.length) * (bt k (L - far.length) + 1) ≤ (near.length - r.length) * (bt k (L - far.length) + 1) := Nat.mul_le_mul_right _ (by omega)
    omega
  have pl := plainI_le r
  refine ⟨I.i.step pq (c := c * k') (h := h) (fun z => ?_) h1 fun x => by have := e x; have := ek x; grind, I.tf, tr_plainI r, h0, I.lf, by have := I.lf; omega, I.zf, (d.2.mono (Nat.le_trans b2 (bt_mono k (by omega)))).plain⟩
  rcases Rat.mul_eq_zero.mp z with z | z
  · exact h2 z
  · exact k0 z
theorem PInv.fin {k L : Nat} {f g : List Rat} {near : List Int} (I : PInv k L f g near []) : Com k L f g (monicI near) := by
  have n0 : cst near ≠ [] := fun z => I.n0 (cst_nil.mp z)
  have h0 : lastD (cst near) ≠ 0 := I.tn n0
  have e : monicI near = overL (cst near) (cst near) := by
    unfold monicI overL
    have : (cst near).getD ((cst near).length - 1) 0 = ((near.getD (near.length - 1) 0 : Int) : Rat) := by rw [cst_getD, cst_len]
    rw [this]
    unfold cst
    rw [List.map_map]; rfl
  have zp : PH (bt k (L - near.length)) (cst near) := ⟨1, by decide, Nat.one_le_two_pow, fun c hc => by
    unfold cst at hc
    obtain ⟨m, hm, rfl⟩ := List.mem_map.mp hc
    exact isI_int (I.zn m hm)⟩
  rw [e]
  refine ⟨I.i.fin (c := (lastD (cst near))⁻¹) (inv_ne h0) fun x => by rw [ev_overL]; grind, lastD_over h0, by rw [overL_len, cst_len]; exact I.ln, ?_⟩
  rw [overL_len, cst_len]
  exact zp.self fun _ => h0
theorem PH.whole {k : Nat} {f : List Rat} (h : PH k f) : PB k (wholeI f) := fun n hn => by
  obtain ⟨D, hD⟩ := h
  unfold wholeI at hn
  obtain ⟨q, hq, rfl⟩ := List.mem_map.mp hn
  obtain ⟨m, e, l⟩ := hD.n q hq
  have dd : ∀ q ∈ f, q.den ∣ D := fun q hq => (isI_parts hD.p (hD.n q hq)).1
  have d1 : dl f ∣ D := dl_dvd dd
  obtain ⟨t, ht⟩ := d1
  have dp := dl_pos f
  have w := whole_one (d := dl f) (den_dl hq)
  have e2 : q.num * ((dl f : Int) / (q.den : Int)) * (t : Int) = m := by
    have : ((q.num * ((dl f : Int) / (q.den : Int)) * (t : Int) : Int) : Rat) = (m : Rat) := by
      rw [Rat.intCast_mul, w, ← e, ht, Rat.natCast_mul]
      show q * (dl f : Rat) * ((t : Nat) : Rat) = _
      grind
    exact_mod_cast this
  have t0 : 0 < t := by
    cases t with
    | zero => have := hD.p; rw [ht] at this; omega
    | succ n => omega
  have e3 := congrArg Int.natAbs e2
  rw [Int.natAbs_mul, Int.natAbs_natCast] at e3
  have : (q.num * ((dl f : Int) / (q.den : Int))).natAbs * 1 ≤ (q.num * ((dl f : Int) / (q.den : Int))).natAbs * t := Nat.mul_le_mul_left _ t0
  omega
theorem PH.wh {k : Nat} {f : List Rat} (h : PH k f) (hk : k < 13000) (lf : f.length < 1000) : Wh f := by
  have sz := h.sz (show k < szB by unfold szB; omega)
  obtain ⟨D, hD⟩ := h
  exact ⟨⟨D, hD.p, Nat.lt_of_le_of_lt hD.d (Nat.pow_lt_pow_right (by decide) hk), fun q hq => (isI_parts hD.p (hD.n q hq)).1⟩, fun q hq => (sz q hq).n, lf⟩
theorem PInv.start {k L : Nat} {f g : List Rat} (tf : Tr f) (tg : Tr g) (f0 : f ≠ []) (lf : f.length ≤ L) (lg : g.length ≤ L) (zf : PH k f) (zg : PH k g) : PInv k L f g (plainI (wholeI f)) (plainI (wholeI g)) := by
  obtain ⟨c, c0, ec⟩ := ev_plainI (wholeI f)
  obtain ⟨d, d0, ed⟩ := ev_plainI (wholeI g)
  have nz : ∀ f : List Rat, (dl f : Rat) ≠ 0 := fun f z => by
    have : dl f = 0 := by exact_mod_cast z
    have := dl_pos f
    omega
  have k1 : c⁻¹ * c = 1 := Rat.inv_mul_cancel c c0
  have k2 : d⁻¹ * d = 1 := Rat.inv_mul_cancel d d0
  have i1 := inv_ne c0
  have i2 := inv_ne d0
  generalize c⁻¹ = ci at k1 i1
  generalize d⁻¹ = di at k2 i2
  have a1 := plainI_le (wholeI f)
  have a2 := plainI_le (wholeI g)
  have l1 : (plainI (wholeI f)).length ≤ f.length := by have := wholeI_len f; omega
  have l2 : (plainI (wholeI g)).length ≤ g.length := by have := wholeI_len g; omega
  have e1 : ∀ x, ev (cst (plainI (wholeI f))) x = (ci * (dl f : Rat)) * ev f x := fun x => by
    have a := ec x
    rw [cst_wholeI, ev_scale] at a
    grind
  have e2 : ∀ x, ev (cst (plainI (wholeI g))) x = (di * (dl g : Rat)) * ev g x := fun x => by
    have a := ed x
    rw [cst_wholeI, ev_scale] at a
    grind
  have m1 : ci * (dl f : Rat) ≠ 0 := fun z => by
    rcases Rat.mul_eq_zero.mp z with z | z
    · exact i1 z
    · exact nz f z
  have m2 : di * (dl g : Rat) ≠ 0 := fun z => by
    rcases Rat.mul_eq_zero.mp z with z | z
    · exact i2 z
    · exact nz g z
  refine ⟨(Idl.refl f g).scale m1 m2 e1 e2, tr_plainI _, tr_plainI _, fun z => ?_, by omega, by omega, zf.whole.plain.mono (bt_0 _ _), zg.whole.plain.mono (bt_0 _ _)⟩
  obtain ⟨x, hx⟩ := (evt_ne tf f0).get
  have := e1 x
  rw [z] at this
  have h2 : (0 : Rat) = (ci * (dl f : Rat)) * ev f x := this
  rcases Rat.mul_eq_zero.mp h2.symm with z | z
  · exact m1 z
  · exact hx z
end My

set_option Elab.async false
set_option linter.all false
set_option maxHeartbeats 1000000
/-! M7: worths. -/
namespace My
theorem wb_num (f : List Rat) (q : Rat) (high : Nat) (hl : f.length ≤ high + 1) : ∀ k, k ≤ high + 1 → wbS f q 1 high k = (ev (f.drop (high + 1 - k)) q, 1)
  | 0, _ => by
    rw [Nat.sub_zero, List.drop_eq_nil_of_le hl]; rfl
  | k + 1, h => by
    show (if high - k < f.length then (wbS f q 1 high k).1 * q + f.getD (high - k) 0 * (wbS f q 1 high k).2 else (wbS f q 1 high k).1 * q, (wbS f q 1 high k).2 * 1) = _
    rw [wb_num f q high hl k (by omega)]
    have e : high + 1 - (k + 1) = high - k := by omega
    rw [e]
    refine Prod.ext ?_ (by show (1 : Rat) * 1 = 1; grind)
    show (if high - k < f.length then ev (f.drop (high + 1 - k)) q * q + f.getD (high - k) 0 * 1 else ev (f.drop (high + 1 - k)) q * q) = ev (f.drop (high - k)) q
    split
    · rename_i hk
      have : f.drop (high - k) = f.getD (high - k) 0 :: f.drop (high + 1 - k) := by
        rw [List.drop_eq_getElem_cons hk, show high - k + 1 = high + 1 - k by omega]
        congr 1
        rw [List.getD_eq_getElem?_getD, List.getElem?_eq_getElem hk]; rfl
      rw [this]
      show _ = f.getD (high - k) 0 + q * ev (f.drop (high + 1 - k)) q
      grind
    · rw [List.drop_eq_nil_of_le (by omega), List.drop_eq_nil_of_le (by omega)]
      show (0 : Rat) * q = 0
      grind
theorem wb_inf (f : List Rat) (high : Nat) : ∀ k, wbS f 1 0 high (k + 1) = (f.getD high 0, 0)
  | 0 => by
    show (if high - 0 < f.length then (0 : Rat) * 1 + f.getD (high - 0) 0 * 1 else 0 * 1, (1 : Rat) * 0) = _
    refine Prod.ext ?_ (by show (1 : Rat) * 0 = 0; grind)
    show (if high - 0 < f.length then (0 : Rat) * 1 + f.getD (high - 0) 0 * 1 else 0 * 1) = f.getD high 0
    rw [Nat.sub_zero]
    split
    · grind
    · rw [getD_big (by omega)]; grind
  | k + 1 => by
    show (if high - (k + 1) < f.length then (wbS f 1 0 high (k + 1)).1 * 1 + f.getD (high - (k + 1)) 0 * (wbS f 1 0 high (k + 1)).2 else (wbS f 1 0 high (k + 1)).1 * 1, (wbS f 1 0 high (k + 1)).2 * 0) = _
    rw [wb_inf f high k]
    refine Prod.ext ?_ (by show (0 : Rat) * 0 = 0; grind)
    show (if high - (k + 1) < f.length then f.getD high 0 * 1 + f.getD (high - (k + 1)) 0 * 0 else f.getD high 0 * 1) = f.getD high 0
    split <;> grind
theorem form_val {f : List Rat} {high : Nat} (hl : f.length ≤ high + 1) (p : Pl) : formP f p high = val high f p := by
  unfold formP
  cases p with
  | inf =>
    show (wbS f 1 0 high (high + 1)).1 = f.getD high 0
    rw [wb_inf]
  | num q =>
    show (wbS f q 1 high (high + 1)).1 = ev f q
    rw [wb_num f q high hl (high + 1) (Nat.le_refl _), Nat.sub_self]
    rfl
/-- the power that a pair is looked at -/
def hi (n d : List Rat) : Nat := max n.length d.length - 1
theorem hi_n {n d : List Rat} : n.length ≤ hi n d + 1 := by unfold hi; omega
theorem hi_d {n d : List Rat} : d.length ≤ hi n d + 1 := by unfold hi; omega
theorem worth_val (n d : List Rat) (p : Pl) : worthP n d p = quo (val (hi n d) n p) (val (hi n d) d p) := by
  show quo (formP n p (hi n d)) (formP d p (hi n d)) = _
  rw [form_val hi_n, form_val hi_d]
theorem quo_scale {a b c : Rat} (hc : c ≠ 0) : quo (a * c) (b * c) = quo a b := by
  unfold quo
  by_cases hb : b = 0
  · rw [if_pos hb, if_pos (by rw [hb]; grind)]
  · have hbc : b * c ≠ 0 := fun z => by
      rcases Rat.mul_eq_zero.mp z with z | z
      · exact hb z
      · exact hc z
    rw [if_neg hb, if_neg hbc]
    congr 1
    have e1 := Rat.div_mul_cancel (a := a) hb
    have e2 := Rat.div_mul_cancel (a := a * c) hbc
    generalize a / b = x at *
    generalize a * c / (b * c) = y at *
    have : (b * c) * (y - x) = 0 := by grind
    rcases Rat.mul_eq_zero.mp this with z | z
    · exact absurd z hbc
    · grind
theorem zero_div (b : Rat) : (0 : Rat) / b = 0 := by rw [Rat.div_def]; grind
/-- a pair told in lowest terms -/
structure RP (L K : Nat) (n d : List Rat) : Prop where
  tn : Tr n
  hd : lastD d = 1
  cop : Cop n d
  ln : n.length ≤ L
  ld : d.length ≤ L
  zn : PH K n
  zd : PH K d
theorem RP.d0 {L K : Nat} {n d : List Rat} (h : RP L K n d) : lastD d ≠ 0 := by rw [h.hd]; decide
theorem RP.mono {L K L' K' : Nat} {n d : List Rat} (h : RP L K n d) (h1 : L ≤ L') (h2 : K ≤ K') : RP L' K' n d := ⟨h.tn, h.hd, h.cop, Nat.le_trans h.ln h1, Nat.le_trans h.ld h1, h.zn.mono h2, h.zd.mono h2⟩
theorem Low.rp {f g n d : List Rat} {L K : Nat} (h : Low f g n d) (ln : n.length ≤ L) (ld : d.length ≤ L) (zn : PH K n) (zd : PH K d) : RP L K n d := ⟨h.tn, h.hd, h.cop, ln, ld, zn, zd⟩
/-- the two forms of a pair are nowhere both nought -/
theorem val_nz {n d : List Rat} (tn : Tr n) (d0 : lastD d ≠ 0) (c : Cop n d) (p : Pl) : val (hi n d) n p ≠ 0 ∨ val (hi n d) d p ≠ 0 := by
  cases p with
  | num q =>
    obtain ⟨u, v, _, _, e⟩ := c
    by_cases h : ev n q = 0
    · right
      intro z
      have z' : ev d q = 0 := z
      have := e q
      rw [h, z'] at this
      grind
    · exact .inl h
  | inf =>
    have dp := List.length_pos_iff.mpr (ne_of_lastD d0)
    show n.getD (hi n d) 0 ≠ 0 ∨ d.getD (hi n d) 0 ≠ 0
    by_cases h : n.length ≤ d.length
    · right
      have : hi n d = d.length - 1 := by unfold hi; omega
      rw [this]
      exact d0
    · left
      have : hi n d = n.length - 1 := by unfold hi; omega
      rw [this]
      exact tn (List.length_pos_iff.mp (by omega))
theorem RP.nz {L K : Nat} {n d : List Rat} (h : RP L K n d) (p : Pl) : val (hi n d) n p ≠ 0 ∨ val (hi n d) d p ≠ 0 := val_nz h.tn h.d0 h.cop p
/-- a worth by forms of any power that fits -/
theorem worth_any {P Q : List Rat} {m : Nat} (h1 : P.length ≤ m + 1) (h2 : Q.length ≤ m + 1) (p : Pl) (nz : val m P p ≠ 0 ∨ val m Q p ≠ 0) : worthP P Q p = quo (val m P p) (val m Q p) := by
  rw [worth_val]
  cases p with
  | num q => rfl
  | inf =>
    have e : hi P Q = m := by
      unfold hi
      rcases nz with z | z
      · have : ¬ P.length ≤ m := fun l => z (getD_big l)
        omega
      · have : ¬ Q.length ≤ m := fun l => z (getD_big l)
        omega
    rw [e]
theorem val_over (m : Nat) (f g : List Rat) (p : Pl) : val m (overL f g) p = val m f p * (lastD g)⁻¹ := by rw [overL_eq, val_scale]
theorem worth_over {P Q : List Rat} {m : Nat} (q0 : lastD Q ≠ 0) (h1 : P.length ≤ m + 1) (h2 : Q.length ≤ m + 1) (p : Pl) (nz : val m P p ≠ 0 ∨ val m Q p ≠ 0) : worthP (overL P Q) (overL Q Q) p = quo (val m P p) (val m Q p) := by
  have i := inv_ne q0
  rw [worth_any (m := m) (by rw [overL_len]; exact h1) (by rw [overL_len]; exact h2) p ?_, val_over, val_over, quo_scale i]
  rw [val_over, val_over]
  rcases nz with z | z
  · left
    intro y
    rcases Rat.mul_eq_zero.mp y with y | y
    · exact z y
    · exact i y
  · right
    intro y
    rcases Rat.mul_eq_zero.mp y with y | y
    · exact z y
    · exact i y
theorem foldl_snoc (q : Rat) : ∀ (l : List Rat) (a : Rat), (l.reverse).foldl (fun x c => x * q + c) a = a * q ^ l.length + ev l q
  | [], a => by show a = a * q ^ 0 + 0; rw [Rat.pow_zero]; grind
  | c :: l, a => by
    rw [List.reverse_cons, List.foldl_append, foldl_snoc q l a]
    show (a * q ^ l.length + ev l q) * q + c = a * q ^ (l.length + 1) + (c + q * ev l q)
    rw [Rat.pow_succ]; grind
theorem horn_ev (f : List Rat) (q : Rat) : hornF f q = ev f q := by
  unfold hornF
  rw [foldl_snoc]; grind
theorem due_worth {f g : List Rat} (g0 : lastD g ≠ 0) (p : Pl) : dueP f g p = worthP f g p := by
  rw [worth_val]
  cases p with
  | num q =>
    show quo (hornF f q) (hornF g q) = quo (ev f q) (ev g q)
    rw [horn_ev, horn_ev]
  | inf =>
    have gp := List.length_pos_iff.mpr (ne_of_lastD g0)
    show (if g.length < f.length then Pl.inf else .num (if f.length = g.length then lastD f / lastD g else 0)) = quo (f.getD (hi f g) 0) (g.getD (hi f g) 0)
    by_cases h : g.length < f.length
    · rw [if_pos h]
      have : g.getD (hi f g) 0 = 0 := getD_big (by unfold hi; omega)
      unfold quo
      rw [if_pos this]
    · rw [if_neg h]
      have e : hi f g = g.length - 1 := by unfold hi; omega
      rw [e]
      unfold quo
      rw [if_neg g0]
      by_cases h2 : f.length = g.length
      · rw [if_pos h2, ← h2]
        show Pl.num (lastD f / lastD g) = Pl.num (lastD f / g.getD (f.length - 1) 0)
        rw [h2]
      · rw [if_neg h2, getD_big (f := f) (by omega), zero_div]
/-! ### sizes -/
def PSz (c : Nat) : Pl → Prop
  | .inf => True
  | .num q => ∃ t : Nat, 0 < t ∧ t ≤ 2 ^ c ∧ IsI q t c
theorem PSz.ab {c : Nat} {p : Pl} (h : PSz c p) : ∃ t : Nat, 0 < t ∧ t ≤ 2 ^ c ∧ IsI (plA p) t c ∧ (plB p = 0 ∨ plB p = 1) := by
  cases p with
  | inf => exact ⟨1, by decide, Nat.one_le_two_pow, isI_int (m := 1) Nat.one_le_two_pow, .inl rfl⟩
  | num q =>
    obtain ⟨t, h1, h2, h3⟩ := h
    exact ⟨t, h1, h2, h3, .inr rfl⟩
theorem tpow {t c : Nat} (h2 : t ≤ 2 ^ c) (k : Nat) : t ^ k ≤ 2 ^ (k * c) := by
  rw [Nat.mul_comm, Nat.pow_mul]
  exact Nat.pow_le_pow_left h2 k
theorem getD_isI {D K : Nat} {f : List Rat} (h : PHD D K f) (i : Nat) : IsI (f.getD i 0) D K := by
  rw [List.getD_eq_getElem?_getD]
  cases e : f[i]? with
  | none => exact isI_zero _ _
  | some a => exact h.n a (List.mem_of_getElem? e)
theorem isI_one : IsI 1 1 0 := isI_int (m := 1) (k := 0) (by decide)
/-- one turn of Horner's rule -/
theorem horn_isI {x a y : Rat} {D t K c k : Nat} (hx : IsI x (D * t ^ k) (K + k * (c + 1))) (ha : IsI a t c) (hy : IsI y D K) (h2 : t ≤ 2 ^ c) : IsI (x * a) (D * t ^ (k + 1)) (K + k * (c + 1) + c) ∧ IsI (x * a + y) (D * t ^ (k + 1)) (K + (k + 1) * (c + 1)) := by
  have e : D * t ^ k * t = D * t ^ (k + 1) := by rw [Nat.pow_succ, Nat.mul_assoc]
  have a1 := hx.mul ha
  rw [e] at a1
  have a2 := isI_nat (tpow h2 (k + 1)) y hy
  have e2 : (k + 1) * (c + 1) = k * (c + 1) + c + 1 := by rw [Nat.succ_mul]; omega
  have e3 : (k + 1) * c ≤ k * (c + 1) + c := by rw [Nat.succ_mul, Nat.mul_add]; omega
  exact ⟨a1, ((a1.mono (j := K + k * (c + 1) + c) (by omega)).add (a2.mono (by omega))).mono (by omega)⟩
theorem wb_isI {f : List Rat} {a b : Rat} {high D K t c : Nat} (hf : PHD D K f) (h2 : t ≤ 2 ^ c) (ha : IsI a t c) (hb : b = 0 ∨ b = 1) : ∀ k, IsI (wbS f a b high k).1 (D * t ^ k) (K + k * (c + 1)) ∧ ((wbS f a b high k).2 = 0 ∨ (wbS f a b high k).2 = 1)
  | 0 => ⟨isI_zero _ _, .inr rfl⟩
  | k + 1 => by
    obtain ⟨i1, i2⟩ := wb_isI hf h2 ha hb k
    refine ⟨?_, ?_⟩
    · show IsI (if high - k < f.length then (wbS f a b high k).1 * a + f.getD (high - k) 0 * (wbS f a b high k).2 else (wbS f a b high k).1 * a) _ _
      split
      · refine (horn_isI i1 ha ?_ h2).2
        rcases i2 with z | z
        · rw [z, Rat.mul_zero]; exact isI_zero _ _
        · rw [z, Rat.mul_one]; exact getD_isI hf _
      · exact (horn_isI i1 ha (isI_zero D K) h2).1.mono (by rw [Nat.succ_mul]; omega)
    · show (wbS f a b high k).2 * b = 0 ∨ (wbS f a b high k).2 * b = 1
      rcases i2 with z | z <;> rcases hb with y | y <;> rw [z, y] <;> first | (left; grind) | (right; grind)
theorem sz01 {x : Rat} (h : x = 0 ∨ x = 1) : Sz x := by
  rcases h with rfl | rfl
  · exact (isI_zero 1 0).sz (k := 0) (j := 0) (by decide) (by decide) (by unfold szB; decide) (by unfold szB; decide)
  · exact isI_one.sz (k := 0) (j := 0) (by decide) (by decide) (by unfold szB; decide) (by unfold szB; decide)
theorem wb_ok {f : List Rat} {p : Pl} {high K c : Nat} (hf : PH K f) (hp : PSz c p) (hl : f.length ≤ high + 1) (hh : high < 800) (lim : K + (high + 1) * (c + 1) + c < szB) : WbOk f (plA p) (plB p) high ∧ ∃ D, 0 < D ∧ D ≤ 2 ^ (K + (high + 1) * (c + 1)) ∧ IsI (formP f p high) D (K + (high + 1) * (c + 1)) := by
  have zf := hf.sz (show K < szB by omega)
  obtain ⟨D, hD⟩ := hf
  obtain ⟨t, t0, t1, ha, hb⟩ := hp.ab
  have hw := wb_isI (high := high) hD t1 ha hb
  have lz : ∀ k, k ≤ high + 1 → k * (c + 1) ≤ (high + 1) * (c + 1) := fun k hk => Nat.mul_le_mul_right _ hk
  have dz : ∀ k, k ≤ high + 1 → D * t ^ k ≤ 2 ^ (K + (high + 1) * (c + 1)) := fun k hk => by
    have := Nat.mul_le_mul hD.d (tpow t1 k)
    rw [← Nat.pow_add] at this
    refine Nat.le_trans this (pow_mono ?_)
    have := lz k hk
    have : k * c ≤ k * (c + 1) := Nat.mul_le_mul_left _ (by omega)
    omega
  have dp : ∀ k, 0 < D * t ^ k := fun k => Nat.mul_pos hD.p (Nat.pow_pos t0)
  refine ⟨⟨by omega, by omega, ?_, sz01 hb, zf, fun k hk => ?_⟩, D * t ^ (high + 1), dp _, dz _ (Nat.le_refl _), (hw (high + 1)).1⟩
  · exact ha.sz t0 t1 (by omega) (by omega)
  · obtain ⟨i1, i2⟩ := hw k
    have l1 := lz k (by omega)
    refine ⟨i1.sz (dp k) (dz k (by omega)) (by omega) (by omega), sz01 i2, ?_, fun _ => ?_⟩
    · have l2 := lz (k + 1) (by omega)
      rw [Nat.succ_mul] at l2
      exact (horn_isI i1 ha (isI_zero D K) t1).1.sz (dp (k + 1)) (dz (k + 1) (by omega)) (by omega) (by omega)
    · rcases i2 with z | z
      · rw [z, Rat.mul_zero]; exact sz01 (.inl rfl)
      · rw [z, Rat.mul_one]; exact (getD_isI hD _).sz hD.p hD.d (by omega) (by omega)
theorem quo_isI {x y : Rat} {D E k j : Nat} (hx : IsI x D k) (hD : 0 < D) (hd : D ≤ 2 ^ k) (hy : IsI y E j) (hE : 0 < E) (he : E ≤ 2 ^ j) (h0 : y ≠ 0) : ∃ t, 0 < t ∧ t ≤ 2 ^ (k + j) ∧ IsI (x / y) t (k + j) := by
  have hg : PHD E j [y] := ⟨hE, he, fun c hc => by rw [List.mem_singleton] at hc; subst hc; exact hy⟩
  obtain ⟨W, w1, w2, w3, _⟩ := over_isI (g := [y]) (a := x) hg h0 hx hD hd
  exact ⟨D * W, Nat.mul_pos hD w1, by rw [Nat.pow_add]; exact Nat.mul_le_mul hd w2, w3⟩
theorem quo_psz {x y : Rat} {D E k j : Nat} (hx : IsI x D k) (hD : 0 < D) (hd : D ≤ 2 ^ k) (hy : IsI y E j) (hE : 0 < E) (he : E ≤ 2 ^ j) : PSz (k + j) (quo x y) := by
  unfold quo
  by_cases h0 : y = 0
  · rw [if_pos h0]; trivial
  · rw [if_neg h0]
    exact quo_isI hx hD hd hy hE he h0
/-- the bits of a worth -/
def wB (L K c : Nat) : Nat := K + L * (c + 1)
theorem wo_ok {n d : List Rat} {p : Pl} {L K c : Nat} (zn : PH K n) (zd : PH K d) (d0 : d ≠ []) (ln : n.length ≤ L) (ld : d.length ≤ L) (hp : PSz c p) (hL : L < 800) (lim : wB L K c + c < szB) : WoOk n d p ∧ PSz (wB L K c + wB L K c) (worthP n d p) := by
  unfold wB at *
  have dp := List.length_pos_iff.mpr d0
  have hh : hi n d + 1 ≤ L := by unfold hi; omega
  have lm : (hi n d + 1) * (c + 1) ≤ L * (c + 1) := Nat.mul_le_mul_right _ hh
  obtain ⟨a1, D, d1, d2, d3⟩ := wb_ok (high := hi n d) zn hp hi_n (by omega) (by omega)
  obtain ⟨b1, E, e1, e2, e3⟩ := wb_ok (high := hi n d) zd hp hi_d (by omega) (by omega)
  have up : K + (hi n d + 1) * (c + 1) ≤ K + L * (c + 1) := by omega
  refine ⟨⟨d0, a1, b1, d3.sz d1 d2 (by omega) (by omega), e3.sz e1 e2 (by omega) (by omega)⟩, ?_⟩
  exact quo_psz (d3.mono up) d1 (Nat.le_trans d2 (pow_mono up)) (e3.mono up) e1 (Nat.le_trans e2 (pow_mono up))
theorem PSz.mono {c c' : Nat} {p : Pl} (h : PSz c p) (hc : c ≤ c') : PSz c' p := by
  cases p with
  | inf => trivial
  | num q =>
    obtain ⟨t, h1, h2, h3⟩ := h
    exact ⟨t, h1, Nat.le_trans h2 (pow_mono hc), h3.mono hc⟩
theorem isI_frac {n d : Int} {c : Nat} (hd : 0 < d) (h1 : n.natAbs ≤ 2 ^ c) (h2 : d.natAbs ≤ 2 ^ c) : ∃ t : Nat, 0 < t ∧ t ≤ 2 ^ c ∧ IsI ((n : Rat) / (d : Rat)) t c := by
  refine ⟨d.natAbs, by omega, h2, n, ?_, h1⟩
  have e : ((d.natAbs : Nat) : Rat) = (d : Rat) := by
    have : ((d.natAbs : Nat) : Int) = d := by omega
    rw [← this]; rfl
  rw [e]
  exact Rat.div_mul_cancel (by intro z; have : d = 0 := by exact_mod_cast z
                               omega)
theorem placeP_sz {p : Pl} (h : PlaceP p) : PSz 2 p := by
  cases p with
  | inf => trivial
  | num q =>
    obtain ⟨n, d, h1, h2, h3, rfl⟩ := h
    exact isI_frac (by omega) (by show _ ≤ 4; omega) (by show _ ≤ 4; omega)
theorem placeQ_sz {p : Pl} (h : PlaceQ p) : PSz 2 p := by
  cases p with
  | inf => trivial
  | num q =>
    rcases h with h | h
    · have key : ∃ n d : Int, -1 ≤ n ∧ n ≤ 1 ∧ (d = 1 ∨ d = 2) ∧ q = (n : Rat) / (d : Rat) := by
        rcases h with rfl | rfl | rfl | rfl
        · exact ⟨0, 1, by decide, by decide, .inl rfl, by rw [show ((0 : Int) : Rat) = 0 from rfl, zero_div]⟩
        · exact ⟨1, 1, by decide, by decide, .inl rfl, by rw [show ((1 : Int) : Rat) = 1 from rfl]; grind⟩
        · exact ⟨-1, 1, by decide, by decide, .inl rfl, by rw [show ((-1 : Int) : Rat) = -1 from rfl, show ((1 : Int) : Rat) = 1 from rfl]; grind⟩
        · exact ⟨1, 2, by decide, by decide, .inr rfl, rfl⟩
      obtain ⟨n, d, h1, h2, h3, rfl⟩ := key
      exact isI_frac (by omega) (by show _ ≤ 4; omega) (by show _ ≤ 4; omega)
    · exact placeP_sz h
theorem szR_of {n : Int} {k : Nat} (h : n.natAbs ≤ 2 ^ k) (hk : k ≤ 3 * (60 * mostP)) : SzR n := by
  have a : 2 ^ k ≤ (2 ^ 3) ^ (60 * mostP) := by rw [← Nat.pow_mul]; exact pow_mono hk
  have b : (2 ^ 3) ^ (60 * mostP) < 10 ^ (60 * mostP) := Nat.pow_lt_pow_left (by decide) (by unfold mostP; decide)
  exact Nat.lt_of_le_of_lt h (Nat.lt_of_le_of_lt a b)
theorem PSz.r {c : Nat} {p : Pl} (h : PSz c p) (hc : c ≤ 3 * (60 * mostP)) : SzRp p := by
  cases p with
  | inf => trivial
  | num q =>
    obtain ⟨t, h1, h2, h3⟩ := h
    obtain ⟨a, b⟩ := isI_parts h1 h3
    refine ⟨szR_of b hc, szR_of (k := c) ?_ hc⟩
    have := Nat.le_of_dvd h1 a
    rw [Int.natAbs_natCast]
    omega
theorem PSz.z {c : Nat} {q : Rat} (h : PSz c (.num q)) (hc : c < szB) : Sz q := by
  obtain ⟨t, h1, h2, h3⟩ := h
  exact h3.sz h1 h2 hc hc
/-! ### the law's Horner -/
theorem hornK_succ {f : List Rat} {q x : Rat} {k : Nat} (h : f.reverse[k]? = some x) : hornK f q (k + 1) = hornK f q k * q + x := by
  unfold hornK
  rw [List.take_add_one, h, List.foldl_append]; rfl
theorem hornK_isI {f : List Rat} {q : Rat} {D K t c : Nat} (hf : PHD D K f) (h2 : t ≤ 2 ^ c) (ha : IsI q t c) : ∀ k, k ≤ f.length → IsI (hornK f q k) (D * t ^ k) (K + k * (c + 1))
  | 0, _ => isI_zero _ _
  | k + 1, h => by
    have ih := hornK_isI hf h2 ha k (by omega)
    have e : f.reverse[k]? = some (f.reverse[k]'(by rw [List.length_reverse]; omega)) := List.getElem?_eq_getElem _
    rw [hornK_succ e]
    exact (horn_isI ih ha (hf.n _ (List.mem_reverse.mp (List.mem_of_getElem? e))) h2).2
theorem at_ok {f : List Rat} {q : Rat} {K c : Nat} (hf : PH K f) (hp : PSz c (.num q)) (hl : f.length < 800) (lim : K + f.length * (c + 1) + c < szB) : AtOk f q := by
  have zf := hf.sz (show K < szB by omega)
  obtain ⟨D, hD⟩ := hf
  obtain ⟨t, t0, t1, ha⟩ := hp
  have lz : ∀ k, k ≤ f.length → k * (c + 1) ≤ f.length * (c + 1) := fun k hk => Nat.mul_le_mul_right _ hk
  have dz : ∀ k, k ≤ f.length + 1 → D * t ^ k ≤ 2 ^ (K + f.length * (c + 1) + c) := fun k hk => by
    have := Nat.mul_le_mul hD.d (tpow t1 k)
    rw [← Nat.pow_add] at this
    refine Nat.le_trans this (pow_mono ?_)
    have l1 : k * c ≤ (f.length + 1) * c := Nat.mul_le_mul_right _ hk
    rw [Nat.succ_mul] at l1
    have : f.length * c ≤ f.length * (c + 1) := Nat.mul_le_mul_left _ (by omega)
    omega
  have dp : ∀ k, 0 < D * t ^ k := fun k => Nat.mul_pos hD.p (Nat.pow_pos t0)
  refine ⟨zf, ha.sz t0 t1 (by omega) (by omega), fun k hk => ?_, by omega⟩
  have i1 := hornK_isI hD t1 ha k hk
  have l1 := lz k hk
  exact ⟨i1.sz (dp k) (dz k (by omega)) (by omega) (by omega), (horn_isI i1 ha (isI_zero D K) t1).1.sz (dp (k + 1)) (dz (k + 1) (by omega)) (by omega) (by omega)⟩
theorem due_ok {n d : List Rat} {p : Pl} {L K c : Nat} (zn : PH K n) (zd : PH K d) (d0 : lastD d ≠ 0) (ln : n.length ≤ L) (ld : d.length ≤ L) (hp : PSz c p) (hL : L < 800) (lim : wB L K c + c < szB) : DueOk n d p := by
  unfold wB at lim
  have l1 : n.length * (c + 1) ≤ L * (c + 1) := Nat.mul_le_mul_right _ ln
  have l2 : d.length * (c + 1) ≤ L * (c + 1) := Nat.mul_le_mul_right _ ld
  exact ⟨ne_of_lastD d0, zn.sz (by omega), zd.sz (by omega), d0, fun q e => by subst e; exact ⟨at_ok zn hp (by omega) (by omega), at_ok zd hp (by omega) (by omega)⟩⟩
end My

set_option Elab.async false
set_option linter.all false
set_option maxHeartbeats 1000000
/-! M8: products, sums, what is put in. -/
namespace My
theorem mem_addL : ∀ {f g : List Rat} {c : Rat}, c ∈ addL f g → c ∈ f ∨ c ∈ g ∨ ∃ a b, a ∈ f ∧ b ∈ g ∧ c = a + b
  | [], g, c, h => .inr (.inl h)
  | a :: f, [], c, h => .inl h
  | a :: f, b :: g, c, h => by
    have h' : c ∈ (a + b) :: addL f g := h
    rcases List.mem_cons.mp h' with h | h
    · exact .inr (.inr ⟨a, b, List.mem_cons_self .., List.mem_cons_self .., h⟩)
    · rcases mem_addL h with h | h | ⟨x, y, h1, h2, h3⟩
      · exact .inl (List.mem_cons_of_mem _ h)
      · exact .inr (.inl (List.mem_cons_of_mem _ h))
      · exact .inr (.inr ⟨x, y, List.mem_cons_of_mem _ h1, List.mem_cons_of_mem _ h2, h3⟩)
theorem addL_isI {D k : Nat} {f g : List Rat} (hf : ∀ c ∈ f, IsI c D k) (hg : ∀ c ∈ g, IsI c D k) : ∀ c ∈ addL f g, IsI c D (k + 1) := fun c hc => by
  rcases mem_addL hc with h | h | ⟨x, y, h1, h2, rfl⟩
  · exact (hf c h).mono (by omega)
  · exact (hg c h).mono (by omega)
  · exact (hf x h1).add (hg y h2)
theorem mulL_isI {D E k j : Nat} : ∀ {f g : List Rat}, (∀ c ∈ f, IsI c D k) → (∀ c ∈ g, IsI c E j) → ∀ c ∈ mulL f g, IsI c (D * E) (k + j + f.length)
  | [], g, _, _, c, hc => by cases hc
  | a :: f, g, hf, hg, c, hc => by
    have ih := mulL_isI (f := f) (fun c hc => hf c (List.mem_cons_of_mem _ hc)) hg
    refine addL_isI (k := k + j + f.length) (f := g.map (· * a)) (g := 0 :: mulL f g) (fun c hc => ?_) (fun c hc => ?_) c hc
    · obtain ⟨b, hb, rfl⟩ := List.mem_map.mp hc
      have := (hf a (List.mem_cons_self ..)).mul (hg b hb)
      rw [Rat.mul_comm] at this
      exact this.mono (by omega)
    · rcases List.mem_cons.mp hc with rfl | hc
      · exact isI_zero _ _
      · exact ih c hc
theorem PH.mul {k j : Nat} {f g : List Rat} (hf : PH k f) (hg : PH j g) : PH (k + j + f.length) (mulL f g) := by
  obtain ⟨D, a⟩ := hf
  obtain ⟨E, b⟩ := hg
  refine ⟨D * E, Nat.mul_pos a.p b.p, ?_, mulL_isI a.n b.n⟩
  refine Nat.le_trans (Nat.mul_le_mul a.d b.d) ?_
  rw [← Nat.pow_add]
  exact pow_mono (by omega)
theorem PH.trim {k : Nat} {f : List Rat} (h : PH k f) : PH k (trimF f) := h.sub fun _ hc => trimZ_mem hc
theorem PH.times {k j : Nat} {f g : List Rat} (hf : PH k f) (hg : PH j g) : PH (k + j + f.length) (timesF f g) := by
  rw [timesF_eq]
  exact (hf.mul hg).trim
theorem PH.prod {k j : Nat} {f g : List Rat} (hf : PH k f) (hg : PH j g) : PH (k + j + f.length) (prodF f g) := by
  by_cases h1 : f = []
  · rw [prodF_nil _ _ (.inl h1)]; exact PH.nil _
  · by_cases h2 : g = []
    · rw [prodF_nil _ _ (.inr h2)]; exact PH.nil _
    · rw [prodF_eq h1 h2]; exact hf.mul hg
theorem PH.add {k j : Nat} {f g : List Rat} (hf : PH k f) (hg : PH j g) : PH (k + j + 1) (addL f g) := by
  obtain ⟨D, a⟩ := hf
  obtain ⟨E, b⟩ := hg
  refine ⟨D * E, Nat.mul_pos a.p b.p, ?_, addL_isI (fun c hc => isI_nat b.d c (a.n c hc)) fun c hc => ?_⟩
  · refine Nat.le_trans (Nat.mul_le_mul a.d b.d) ?_
    rw [← Nat.pow_add]
    exact pow_mono (by omega)
  · have := isI_nat a.d c (b.n c hc)
    rw [Nat.mul_comm, Nat.add_comm] at this
    exact this
theorem PH.sum {k j : Nat} {f g : List Rat} (hf : PH k f) (hg : PH j g) : PH (k + j + 1) (sumF f g) := (hf.add hg).trim
theorem PH.by {k j : Nat} {f : List Rat} {c : Rat} {E : Nat} (hf : PH k f) (hE : 0 < E) (he : E ≤ 2 ^ j) (hc : IsI c E j) : PH (k + j) (f.map (· * c)) := by
  obtain ⟨D, a⟩ := hf
  refine ⟨D * E, Nat.mul_pos a.p hE, by rw [Nat.pow_add]; exact Nat.mul_le_mul a.d he, fun x hx => ?_⟩
  obtain ⟨y, hy, rfl⟩ := List.mem_map.mp hx
  exact (a.n y hy).mul hc
theorem sum_len (f g : List Rat) : (sumF f g).length ≤ max f.length g.length := by
  have := trimZ_le (fun q : Rat => decide (q = 0)) (addL f g)
  rw [addL_len] at this
  exact this
theorem ev_sum (f g : List Rat) (x : Rat) : ev (sumF f g) x = ev f x + ev g x := by unfold sumF; rw [ev_trim, ev_add]
theorem val_sum (m : Nat) (f g : List Rat) (p : Pl) : val m (sumF f g) p = val m f p + val m g p := by unfold sumF; rw [val_trim, val_add]
theorem times_len {f g : List Rat} (hg : g ≠ []) : (timesF f g).length ≤ f.length + g.length - 1 := by
  rw [timesF_eq]
  refine Nat.le_trans (trimZ_le _ _) ?_
  by_cases h : f = []
  · subst h; exact Nat.zero_le _
  · rw [mulL_len h hg]; exact Nat.le_refl _
theorem tr_times (f g : List Rat) : Tr (timesF f g) := tr_trim _
theorem times_ne {f g : List Rat} (hf : lastD f ≠ 0) (hg : lastD g ≠ 0) : lastD (timesF f g) ≠ 0 := by
  refine tr_times f g fun z => ?_
  obtain ⟨x, h1, h2⟩ := ((evt_of_last hf).and (evt_of_last hg)).get
  have e := ev_times f g x
  rw [z] at e
  have e' : (0 : Rat) = ev f x * ev g x := e
  rcases Rat.mul_eq_zero.mp e'.symm with z | z
  · exact h1 z
  · exact h2 z
theorem times_nil {f g : List Rat} (hf : Tr f) (hf0 : f ≠ []) (hg : lastD g ≠ 0) : timesF f g ≠ [] := ne_of_lastD (times_ne (hf hf0) hg)
theorem pr_ok {f g : List Rat} {k j : Nat} (hf : PH k f) (hg : PH j g) (hk : k < 13000) (hj : j < 13000) (lf : f.length < 400) (lg : g.length < 400) : PrOk f g :=
  ⟨hf.wh hk (by omega), hg.wh hj (by omega), hf.whole.sz (by unfold szB; omega), hg.whole.sz (by unfold szB; omega), lf, lg⟩
/-! ### rows -/
theorem rowA_get (l : Rat) : ∀ (far : List Rat) (k : Nat) (cur : List Rat) (i : Nat), i < cur.length → (rowA l far k cur).getD i 0 = cur.getD i 0 + (if k ≤ i then l * far.getD (i - k) 0 else 0)
  | [], k, cur, i, h => by
    show cur.getD i 0 = _
    simp
    grind
  | r :: far, k, cur, i, h => by
    unfold rowA
    rw [rowA_get l far (k + 1) _ i (by rw [List.length_set]; exact h)]
    rw [List.getD_eq_getElem?_getD, List.getElem?_set]
    by_cases e : k = i
    · subst e
      rw [if_pos rfl, if_pos h, if_neg (by omega), if_pos (Nat.le_refl _), Nat.sub_self]
      show (cur.getD k 0 + l * r) + 0 = _ + l * r
      grind
    · rw [if_neg e, ← List.getD_eq_getElem?_getD]
      by_cases h2 : k + 1 ≤ i
      · rw [if_pos h2, if_pos (by omega), show i - k = (i - (k + 1)) + 1 by omega]
        rfl
      · rw [if_neg h2, if_neg (by omega)]
theorem row_isI {D E k j B : Nat} {l : Rat} {far cur : List Rat} (at_ : Nat) (hl : IsI l D k) (hf : ∀ c ∈ far, IsI c E j) (hc : ∀ c ∈ cur, IsI c (D * E) B) (hB : k + j ≤ B) : ∀ c ∈ rowA l far at_ cur, IsI c (D * E) (B + 1) := fun c h => by
  obtain ⟨i, hi, e⟩ := List.mem_iff_getElem.mp h
  have e2 : (rowA l far at_ cur).getD i 0 = c := by rw [List.getD_eq_getElem?_getD, List.getElem?_eq_getElem hi, ← e]; rfl
  rw [rowA_len] at hi
  rw [rowA_get _ _ _ _ _ hi] at e2
  rw [← e2]
  refine IsI.add (hc _ (List.mem_of_getElem? (getD_at hi))) ?_
  split
  · have : IsI (far.getD (i - at_) 0) E j := by
      rw [List.getD_eq_getElem?_getD]
      cases e : far[i - at_]? with
      | none => exact isI_zero _ _
      | some a => exact hf a (List.mem_of_getElem? e)
    exact (hl.mul this).mono hB
  · exact isI_zero _ _
theorem conv_isI {D E k j : Nat} : ∀ {near far : List Rat} {at_ B : Nat} {cur : List Rat}, (∀ c ∈ near, IsI c D k) → (∀ c ∈ far, IsI c E j) → (∀ c ∈ cur, IsI c (D * E) B) → k + j ≤ B → ∀ c ∈ convA near far at_ cur, IsI c (D * E) (B + near.length)
  | [], far, at_, B, cur, _, _, hc, _, c, h => hc c h
  | l :: near, far, at_, B, cur, hn, hf, hc, hB, c, h => by
    have := conv_isI (near := near) (at_ := at_ + 1) (B := B + 1) (cur := rowA l far at_ cur) (fun c hc => hn c (List.mem_cons_of_mem _ hc)) hf (row_isI at_ (hn l (List.mem_cons_self ..)) hf hc hB) (by omega) c h
    rw [List.length_cons]
    exact this.mono (by omega)
theorem times_ok {f g : List Rat} {k j : Nat} (hf : PH k f) (hg : PH j g) (lf : f.length < 400) (lg : g.length < 400) (lim : k + j + f.length + 1 < szB) : TimesOk f g := by
  have zf := hf.sz (show k < szB by omega)
  have zg := hg.sz (show j < szB by omega)
  obtain ⟨D, a⟩ := hf
  obtain ⟨E, b⟩ := hg
  have dp := Nat.mul_pos a.p b.p
  have de : D * E ≤ 2 ^ (k + j) := by rw [Nat.pow_add]; exact Nat.mul_le_mul a.d b.d
  have hz : ∀ n, ∀ c ∈ zerosL n, IsI c (D * E) (k + j) := fun n c hc => by
    rw [(List.mem_replicate.mp hc).2]; exact isI_zero _ _
  refine ⟨zf, zg, fun l hl r hr => ?_, fun i m l hl hm c hc => ?_, lf, lg, fun c hc => ?_⟩
  · have := (a.n l hl).mul (b.n r hr)
    rw [Rat.mul_comm]
    exact this.sz dp de (by omega) (by omega)
  · have ck := conv_isI (near := f.take i) (far := g) (at_ := 0) (cur := zerosL (f.length + g.length - 1)) (fun c hc => a.n c (List.mem_of_mem_take hc)) b.n (hz _) (Nat.le_refl _)
    have l1 : (f.take i).length ≤ f.length := by rw [List.length_take]; omega
    have := row_isI (far := g.take m) i (a.n l (List.mem_of_getElem? hl)) (fun c hc => b.n c (List.mem_of_mem_take hc)) ck (by omega) c hc
    exact this.sz dp de (by omega) (by omega)
  · exact (conv_isI (at_ := 0) a.n b.n (hz _) (Nat.le_refl _) c hc).sz dp de (by omega) (by omega)
/-! ### drawn polys -/
theorem coef_isI {c : Rat} (h : Coef c) : IsI c 2 3 := by
  obtain ⟨n, d, h1, h2, h3, rfl⟩ := h
  rcases h3 with rfl | rfl
  · refine ⟨n * 2, ?_, by show _ ≤ 8; omega⟩
    rw [Rat.intCast_mul, show ((1 : Int) : Rat) = 1 from rfl, show ((2 : Nat) : Rat) = ((2 : Int) : Rat) from rfl]
    grind
  · refine ⟨n, ?_, by show _ ≤ 8; omega⟩
    exact Rat.div_mul_cancel (by decide)
theorem ph_one : PH 3 [1] := ⟨1, by decide, by decide, fun c hc => by rw [List.mem_singleton] at hc; subst hc; exact isI_one.mono (by decide)⟩
theorem DrawP.ph {m : Nat} {f : List Rat} (h : DrawP m f) : PH 3 f := ⟨2, by decide, by decide, fun c hc => coef_isI (h.c c hc)⟩
theorem DrawP.tr {m : Nat} {f : List Rat} (h : DrawP m f) : Tr f := tr_of h.z
theorem DrawG.ph {m : Nat} {f : List Rat} (h : DrawG m f) : PH 3 f := by
  rcases h with rfl | h
  · exact ph_one
  · exact h.ph
theorem DrawG.z {m : Nat} {f : List Rat} (h : DrawG m f) : lastD f ≠ 0 := by
  rcases h with rfl | h
  · decide
  · exact h.z
theorem DrawG.l {m : Nat} {f : List Rat} (h : DrawG m f) : f.length ≤ m + 1 := by
  rcases h with rfl | h
  · show 1 ≤ m + 1; omega
  · exact h.l
theorem DrawF.ph {m : Nat} {f : List Rat} (h : DrawF m f) : PH 3 f := by
  rcases h with rfl | h
  · exact PH.nil _
  · exact h.ph
theorem DrawF.tr {m : Nat} {f : List Rat} (h : DrawF m f) : Tr f := by
  rcases h with rfl | h
  · exact tr_nil
  · exact h.tr
theorem DrawF.l {m : Nat} {f : List Rat} (h : DrawF m f) : f.length ≤ m + 1 := by
  rcases h with rfl | h
  · exact Nat.zero_le _
  · exact h.l
theorem line_ok {q : Rat} (h : q = 0 ∨ q = 1 ∨ q = -1 ∨ q = 1 / 2) : PH 3 (lineF q) ∧ lastD (lineF q) ≠ 0 ∧ (lineF q).length ≤ 2 := by
  have e : lineF q = [0 - q, 1] := rfl
  have c : IsI (0 - q) 2 3 := by
    rcases h with rfl | rfl | rfl | rfl
    · exact ⟨0, by decide +kernel, by decide⟩
    · exact ⟨-2, by decide +kernel, by decide⟩
    · exact ⟨2, by decide +kernel, by decide⟩
    · exact ⟨-1, by decide +kernel, by decide⟩
  rw [e]
  refine ⟨⟨2, by decide, by decide, fun x hx => ?_⟩, by show (1 : Rat) ≠ 0; decide, Nat.le_refl _⟩
  rcases List.mem_cons.mp hx with rfl | hx
  · exact c
  · rw [List.mem_singleton] at hx
    subst hx
    exact ⟨2, by decide +kernel, by decide⟩
theorem line_sz {q : Rat} (h : q = 0 ∨ q = 1 ∨ q = -1 ∨ q = 1 / 2) : Sz (0 - q) := by
  have := (line_ok h).1.sz (show 3 < szB by unfold szB; decide)
  exact this _ (List.mem_cons_self ..)
/-! ### sums and products of fractions -/
theorem quo_num {a b x : Rat} (h : quo a b = .num x) : b ≠ 0 ∧ x * b = a := by
  unfold quo at h
  by_cases hb : b = 0
  · rw [if_pos hb] at h; cases h
  · rw [if_neg hb] at h
    cases h
    exact ⟨hb, Rat.div_mul_cancel hb⟩
theorem quo_of {a b x : Rat} (hb : b ≠ 0) (h : x * b = a) : quo a b = .num x := by
  unfold quo
  rw [if_neg hb]
  congr 1
  have := Rat.div_mul_cancel (a := a) hb
  have h2 : b * (a / b - x) = 0 := by grind
  rcases Rat.mul_eq_zero.mp h2 with z | z
  · exact absurd z hb
  · grind
/-- the worth of what is short for N over D -/
theorem low_worth {N D x y : List Rat} {m : Nat} (h : Low N D x y) (hN : N.length ≤ m + 1) (hD : D.length ≤ m + 1) (p : Pl) {w : Rat} (d0 : val m D p ≠ 0) (e : w * val m D p = val m N p) : worthP x y p = .num w := by
  rw [worth_val]
  have nz := val_nz h.tn h.d0 h.cop p
  have k : val (hi x y + m) (mulL x D) p = val (hi x y + m) (mulL y N) p := val_ev (fun t => by rw [ev_mulL, ev_mulL]; have := h.e t; grind) _ p
  rw [val_mul hi_n hD, val_mul hi_d hN] at k
  generalize val (hi x y) x p = X at *
  generalize val (hi x y) y p = Y at *
  have y0 : Y ≠ 0 := fun z => by
    rw [z] at k nz
    have : X * val m D p = 0 := by grind
    rcases Rat.mul_eq_zero.mp this with z | z
    · exact nz.elim (fun q => q z) fun q => q rfl
    · exact d0 z
  refine quo_of y0 ?_
  have : val m D p * (w * Y - X) = 0 := by grind
  rcases Rat.mul_eq_zero.mp this with z | z
  · exact absurd z d0
  · grind
theorem add_worth {n d n' d' x y : List Rat} (h : Low (sumF (prodF n d') (prodF n' d)) (prodF d d') x y) (p : Pl) {a b : Rat} (h1 : worthP n d p = .num a) (h2 : worthP n' d' p = .num b) : worthP x y p = .num (a + b) := by
  rw [worth_val] at h1 h2
  obtain ⟨b1, e1⟩ := quo_num h1
  obtain ⟨b2, e2⟩ := quo_num h2
  have l1 : n.length ≤ hi n d + 1 := hi_n
  have l2 : d.length ≤ hi n d + 1 := hi_d
  have l3 : n'.length ≤ hi n' d' + 1 := hi_n
  have l4 : d'.length ≤ hi n' d' + 1 := hi_d
  generalize hi n d = m at *
  generalize hi n' d' = k at *
  have p1 := prod_len n d'
  have p2 := prod_len n' d
  have p3 := prod_len d d'
  have s1 := sum_len (prodF n d') (prodF n' d)
  have v1 : val (m + k) (prodF d d') p = val m d p * val k d' p := val_prod l2 l4 p
  have v2 : val (m + k) (sumF (prodF n d') (prodF n' d)) p = val m n p * val k d' p + val k n' p * val m d p := by
    rw [val_sum, val_prod l1 l4, show m + k = k + m by omega, val_prod l3 l2]
  refine low_worth (m := m + k) h (by omega) (by omega) p ?_ ?_
  · rw [v1]
    intro z
    rcases Rat.mul_eq_zero.mp z with z | z
    · exact b1 z
    · exact b2 z
  · rw [v1, v2]; grind
theorem mul_worth {n d n' d' x y : List Rat} (h : Low (prodF n n') (prodF d d') x y) (p : Pl) {a b : Rat} (h1 : worthP n d p = .num a) (h2 : worthP n' d' p = .num b) : worthP x y p = .num (a * b) := by
  rw [worth_val] at h1 h2
  obtain ⟨b1, e1⟩ := quo_num h1
  obtain ⟨b2, e2⟩ := quo_num h2
  have l1 : n.length ≤ hi n d + 1 := hi_n
  have l2 : d.length ≤ hi n d + 1 := hi_d
  have l3 : n'.length ≤ hi n' d' + 1 := hi_n
  have l4 : d'.length ≤ hi n' d' + 1 := hi_d
  generalize hi n d = m at *
  generalize hi n' d' = k at *
  have p1 := prod_len n n'
  have p3 := prod_len d d'
  have v1 : val (m + k) (prodF d d') p = val m d p * val k d' p := val_prod l2 l4 p
  have v2 : val (m + k) (prodF n n') p = val m n p * val k n' p := val_prod l1 l3 p
  refine low_worth (m := m + k) h (by omega) (by omega) p ?_ ?_
  · rw [v1]
    intro z
    rcases Rat.mul_eq_zero.mp z with z | z
    · exact b1 z
    · exact b2 z
  · rw [v1, v2]; grind
end My

set_option Elab.async false
set_option linter.all false
set_option maxHeartbeats 1000000
/-! M9: a fraction of a fraction. -/
namespace My
def hom (f : List Rat) (a b : Rat) (high : Nat) : Nat → Rat
  | 0 => 0
  | k + 1 => hom f a b high k + f.getD k 0 * (a ^ k * b ^ (high - k))
theorem pow_len {f : List Rat} {m : Nat} (h : f.length ≤ m + 1) : ∀ k, (powF f k).length ≤ m * k + 1
  | 0 => by show 1 ≤ m * 0 + 1; omega
  | k + 1 => by
    have ih := pow_len h k
    have := prod_len (powF f k) f
    show (prodF (powF f k) f).length ≤ _
    rw [Nat.mul_succ]
    omega
theorem tr_pow {f : List Rat} (h : Tr f) : ∀ k, Tr (powF f k)
  | 0 => fun _ => by show (1 : Rat) ≠ 0; decide
  | k + 1 => tr_prod (tr_pow h k) h
theorem val_pow {f : List Rat} {m : Nat} (h : f.length ≤ m + 1) (p : Pl) : ∀ k, val (m * k) (powF f k) p = val m f p ^ k
  | 0 => by
    rw [Rat.pow_zero]
    cases p with
    | inf => rfl
    | num q => show (1 : Rat) + q * 0 = 1; grind
  | k + 1 => by
    show val (m * (k + 1)) (prodF (powF f k) f) p = _
    rw [Nat.mul_succ, val_prod (pow_len h k) h, val_pow h p k, Rat.pow_succ]
section
variable {n d : List Rat} {m high : Nat} (hn : n.length ≤ m + 1) (hd : d.length ≤ m + 1)
include hn hd
theorem putT_len {k : Nat} (hk : k ≤ high) (c : Rat) : (putT n d high k c).length ≤ m * high + 1 := by
  unfold putT
  refine Nat.le_trans (trimZ_le _ _) ?_
  rw [List.length_map]
  have a := prod_len (powF n k) (powF d (high - k))
  have b := pow_len hn k
  have c := pow_len hd (high - k)
  have : m * high = m * k + m * (high - k) := by rw [← Nat.mul_add]; congr 1; omega
  omega
theorem val_putT {k : Nat} (hk : k ≤ high) (c : Rat) (p : Pl) : val (m * high) (putT n d high k c) p = c * (val m n p ^ k * val m d p ^ (high - k)) := by
  unfold putT
  have : m * high = m * k + m * (high - k) := by rw [← Nat.mul_add]; congr 1; omega
  rw [val_trim, val_scale, this, val_prod (pow_len hn k) (pow_len hd (high - k)), val_pow hn, val_pow hd]; grind
theorem putK_len (f : List Rat) : ∀ k, k ≤ high + 1 → (putK n d high f k).length ≤ m * high + 1
  | 0, _ => Nat.zero_le _
  | k + 1, h => by
    have ih := putK_len f k (by omega)
    show (if f.getD k 0 = 0 then putK n d high f k else sumF (putK n d high f k) (putT n d high k (f.getD k 0))).length ≤ _
    split
    · exact ih
    · have a := sum_len (putK n d high f k) (putT n d high k (f.getD k 0))
      have b := putT_len hn hd (high := high) (k := k) (by omega) (f.getD k 0)
      omega
theorem val_putK (f : List Rat) (p : Pl) : ∀ k, k ≤ high + 1 → val (m * high) (putK n d high f k) p = hom f (val m n p) (val m d p) high k
  | 0, _ => val_nil _ _
  | k + 1, h => by
    have ih := val_putK f p k (by omega)
    show val _ (if f.getD k 0 = 0 then putK n d high f k else sumF (putK n d high f k) (putT n d high k (f.getD k 0))) p = hom f _ _ high k + _
    split
    · rename_i z
      rw [ih, z]; grind
    · rw [val_sum, ih, val_putT hn hd (by omega)]
end
theorem tr_putK (n d : List Rat) (high : Nat) (f : List Rat) : ∀ k, Tr (putK n d high f k)
  | 0 => tr_nil
  | k + 1 => by
    show Tr (if f.getD k 0 = 0 then putK n d high f k else sumF (putK n d high f k) (putT n d high k (f.getD k 0)))
    split
    · exact tr_putK n d high f k
    · exact tr_trim _
theorem ev_take_succ (x : Rat) : ∀ (f : List Rat) (k : Nat), ev (f.take (k + 1)) x = ev (f.take k) x + f.getD k 0 * x ^ k
  | [], k => by rw [List.take_nil, List.take_nil]; show (0 : Rat) = 0 + 0 * x ^ k; grind
  | a :: f, 0 => by
    show a + x * ev (f.take 0) x = 0 + a * x ^ 0
    rw [Rat.pow_zero]
    show a + x * 0 = _
    grind
  | a :: f, k + 1 => by
    show a + x * ev (f.take (k + 1)) x = (a + x * ev (f.take k) x) + f.getD k 0 * x ^ (k + 1)
    rw [ev_take_succ x f k, Rat.pow_succ]; grind
theorem mul_pow (x b : Rat) : ∀ k : Nat, (x * b) ^ k = x ^ k * b ^ k
  | 0 => by rw [Rat.pow_zero, Rat.pow_zero, Rat.pow_zero]; grind
  | k + 1 => by rw [Rat.pow_succ, Rat.pow_succ, Rat.pow_succ, mul_pow x b k]; grind
theorem hom_at (f : List Rat) (x b : Rat) (high : Nat) : ∀ k, k ≤ high + 1 → hom f (x * b) b high k = b ^ high * ev (f.take k) x
  | 0, _ => by show (0 : Rat) = b ^ high * 0; grind
  | k + 1, h => by
    show hom f (x * b) b high k + _ = _
    rw [hom_at f x b high k (by omega), ev_take_succ, mul_pow]
    have : b ^ high = b ^ k * b ^ (high - k) := by rw [← rat_pow_add]; congr 1; omega
    rw [this]; grind
theorem zero_pow {k : Nat} (h : 0 < k) : (0 : Rat) ^ k = 0 := by
  obtain ⟨j, rfl⟩ : ∃ j, k = j + 1 := ⟨k - 1, by omega⟩
  rw [Rat.pow_succ]; grind
theorem hom_zero (f : List Rat) (a : Rat) (high : Nat) : ∀ k, k ≤ high → hom f a 0 high k = 0
  | 0, _ => rfl
  | k + 1, h => by
    show hom f a 0 high k + _ = _
    rw [hom_zero f a high k (by omega), zero_pow (show 0 < high - k by omega)]; grind
theorem hom_len {f : List Rat} (a b : Rat) (high : Nat) : ∀ {k j : Nat}, f.length ≤ k → hom f a b high (k + j) = hom f a b high k
  | k, 0, _ => rfl
  | k, j + 1, h => by
    show hom f a b high (k + j) + f.getD (k + j) 0 * (a ^ (k + j) * b ^ (high - (k + j))) = _
    rw [hom_len a b high h, getD_big (f := f) (show f.length ≤ k + j by omega)]; grind
theorem hom_full {f : List Rat} {high : Nat} (h : f.length ≤ high + 1) (a b : Rat) : hom f a b high f.length = hom f a b high (high + 1) := by
  have := hom_len (f := f) a b high (k := f.length) (j := high + 1 - f.length) (Nat.le_refl _)
  rw [show f.length + (high + 1 - f.length) = high + 1 by omega] at this
  exact this.symm
/-- the forms of what is put in -/
theorem hom_val {f : List Rat} {high : Nat} (h : f.length ≤ high + 1) {a b : Rat} (nz : a ≠ 0 ∨ b ≠ 0) : ∃ c, c ≠ 0 ∧ ∀ g : List Rat, g.length ≤ high + 1 → hom g a b high g.length = val high g (quo a b) * c := by
  have pw : ∀ x : Rat, x ≠ 0 → ∀ k : Nat, x ^ k ≠ 0 := fun x hx k => by
    induction k with
    | zero => rw [Rat.pow_zero]; decide
    | succ k ih =>
      rw [Rat.pow_succ]
      intro z
      rcases Rat.mul_eq_zero.mp z with z | z
      · exact ih z
      · exact hx z
  by_cases hb : b = 0
  · subst hb
    have ha : a ≠ 0 := nz.elim id fun z => absurd rfl z
    refine ⟨a ^ high, pw a ha high, fun g hg => ?_⟩
    rw [hom_full hg]
    have e : quo a 0 = .inf := by unfold quo; rw [if_pos rfl]
    rw [e]
    show hom g a 0 high high + g.getD high 0 * (a ^ high * 0 ^ (high - high)) = g.getD high 0 * a ^ high
    rw [hom_zero g a high high (Nat.le_refl _), Nat.sub_self, Rat.pow_zero]; grind
  · refine ⟨b ^ high, pw b hb high, fun g hg => ?_⟩
    have e : quo a b = .num (a / b) := by unfold quo; rw [if_neg hb]
    have e2 := Rat.div_mul_cancel (a := a) hb
    rw [e]
    show _ = ev g (a / b) * _
    generalize a / b = x at e2
    rw [← e2, hom_at g x b high g.length hg, List.take_length]; grind
/-! ### what is put in does not vanish -/
theorem synth2 : ∀ (d : List Rat) (c : Rat), ∃ d1 : List Rat, d1.length ≤ d.length - 1 ∧ ∀ y, ev d y = ev d c + (y - c) * ev d1 y
  | [], c => ⟨[], Nat.le_refl _, fun y => by show (0 : Rat) = 0 + (y - c) * 0; grind⟩
  | a :: f, c => by
    obtain ⟨f1, l, e⟩ := synth2 f c
    by_cases hf : f = []
    · subst hf
      exact ⟨[], Nat.zero_le _, fun y => by show a + y * 0 = (a + c * 0) + (y - c) * 0; grind⟩
    · have := List.length_pos_iff.mpr hf
      refine ⟨addL [ev f c] (0 :: f1), by rw [addL_len, List.length_cons, List.length_cons, List.length_cons, List.length_nil]; omega, fun y => ?_⟩
      rw [ev_add]
      show a + y * ev f y = (a + c * ev f c) + (y - c) * ((ev f c + y * 0) + (0 + y * ev f1 y))
      have := e y
      grind
/-- a function that takes no worth for long has a poly of it vanish not for long -/
theorem evt_comp {h : Rat → Rat} (hh : ∀ c, Evt fun x => h x ≠ c) : ∀ (k : Nat) (d : List Rat), d.length ≤ k → (∃ y, ev d y ≠ 0) → Evt fun x => ev d (h x) ≠ 0
  | 0, d, l, ⟨y, hy⟩ => by
    have : d = [] := List.length_eq_zero_iff.mp (by omega)
    subst this
    exact absurd rfl hy
  | k + 1, d, l, ⟨y, hy⟩ => by
    by_cases hr : ∃ c, ev d c = 0
    · obtain ⟨c, hc⟩ := hr
      obtain ⟨d1, l1, e⟩ := synth2 d c
      have hy1 : ev d1 y ≠ 0 := fun z => by
        have := e y
        rw [hc, z] at this
        apply hy
        rw [this]; grind
      refine ((evt_comp hh k d1 (by omega) ⟨y, hy1⟩).and (hh c)).imp fun x ⟨h1, h2⟩ z => ?_
      rw [e, hc] at z
      have : (h x - c) * ev d1 (h x) = 0 := by grind
      rcases Rat.mul_eq_zero.mp this with z | z
      · apply h2; grind
      · exact h1 z
    · exact Evt.of fun x z => hr ⟨_, z⟩
/-- a full fraction takes no worth for long -/
theorem full_evt {n d : List Rat} (tn : Tr n) (hd : lastD d = 1) (c : Cop n d) (full : 1 < n.length ∨ 1 < d.length) (k : Rat) : Evt fun x => ev n x / ev d x ≠ k := by
  have d0 : lastD d ≠ 0 := by rw [hd]; decide
  by_cases h : ∃ x, ev n x - k * ev d x ≠ 0
  · obtain ⟨x, hx⟩ := h
    refine ((pf_ne (p := fun x => ev n x - k * ev d x) (pf_sub (pf_ev _) (pf_scale _ (pf_ev _))) x hx).and (evt_of_last d0)).imp fun y ⟨h1, h2⟩ z => ?_
    apply h1
    have := Rat.div_mul_cancel (a := ev n y) h2
    rw [z] at this
    grind
  · exfalso
    have e : ∀ x, ev n x = k * ev d x := fun x => by
      have : ¬ (ev n x - k * ev d x ≠ 0) := fun z => h ⟨x, z⟩
      have := Classical.not_not.mp this
      grind
    obtain ⟨u, v, pu, pv, e2⟩ := c
    obtain ⟨a, a0, ea⟩ := unit_const (p := ev d) (q := fun x => u x * k + v x) (pf_ev d) (pf_add ((pf_scale k pu).of fun x => by grind) pv) fun x => by
      have := e x
      have := e2 x
      grind
    have td : Tr [a] := fun _ => a0
    have ed : d = [a] := ev_inj (tr_of d0) td (Evt.of fun x => by rw [ea]; show a = a + x * 0; grind)
    have en : n = trimF [k * a] := ev_inj tn (tr_trim _) (Evt.of fun x => by rw [e, ev_trim, ea]; show k * a = k * a + x * 0; grind)
    rw [ed, en] at full
    have := trimZ_le (fun q : Rat => decide (q = 0)) [k * a]
    have l1 : (trimF [k * a]).length ≤ 1 := this
    have l2 : [a].length = 1 := rfl
    omega
theorem put_ne {n d f : List Rat} {high : Nat} (tn : Tr n) (hd : lastD d = 1) (c : Cop n d) (full : 1 < n.length ∨ 1 < d.length) (hf : lastD f ≠ 0) (hl : f.length ≤ high + 1) : putK n d high f f.length ≠ [] := fun z => by
  have d0 : lastD d ≠ 0 := by rw [hd]; decide
  obtain ⟨y, hy⟩ := (evt_of_last hf).get
  obtain ⟨x, h1, h2⟩ := ((evt_comp (full_evt tn hd c full) f.length f (Nat.le_refl _) ⟨y, hy⟩).and (evt_of_last d0)).get
  have e := val_putK (m := hi n d) (high := high) hi_n hi_d f (.num x) f.length hl
  rw [z, val_nil] at e
  obtain ⟨k, k0, ek⟩ := hom_val (f := f) hl (a := ev n x) (b := ev d x) (.inr h2)
  have e2 : (0 : Rat) = hom f (ev n x) (ev d x) high f.length := e
  rw [ek f hl] at e2
  have e3 : quo (ev n x) (ev d x) = .num (ev n x / ev d x) := by unfold quo; rw [if_neg h2]
  rw [e3] at e2
  have e4 : (0 : Rat) = ev f (ev n x / ev d x) * k := e2
  rcases Rat.mul_eq_zero.mp e4.symm with z | z
  · exact h1 z
  · exact k0 z
/-- the worth of what is put in -/
theorem put_worth {f g n d : List Rat} (cf : Cop f g) (tf : Tr f) (g0 : lastD g ≠ 0) (tn : Tr n) (hd : lastD d = 1) (c : Cop n d) (full : 1 < n.length ∨ 1 < d.length) (p : Pl) :
    let P := putK n d (hi f g) f f.length
    let Q := putK n d (hi f g) g g.length
    worthP (overL P Q) (overL Q Q) p = worthP f g (worthP n d p) ∧ (P = [] → worthP [] [1] p = worthP f g (worthP n d p)) := by
  intro P Q
  have d0 : lastD d ≠ 0 := by rw [hd]; decide
  have q0 : Q ≠ [] := put_ne tn hd c full g0 hi_d
  have tq : Tr Q := tr_putK _ _ _ _ _
  obtain ⟨k, k0, ek⟩ := hom_val (f := f) (high := hi f g) hi_n (val_nz tn d0 c p)
  have l1 : P.length ≤ hi n d * hi f g + 1 := putK_len hi_n hi_d f f.length hi_n
  have l2 : Q.length ≤ hi n d * hi f g + 1 := putK_len hi_n hi_d g g.length hi_d
  have v1 : val (hi n d * hi f g) P p = val (hi f g) f (worthP n d p) * k := by
    rw [worth_val n d, ← ek f hi_n]
    exact val_putK hi_n hi_d f p f.length hi_n
  have v2 : val (hi n d * hi f g) Q p = val (hi f g) g (worthP n d p) * k := by
    rw [worth_val n d, ← ek g hi_d]
    exact val_putK hi_n hi_d g p g.length hi_d
  have nz := val_nz tf g0 cf (worthP n d p)
  have nz2 : val (hi n d * hi f g) P p ≠ 0 ∨ val (hi n d * hi f g) Q p ≠ 0 := by
    rw [v1, v2]
    rcases nz with z | z
    · left
      intro y
      rcases Rat.mul_eq_zero.mp y with y | y
      · exact z y
      · exact k0 y
    · right
      intro y
      rcases Rat.mul_eq_zero.mp y with y | y
      · exact z y
      · exact k0 y
  have main : quo (val (hi n d * hi f g) P p) (val (hi n d * hi f g) Q p) = worthP f g (worthP n d p) := by
    rw [v1, v2, quo_scale k0, ← worth_val]
  refine ⟨by rw [worth_over (tq q0) l1 l2 p nz2, main], fun z => ?_⟩
  rw [← main]
  rw [z, val_nil] at nz2 ⊢
  have q1 : val (hi n d * hi f g) Q p ≠ 0 := nz2.elim (fun y => absurd rfl y) id
  have e1 : quo 0 (val (hi n d * hi f g) Q p) = .num 0 := quo_of q1 (by grind)
  rw [e1, worth_val]
  cases p with
  | inf => exact quo_of (x := 0) (b := 1) (by decide) (by show (0 : Rat) * 1 = 0; grind)
  | num q => exact quo_of (x := 0) (b := 1 + q * 0) (by rw [Rat.mul_zero, Rat.add_zero]; decide) (by show (0 : Rat) * _ = 0; grind)
/-! ### sizes -/
theorem pow_ph {f : List Rat} {K B m high : Nat} (h : PH K f) (hl : f.length ≤ m + 1) (hB : m * high + 1 ≤ B) : ∀ k, k ≤ high → PH (k * (K + B)) (powF f k)
  | 0, _ => by
    rw [Nat.zero_mul]
    exact ⟨1, by decide, by decide, fun c hc => by
      have hc : c ∈ [(1 : Rat)] := hc
      rw [List.mem_singleton] at hc; subst hc; exact isI_one⟩
  | k + 1, hk => by
    have ih := pow_ph h hl hB k (by omega)
    have l := pow_len hl k
    have : m * k ≤ m * high := Nat.mul_le_mul_left _ (by omega)
    refine (ih.prod h).mono ?_
    rw [Nat.succ_mul]
    omega
theorem put_ph {n d f : List Rat} {K B m high : Nat} (zn : PH K n) (zd : PH K d) (zf : PH K f) (hn : n.length ≤ m + 1) (hd : d.length ≤ m + 1) (hB : m * high + 1 ≤ B) (k : Nat) (hk : k ≤ high) : PH (high * (K + B) + B) (prodF (powF n k) (powF d (high - k))) ∧ PH (high * (K + B) + B + K) (putT n d high k (f.getD k 0)) := by
  have a := pow_ph zn hn hB k hk
  have b := pow_ph zd hd hB (high - k) (by omega)
  have l := pow_len hn k
  have : m * k ≤ m * high := Nat.mul_le_mul_left _ hk
  have e : high * (K + B) = k * (K + B) + (high - k) * (K + B) := by rw [← Nat.add_mul]; congr 1; omega
  have c := (a.prod b).mono (j := high * (K + B) + B) (by omega)
  obtain ⟨E, hE⟩ := zf
  exact ⟨c, (c.by hE.p hE.d (getD_isI hE k)).trim⟩
theorem putK_ph {n d f : List Rat} {K B m high : Nat} (zn : PH K n) (zd : PH K d) (zf : PH K f) (hn : n.length ≤ m + 1) (hd : d.length ≤ m + 1) (hB : m * high + 1 ≤ B) : ∀ k, k ≤ high + 1 → PH (k * (high * (K + B) + B + K + 1)) (putK n d high f k)
  | 0, _ => PH.nil _
  | k + 1, hk => by
    have ih := putK_ph zn zd zf hn hd hB k (by omega)
    have t := (put_ph zn zd zf hn hd hB k (by omega)).2
    show PH _ (if f.getD k 0 = 0 then putK n d high f k else sumF (putK n d high f k) (putT n d high k (f.getD k 0)))
    split
    · exact ih.mono (by rw [Nat.succ_mul]; omega)
    · exact (ih.sum t).mono (by rw [Nat.succ_mul]; omega)
theorem put_ok {n d f : List Rat} {K m high : Nat} (zn : PH K n) (zd : PH K d) (zf : PH K f) (hn : n.length ≤ m + 1) (hd : d.length ≤ m + 1) (hB : m * high ≤ 9) (hl : f.length ≤ high + 1) (hh : high ≤ 3) (hK : K ≤ 1000) : PutOk n d high f := by
  have hB' : m * high + 1 ≤ 10 := by omega
  have hm : high * (K + 10) ≤ 3 * 1010 := Nat.mul_le_mul hh (by omega)
  refine ⟨hl, fun k hk => ?_⟩
  have kk : k ≤ high := by omega
  have a := pow_ph zn hn hB' k kk
  have b := pow_ph zd hd hB' (high - k) (by omega)
  have la := pow_len hn k
  have lb := pow_len hd (high - k)
  have l1 : m * k ≤ m * high := Nat.mul_le_mul_left _ kk
  have l2 : m * (high - k) ≤ m * high := Nat.mul_le_mul_left _ (by omega)
  have ka : k * (K + 10) ≤ 3 * 1010 := Nat.mul_le_mul (by omega) (by omega)
  have kb : (high - k) * (K + 10) ≤ 3 * 1010 := Nat.mul_le_mul (by omega) (by omega)
  obtain ⟨t1, t2⟩ := put_ph zn zd zf hn hd hB' k kk
  have t3 := putK_ph zn zd zf hn hd hB' k (by omega)
  have kc : k * (high * (K + 10) + 10 + K + 1) ≤ 3 * (3 * 1010 + 10 + 1000 + 1) := Nat.mul_le_mul (by omega) (by omega)
  have p1 := prod_len (powF n k) (powF d (high - k))
  have p2 := putT_len hn hd kk (f.getD k 0)
  have p3 := putK_len hn hd (high := high) f k (by omega)
  have zf' := zf.sz (show K < szB by unfold szB; omega)
  refine ⟨pr_ok a b (by omega) (by omega) (by omega) (by omega), t1.sz (by unfold szB; omega), by omega, zf' _ (List.mem_of_getElem? (getD_at hk)), t2.sz (by unfold szB; omega), by omega, t3.sz (by unfold szB; omega), by omega⟩
end My

set_option Elab.async false
set_option linter.all false
set_option maxRecDepth 100000
set_option maxHeartbeats 1000000
/-! NA: all promises of the defs, joined. -/
namespace My
open PySem L2 PyProof.Rows
/-- what the text holds -/
structure Txt (E : Wd) (dv : V) : Prop where
  G : Glo E
  C : Cla E
  is_integer : Dfn E "is_integer" (top 15) ["value"]
  is_list : Dfn E "is_list" (top 16) ["value"]
  want_at_most : Dfn E "want_at_most" (top 17) ["what", "limit", "number"]
  digits_of : Dfn E "digits_of" (top 20) ["number"]
  divisor_of : Dfn E "divisor_of" (top 21) ["one", "other"]
  told_pair : Dfn E "told_pair" (top 23) ["value"]
  is_number : Dfn E "is_number" (top 24) ["value"]
  ratio_of : Dfn E "ratio_of" (top 25) ["number"]
  wholes : Dfn E "wholes" (top 27) ["ratios"]
  is_poly : Dfn E "is_poly" (top 31) ["value"]
  trimmed : Dfn E "trimmed" (top 32) ["ratios"]
  want_poly : Dfn E "want_poly" (top 33) ["value"]
  sum_of : Dfn E "sum_of" (top 34) ["one", "other"]
  by_number : Dfn E "by_number" (top 35) ["poly", "ratio"]
  int_product : Dfn E "int_product" (top 37) ["near", "far"]
  product_of : Dfn E "product_of" (top 38) ["one", "other"]
  parts_of : Dfn E "parts_of" (top 39) ["one", "other"]
  plain_row : Dfn E "plain_row" (top 41) ["numbers"]
  int_rest : Dfn E "int_rest" (top 42) ["one", "other"]
  int_common : Dfn E "int_common" (top 43) ["one", "other"]
  common_of : Dfn E "common_of" (top 44) ["one", "other"]
  lowest : Dfn E "lowest" (top 47) ["top", "bottom"]
  powers_of : Dfn E "powers_of" (top 48) ["poly", "many"]
  put_pair : Dfn E "put_pair" (top 49) ["top", "bottom", "near", "far"]
  right_pair : Dfn E "right_pair" (top 51) ["top", "bottom"]
  pair_in : Dfn E "pair_in" (top 53) ["value"]
  known_fraction : Dfn E "known_fraction" (top 54) ["top", "bottom"]
  fraction_of : Dfn E "fraction_of" (top 55) ["top", "bottom"]
  short_of : Dfn E "short_of" (top 56) ["top", "bottom"]
  want_fraction : Dfn E "want_fraction" (top 57) ["value"]
  headed_pair : Dfn E "headed_pair" (top 58) ["top", "bottom"]
  put : Dfn E "put" (top 59) ["fraction", "other"]
  is_place : Dfn E "is_place" (top 62) ["value"]
  want_place : Dfn E "want_place" (top 63) ["value"]
  is_beyond : Dfn E "is_beyond" (top 64) ["place"]
  pair_of : Dfn E "pair_of" (top 65) ["place"]
  place_by : Dfn E "place_by" (top 66) ["above", "below"]
  worth_by : Dfn E "worth_by" (top 67) ["poly", "high", "above", "below"]
  worth_of : Dfn E "worth_of" (top 68) ["fraction", "place"]
  told_place : Dfn E "told_place" (top 69) ["place"]
  worth : Dfn E "worth" (top 70) ["fraction", "place"]
  lw_pot : Dfn E "_law_pot" (top 72) ["_law_script", "_law_k"]
  lw_draw : Dfn E "_law_draw" (top 73) ["_law_pot_here", "_law_many"]
  lw_pick : Dfn E "_law_pick" (top 74) ["_law_pot_here", "_law_some"]
  lw_bare : Dfn E "_law_bare" (top 75) ["_law_poly_here"]
  lw_plus : Dfn E "_law_plus" (top 76) ["_law_one", "_law_other", "_law_number"]
  lw_times : Dfn E "_law_times" (top 77) ["_law_one", "_law_other"]
  lw_divided : Dfn E "_law_divided" (top 78) ["_law_one", "_law_other"]
  lw_common : Dfn E "_law_common" (top 79) ["_law_one", "_law_other"]
  lw_lowest : Dfn E "_law_lowest" (top 80) ["_law_top", "_law_bottom"]
  lw_at : Dfn E "_law_at" (top 81) ["_law_poly_here", "_law_number"]
  lw_worth : Dfn E "_law_worth" (top 82) ["_law_pair", "_law_place_here"]
  lw_poly : Dfn E "_law_poly" (top 83) ["_law_pot_here", "_law_most"]
  lw_drawn : Dfn E "_law_drawn" (top 84) ["_law_pot_here", "_law_most"]
  lw_passed : Dfn E "_law_passed" (top 85) ["_law_pot_here", "_law_pair"]
  lw_made : Dfn E "_law_made" (top 86) ["_law_pot_here", "_law_pair"]
  lw_values : Dfn E "_law_values" (top 87) []
  lw_is_place : Dfn E "_law_is_place" (top 88) ["_law_value"]
  lw_place : Dfn E "_law_place" (top 89) ["_law_pot_here"]
  lw_built : Dfn E "_law_built" (top 90) ["_law_pot_here"]
  lw_worths_right : Dfn E "_law_worths_right" (top 91) ["_law_pot_here"]
  lw_rules_right : Dfn E "_law_rules_right" (top 92) ["_law_pot_here"]
  lw_right : Dfn E "_law_right" (top 93) ["_law_pot_here"]
  rat : RatD E
  fra : FraD E dv
  fraK : FraK E dv
  kno : Kfn0 E .K "Known" "Known.__init__" (inC 50 0) ["self", "top", "bottom"]
  over : Mfn E .R "over" "Ratio.over" (inC 22 13) ["self", "other"]
  radd : Ofn E .R .Add "__add__" "Ratio.__add__" (inC 22 6) ["self", "other"]
  rsub : Ofn E .R .Sub "__sub__" "Ratio.__sub__" (inC 22 8) ["self", "other"]
  rmul : Ofn E .R .Mult "__mul__" "Ratio.__mul__" (inC 22 10) ["self", "other"]
  fadd : Ofn E .F .Add "__add__" "Fraction.__add__" (inC 52 6) ["self", "other"]
  fmul : Ofn E .F .Mult "__mul__" "Fraction.__mul__" (inC 52 10) ["self", "other"]
  req : Qfn E .R "Ratio.__eq__" (inC 22 17) ["self", "other"]
  rtop : Pfn E .R "top" "Ratio.top" (inC 22 1) ["self"]
  rsign : Pfn E .R "sign" "Ratio.sign" (inC 22 3) ["self"]
  rwhole : Pfn E .R "is_whole" "Ratio.is_whole" (inC 22 4) ["self"]
  fdeg : Pfn E .F "degree" "Fraction.degree" (inC 52 1) ["self"]
  ffull : Pfn E .F "is_full" "Fraction.is_full" (inC 52 2) ["self"]
  rrepr : Rfn E
  worthK : DfnK E "worth" (top 70) ["fraction", "place"] ["place", "fraction"] swV
  is_placeK : DfnK E "is_place" (top 62) ["value"] ["value"] idV
  hdv : ∀ H, holdsL E.c [.tup [.int 1]] [dv] H
section
variable {E : Wd} {dv : V}
theorem Txt.isInteger (X : Txt E dv) : isInteger E := fun t h => ok_integer X.G X.C X.is_integer t h
theorem Txt.divisor (X : Txt E dv) : divisorOf E := fun a b => ok_divisor X.G X.divisor_of a b
theorem Txt.makes (X : Txt E dv) : makesRatio E := fun a b hb => ok_Rinit X.G X.C X.rat X.isInteger X.divisor a b hb
theorem Txt.told (X : Txt E dv) : toldPair E := fun t q h => ok_told X.G X.C X.told_pair X.isInteger t q h
theorem Txt.add (X : Txt E dv) : addOp E := fun q r t ht hq hr => ok_Radd X.G X.C X.radd X.told X.makes q r t ht hq hr
theorem Txt.sub (X : Txt E dv) : subOp E := fun q r t ht hq hr => ok_Rsub X.G X.C X.rsub X.told X.makes q r t ht hq hr
theorem Txt.mul (X : Txt E dv) : mulOp E := fun q r t ht hq hr => ok_Rmul X.G X.C X.rmul X.told X.makes q r t ht hq hr
theorem Txt.ov (X : Txt E dv) : overM E := fun q r t ht hq hr h0 => ok_Rover X.G X.C X.over X.told X.makes q r t ht hq hr h0
theorem Txt.eq (X : Txt E dv) : eqQ E := fun q t d h => ok_Req X.G X.C X.req q t d h
theorem Txt.top (X : Txt E dv) : topP E := fun q => ok_Rtop X.G X.C X.rtop q
theorem Txt.sign (X : Txt E dv) : signP E := fun q => ok_Rsign X.G X.C X.rsign q
theorem Txt.whole (X : Txt E dv) : wholeP E := fun q => ok_Rwhole X.G X.C X.rwhole q
theorem Txt.isList (X : Txt E dv) : ∀ t, isLiT t = true → E.Fn "is_list" 1 [t] (· = .bl true) := fun t h => ok_isList X.G X.C X.is_list t h
theorem Txt.atMost (X : Txt E dv) : atMost E := fun y l n h => ok_atMost X.G X.want_at_most y l n h
theorem Txt.isNumber (X : Txt E dv) : isNumber E := fun t h => ok_isNumber X.G X.C X.is_number X.isInteger t h
theorem Txt.ratioOf (X : Txt E dv) : ratioOf E := fun t q h => ok_ratioOf X.G X.C X.ratio_of X.makes t q h
theorem Txt.trim (X : Txt E dv) : trimmedF E := fun f => ok_trimmed X.G X.C X.trimmed f
theorem Txt.whl (X : Txt E dv) : wholesF E := fun f h => ok_wholes X.G X.C X.wholes f h
theorem Txt.wantPoly (X : Txt E dv) (t : T) (ts : List T) (f : List Rat) (ht : SeqT t ts) (hf : NTs ts f) (hl : f.length ≤ 25) : E.Fn "want_poly" 39 [t] (· = .poly (trimF f)) :=
  ok_wantPoly X.G X.want_poly (fun t ts f h1 h2 h3 => ok_isPoly X.G X.C X.is_poly X.isList X.isNumber t ts f h1 h2 h3) X.ratioOf X.trim t ts f ht hf hl
theorem Txt.sumOf (X : Txt E dv) : sumOf E := fun f g hf hg lf lg => ok_sumOf X.G X.sum_of X.add X.trim f g hf hg lf lg
theorem Txt.byNumber (X : Txt E dv) : byNumber E := fun f r hf hr lf => ok_byNumber X.G X.by_number X.mul X.trim f r hf hr lf
theorem Txt.prod (X : Txt E dv) : prodOf E := fun f g h => ok_prod X.G X.product_of X.whl (fun f g a b c d e h => ok_intProd X.G X.int_product f g a b c d e h) X.makes f g h.wf h.wg h.f2 h.g2 h.lf h.lg
theorem Txt.plain (X : Txt E dv) : plainRow E := fun f h => ok_plain X.G X.plain_row X.divisor f h
theorem Txt.pairIn (X : Txt E dv) : pairIn E := fun f g => ok_pairIn X.G X.C X.pair_in f g
theorem Txt.wantFr (X : Txt E dv) : wantFr E := fun f g => ok_wantFr X.G X.C X.want_fraction f g
theorem Txt.deg (X : Txt E dv) : degP E := fun f g => ok_Fdeg X.G X.C X.fdeg f g
theorem Txt.full (X : Txt E dv) : ∀ f g : List Rat, E.Pr .F "is_full" 1 [T.frac f g] (· = .bl (decide (1 < f.length) || decide (1 < g.length))) := fun f g => ok_Ffull X.G X.C X.ffull f g
theorem Txt.known (X : Txt E dv) : knownFr E := fun f g => ok_known X.G X.known_fraction (fun t u => ok_Kinit X.G X.C X.kno t u) (fun f g bt => (ok_FinitK X.G X.C X.fra f g bt).1) f g
theorem Txt.isPlace (X : Txt E dv) : isPlaceF E := fun t h => ok_isPlace X.G X.C X.is_place X.isNumber t h
theorem Txt.wantPl (X : Txt E dv) : wantPlace E := fun t p h => ok_wantPlace X.G X.C X.want_place X.isPlace X.isNumber X.ratioOf t p h
theorem Txt.toldPl (X : Txt E dv) : ∀ (t : T) (p : Pl), PT t p → E.Fn "told_place" 40 [t] (· = plT p) := fun t p h => ok_toldPlace X.G X.told_place X.wantPl t p h
theorem Txt.isBeyond (X : Txt E dv) : ∀ p : Pl, E.Fn "is_beyond" 1 [plT p] (· = .bl (isInf p)) := fun p => ok_isBeyond X.G X.C X.is_beyond p
theorem Txt.pairOf (X : Txt E dv) : pairOf E := fun p => ok_pairOf X.G X.pair_of X.isBeyond X.makes p
theorem Txt.placeBy (X : Txt E dv) : placeBy E := fun a b ha hb => ok_placeBy X.G X.C X.place_by X.sign X.ov a b ha hb
theorem Txt.worthBy (X : Txt E dv) : worthBy E := fun f a b high h => ok_worthBy X.G X.worth_by X.add X.mul X.makes f a b high h
theorem Txt.worthF (X : Txt E dv) (f g : List Rat) (t : T) (p : Pl) (ht : PT t p) (h : WoOk f g p) : E.Fn "worth" 41 [T.frac f g, t] (· = plT (worthP f g p)) ∧ E.FnK "worth" 41 ["place", "fraction"] swV [T.frac f g, t] (· = plT (worthP f g p)) := by
  have h3 := ok_worthOf X.G X.C X.worth_of X.pairOf X.deg X.placeBy X.worthBy f g p h
  exact ⟨ok_worth X.G X.worth X.wantFr X.wantPl f g t p ht h3, Wd.fnK X.G X.worthK scWorth (worth_body X.G X.wantFr X.wantPl f g t p ht h3)⟩
theorem Txt.digits (X : Txt E dv) : digitsF E := fun n h => ok_digits X.G X.digits_of n h
theorem Txt.repr (X : Txt E dv) : reprRc E := fun q h => ok_Rrepr X.G X.C X.rrepr X.digits q h
theorem Txt.draw (X : Txt E dv) : drawF E := fun m h1 h2 => ok_draw X.G X.lw_draw m h1 h2
theorem Txt.pick (X : Txt E dv) : pickF E := fun ts h0 hl => ok_pick X.G X.lw_pick X.draw ts h0 hl
theorem Txt.bare (X : Txt E dv) : bareF E := fun ts f hf hz lf => ok_bare X.G X.C X.lw_bare X.add X.sign X.makes ts f hf hz lf
theorem Txt.plus (X : Txt E dv) : plusO E := fun f g c h => ok_plus X.G X.lw_plus X.add X.mul X.makes X.bare f g c h.zf h.zg h.zc h.zp h.lf h.lg h.zr
theorem Txt.times (X : Txt E dv) : timesO E := fun f g h => ok_times X.G X.lw_times X.add X.mul X.makes X.bare f g h
theorem Txt.at_ (X : Txt E dv) : atF E := fun f t p ht h => ok_at X.G X.lw_at X.add X.mul X.makes f t p ht h
theorem Txt.lworth (X : Txt E dv) (f g : List Rat) (t : T) (p : Pl) (ht : PT t p) (h : DueOk f g p) : E.Fn "_law_worth" 40 [.tup [.poly f, .poly g], t] (· = plT (dueP f g p)) := ok_lworth X.G X.C X.lw_worth X.ov X.sign X.makes X.at_ X.eq f g t p ht h
theorem Txt.lpoly (X : Txt E dv) : lpolyF E := fun m hm => ok_lpoly X.G X.lw_poly X.rat X.draw X.pick X.makes m hm
theorem Txt.place (X : Txt E dv) : E.Pt "_law_place" 38 [] (fun t => ∃ p, t = plT p ∧ PlaceP p) := ok_lplace X.G X.lw_place X.rat X.draw X.pick X.makes
/-! ### the law's lowest terms -/
theorem Txt.ldiv (X : Txt E dv) {f g : List Rat} {a b : Nat} (tf : Tr f) (h0 : lastD g ≠ 0) (hf : PH a f) (hg : PH b g) (lf : f.length < 400) (lg : g.length < 400) (lim : a + (f.length + 1 - g.length) * (b + 1) + b + 1 < szB) :
    E.Fn "_law_divided" 41 [.poly f, .poly g] (fun t => ∃ left q, t = .tup [.poly (trimF q), .poly left] ∧ DivJ a b f g left q ∧ left.length < g.length) := by
  obtain ⟨_, h1, h2⟩ := div_inv tf h0 hf hg lf lg lim
  exact ok_divided X.G X.C X.lw_divided X.ov X.mul X.makes X.bare X.plus f g _ h1 h2 lf
theorem sp_imp {c : Cs} {pre : List T → Prop} {P Q : T → Prop} {vs : List V} {H : Hp} {K : VK} {E : XK} (i : ∀ t, P t → Q t) (h : spOf c pre (fun _ t => Q t) vs H K E) : spOf c pre (fun _ t => P t) vs H K E := by
  obtain ⟨Hr, ts, h1, h2, h3, h4⟩ := h
  exact ⟨Hr, ts, h1, h2, h3, fun t v H' Hr' p => h4 t v H' Hr' (i t p)⟩
theorem fn_imp {x : Str} {k : Nat} {ts : List T} {P Q : T → Prop} (h : E.Fn x k ts P) (i : ∀ t, P t → Q t) : E.Fn x k ts Q := by
  obtain ⟨f, fd, ps, ds, F, hm, hk, hb, hv⟩ := h.ex
  exact ⟨f, fd, ps, ds, ⟨fun vs H K E hq => F.len vs H K E (sp_imp i hq), fun A outer s H args us vs Q' E' hr he hb hv hq => F.run A outer s H args us vs Q' E' hr he hb hv (sp_imp i hq)⟩, hm, hk, hb, hv⟩
end
end My

set_option Elab.async false
set_option linter.all false
set_option maxRecDepth 100000
set_option maxHeartbeats 1000000
/-! NB: lowest terms on both sides. -/
namespace My
open PySem L2 PyProof.Rows
section
variable {E : Wd} {dv : V}
theorem PH.ov {k : Nat} {f : List Rat} (h : PH k f) (t : Tr f) (hk : k < szB) (l : f.length < 900) : OvOk f f := ⟨h.sz hk, l, fun h0 => ⟨h0, t h0, h.sz hk _ (lastD_mem h0)⟩⟩
theorem Txt.lcom (X : Txt E dv) {f g : List Rat} {k L : Nat} (tf : Tr f) (tg : Tr g) (f0 : f ≠ []) (lf : f.length ≤ L) (lg : g.length ≤ L) (zf : PH k f) (zg : PH k g) (hL : L < 400) (lim : 2 * bt k L + 2 < szB) :
    E.Fn "_law_common" 42 [.poly f, .poly g] (fun t => ∃ s, t = .poly s ∧ Com k L f g s) := by
  refine fn_imp (ok_lcommon X.G X.C X.lw_common X.ov f g (LInv k L f g) (LInv.start tf tg f0 lf lg zf zg) (fun near far I h0 => ?_) fun near I => ?_) fun t ⟨near, e, I⟩ => ⟨_, e, I.fin⟩
  · have ln := I.ln
    have lr := I.lf
    have fp := List.length_pos_iff.mpr h0
    have l1 := div_lim (k := k) fp ln lr
    have l2 := bt_mono k (show L - far.length ≤ L by omega)
    refine fn_imp (X.ldiv I.tn (I.tf h0) I.zn I.zf (by omega) (by omega) (by omega)) fun t ⟨left, q, e, d, hl⟩ => ⟨trimF q, left, e, ?_, I.step h0 d hl, hl⟩
    have b := bt_step k (t := L - near.length) (j := L - far.length) (i := L - left.length) (by have := d.1.rl; omega) (by omega)
    rw [show L - left.length - (L - near.length) = near.length - left.length by have := d.1.rl; omega] at b
    have l3 := bt_mono k (show L - left.length ≤ L by omega)
    exact (d.r.mono b).ov d.1.tr (by omega) (by omega)
  · have ln := I.ln
    have l3 := bt_mono k (show L - near.length ≤ L by omega)
    exact I.zn.ov I.tn (by omega) (by omega)
/-- what a quotient by the common part is -/
structure Quo (k L : Nat) (f s q : List Rat) : Prop where
  t : Tr q
  e : ∀ x, ev f x = ev q x * ev s x
  z : PH (lowB k L) q
  l : q.length ≤ L
theorem trim_same {q : List Rat} (h : (trimF q).length = q.length) : trimF q = q := ev_inj_len h (Evt.of fun x => ev_trim q x)
theorem quo_tr {f s q : List Rat} (tf : Tr f) (h0 : lastD s ≠ 0) (hl : q.length = f.length + 1 - s.length) (hs : s.length ≤ f.length) (e : ∀ x, ev f x = ev q x * ev s x) : Tr q := by
  have s0 := ne_of_lastD h0
  have sp := List.length_pos_iff.mpr s0
  by_cases hq : trimF q = []
  · exfalso
    have : f = [] := ev_zero tf (Evt.of fun x => by rw [e, ← ev_trim q, hq]; show (0 : Rat) * _ = 0; grind)
    rw [this] at hs
    simp at hs
    exact s0 hs
  · have : mulL (trimF q) s = f := ev_inj (tr_mulL (tr_trim q) (tr_of h0) s0) tf (Evt.of fun x => by rw [ev_mulL, ev_trim, e])
    have l := mulL_len hq s0
    rw [this] at l
    have := trimZ_le (fun q : Rat => decide (q = 0)) q
    have qp := List.length_pos_iff.mpr hq
    have : trimF q = q := trim_same (by omega)
    rw [← this]
    exact tr_trim q
theorem quo_of_div {f s r q : List Rat} {k L : Nat} (h0 : lastD s ≠ 0) (hu : ∃ u, Pf u ∧ ∀ x, ev f x = u x * ev s x) (d : DivJ k (bt k (L - 2)) f s r q) (hr : r.length < s.length) (lf : f.length ≤ L) : (∀ x, ev f x = ev q x * ev s x) ∧ PH (lowB k L) q ∧ q.length ≤ L := by
  obtain ⟨u, pu, eu⟩ := hu
  have sp := List.length_pos_iff.mpr (ne_of_lastD h0)
  have rz := exact_div pu h0 eu d.1.e d.1.tr hr
  refine ⟨fun x => ?_, low_quot rfl d lf sp, by have := d.1.ql; omega⟩
  have := d.1.e x
  rw [rz] at this
  have z : ev [] x = 0 := rfl
  rw [z] at this
  grind
theorem quo_div_len {f s : List Rat} (tf : Tr f) (f0 : f ≠ []) (h0 : lastD s ≠ 0) (hu : ∃ u, Pf u ∧ ∀ x, ev f x = u x * ev s x) : s.length ≤ f.length := by
  obtain ⟨u, pu, eu⟩ := hu
  obtain ⟨b, tb, eb⟩ := pf_rep pu
  have s0 := ne_of_lastD h0
  have b0 : b ≠ [] := fun z => by
    apply f0
    refine ev_zero tf (Evt.of fun x => ?_)
    rw [eu, ← eb, z]
    show (0 : Rat) * _ = 0
    grind
  have : mulL b s = f := ev_inj (tr_mulL tb (tr_of h0) s0) tf (Evt.of fun x => by rw [ev_mulL, eb, eu])
  have l := mulL_len b0 s0
  rw [this] at l
  have := List.length_pos_iff.mpr b0
  omega
theorem Txt.llow (X : Txt E dv) {f g : List Rat} {k L : Nat} (tf : Tr f) (tg : Tr g) (g0 : lastD g ≠ 0) (lf : f.length ≤ L) (lg : g.length ≤ L) (zf : PH k f) (zg : PH k g) (h2 : 2 ≤ L) (hL : L < 400) (lim : 2 * bt k L + 2 < szB) (lim2 : lowB k L + 1 < szB) :
    E.Fn "_law_lowest" 43 [.poly f, .poly g] (fun t => ∃ n d, t = .tup [.poly n, .poly d] ∧ Low f g n d ∧ RP L (lowB k L + lowB k L) n d) := by
  have dvi : ∀ s h : List Rat, Com k L g f s → Tr h → h.length ≤ L → PH k h → (∃ u, Pf u ∧ ∀ x, ev h x = u x * ev s x) → E.Fn "_law_divided" 41 [.poly h, .poly s] (fun t => ∃ q r, t = .tup [.poly q, .poly r] ∧ Quo k L h s q) := fun s h c th lh zh hu => by
    have sp := List.length_pos_iff.mpr (ne_of_lastD c.d0)
    have sl := c.l
    have e1 : lowB k L = k + L * (bt k (L - 2) + 1) + bt k (L - 2) := rfl
    have m : (h.length + 1 - s.length) * (bt k (L - 2) + 1) ≤ L * (bt k (L - 2) + 1) := Nat.mul_le_mul_right _ (by omega)
    refine fn_imp (X.ldiv th c.d0 zh (c.z2 h2) (by omega) (by omega) (by omega)) fun t ⟨left, q, e, d, hl⟩ => ?_
    obtain ⟨a1, a2, a3⟩ := quo_of_div c.d0 hu d hl lh
    exact ⟨trimF q, left, e, tr_trim q, fun x => by rw [ev_trim]; exact a1 x, a2.trim, Nat.le_trans (trimZ_le _ _) a3⟩
  have fin : ∀ s n d, Com k L g f s → Quo k L f s n → Quo k L g s d → lastD d ≠ 0 ∧ Low f g (overL n d) (overL d d) := fun s n d c a b => Low.of c.gc.swap c.d0 g0 a.t b.t a.e b.e
  refine fn_imp (ok_llowest X.G X.C X.lw_lowest X.ov f g (Com k L g f) (Quo k L f) (Quo k L g) (X.lcom tg tf (ne_of_lastD g0) lg lf zg zf hL lim) (fun s c => dvi s f c tf lf zf c.gc.g) (fun s c => dvi s g c tg lg zg c.gc.f) fun s n d c a b => ?_) fun t ⟨s, n, d, e, c, a, b⟩ => ?_
  · obtain ⟨d0, _⟩ := fin s n d c a b
    have la := a.l
    have lb := b.l
    have zd := b.z.sz (show lowB k L < szB by omega)
    exact ⟨ne_of_lastD d0, ⟨a.z.sz (by omega), by omega, fun _ => ⟨ne_of_lastD d0, d0, zd _ (lastD_mem (ne_of_lastD d0))⟩⟩, ⟨zd, by omega, fun _ => ⟨ne_of_lastD d0, d0, zd _ (lastD_mem (ne_of_lastD d0))⟩⟩⟩
  · obtain ⟨d0, lo⟩ := fin s n d c a b
    exact ⟨_, _, e, lo, lo.rp (by rw [overL_len]; exact a.l) (by rw [overL_len]; exact b.l) (a.z.over b.z d0) ((b.z.self fun _ => d0).mono (by omega))⟩
/-! ### the program's -/
theorem Txt.icom (X : Txt E dv) {f g : List Rat} {k L : Nat} (tf : Tr f) (tg : Tr g) (f0 : f ≠ []) (lf : f.length ≤ L) (lg : g.length ≤ L) (zf : PH k f) (zg : PH k g) (hk : k < 13000) (hL : L < 400) (lim : bt k L < szB) :
    E.Fn "common_of" 39 [.poly f, .poly g] (fun t => ∃ s, t = .poly s ∧ Com k L f g s) := by
  refine fn_imp (ok_common X.G X.common_of X.whl X.makes f g (zf.wh hk (by omega)) (zg.wh hk (by omega)) (fun near => PInv k L f g near []) (ok_intCom X.G X.int_common X.plain (wholeI f) (wholeI g) (by rw [wholeI_len]; omega) (by rw [wholeI_len]; omega) (PInv k L f g) (PInv.start tf tg f0 lf lg zf zg) fun near far I h0 => ?_) fun near I => ?_) fun t ⟨near, e, I⟩ => ⟨_, e, I.fin⟩
  · have ln := I.ln
    have lr := I.lf
    have fp := List.length_pos_iff.mpr h0
    have l1 := div_lim (k := k) fp ln lr
    have l2 := bt_mono k (show L - far.length ≤ L by omega)
    obtain ⟨i1, i2⟩ := int_inv I.tn I.tf h0 I.zn I.zf (by omega) (by omega) (by omega)
    refine fn_imp (ok_intRest X.G X.int_rest X.plain near far _ i1 i2 (by omega)) fun t ⟨r, e, j, hr⟩ => ⟨plainI r, e, I.step h0 j hr, Nat.lt_of_le_of_lt (plainI_le r) hr⟩
  · refine ⟨by have := I.ln; omega, fun h => ?_⟩
    have := I.tn fun z => h (cst_nil.mp z)
    rw [cst_getD, cst_len] at this
    intro z
    rw [z] at this
    exact this rfl
theorem low_nil (g : List Rat) : Low [] g [] [1] := ⟨tr_nil, rfl, ⟨fun _ => 0, fun _ => 1, pf_const 0, pf_const 1, fun x => by show (0 : Rat) * 0 + 1 * (1 + x * 0) = 1; grind⟩, fun x => by show (0 : Rat) * _ = 0 * _; grind⟩
theorem ph_1 (k : Nat) : PH k [1] := ⟨1, by decide, Nat.one_le_two_pow, fun c hc => by rw [List.mem_singleton] at hc; subst hc; exact isI_one.mono (Nat.zero_le _)⟩
theorem com_one {k L : Nat} {f g s : List Rat} (c : Com k L f g s) (h : ¬ 1 < s.length) : s = [1] := by
  have sp := List.length_pos_iff.mpr (ne_of_lastD c.d0)
  obtain ⟨a, rfl⟩ := List.length_eq_one_iff.mp (show s.length = 1 by omega)
  have : a = 1 := c.h
  rw [this]
theorem Txt.plow (X : Txt E dv) {f g : List Rat} {k L : Nat} (tf : Tr f) (tg : Tr g) (g0 : lastD g ≠ 0) (lf : f.length ≤ L) (lg : g.length ≤ L) (zf : PH k f) (zg : PH k g) (hk : k < 13000) (h2 : 2 ≤ L) (hL : L < 400) (lim : bt k L < szB) (lim2 : lowB k L + 1 < szB) :
    E.Fn "lowest" 40 [.poly f, .poly g] (fun t => ∃ n d, t = .tup [.poly n, .poly d] ∧ Low f g n d ∧ RP L (lowB k L + lowB k L) n d) := by
  by_cases f0 : f = []
  · subst f0
    exact fn_imp (ok_lowest0 X.G X.lowest X.makes (.poly g)) fun t e => ⟨[], [1], e, low_nil g, (low_nil g).rp (Nat.zero_le _) (by show 1 ≤ L; omega) (PH.nil _) (ph_1 _)⟩
  · have dvi : ∀ s h : List Rat, Com k L f g s → 1 < s.length → Tr h → h ≠ [] → h.length ≤ L → PH k h → (∃ u, Pf u ∧ ∀ x, ev h x = u x * ev s x) → E.Fn "parts_of" 39 [.poly h, .poly s] (fun t => ∃ r q, t = .tup [.poly q, .poly r] ∧ Quo k L h s q) := fun s h c s1 th hn lh zh hu => by
      have sl := c.l
      have e1 : lowB k L = k + L * (bt k (L - 2) + 1) + bt k (L - 2) := rfl
      have m : (h.length + 1 - s.length) * (bt k (L - 2) + 1) ≤ L * (bt k (L - 2) + 1) := Nat.mul_le_mul_right _ (by omega)
      obtain ⟨i1, _, i2⟩ := div_inv th c.d0 zh (c.z2 h2) (by omega) (by omega) (by omega)
      refine fn_imp (ok_parts X.G X.C X.parts_of X.ov X.sub X.mul X.makes X.trim h s _ i1 i2 (by omega)) fun t ⟨r, q, e, d, hl⟩ => ?_
      obtain ⟨a1, a2, a3⟩ := quo_of_div c.d0 hu d hl lh
      exact ⟨r, q, e, quo_tr th c.d0 d.1.ql (quo_div_len th hn c.d0 hu) a1, a1, a2, a3⟩
    have kl : k ≤ lowB k L := by unfold lowB; omega
    have fin : ∀ s n d, Com k L f g s → (if 1 < s.length then Quo k L f s n ∧ Quo k L g s d else n = f ∧ d = g) → (lastD d ≠ 0 ∧ Low f g (overL n d) (overL d d)) ∧ PH (lowB k L) n ∧ PH (lowB k L) d ∧ n.length ≤ L ∧ d.length ≤ L := fun s n d c h => by
      by_cases hs : 1 < s.length
      · rw [if_pos hs] at h
        obtain ⟨a, b⟩ := h
        exact ⟨Low.of c.gc c.d0 g0 a.t b.t a.e b.e, a.z, b.z, a.l, b.l⟩
      · rw [if_neg hs] at h
        obtain ⟨rfl, rfl⟩ := h
        have s1 := com_one c hs
        have e1 : ∀ x, ev s x = 1 := fun x => by rw [s1]; show (1 : Rat) + x * 0 = 1; grind
        exact ⟨Low.of c.gc c.d0 g0 tf tg (fun x => by rw [e1]; grind) (fun x => by rw [e1]; grind), zf.mono kl, zg.mono kl, lf, lg⟩
    refine fn_imp (ok_lowest X.G X.C X.lowest X.ov X.makes f g f0 (Com k L f g) (Quo k L f) (Quo k L g) (X.icom tf tg f0 lf lg zf zg hk hL lim) (fun s c hs => dvi s f c hs tf f0 lf zf c.gc.f) (fun s c hs => dvi s g c hs tg (ne_of_lastD g0) lg zg c.gc.g) fun s n d c h => ?_) fun t ⟨s, n, d, e, c, h⟩ => ?_
    · obtain ⟨⟨d0, _⟩, z1, z2, l1, l2⟩ := fin s n d c h
      exact ⟨ne_of_lastD d0, d0, z1.sz (by omega), z2.sz (by omega), by omega, by omega⟩
    · obtain ⟨⟨d0, lo⟩, z1, z2, l1, l2⟩ := fin s n d c h
      exact ⟨_, _, e, lo, lo.rp (by rw [overL_len]; exact l1) (by rw [overL_len]; exact l2) (z1.over z2 d0) ((z2.self fun _ => d0).mono (by omega))⟩
end
end My

set_option Elab.async false
set_option linter.all false
set_option maxRecDepth 100000
set_option maxHeartbeats 1000000
/-! NC: drawn pairs, the Fractions made of them, worths. -/
namespace My
open PySem L2 PyProof.Rows
section
variable {E : Wd} {dv : V}
theorem pt_imp0 {c : Cs} {pre : List T → Prop} {P Q : T → Prop} {vs : List V} {H : Hp} {K : VK} {E : XK} (i : ∀ t, P t → Q t) (h : spPt c pre (fun _ t => Q t) vs H K E) : spPt c pre (fun _ t => P t) vs H K E := by
  obtain ⟨p, Hr, ts, vr, h1, h2, h3, h4, h5, h6, h7⟩ := h
  exact ⟨p, Hr, ts, vr, h1, h2, h3, h4, h5, h6, fun t v H' Hr' z => h7 t v H' Hr' (i t z)⟩
theorem pt_imp {x : Str} {k : Nat} {ts : List T} {P Q : T → Prop} (h : E.Pt x k ts P) (i : ∀ t, P t → Q t) : E.Pt x k ts Q := by
  obtain ⟨f, fd, ps, ds, F, hm, hk, hb, hv⟩ := h.ex
  exact ⟨f, fd, ps, ds, ⟨fun vs H K E hq => F.len vs H K E (pt_imp0 i hq), fun A outer s H args us vs Q' E' hr he hb hv hq => F.run A outer s H args us vs Q' E' hr he hb hv (pt_imp0 i hq)⟩, hm, hk, hb, hv⟩
theorem lims {k L b : Nat} (h : bt k L ≤ b) (hb : b ≤ 30000000) : 2 * bt k L + 2 < szB ∧ bt k L < szB := by unfold szB; omega
theorem low_le {k L b : Nat} (h : bt k (L - 2) ≤ b) (K : Nat) (hK : k + L * (b + 1) + b ≤ K) : lowB k L ≤ K := by
  unfold lowB
  have : L * (bt k (L - 2) + 1) ≤ L * (b + 1) := Nat.mul_le_mul_left _ (by omega)
  omega
abbrev R0 : List Rat → List Rat → Prop := RP 3 68
abbrev R1 : List Rat → List Rat → Prop := RP 4 3896
abbrev R3 : List Rat → List Rat → Prop := RP 4 204
theorem Txt.drawn2 (X : Txt E dv) : E.Pt "_law_drawn" 44 [.int 2] (fun t => ∃ n d, t = .tup [.poly n, .poly d] ∧ R0 n d) :=
  ok_drawn X.G X.lw_drawn X.lw_lowest X.draw X.lpoly X.makes 2 (by decide) R0 fun f g hf hg => by
    have b : bt 3 3 ≤ 63 := by decide
    have lb : lowB 3 3 ≤ 34 := low_le (b := 7) (by decide) 34 (by decide)
    refine fn_imp (X.llow (k := 3) (L := 3) hf.tr (tr_of hg.z) hg.z hf.l hg.l hf.ph hg.ph (by decide) (by decide) (lims b (by decide)).1 (by unfold szB; omega)) fun t ⟨n, d, e, _, r⟩ => ⟨n, d, e, r.mono (Nat.le_refl _) (by omega)⟩
theorem Txt.drawn3 (X : Txt E dv) : E.Pt "_law_drawn" 44 [.int 3] (fun t => ∃ n d, t = .tup [.poly n, .poly d] ∧ R3 n d) :=
  ok_drawn X.G X.lw_drawn X.lw_lowest X.draw X.lpoly X.makes 3 (by decide) R3 fun f g hf hg => by
    have b : bt 3 4 ≤ 300 := by decide
    have lb : lowB 3 4 ≤ 102 := low_le (b := 19) (by decide) 102 (by decide)
    refine fn_imp (X.llow (k := 3) (L := 4) hf.tr (tr_of hg.z) hg.z hf.l hg.l hf.ph hg.ph (by decide) (by decide) (lims b (by decide)).1 (by unfold szB; omega)) fun t ⟨n, d, e, _, r⟩ => ⟨n, d, e, r.mono (Nat.le_refl _) (by omega)⟩
theorem Txt.built (X : Txt E dv) : E.Pt "_law_built" 45 [] (fun r => ∃ n d t q, r = .tup [.tup [.poly n, .poly d], t] ∧ NumP t q ∧ R1 n d) := by
  have b : bt 74 4 ≤ 10000 := by decide
  have lb : lowB 74 4 ≤ 1948 := low_le (b := 374) (by decide) 1948 (by decide)
  have lm := (lims b (by decide)).1
  have l2 : lowB 74 4 + 1 < szB := by unfold szB; omega
  refine ok_built X.G X.C X.lw_built X.draw X.pick X.makes X.sub X.bare X.times R0 R1 X.drawn2 (fun n d r => r.mono (by decide) (by decide)) (fun q hq => line_sz hq) (fun n d q r hq n0 => ?_) fun n d q r hq n0 => ?_
  · obtain ⟨z1, z2, z3⟩ := line_ok hq
    have ln := r.ln
    have ld := r.ld
    have tl := times_len (f := n) (ne_of_lastD z2)
    refine ⟨times_ok r.zn z1 (by omega) (by omega) (by unfold szB; omega), ?_⟩
    exact fn_imp (X.llow (k := 74) (L := 4) (tr_times _ _) (tr_of r.d0) r.d0 (by omega) (by omega) ((r.zn.times z1).mono (by omega)) (r.zd.mono (by decide)) (by decide) (by decide) lm l2) fun t ⟨n', d', e, _, r'⟩ => ⟨n', d', e, r'.mono (Nat.le_refl _) (by omega)⟩
  · obtain ⟨z1, z2, z3⟩ := line_ok hq
    have ln := r.ln
    have ld := r.ld
    have tl := times_len (f := d) (ne_of_lastD z2)
    refine ⟨times_ok r.zd z1 (by omega) (by omega) (by unfold szB; omega), ?_⟩
    exact fn_imp (X.llow (k := 74) (L := 4) r.tn (tr_times _ _) (times_ne r.d0 z2) (by omega) (by omega) (r.zn.mono (by decide)) ((r.zd.times z1).mono (by omega)) (by decide) (by decide) lm l2) fun t ⟨n', d', e, _, r'⟩ => ⟨n', d', e, r'.mono (Nat.le_refl _) (by omega)⟩
theorem trim_pad {f : List Rat} (h : Tr f) (j : Nat) : trimF (f ++ zerosL j) = f := ev_inj (tr_trim _) h (Evt.of fun x => by rw [ev_trim, ev_append, ev_zeros]; grind)
/-- a Fraction made of what is passed for a pair -/
theorem Txt.made (X : Txt E dv) {K : Nat} (hK : K ≤ 4000) {n d : List Rat} (r : RP 4 K n d) : E.Pt "_law_made" 44 [.tup [.poly n, .poly d]] (· = T.frac n d) := by
  have ln := r.ln
  have ld := r.ld
  have r' := r.mono (Nat.le_refl _) hK
  have b : bt 4007 5 ≤ 2000000 := by decide
  have lb : lowB 4007 5 ≤ 500000 := low_le (b := 64127) (by decide) 500000 (by decide)
  have rp : ∀ both t1 t2, DrawG 1 both → RowP (timesF n both) t1 → RowP (timesF d both) t2 → (∃ ts, SeqT t1 ts) ∧ E.Fn "right_pair" 41 [t1, t2] (fun r => ∃ n' d', r = .tup [.poly n', .poly d'] ∧ n' = n ∧ d' = d) := fun both t1 t2 hb h1 h2 => by
    have hz := hb.z
    have hl := hb.l
    have b0 := ne_of_lastD hz
    have l1 := times_len (f := n) b0
    have l2 := times_len (f := d) b0
    obtain ⟨ts1, j1, s1, n1, k1⟩ := h1
    obtain ⟨ts2, j2, s2, n2, k2⟩ := h2
    have w1 := X.wantPoly t1 ts1 _ s1 n1 (by rw [List.length_append, zerosL_len]; omega)
    have w2 := X.wantPoly t2 ts2 _ s2 n2 (by rw [List.length_append, zerosL_len]; omega)
    rw [trim_pad (tr_times _ _)] at w1 w2
    have dz := times_ne r.d0 hz
    have p := X.plow (k := 4007) (L := 5) (tr_times n both) (tr_times d both) dz (by omega) (by omega) ((r'.zn.times hb.ph).mono (by omega)) ((r'.zd.times hb.ph).mono (by omega)) (by decide) (by decide) (by decide) (lims b (by decide)).2 (by unfold szB; omega)
    refine ⟨⟨ts1, s1⟩, ok_rightPair X.G X.right_pair t1 t2 _ _ (ne_of_lastD dz) _ w1 w2 (fn_imp p fun t ⟨n', d', e, lo, _⟩ => ⟨n', d', e, ?_⟩)⟩
    have self : Low n d n d := ⟨r.tn, r.hd, r.cop, fun x => rfl⟩
    exact lo.uniq self (evt_of_last dz) (evt_of_last r.d0) fun x => by rw [ev_times, ev_times]; grind
  refine pt_imp (ok_made X.G X.lw_made X.draw n d (fun t1 t2 => ∃ both, DrawG 1 both ∧ RowP (timesF n both) t1 ∧ RowP (timesF d both) t2) (fun n' d' => n' = n ∧ d' = d) (pt_imp (ok_passed X.G X.C X.lw_passed X.draw X.lpoly X.makes X.times X.top X.whole n d (fun both hb => ?_) fun both hb => ?_) ?_) (fun t1 t2 ⟨both, hb, h1, h2⟩ => ?_) fun t1 t2 ⟨both, hb, h1, h2⟩ => ?_) ?_
  · have hl := hb.l
    exact ⟨times_ok r'.zn hb.ph (by omega) (by omega) (by unfold szB; omega), times_ok r'.zd hb.ph (by omega) (by omega) (by unfold szB; omega)⟩
  · have hl := hb.l
    have b0 := ne_of_lastD hb.z
    have l1 := times_len (f := n) b0
    have l2 := times_len (f := d) b0
    omega
  · rintro t ⟨both, t1, t2, hb, e, h1, h2⟩
    exact ⟨t1, t2, e, both, hb, h1, h2⟩
  · obtain ⟨⟨ts, s⟩, h⟩ := rp both t1 t2 hb h1 h2
    exact (ok_FinitP X.G X.C X.fra t1 t2 ts s _ h).2
  · obtain ⟨⟨ts, s⟩, h⟩ := rp both t1 t2 hb h1 h2
    exact ok_FinitPK X.G X.C X.fraK t1 t2 ts s _ h
  · rintro t ⟨n', d', e, rfl, rfl⟩
    exact e
theorem Txt.wr (X : Txt E dv) {n d : List Rat} {p : Pl} (r : R1 n d) (hp : PlaceQ p) : WrOk E n d p := by
  have hz := placeQ_sz hp
  have e := due_worth r.d0 (f := n) p
  obtain ⟨wo, ws⟩ := wo_ok (L := 4) r.zn r.zd (ne_of_lastD r.d0) r.ln r.ld hz (by decide) (by unfold wB szB; decide)
  refine ⟨fun t ht => ?_, fun t ht => X.lworth n d t p ht (due_ok (L := 4) r.zn r.zd r.d0 r.ln r.ld hz (by decide) (by unfold wB szB; decide)), ?_⟩
  · rw [e]
    exact X.worthF n d t p ht wo
  · rw [e]
    exact ws.r (by unfold wB mostP; decide)
theorem Txt.wright (X : Txt E dv) : E.PtG "_law_worths_right" 47 [] (· = .bl true) :=
  ok_wright X.G X.C X.lw_worths_right X.draw X.top X.whole X.repr R1 X.built (fun n d r => X.made (K := 3896) (by decide) r) X.place fun n d p r hp => X.wr r hp
end
end My

set_option Elab.async false
set_option linter.all false
set_option maxRecDepth 100000
set_option maxHeartbeats 1000000
/-! ND: sums, products, fractions of fractions; the law. -/
namespace My
open PySem L2 PyProof.Rows
section
variable {E : Wd} {dv : V}
/-- what a Fraction over 24 degrees at most is told as -/
theorem Txt.short (X : Txt E dv) {f g : List Rat} (tf : Tr f) (tg : Tr g) (g0 : lastD g ≠ 0) (lf : f.length ≤ 7) (lg : g.length ≤ 7) (zf : PH 830 f) (zg : PH 830 g) :
    E.Fn "short_of" 46 [.poly f, .poly g] (fun t => ∃ n d, t = T.frac n d ∧ Low f g n d ∧ RP 7 5000000 n d) := by
  have b : bt 830 7 ≤ 12000000 := by decide
  have lb : lowB 830 7 ≤ 2400000 := low_le (b := 270906) (by decide) 2400000 (by decide)
  have p := X.plow (k := 830) (L := 7) tf tg g0 lf lg zf zg (by decide) (by decide) (by decide) (lims b (by decide)).2 (by unfold szB; omega)
  exact ok_short X.G X.C X.short_of X.deg X.atMost f g (fun n d => Low f g n d ∧ RP 7 5000000 n d) (ok_fracOf X.G X.fraction_of X.known f g _ (fn_imp p fun t ⟨n, d, e, lo, r⟩ => ⟨n, d, e, lo, r.mono (Nat.le_refl _) (by omega)⟩)) fun n d ⟨_, r⟩ => ⟨Nat.le_trans r.ln (by decide), Nat.le_trans r.ld (by decide)⟩
theorem Txt.worth_at (X : Txt E dv) {n d : List Rat} {p : Pl} {L K c : Nat} (r : RP L K n d) (hp : PSz c p) (hL : L < 800) (lim : wB L K c + c < szB) : E.Fn "worth" 41 [T.frac n d, plT p] (· = plT (worthP n d p)) :=
  (X.worthF n d _ p (pt_plT p) (wo_ok r.zn r.zd (ne_of_lastD r.d0) r.ln r.ld hp hL lim).1).1
theorem Txt.powers (X : Txt E dv) : ∀ (f : List Rat) (n : Nat), n < 900 → (∀ k, k < n → PrOk (powF f k) f) → E.Fn "powers_of" 39 [.poly f, .int (n : Int)] (· = .lst (powL f n)) := fun f n hn h => ok_powers X.G X.powers_of X.makes X.prod f n hn h
theorem lastD_prod {d d' : List Rat} (h : lastD d = 1) (h' : lastD d' = 1) : lastD (prodF d d') = 1 := by
  have d0 : d ≠ [] := ne_of_lastD (by rw [h]; decide)
  have d0' : d' ≠ [] := ne_of_lastD (by rw [h']; decide)
  rw [prodF_eq d0 d0', mulL_last d0 d0', h, h', Rat.mul_one]
theorem Txt.ru (X : Txt E dv) {n d n' d' : List Rat} {p : Pl} (r : R3 n d) (r' : R3 n' d') (hp : PlaceP p) : RuOk E n d n' d' p := by
  have hz := placeP_sz hp
  have ln := r.ln
  have ld := r.ld
  have ln' := r'.ln
  have ld' := r'.ld
  have dp := List.length_pos_iff.mpr (ne_of_lastD r.d0)
  have dp' := List.length_pos_iff.mpr (ne_of_lastD r'.d0)
  have lw : wB 4 204 2 + 2 < szB := by unfold wB szB; decide
  obtain ⟨_, s1⟩ := wo_ok (L := 4) r.zn r.zd (ne_of_lastD r.d0) ln ld hz (by decide) lw
  obtain ⟨_, s2⟩ := wo_ok (L := 4) r'.zn r'.zd (ne_of_lastD r'.d0) ln' ld' hz (by decide) lw
  have e432 : wB 4 204 2 + wB 4 204 2 = 432 := by decide
  rw [e432] at s1 s2
  refine ⟨worthP n d p, worthP n' d' p, X.worth_at r hz (by decide) lw, X.worth_at r' hz (by decide) lw, fun full => ?_, fun a b ea eb => ?_⟩
  · have h1 : hi n d ≤ 3 := by unfold hi; omega
    have h2 : hi n' d' ≤ 3 := by unfold hi; omega
    have hm : hi n' d' * hi n d ≤ 9 := Nat.mul_le_mul h2 h1
    have pw : ∀ f : List Rat, PH 204 f → f.length ≤ hi n' d' + 1 → ∀ k, k < hi n d → PrOk (powF f k) f := fun f zf hf k hk => by
      have a := pow_ph zf hf (B := 10) (high := hi n d) (by omega) k (by omega)
      have l := pow_len hf k
      have lk : hi n' d' * k ≤ hi n' d' * hi n d := Nat.mul_le_mul_left _ (by omega)
      have kk : k * (204 + 10) ≤ 3 * 214 := Nat.mul_le_mul (by omega) (by omega)
      exact pr_ok a zf (by omega) (by decide) (by omega) (by unfold hi at hf; omega)
    have put2 := ok_putPair X.G X.C X.put_pair X.sign X.prod X.powers X.sumOf X.byNumber n d n' d' (hi n d) (by unfold hi; omega) (by omega) (pw n' r'.zn hi_n) (pw d' r'.zd hi_d) (put_ok r'.zn r'.zd r.zn hi_n hi_d hm hi_n h1 (by decide)) (put_ok r'.zn r'.zd r.zd hi_n hi_d hm hi_d h1 (by decide))
    have wv := put_worth r.cop r.tn r.d0 r'.tn r'.hd r'.cop full p
    have q0 := put_ne (high := hi n d) r'.tn r'.hd r'.cop full r.d0 hi_d
    have tq := tr_putK n' d' (hi n d) d d.length
    have zP := putK_ph (f := n) r'.zn r'.zd r.zn hi_n hi_d (B := 10) (high := hi n d) (by omega) n.length hi_n
    have zQ := putK_ph (f := d) r'.zn r'.zd r.zd hi_n hi_d (B := 10) (high := hi n d) (by omega) d.length hi_d
    have lP := putK_len (n := n') (d := d') (high := hi n d) hi_n hi_d n n.length hi_n
    have lQ := putK_len (n := n') (d := d') (high := hi n d) hi_n hi_d d d.length hi_d
    have hk : hi n d * (204 + 10) ≤ 3 * 214 := Nat.mul_le_mul h1 (by omega)
    have b1 : n.length * (hi n d * (204 + 10) + 10 + 204 + 1) ≤ 4 * (3 * 214 + 10 + 204 + 1) := Nat.mul_le_mul ln (by omega)
    have b2 : d.length * (hi n d * (204 + 10) + 10 + 204 + 1) ≤ 4 * (3 * 214 + 10 + 204 + 1) := Nat.mul_le_mul ld (by omega)
    replace zP := zP.mono (j := 3500) (by omega)
    replace zQ := zQ.mono (j := 3500) (by omega)
    generalize putK n' d' (hi n d) n n.length = P at *
    generalize putK n' d' (hi n d) d d.length = Q at *
    have l25 : (max n.length d.length - 1) * (max n'.length d'.length - 1) ≤ 24 := by
      have : hi n d * hi n' d' ≤ 3 * 3 := Nat.mul_le_mul h1 h2
      exact Nat.le_trans this (by decide)
    have hd := ok_headed X.G X.C X.headed_pair X.ov X.makes X.known P Q q0 (tq q0) (zP.sz (by unfold szB; decide)) (zQ.sz (by unfold szB; decide)) (by omega) (by omega)
    refine ⟨worthP n d (worthP n' d' p), fun a b => (P = [] ∧ a = [] ∧ b = [1]) ∨ (a = overL P Q ∧ b = overL Q Q), ?_, fun a b h => ?_, X.worth_at r s2 (by decide) (by unfold wB szB; decide)⟩
    · refine ok_put X.G X.C X.put X.wantFr X.deg X.atMost n d n' d' P Q l25 (ne_of_lastD r.d0) (ne_of_lastD r'.d0) (by omega) (by omega) put2 q0 _ (fn_imp hd fun t e => ?_)
      by_cases hP : P = []
      · rw [if_pos hP] at e
        exact ⟨_, _, e, .inl ⟨hP, rfl, rfl⟩⟩
      · rw [if_neg hP] at e
        exact ⟨_, _, e, .inr ⟨rfl, rfl⟩⟩
    · rcases h with ⟨hP, rfl, rfl⟩ | ⟨rfl, rfl⟩
      · rw [← wv.2 hP]
        exact (X.worthF [] [1] _ p (pt_plT p) (wo_ok (L := 4) (K := 204) (PH.nil _) (ph_1 _) (by decide) (by decide) (by decide) hz (by decide) lw).1).1
      · rw [← wv.1]
        have i0 : overL Q Q ≠ [] := fun z => q0 (by have := overL_len Q Q; rw [z] at this; exact List.length_eq_zero_iff.mp this.symm)
        exact (X.worthF _ _ _ p (pt_plT p) (wo_ok (L := 10) (K := 7000) (zP.over zQ (tq q0)) ((zQ.self fun _ => tq q0).mono (by decide)) i0 (by rw [overL_len]; omega) (by rw [overL_len]; omega) hz (by decide) (by unfold wB szB; decide)).1).1
  · rw [ea] at s1
    rw [eb] at s2
    have p1 := prod_len n d'
    have p2 := prod_len n' d
    have p3 := prod_len d d'
    have p4 := prod_len n n'
    have z1 := (r.zn.prod r'.zd).mono (j := 412) (by omega)
    have z2 := (r'.zn.prod r.zd).mono (j := 412) (by omega)
    have z3 := (r.zd.prod r'.zd).mono (j := 412) (by omega)
    have z4 := (r.zn.prod r'.zn).mono (j := 412) (by omega)
    have d1 := lastD_prod r.hd r'.hd
    have d10 : lastD (prodF d d') ≠ 0 := by rw [d1]; decide
    have pr : ∀ f g : List Rat, PH 204 f → PH 204 g → f.length ≤ 4 → g.length ≤ 4 → PrOk f g := fun f g a b c e => pr_ok a b (by decide) (by decide) (by omega) (by omega)
    have wl : wB 7 5000000 2 + 2 < szB := by unfold wB szB; decide
    refine ⟨s1.z (by unfold szB; decide), s2.z (by unfold szB; decide), ⟨fun x y => Low (sumF (prodF n d') (prodF n' d)) (prodF d d') x y ∧ RP 7 5000000 x y, ?_, fun x y h => ?_⟩, ⟨fun x y => Low (prodF n n') (prodF d d') x y ∧ RP 7 5000000 x y, ?_, fun x y h => ?_⟩⟩
    · have sl := sum_len (prodF n d') (prodF n' d)
      exact ok_Fadd X.G X.C X.fadd X.pairIn X.prod X.sumOf n d n' d' (pr _ _ r.zn r'.zd ln ld') (pr _ _ r'.zn r.zd ln' ld) (pr _ _ r.zd r'.zd ld ld') (z1.sz (by unfold szB; decide)) (z2.sz (by unfold szB; decide)) (by omega) (by omega) _
        (X.short (tr_trim _) (tr_of d10) d10 (by omega) (by omega) ((z1.sum z2).mono (by decide)) (z3.mono (by decide)))
    · have := X.worth_at h.2 hz (by decide) wl
      rw [add_worth h.1 p ea eb] at this
      exact this
    · exact ok_Fmul X.G X.C X.fmul X.pairIn X.prod n d n' d' (pr _ _ r.zn r'.zn ln ln') (pr _ _ r.zd r'.zd ld ld') _
        (X.short (tr_prod r.tn r'.tn) (tr_of d10) d10 (by omega) (by omega) (z4.mono (by decide)) (z3.mono (by decide)))
    · have := X.worth_at h.2 hz (by decide) wl
      rw [mul_worth h.1 p ea eb] at this
      exact this
theorem Txt.rules (X : Txt E dv) : E.Pt "_law_rules_right" 48 [] (· = .bl true) :=
  ok_ruRight X.G X.C X.lw_rules_right X.worth X.eq X.add X.mul X.full R3 X.drawn3 (fun n d r => X.made (K := 204) (by decide) r) X.place fun n d n' d' p r r' hp => X.ru r r' hp
/-! ### values -/
theorem mk_imp0 {c : Cs} {kn : Kn} {pre : List T → Prop} {P Q : T → T → Prop} {vs : List V} {H : Hp} {K : VK} {E : XK} (i : ∀ a b, P a b → Q a b) (h : spIn c kn pre (fun _ a b => Q a b) vs H K E) : spIn c kn pre (fun _ a b => P a b) vs H K E := by
  obtain ⟨p, dx, Hr, ts, vr, h1, h2, h3, h4, h5, h6, h7⟩ := h
  exact ⟨p, dx, Hr, ts, vr, h1, h2, h3, h4, h5, h6, fun t1 t2 v1 v2 dx' H' Hr' z => h7 t1 t2 v1 v2 dx' H' Hr' (i t1 t2 z)⟩
theorem mk_imp {kn : Kn} {x : Str} {dvs : List V} {k : Nat} {ts : List T} {P Q : T → T → Prop} (h : E.Mk kn x dvs k ts P) (i : ∀ a b, P a b → Q a b) : E.Mk kn x dvs k ts Q := by
  obtain ⟨f, fd, ps, ds, M, F, hm, hb, hv⟩ := h.ex
  exact ⟨f, fd, ps, ds, M, ⟨fun vs H K E hq => F.len vs H K E (mk_imp0 i hq), fun A outer s H args us vs Q' E' hr he hb hv hq => F.run A outer s H args us vs Q' E' hr he hb hv (mk_imp0 i hq)⟩, hm, hb, hv⟩
theorem Txt.mkVal (X : Txt E dv) {t : T} {ts : List T} {f : List Rat} (ht : SeqT t ts) (hn : NTs ts f) (tf : Tr f) (lf : f.length ≤ 2) (zf : PH 3 f) : E.Mk .F "Fraction" [dv] 42 [t, .tup [.int 1]] (fun a b => ∃ n d, a = .poly n ∧ b = .poly d) := by
  have n1 : NTs [T.int 1] [1] := nts_one (.inr ⟨1, rfl, rfl⟩)
  have e1 : trimF [(1 : Rat)] = [1] := rfl
  have ef : trimF f = f := ev_inj (tr_trim _) tf (Evt.of fun x => ev_trim f x)
  have w1 := X.wantPoly t ts f ht hn (by omega)
  have w2 := X.wantPoly (.tup [.int 1]) [.int 1] [1] (.inr rfl) n1 (by decide)
  rw [ef] at w1
  rw [e1] at w2
  have b : bt 3 2 ≤ 300 := by decide
  have p := X.plow (k := 3) (L := 2) tf (tr_of (d := [1]) (by decide)) (show lastD [1] ≠ 0 by decide) lf (by decide) zf ph_one (by decide) (by decide) (by decide) (lims b (by decide)).2 (by unfold szB lowB; decide)
  exact mk_imp (ok_FinitP X.G X.C X.fra t (.tup [.int 1]) ts ht (fun _ _ => True) (ok_rightPair X.G X.right_pair t _ f [1] (by decide) _ w1 w2 (fn_imp p fun t ⟨n, d, e, _⟩ => ⟨n, d, e, trivial⟩))).1 fun a b ⟨n, d, e1, e2, _⟩ => ⟨n, d, e1, e2⟩
theorem Txt.values (X : Txt E dv) : E.Fn "_law_values" 44 [] (fun t => ∃ ts, t = .lst ts ∧ ∀ u ∈ ts, ValT u) := by
  have i0 : NT (.int 0) 0 := .inr ⟨0, rfl, rfl⟩
  have i1 : NT (.int 1) 1 := .inr ⟨1, rfl, rfl⟩
  have p01 : PH 3 [0, 1] := ⟨1, by decide, by decide, fun c hc => by
    rcases List.mem_cons.mp hc with rfl | hc
    · exact isI_zero _ _
    · rw [List.mem_singleton] at hc; subst hc; exact isI_one.mono (by decide)⟩
  exact ok_values X.G X.lw_values X.makes X.hdv (X.mkVal (.inl rfl) (nts_append (nts_one i0) (nts_one i1)) (tr_of (d := [0, 1]) (by decide)) (by decide) p01) (X.mkVal (.inl rfl) (nts_one i1) (tr_of (d := [1]) (by decide)) (by decide) ph_one)
theorem Txt.right (X : Txt E dv) : E.PtG "_law_right" 50 [] (· = .bl true) :=
  ok_right X.G X.C X.lw_right X.isPlace (fun t h => Wd.fnK X.G X.is_placeK scIsPlace (isplace_body X.G X.C X.isNumber t h)) (fun t h => ok_lisPlace X.G X.C X.lw_is_place t h) X.toldPl X.repr X.makes X.add X.values X.wright X.rules
theorem Txt.law (X : Txt E dv) {f : Addr} {fd : FuncData} (F : Fun E.K "law" "law" (My.top 94) f fd) : FnG E.P E.w E.K E.mg E.base 51 f fd ["_law_script"] (spLaw E.c) := ok_law F (ok_lpot X.G X.lw_pot) X.right
end
end My

set_option Elab.async false
set_option linter.all false
set_option maxRecDepth 100000
set_option maxHeartbeats 4000000
/-! Hd3: the text's facts, read off the run. -/
namespace My
open PySem L2 PyProof.Rows
/-- the world of the proof -/
def mkE (P : Program) (w : World) (mg : Str → Option Value) (base : Heap) (K : Fg) : Wd := ⟨P, w, mg, base, ⟨fun k => match k with
  | .R => He.ga K "Ratio"
  | .F => He.ga K "Fraction"
  | .K => He.ga K "Known", K⟩⟩
theorem fun_of {K : Fg} {x q : Str} {st : Stmt} {f : Addr} {fd : FuncData} (F : FunD K x q (defArgs st) (defBody st) (defScope st) [] [] f fd) : Fun K x q st f fd := by
  obtain ⟨oc, od, dV, kV, doc, pm, an, cdv, ct, osl, e, lk, hcd, hD, _⟩ := F.ex
  rcases hD with ⟨_, rfl⟩ | ⟨z, _⟩
  · exact ⟨⟨oc, od, kV, doc, pm, an, cdv, ct, osl, e, lk, hcd⟩, F.kp⟩
  · exact absurd rfl z
/-- how the parameters take what is given, without defaults -/
abbrev Bnd (x q : Str) (st : Stmt) (ps : List Str) : Prop := ∀ (kV doc pm : Value) (an : Option Addr) (cdv ct : Value) (us : List Value), us.length = ps.length → bindArgs (PySem.W.fnOf x q (defArgs st) (defBody st) (defScope st) .none kV doc pm an cdv ct) ⟨us, []⟩ = pure (ps.zip us)
section
variable {K : Fg} (S : obsM K = valM)
include S
theorem fa_at (i : Nat) {f : He.Fa} (h : faA[i]? = some f) : f.ok K = true := by
  have c : (faA.all fun f => f.ok K) = true := congrArg (fun z : AlM => z.1) S
  exact List.all_eq_true.mp c f (List.mem_of_getElem? h)
theorem ex_at (i : Nat) {f : Fg → Bool} (h : exL[i]? = some f) : f K = true := by
  have c : exA K = true := congrArg (fun z : AlM => z.2.1) S
  exact List.all_eq_true.mp c f (List.mem_of_getElem? h)
theorem fn_at (i : Nat) {d : Dd} (h : fnA[i]? = some d) : ∃ fd, FunD K d.name d.qual (defArgs d.st) (defBody d.st) (defScope d.st) (d.dfl K) [] (d.ad K) fd := by
  have c : (fnA.all fun d => d.fine K) = true := congrArg (fun z : AlM => z.2.2.1) S
  have e : fnA.map (fun d => fwA K (d.ad K)) = fnA.map Dd.due := congrArg (fun z : AlM => z.2.2.2) S
  have e2 : (fnA.map fun d => fwA K (d.ad K))[i]? = (fnA.map Dd.due)[i]? := by rw [e]
  rw [List.getElem?_map, List.getElem?_map, h] at e2
  exact Dd.fun_ (Option.some.inj e2) (List.all_eq_true.mp c d (List.mem_of_getElem? h))
variable {hp : Heap} {mg : Str → Option Value} (X : K.In hp) (G : hp.Ns mainGlobals mg) {P : Program} {w : World} {base : Heap}
include X G
theorem dfn_at (i j : Nat) {x : Str} {n : Nat} {ps : List Str} (hi : fnA[i]? = some (dG x n)) (hj : faA[j]? = some (.glo x)) (hb : Bnd x x (top n) ps) : Dfn (mkE P w mg base K) x (top n) ps := by
  obtain ⟨fd, F⟩ := fn_at S i hi
  have F2 : Fun K x x (top n) (adG x K) fd := fun_of F
  exact ⟨_, fd, F2, He.glo_ok X G (fa_at S j hj), F2.binds hb⟩
end
theorem vals_getD {vs : List V} {us : List Value} (h : Vals vs us) : ∀ i : Nat, RelV (vs.getD i .non) (us.getD i .none) := by
  induction h with
  | nil => exact fun i => rfl
  | cons r _ ih =>
    intro i
    cases i with
    | zero => exact r
    | succ i => exact ih i
/-- keywords alone, no defaults -/
theorem kbn0 {K : Fg} {x q : Str} {st : Stmt} {f : Addr} {fd : FuncData} {ps ks : List Str} {g : List Value → List Value} {gV : List V → List V} (F : Fun K x q st f fd)
    (h : ∀ (kV doc pm : Value) (an : Option Addr) (cdv ct : Value) (ws : List Value), ws.length = ks.length → bindArgs (PySem.W.fnOf x q (defArgs st) (defBody st) (defScope st) .none kV doc pm an cdv ct) ⟨[], ks.zip ws⟩ = pure (ps.zip (g ws)))
    (hr : ∀ {zs : List V} {ws : List Value}, Vals zs ws → Vals (gV zs) (g ws)) : KBn K fd ps 0 ks (fun _ ws => g ws) (fun _ zs => gV zs) := by
  obtain ⟨oc, od, kV, doc, pm, an, cdv, ct, osl, rfl, lk, hcd⟩ := F.ex
  refine ⟨fun s us ws _ l1 l2 => ?_, fun _ r => hr r⟩
  obtain rfl := List.length_eq_zero_iff.mp l1
  exact .of_eq (h kV doc pm an cdv ct ws l2)
/-- .. of a def with defaults -/
theorem kbn1 {K : Fg} {x q : Str} {a : Arguments} {b : List Stmt} {sc : Scope} {dvs : List V} {f : Addr} {fd : FuncData} {ps ks : List Str} {n : Nat} {g : List Value → List Value → List Value} {gV : List V → List V → List V} (F : FunD K x q a b sc dvs [] f fd) (hd : dvs ≠ [])
    (h : ∀ (T : Addr) (kV doc pm : Value) (an : Option Addr) (cdv ct : Value) (us its ws : List Value), us.length = n → its.length = dvs.length → ws.length = ks.length →
      ∃ k, bindArgs (PySem.W.fnOf x q a b sc (.ref T) kV doc pm an cdv ct) ⟨us, ks.zip ws⟩ = seqItems? (.ref T) >>= k ∧ k (some its.toArray) = pure (ps.zip (g us ws)))
    (hr : ∀ {vs zs : List V} {us ws : List Value}, Vals vs us → Vals zs ws → Vals (gV vs zs) (g us ws)) : KBn K fd ps n ks g gV := by
  obtain ⟨oc, od, dV, kV, doc, pm, an, cdv, ct, osl, rfl, lk, hcd, hD, hK⟩ := F.ex
  rcases hD with ⟨e, _⟩ | ⟨_, T, o, its, m, rfl, lT, oT, rT⟩
  · exact absurd e hd
  · refine ⟨fun s us ws Xs l1 l2 => ?_, fun r1 r2 => hr r1 r2⟩
    obtain ⟨k, e1, e2⟩ := h T kV doc pm an cdv ct us its ws l1 rT.length.symm l2
    refine BindsTo.of_looks fun M => ?_
    rw [e1]
    exact looks_items Xs lT oT (.of_pure e2)
section
variable {K : Fg} (S : obsM K = valM) {hp : Heap} {mg : Str → Option Value} (X : K.In hp) (G : hp.Ns mainGlobals mg) {P : Program} {w : World} {base : Heap}
include S X G

theorem f_is_integer : Dfn (mkE P w mg base K) "is_integer" (top 15) ["value"] := dfn_at S X G 0 15 rfl rfl (fun _ _ _ _ _ _ us hl => match us, hl with | [_], _ => rfl)
theorem f_is_list : Dfn (mkE P w mg base K) "is_list" (top 16) ["value"] := dfn_at S X G 1 16 rfl rfl (fun _ _ _ _ _ _ us hl => match us, hl with | [_], _ => rfl)
theorem f_want_at_most : Dfn (mkE P w mg base K) "want_at_most" (top 17) ["what", "limit", "number"] := dfn_at S X G 2 17 rfl rfl (fun _ _ _ _ _ _ us hl => match us, hl with | [_, _, _], _ => rfl)
theorem f_digits_of : Dfn (mkE P w mg base K) "digits_of" (top 20) ["number"] := dfn_at S X G 3 18 rfl rfl (fun _ _ _ _ _ _ us hl => match us, hl with | [_], _ => rfl)
theorem f_divisor_of : Dfn (mkE P w mg base K) "divisor_of" (top 21) ["one", "other"] := dfn_at S X G 4 19 rfl rfl (fun _ _ _ _ _ _ us hl => match us, hl with | [_, _], _ => rfl)
theorem f_told_pair : Dfn (mkE P w mg base K) "told_pair" (top 23) ["value"] := dfn_at S X G 5 20 rfl rfl (fun _ _ _ _ _ _ us hl => match us, hl with | [_], _ => rfl)
theorem f_is_number : Dfn (mkE P w mg base K) "is_number" (top 24) ["value"] := dfn_at S X G 6 21 rfl rfl (fun _ _ _ _ _ _ us hl => match us, hl with | [_], _ => rfl)
theorem f_ratio_of : Dfn (mkE P w mg base K) "ratio_of" (top 25) ["number"] := dfn_at S X G 7 22 rfl rfl (fun _ _ _ _ _ _ us hl => match us, hl with | [_], _ => rfl)
theorem f_wholes : Dfn (mkE P w mg base K) "wholes" (top 27) ["ratios"] := dfn_at S X G 8 23 rfl rfl (fun _ _ _ _ _ _ us hl => match us, hl with | [_], _ => rfl)
theorem f_is_poly : Dfn (mkE P w mg base K) "is_poly" (top 31) ["value"] := dfn_at S X G 9 24 rfl rfl (fun _ _ _ _ _ _ us hl => match us, hl with | [_], _ => rfl)
theorem f_trimmed : Dfn (mkE P w mg base K) "trimmed" (top 32) ["ratios"] := dfn_at S X G 10 25 rfl rfl (fun _ _ _ _ _ _ us hl => match us, hl with | [_], _ => rfl)
theorem f_want_poly : Dfn (mkE P w mg base K) "want_poly" (top 33) ["value"] := dfn_at S X G 11 26 rfl rfl (fun _ _ _ _ _ _ us hl => match us, hl with | [_], _ => rfl)
theorem f_sum_of : Dfn (mkE P w mg base K) "sum_of" (top 34) ["one", "other"] := dfn_at S X G 12 27 rfl rfl (fun _ _ _ _ _ _ us hl => match us, hl with | [_, _], _ => rfl)
theorem f_by_number : Dfn (mkE P w mg base K) "by_number" (top 35) ["poly", "ratio"] := dfn_at S X G 13 28 rfl rfl (fun _ _ _ _ _ _ us hl => match us, hl with | [_, _], _ => rfl)
theorem f_int_product : Dfn (mkE P w mg base K) "int_product" (top 37) ["near", "far"] := dfn_at S X G 14 29 rfl rfl (fun _ _ _ _ _ _ us hl => match us, hl with | [_, _], _ => rfl)
theorem f_product_of : Dfn (mkE P w mg base K) "product_of" (top 38) ["one", "other"] := dfn_at S X G 15 30 rfl rfl (fun _ _ _ _ _ _ us hl => match us, hl with | [_, _], _ => rfl)
theorem f_parts_of : Dfn (mkE P w mg base K) "parts_of" (top 39) ["one", "other"] := dfn_at S X G 16 31 rfl rfl (fun _ _ _ _ _ _ us hl => match us, hl with | [_, _], _ => rfl)
theorem f_plain_row : Dfn (mkE P w mg base K) "plain_row" (top 41) ["numbers"] := dfn_at S X G 17 32 rfl rfl (fun _ _ _ _ _ _ us hl => match us, hl with | [_], _ => rfl)
theorem f_int_rest : Dfn (mkE P w mg base K) "int_rest" (top 42) ["one", "other"] := dfn_at S X G 18 33 rfl rfl (fun _ _ _ _ _ _ us hl => match us, hl with | [_, _], _ => rfl)
theorem f_int_common : Dfn (mkE P w mg base K) "int_common" (top 43) ["one", "other"] := dfn_at S X G 19 34 rfl rfl (fun _ _ _ _ _ _ us hl => match us, hl with | [_, _], _ => rfl)
theorem f_common_of : Dfn (mkE P w mg base K) "common_of" (top 44) ["one", "other"] := dfn_at S X G 20 35 rfl rfl (fun _ _ _ _ _ _ us hl => match us, hl with | [_, _], _ => rfl)
theorem f_lowest : Dfn (mkE P w mg base K) "lowest" (top 47) ["top", "bottom"] := dfn_at S X G 21 36 rfl rfl (fun _ _ _ _ _ _ us hl => match us, hl with | [_, _], _ => rfl)
theorem f_powers_of : Dfn (mkE P w mg base K) "powers_of" (top 48) ["poly", "many"] := dfn_at S X G 22 37 rfl rfl (fun _ _ _ _ _ _ us hl => match us, hl with | [_, _], _ => rfl)
theorem f_put_pair : Dfn (mkE P w mg base K) "put_pair" (top 49) ["top", "bottom", "near", "far"] := dfn_at S X G 23 38 rfl rfl (fun _ _ _ _ _ _ us hl => match us, hl with | [_, _, _, _], _ => rfl)
theorem f_right_pair : Dfn (mkE P w mg base K) "right_pair" (top 51) ["top", "bottom"] := dfn_at S X G 24 39 rfl rfl (fun _ _ _ _ _ _ us hl => match us, hl with | [_, _], _ => rfl)
theorem f_pair_in : Dfn (mkE P w mg base K) "pair_in" (top 53) ["value"] := dfn_at S X G 25 40 rfl rfl (fun _ _ _ _ _ _ us hl => match us, hl with | [_], _ => rfl)
theorem f_known_fraction : Dfn (mkE P w mg base K) "known_fraction" (top 54) ["top", "bottom"] := dfn_at S X G 26 41 rfl rfl (fun _ _ _ _ _ _ us hl => match us, hl with | [_, _], _ => rfl)
theorem f_fraction_of : Dfn (mkE P w mg base K) "fraction_of" (top 55) ["top", "bottom"] := dfn_at S X G 27 42 rfl rfl (fun _ _ _ _ _ _ us hl => match us, hl with | [_, _], _ => rfl)
theorem f_short_of : Dfn (mkE P w mg base K) "short_of" (top 56) ["top", "bottom"] := dfn_at S X G 28 43 rfl rfl (fun _ _ _ _ _ _ us hl => match us, hl with | [_, _], _ => rfl)
theorem f_want_fraction : Dfn (mkE P w mg base K) "want_fraction" (top 57) ["value"] := dfn_at S X G 29 44 rfl rfl (fun _ _ _ _ _ _ us hl => match us, hl with | [_], _ => rfl)
theorem f_headed_pair : Dfn (mkE P w mg base K) "headed_pair" (top 58) ["top", "bottom"] := dfn_at S X G 30 45 rfl rfl (fun _ _ _ _ _ _ us hl => match us, hl with | [_, _], _ => rfl)
theorem f_put : Dfn (mkE P w mg base K) "put" (top 59) ["fraction", "other"] := dfn_at S X G 31 46 rfl rfl (fun _ _ _ _ _ _ us hl => match us, hl with | [_, _], _ => rfl)
theorem f_is_place : Dfn (mkE P w mg base K) "is_place" (top 62) ["value"] := dfn_at S X G 32 47 rfl rfl (fun _ _ _ _ _ _ us hl => match us, hl with | [_], _ => rfl)
theorem f_want_place : Dfn (mkE P w mg base K) "want_place" (top 63) ["value"] := dfn_at S X G 33 48 rfl rfl (fun _ _ _ _ _ _ us hl => match us, hl with | [_], _ => rfl)
theorem f_is_beyond : Dfn (mkE P w mg base K) "is_beyond" (top 64) ["place"] := dfn_at S X G 34 49 rfl rfl (fun _ _ _ _ _ _ us hl => match us, hl with | [_], _ => rfl)
theorem f_pair_of : Dfn (mkE P w mg base K) "pair_of" (top 65) ["place"] := dfn_at S X G 35 50 rfl rfl (fun _ _ _ _ _ _ us hl => match us, hl with | [_], _ => rfl)
theorem f_place_by : Dfn (mkE P w mg base K) "place_by" (top 66) ["above", "below"] := dfn_at S X G 36 51 rfl rfl (fun _ _ _ _ _ _ us hl => match us, hl with | [_, _], _ => rfl)
theorem f_worth_by : Dfn (mkE P w mg base K) "worth_by" (top 67) ["poly", "high", "above", "below"] := dfn_at S X G 37 52 rfl rfl (fun _ _ _ _ _ _ us hl => match us, hl with | [_, _, _, _], _ => rfl)
theorem f_worth_of : Dfn (mkE P w mg base K) "worth_of" (top 68) ["fraction", "place"] := dfn_at S X G 38 53 rfl rfl (fun _ _ _ _ _ _ us hl => match us, hl with | [_, _], _ => rfl)
theorem f_told_place : Dfn (mkE P w mg base K) "told_place" (top 69) ["place"] := dfn_at S X G 39 54 rfl rfl (fun _ _ _ _ _ _ us hl => match us, hl with | [_], _ => rfl)
theorem f_worth : Dfn (mkE P w mg base K) "worth" (top 70) ["fraction", "place"] := dfn_at S X G 40 55 rfl rfl (fun _ _ _ _ _ _ us hl => match us, hl with | [_, _], _ => rfl)
theorem f__law_pot : Dfn (mkE P w mg base K) "_law_pot" (top 72) ["_law_script", "_law_k"] := dfn_at S X G 41 56 rfl rfl (fun _ _ _ _ _ _ us hl => match us, hl with | [_, _], _ => rfl)
theorem f__law_draw : Dfn (mkE P w mg base K) "_law_draw" (top 73) ["_law_pot_here", "_law_many"] := dfn_at S X G 42 57 rfl rfl (fun _ _ _ _ _ _ us hl => match us, hl with | [_, _], _ => rfl)
theorem f__law_pick : Dfn (mkE P w mg base K) "_law_pick" (top 74) ["_law_pot_here", "_law_some"] := dfn_at S X G 43 58 rfl rfl (fun _ _ _ _ _ _ us hl => match us, hl with | [_, _], _ => rfl)
theorem f__law_bare : Dfn (mkE P w mg base K) "_law_bare" (top 75) ["_law_poly_here"] := dfn_at S X G 44 59 rfl rfl (fun _ _ _ _ _ _ us hl => match us, hl with | [_], _ => rfl)
theorem f__law_plus : Dfn (mkE P w mg base K) "_law_plus" (top 76) ["_law_one", "_law_other", "_law_number"] := dfn_at S X G 45 60 rfl rfl (fun _ _ _ _ _ _ us hl => match us, hl with | [_, _, _], _ => rfl)
theorem f__law_times : Dfn (mkE P w mg base K) "_law_times" (top 77) ["_law_one", "_law_other"] := dfn_at S X G 46 61 rfl rfl (fun _ _ _ _ _ _ us hl => match us, hl with | [_, _], _ => rfl)
theorem f__law_divided : Dfn (mkE P w mg base K) "_law_divided" (top 78) ["_law_one", "_law_other"] := dfn_at S X G 47 62 rfl rfl (fun _ _ _ _ _ _ us hl => match us, hl with | [_, _], _ => rfl)
theorem f__law_common : Dfn (mkE P w mg base K) "_law_common" (top 79) ["_law_one", "_law_other"] := dfn_at S X G 48 63 rfl rfl (fun _ _ _ _ _ _ us hl => match us, hl with | [_, _], _ => rfl)
theorem f__law_lowest : Dfn (mkE P w mg base K) "_law_lowest" (top 80) ["_law_top", "_law_bottom"] := dfn_at S X G 49 64 rfl rfl (fun _ _ _ _ _ _ us hl => match us, hl with | [_, _], _ => rfl)
theorem f__law_at : Dfn (mkE P w mg base K) "_law_at" (top 81) ["_law_poly_here", "_law_number"] := dfn_at S X G 50 65 rfl rfl (fun _ _ _ _ _ _ us hl => match us, hl with | [_, _], _ => rfl)
theorem f__law_worth : Dfn (mkE P w mg base K) "_law_worth" (top 82) ["_law_pair", "_law_place_here"] := dfn_at S X G 51 66 rfl rfl (fun _ _ _ _ _ _ us hl => match us, hl with | [_, _], _ => rfl)
theorem f__law_poly : Dfn (mkE P w mg base K) "_law_poly" (top 83) ["_law_pot_here", "_law_most"] := dfn_at S X G 52 67 rfl rfl (fun _ _ _ _ _ _ us hl => match us, hl with | [_, _], _ => rfl)
theorem f__law_drawn : Dfn (mkE P w mg base K) "_law_drawn" (top 84) ["_law_pot_here", "_law_most"] := dfn_at S X G 53 68 rfl rfl (fun _ _ _ _ _ _ us hl => match us, hl with | [_, _], _ => rfl)
theorem f__law_passed : Dfn (mkE P w mg base K) "_law_passed" (top 85) ["_law_pot_here", "_law_pair"] := dfn_at S X G 54 69 rfl rfl (fun _ _ _ _ _ _ us hl => match us, hl with | [_, _], _ => rfl)
theorem f__law_made : Dfn (mkE P w mg base K) "_law_made" (top 86) ["_law_pot_here", "_law_pair"] := dfn_at S X G 55 70 rfl rfl (fun _ _ _ _ _ _ us hl => match us, hl with | [_, _], _ => rfl)
theorem f__law_values : Dfn (mkE P w mg base K) "_law_values" (top 87) [] := dfn_at S X G 56 71 rfl rfl (fun _ _ _ _ _ _ us hl => match us, hl with | [], _ => rfl)
theorem f__law_is_place : Dfn (mkE P w mg base K) "_law_is_place" (top 88) ["_law_value"] := dfn_at S X G 57 72 rfl rfl (fun _ _ _ _ _ _ us hl => match us, hl with | [_], _ => rfl)
theorem f__law_place : Dfn (mkE P w mg base K) "_law_place" (top 89) ["_law_pot_here"] := dfn_at S X G 58 73 rfl rfl (fun _ _ _ _ _ _ us hl => match us, hl with | [_], _ => rfl)
theorem f__law_built : Dfn (mkE P w mg base K) "_law_built" (top 90) ["_law_pot_here"] := dfn_at S X G 59 74 rfl rfl (fun _ _ _ _ _ _ us hl => match us, hl with | [_], _ => rfl)
theorem f__law_worths_right : Dfn (mkE P w mg base K) "_law_worths_right" (top 91) ["_law_pot_here"] := dfn_at S X G 60 75 rfl rfl (fun _ _ _ _ _ _ us hl => match us, hl with | [_], _ => rfl)
theorem f__law_rules_right : Dfn (mkE P w mg base K) "_law_rules_right" (top 92) ["_law_pot_here"] := dfn_at S X G 61 76 rfl rfl (fun _ _ _ _ _ _ us hl => match us, hl with | [_], _ => rfl)
theorem f__law_right : Dfn (mkE P w mg base K) "_law_right" (top 93) ["_law_pot_here"] := dfn_at S X G 62 77 rfl rfl (fun _ _ _ _ _ _ us hl => match us, hl with | [_], _ => rfl)
theorem f_glo (hbs : base.NoSeer) (hP : P.given.tree = none) : Glo (mkE P w mg base K) where
  isi := He.free_ok X G (fa_at S 0 (f := .free "isinstance") rfl)
  len := He.free_ok X G (fa_at S 1 (f := .free "len") rfl)
  lst := He.free_ok X G (fa_at S 2 (f := .free "list") rfl)
  tup := He.free_ok X G (fa_at S 3 (f := .free "tuple") rfl)
  int := He.free_ok X G (fa_at S 4 (f := .free "int") rfl)
  bool := He.free_ok X G (fa_at S 5 (f := .free "bool") rfl)
  str := He.free_ok X G (fa_at S 6 (f := .free "str") rfl)
  max := He.free_ok X G (fa_at S 7 (f := .free "max") rfl)
  abs := He.free_ok X G (fa_at S 8 (f := .free "abs") rfl)
  all := He.free_ok X G (fa_at S 9 (f := .free "all") rfl)
  rng := He.free_ok X G (fa_at S 10 (f := .free "range") rfl)
  enu := He.free_ok X G (fa_at S 11 (f := .free "enumerate") rfl)
  zip := He.free_ok X G (fa_at S 12 (f := .free "zip") rfl)
  dmd := He.free_ok X G (fa_at S 13 (f := .free "divmod") rfl)
  rep := He.free_ok X G (fa_at S 14 (f := .free "repr") rfl)
  gcd := PySem.W.mg_of X G (He.eqO_ok (ex_at S 0 (f := fun K => bltB K "gcd" "math.gcd") rfl))
  lcm := PySem.W.mg_of X G (He.eqO_ok (ex_at S 1 (f := fun K => bltB K "lcm" "math.lcm") rfl))
  rat := He.glo_ok X G (fa_at S 79 (f := .glo "Ratio") rfl)
  fra := He.glo_ok X G (fa_at S 80 (f := .glo "Fraction") rfl)
  kno := He.glo_ok X G (fa_at S 81 (f := .glo "Known") rfl)
  num := He.int_ok X G (fa_at S 82 (f := .int "MOST_NUMBERS" 25) rfl)
  deg := He.int_ok X G (fa_at S 83 (f := .int "MOST_DEGREE" 24) rfl)
  prt := He.int_ok X G (fa_at S 84 (f := .int "PART" (10 ^ 60)) rfl)
  bey := He.str_ok X G (fa_at S 85 (f := .str "BEYOND" "beyond") rfl)
  ns := hbs
  tr := hP
omit X G in
theorem f_cla : Cla (mkE P w mg base K) where
  clo := fun k => by
    cases k with
    | R => exact ⟨He.cls_ok (fa_at S 86 (f := .cls "Ratio") rfl), He.noat_ok (fa_at S 87 (f := .noat "Ratio" "own_top") rfl), He.noat_ok (fa_at S 88 (f := .noat "Ratio" "own_bottom") rfl)⟩
    | F => exact ⟨He.cls_ok (fa_at S 90 (f := .cls "Fraction") rfl), He.noat_ok (fa_at S 91 (f := .noat "Fraction" "own_top") rfl), He.noat_ok (fa_at S 92 (f := .noat "Fraction" "own_bottom") rfl)⟩
    | K => exact ⟨He.cls_ok (fa_at S 94 (f := .cls "Known") rfl), He.noat_ok (fa_at S 95 (f := .noat "Known" "own_top") rfl), He.noat_ok (fa_at S 96 (f := .noat "Known" "own_bottom") rfl)⟩
  iso := fun k => by
    have key : ∀ C : Addr, isoB K C = true → PySem.W.findIn K (.ref C) "__class__" = some (some (.builtin "object.__class__")) ∧ PySem.W.specialIn K (.builtin "object.__class__") "__get__" = some (some (.builtin "getset_descriptor.__get__")) ∧ PySem.W.takesIn K (.builtin "object.__class__") = some true ∧ PySem.W.mroIn K C (.type "object") = some true := fun C h => by
      obtain ⟨h1, h⟩ := Bool.and_eq_true_iff.mp h
      obtain ⟨h2, h⟩ := Bool.and_eq_true_iff.mp h
      obtain ⟨h3, h4⟩ := Bool.and_eq_true_iff.mp h
      exact ⟨He.eqO_ok h1, He.eqO_ok h2, obD_ok h3, obD_ok h4⟩
    cases k with
    | R =>
      obtain ⟨h1, h2, h3, h4⟩ := key _ (ex_at S 2 (f := fun K => isoB K (He.ga K "Ratio")) rfl)
      exact ⟨h1, h2, h3, h4⟩
    | F =>
      obtain ⟨h1, h2, h3, h4⟩ := key _ (ex_at S 3 (f := fun K => isoB K (He.ga K "Fraction")) rfl)
      exact ⟨h1, h2, h3, h4⟩
    | K =>
      obtain ⟨h1, h2, h3, h4⟩ := key _ (ex_at S 4 (f := fun K => isoB K (He.ga K "Known")) rfl)
      exact ⟨h1, h2, h3, h4⟩
  ri := fun k => by
    have h := List.all_eq_true.mp (ex_at S 17 (f := fun K => (["Ratio", "Fraction", "Known"] : List Str).all fun c => kitQq K (.ref (He.ga K c)) (.type "int") false && kitQq K (.ref (He.ga K c)) (.type "str") false) rfl)
    cases k with
    | R => exact obD_ok (Bool.and_eq_true_iff.mp (h "Ratio" (by decide +kernel))).1
    | F => exact obD_ok (Bool.and_eq_true_iff.mp (h "Fraction" (by decide +kernel))).1
    | K => exact obD_ok (Bool.and_eq_true_iff.mp (h "Known" (by decide +kernel))).1
  rs := fun k => by
    have h := List.all_eq_true.mp (ex_at S 17 (f := fun K => (["Ratio", "Fraction", "Known"] : List Str).all fun c => kitQq K (.ref (He.ga K c)) (.type "int") false && kitQq K (.ref (He.ga K c)) (.type "str") false) rfl)
    cases k with
    | R => exact obD_ok (Bool.and_eq_true_iff.mp (h "Ratio" (by decide +kernel))).2
    | F => exact obD_ok (Bool.and_eq_true_iff.mp (h "Fraction" (by decide +kernel))).2
    | K => exact obD_ok (Bool.and_eq_true_iff.mp (h "Known" (by decide +kernel))).2
  bR := fun T hT => obD_ok (List.all_eq_true.mp (ex_at S 18 (f := fun K => (["int", "bool", "str", "NoneType", "list", "tuple", "dict"] : List String).all fun t => kitQq K (.type t) (.ref (He.ga K "Ratio")) false) rfl) T hT)
  bK := fun T hT => obD_ok (List.all_eq_true.mp (ex_at S 19 (f := fun K => (["list", "tuple"] : List String).all fun t => kitQq K (.type t) (.ref (He.ga K "Known")) false) rfl) T hT)
  FR := obD_ok (ex_at S 20 (f := fun K => kitQq K (.ref (He.ga K "Fraction")) (.ref (He.ga K "Ratio")) false) rfl)
end
/-! ### properties, operators -/
theorem prop_of {K : Fg} {c x : Str} (h : propB K c x = true) : PropOf K (He.ga K c) x (adM c x K) (adP c x K) := by
  obtain ⟨h1, h⟩ := Bool.and_eq_true_iff.mp h
  obtain ⟨h2, h⟩ := Bool.and_eq_true_iff.mp h
  obtain ⟨h3, h4⟩ := Bool.and_eq_true_iff.mp h
  refine ⟨He.eqO_ok h1, He.eqO_ok h2, obD_ok h3, ?_⟩
  unfold adP
  cases e : PySem.W.recIn K (adM c x K) "property" with
  | none => rw [e] at h4; cases h4
  | some l =>
    rw [e] at h4
    cases l with
    | nil => cases h4
    | cons v r =>
      cases v with
      | ref g => exact ⟨r, rfl⟩
      | _ => cases h4
theorem opi_of {K : Fg} {c : Str} {op : Operator} (h : opB K c op = true) : OpI K (He.ga K c) (adM c (PySem.dunder op.info.2) K) op := by
  obtain ⟨h1, h⟩ := Bool.and_eq_true_iff.mp h
  obtain ⟨h2, h⟩ := Bool.and_eq_true_iff.mp h
  obtain ⟨h3, h⟩ := Bool.and_eq_true_iff.mp h
  obtain ⟨h4, h⟩ := Bool.and_eq_true_iff.mp h
  obtain ⟨h5, h⟩ := Bool.and_eq_true_iff.mp h
  obtain ⟨h6, h7⟩ := Bool.and_eq_true_iff.mp h
  refine ⟨He.eqO_ok h1, h2, h3, ?_, Option.isSome_iff_exists.mp h5, Option.isSome_iff_exists.mp h6, obD_ok h7⟩
  unfold refOr at h4
  cases e : PySem.W.findIn K (.ref (He.ga K c)) (dunderR op.info.2) with
  | none => rw [e] at h4; cases h4
  | some r =>
    rw [e] at h4
    cases r with
    | none => exact ⟨none, rfl, .inl rfl⟩
    | some v =>
      cases v with
      | ref g => exact ⟨_, rfl, .inr ⟨g, rfl⟩⟩
      | _ => cases h4
theorem eqi_of {K : Fg} {c : Str} (h : eqB K c = true) : EqI K (He.ga K c) (adM c "__eq__" K) := by
  obtain ⟨h1, h⟩ := Bool.and_eq_true_iff.mp h
  obtain ⟨h2, h⟩ := Bool.and_eq_true_iff.mp h
  obtain ⟨h3, h⟩ := Bool.and_eq_true_iff.mp h
  obtain ⟨h4, h⟩ := Bool.and_eq_true_iff.mp h
  obtain ⟨h5, h6⟩ := Bool.and_eq_true_iff.mp h
  exact ⟨He.eqO_ok h1, h2, He.eqO_ok h3, obD_ok h4, h5, h6⟩
section
variable {K : Fg} (S : obsM K = valM) {hp : Heap} {mg : Str → Option Value} {P : Program} {w : World} {base : Heap}
include S
theorem f_pRtop : Pfn (mkE P w mg base K) .R "top" "Ratio.top" (inC 22 1) ["self"] := by
  obtain ⟨fd, F⟩ := fn_at S 75 (d := dP "Ratio" "top" "Ratio.top" 22 1) rfl
  have F2 : Fun K "top" "Ratio.top" (inC 22 1) (adP "Ratio" "top" K) fd := fun_of F
  exact ⟨_, _, fd, F2, prop_of (ex_at S 5 (f := fun K => propB K "Ratio" "top") rfl), F2.binds (fun _ _ _ _ _ _ us hl => match us, hl with | [_], _ => rfl)⟩
theorem f_pRsign : Pfn (mkE P w mg base K) .R "sign" "Ratio.sign" (inC 22 3) ["self"] := by
  obtain ⟨fd, F⟩ := fn_at S 76 (d := dP "Ratio" "sign" "Ratio.sign" 22 3) rfl
  have F2 : Fun K "sign" "Ratio.sign" (inC 22 3) (adP "Ratio" "sign" K) fd := fun_of F
  exact ⟨_, _, fd, F2, prop_of (ex_at S 6 (f := fun K => propB K "Ratio" "sign") rfl), F2.binds (fun _ _ _ _ _ _ us hl => match us, hl with | [_], _ => rfl)⟩
theorem f_pRwhole : Pfn (mkE P w mg base K) .R "is_whole" "Ratio.is_whole" (inC 22 4) ["self"] := by
  obtain ⟨fd, F⟩ := fn_at S 77 (d := dP "Ratio" "is_whole" "Ratio.is_whole" 22 4) rfl
  have F2 : Fun K "is_whole" "Ratio.is_whole" (inC 22 4) (adP "Ratio" "is_whole" K) fd := fun_of F
  exact ⟨_, _, fd, F2, prop_of (ex_at S 7 (f := fun K => propB K "Ratio" "is_whole") rfl), F2.binds (fun _ _ _ _ _ _ us hl => match us, hl with | [_], _ => rfl)⟩
theorem f_pFdeg : Pfn (mkE P w mg base K) .F "degree" "Fraction.degree" (inC 52 1) ["self"] := by
  obtain ⟨fd, F⟩ := fn_at S 78 (d := dP "Fraction" "degree" "Fraction.degree" 52 1) rfl
  have F2 : Fun K "degree" "Fraction.degree" (inC 52 1) (adP "Fraction" "degree" K) fd := fun_of F
  exact ⟨_, _, fd, F2, prop_of (ex_at S 8 (f := fun K => propB K "Fraction" "degree") rfl), F2.binds (fun _ _ _ _ _ _ us hl => match us, hl with | [_], _ => rfl)⟩
theorem f_pFfull : Pfn (mkE P w mg base K) .F "is_full" "Fraction.is_full" (inC 52 2) ["self"] := by
  obtain ⟨fd, F⟩ := fn_at S 79 (d := dP "Fraction" "is_full" "Fraction.is_full" 52 2) rfl
  have F2 : Fun K "is_full" "Fraction.is_full" (inC 52 2) (adP "Fraction" "is_full" K) fd := fun_of F
  exact ⟨_, _, fd, F2, prop_of (ex_at S 9 (f := fun K => propB K "Fraction" "is_full") rfl), F2.binds (fun _ _ _ _ _ _ us hl => match us, hl with | [_], _ => rfl)⟩
theorem f_oRadd : Ofn (mkE P w mg base K) .R .Add "__add__" "Ratio.__add__" (inC 22 6) ["self", "other"] := by
  obtain ⟨fd, F⟩ := fn_at S 65 (d := dM "Ratio" "__add__" "Ratio.__add__" 22 6) rfl
  have F2 : Fun K "__add__" "Ratio.__add__" (inC 22 6) (adM "Ratio" "__add__" K) fd := fun_of F
  have e : PySem.dunder (Operator.Add).info.2 = ("__add__" : Str) := by decide +kernel
  have O := opi_of (ex_at S 10 (f := fun K => opB K "Ratio" .Add) rfl)
  rw [e] at O
  exact ⟨_, fd, F2, F2.binds (fun _ _ _ _ _ _ us hl => match us, hl with | [_, _], _ => rfl), O⟩
theorem f_oRsub : Ofn (mkE P w mg base K) .R .Sub "__sub__" "Ratio.__sub__" (inC 22 8) ["self", "other"] := by
  obtain ⟨fd, F⟩ := fn_at S 66 (d := dM "Ratio" "__sub__" "Ratio.__sub__" 22 8) rfl
  have F2 : Fun K "__sub__" "Ratio.__sub__" (inC 22 8) (adM "Ratio" "__sub__" K) fd := fun_of F
  have e : PySem.dunder (Operator.Sub).info.2 = ("__sub__" : Str) := by decide +kernel
  have O := opi_of (ex_at S 11 (f := fun K => opB K "Ratio" .Sub) rfl)
  rw [e] at O
  exact ⟨_, fd, F2, F2.binds (fun _ _ _ _ _ _ us hl => match us, hl with | [_, _], _ => rfl), O⟩
theorem f_oRmul : Ofn (mkE P w mg base K) .R .Mult "__mul__" "Ratio.__mul__" (inC 22 10) ["self", "other"] := by
  obtain ⟨fd, F⟩ := fn_at S 67 (d := dM "Ratio" "__mul__" "Ratio.__mul__" 22 10) rfl
  have F2 : Fun K "__mul__" "Ratio.__mul__" (inC 22 10) (adM "Ratio" "__mul__" K) fd := fun_of F
  have e : PySem.dunder (Operator.Mult).info.2 = ("__mul__" : Str) := by decide +kernel
  have O := opi_of (ex_at S 12 (f := fun K => opB K "Ratio" .Mult) rfl)
  rw [e] at O
  exact ⟨_, fd, F2, F2.binds (fun _ _ _ _ _ _ us hl => match us, hl with | [_, _], _ => rfl), O⟩
theorem f_oFadd : Ofn (mkE P w mg base K) .F .Add "__add__" "Fraction.__add__" (inC 52 6) ["self", "other"] := by
  obtain ⟨fd, F⟩ := fn_at S 72 (d := dM "Fraction" "__add__" "Fraction.__add__" 52 6) rfl
  have F2 : Fun K "__add__" "Fraction.__add__" (inC 52 6) (adM "Fraction" "__add__" K) fd := fun_of F
  have e : PySem.dunder (Operator.Add).info.2 = ("__add__" : Str) := by decide +kernel
  have O := opi_of (ex_at S 13 (f := fun K => opB K "Fraction" .Add) rfl)
  rw [e] at O
  exact ⟨_, fd, F2, F2.binds (fun _ _ _ _ _ _ us hl => match us, hl with | [_, _], _ => rfl), O⟩
theorem f_oFmul : Ofn (mkE P w mg base K) .F .Mult "__mul__" "Fraction.__mul__" (inC 52 10) ["self", "other"] := by
  obtain ⟨fd, F⟩ := fn_at S 73 (d := dM "Fraction" "__mul__" "Fraction.__mul__" 52 10) rfl
  have F2 : Fun K "__mul__" "Fraction.__mul__" (inC 52 10) (adM "Fraction" "__mul__" K) fd := fun_of F
  have e : PySem.dunder (Operator.Mult).info.2 = ("__mul__" : Str) := by decide +kernel
  have O := opi_of (ex_at S 14 (f := fun K => opB K "Fraction" .Mult) rfl)
  rw [e] at O
  exact ⟨_, fd, F2, F2.binds (fun _ _ _ _ _ _ us hl => match us, hl with | [_, _], _ => rfl), O⟩
theorem f_eqR : Qfn (mkE P w mg base K) .R "Ratio.__eq__" (inC 22 17) ["self", "other"] := by
  obtain ⟨fd, F⟩ := fn_at S 69 (d := dM "Ratio" "__eq__" "Ratio.__eq__" 22 17) rfl
  have F2 : Fun K "__eq__" "Ratio.__eq__" (inC 22 17) (adM "Ratio" "__eq__" K) fd := fun_of F
  exact ⟨_, fd, F2, F2.binds (fun _ _ _ _ _ _ us hl => match us, hl with | [_, _], _ => rfl), eqi_of (ex_at S 15 (f := fun K => eqB K "Ratio") rfl)⟩
theorem f_over : Mfn (mkE P w mg base K) .R "over" "Ratio.over" (inC 22 13) ["self", "other"] := by
  obtain ⟨fd, F⟩ := fn_at S 68 (d := dM "Ratio" "over" "Ratio.over" 22 13) rfl
  have F2 : Fun K "over" "Ratio.over" (inC 22 13) (adM "Ratio" "over" K) fd := fun_of F
  have M := He.meth_ok (fa_at S 98 (f := .meth "Ratio" "over") rfl)
  exact ⟨_, fd, F2, M.at_, M.fn, F2.binds (fun _ _ _ _ _ _ us hl => match us, hl with | [_, _], _ => rfl)⟩
theorem f_repr : Rfn (mkE P w mg base K) := by
  obtain ⟨fd, F⟩ := fn_at S 70 (d := dM "Ratio" "__repr__" "Ratio.__repr__" 22 19) rfl
  have F2 : Fun K "__repr__" "Ratio.__repr__" (inC 22 19) (adM "Ratio" "__repr__" K) fd := fun_of F
  have M := He.meth_ok (fa_at S 99 (f := .meth "Ratio" "__repr__") rfl)
  exact ⟨_, fd, F2, F2.binds (fun _ _ _ _ _ _ us hl => match us, hl with | [_], _ => rfl), M.at_, M.fn⟩
variable (X : K.In hp) (G : hp.Ns mainGlobals mg)
include X G
theorem f_kno : Kfn0 (mkE P w mg base K) .K "Known" "Known.__init__" (inC 50 0) ["self", "top", "bottom"] := by
  obtain ⟨fd, F⟩ := fn_at S 74 (d := dM "Known" "__init__" "Known.__init__" 50 0) rfl
  have F2 : Fun K "__init__" "Known.__init__" (inC 50 0) (adM "Known" "__init__" K) fd := fun_of F
  exact ⟨_, fd, F2, He.mkr_ok (fa_at S 97 (f := .mkr "Known") rfl), He.glo_ok X G (fa_at S 81 (f := .glo "Known") rfl), F2.binds (fun _ _ _ _ _ _ us hl => match us, hl with | [_, _, _], _ => rfl)⟩
theorem f_rat : KfnD (mkE P w mg base K) .R "Ratio" "Ratio.__init__" (inC 22 0) [.int 1] ["self", "top", "bottom"] := by
  obtain ⟨fd, F⟩ := fn_at S 64 (d := { dM "Ratio" "__init__" "Ratio.__init__" 22 0 with dfl := fun _ => [.int 1] }) rfl
  have F2 : FunD K "__init__" "Ratio.__init__" (defArgs (inC 22 0)) (defBody (inC 22 0)) (defScope (inC 22 0)) [.int 1] [] (adM "Ratio" "__init__" K) fd := F
  obtain ⟨ds, r1, c1⟩ := F2.binds1 (ps := ["self", "top", "bottom"]) 3 1 (List.cons_ne_nil _ _) rfl fun T kV doc pm an cdv ct us its hu hi => match us, its, hu, hi with | [_, _, _], [_], _, _ => ⟨_, rfl, rfl⟩
  obtain rfl : ds = [] := by cases r1; rfl
  obtain ⟨d2, r2, c2⟩ := F2.binds1 (ps := ["self", "top", "bottom"]) 2 0 (List.cons_ne_nil _ _) rfl fun T kV doc pm an cdv ct us its hu hi => match us, its, hu, hi with | [_, _], [_], _, _ => ⟨_, rfl, rfl⟩
  exact ⟨_, fd, F2, He.mkr_ok (fa_at S 89 (f := .mkr "Ratio") rfl), He.glo_ok X G (fa_at S 79 (f := .glo "Ratio") rfl), c1, d2, c2, r2⟩
theorem f_fra : KfnD (mkE P w mg base K) .F "Fraction" "Fraction.__init__" (inC 52 0) [.ref (adI (adM "Fraction" "__init__") K)] ["self", "top", "bottom"] := by
  obtain ⟨fd, F⟩ := fn_at S 71 (d := { dM "Fraction" "__init__" "Fraction.__init__" 52 0 with dfl := fun K => [.ref (adI (adM "Fraction" "__init__") K)] }) rfl
  have F2 : FunD K "__init__" "Fraction.__init__" (defArgs (inC 52 0)) (defBody (inC 52 0)) (defScope (inC 52 0)) [.ref (adI (adM "Fraction" "__init__") K)] [] (adM "Fraction" "__init__" K) fd := F
  obtain ⟨ds, r1, c1⟩ := F2.binds1 (ps := ["self", "top", "bottom"]) 3 1 (List.cons_ne_nil _ _) rfl fun T kV doc pm an cdv ct us its hu hi => match us, its, hu, hi with | [_, _, _], [_], _, _ => ⟨_, rfl, rfl⟩
  obtain rfl : ds = [] := by cases r1; rfl
  obtain ⟨d2, r2, c2⟩ := F2.binds1 (ps := ["self", "top", "bottom"]) 2 0 (List.cons_ne_nil _ _) rfl fun T kV doc pm an cdv ct us its hu hi => match us, its, hu, hi with | [_, _], [_], _, _ => ⟨_, rfl, rfl⟩
  exact ⟨_, fd, F2, He.mkr_ok (fa_at S 93 (f := .mkr "Fraction") rfl), He.glo_ok X G (fa_at S 80 (f := .glo "Fraction") rfl), c1, d2, c2, r2⟩
theorem f_fraK : FraK (mkE P w mg base K) (.ref (adI (adM "Fraction" "__init__") K)) := by
  obtain ⟨fd, F⟩ := fn_at S 71 (d := { dM "Fraction" "__init__" "Fraction.__init__" 52 0 with dfl := fun K => [.ref (adI (adM "Fraction" "__init__") K)] }) rfl
  have F2 : FunD K "__init__" "Fraction.__init__" (defArgs (inC 52 0)) (defBody (inC 52 0)) (defScope (inC 52 0)) [.ref (adI (adM "Fraction" "__init__") K)] [] (adM "Fraction" "__init__" K) fd := F
  refine ⟨_, fd, fun us ws => [us.getD 0 .none, ws.getD 1 .none, ws.getD 0 .none], F2, He.mkr_ok (fa_at S 93 (f := .mkr "Fraction") rfl), He.glo_ok X G (fa_at S 80 (f := .glo "Fraction") rfl), kbn1 F2 (List.cons_ne_nil _ _) (fun T kV doc pm an cdv ct us its ws hu hi hw => ?_) fun r1 r2 => .cons (vals_getD r1 0) (.cons (vals_getD r2 1) (.cons (vals_getD r2 0) .nil))⟩
  match us, its, ws, hu, hi, hw with
  | [_], [_], [_, _], _, _, _ => exact ⟨_, rfl, rfl⟩
theorem f_worthK : DfnK (mkE P w mg base K) "worth" (top 70) ["fraction", "place"] ["place", "fraction"] swV := by
  obtain ⟨fd, F⟩ := fn_at S 40 (d := dG "worth" 70) rfl
  have F2 : Fun K "worth" "worth" (top 70) (adG "worth" K) fd := fun_of F
  exact ⟨_, fd, _, F2, He.glo_ok X G (fa_at S 55 (f := .glo "worth") rfl), kbn0 (g := fun ws => [ws.getD 1 .none, ws.getD 0 .none]) F2 (fun _ _ _ _ _ _ ws hw => match ws, hw with | [_, _], _ => rfl) fun r => .cons (vals_getD r 1) (.cons (vals_getD r 0) .nil)⟩
theorem f_is_placeK : DfnK (mkE P w mg base K) "is_place" (top 62) ["value"] ["value"] idV := by
  obtain ⟨fd, F⟩ := fn_at S 32 (d := dG "is_place" 62) rfl
  have F2 : Fun K "is_place" "is_place" (top 62) (adG "is_place" K) fd := fun_of F
  exact ⟨_, fd, _, F2, He.glo_ok X G (fa_at S 47 (f := .glo "is_place") rfl), kbn0 (g := fun ws => [ws.getD 0 .none]) F2 (fun _ _ _ _ _ _ ws hw => match ws, hw with | [_], _ => rfl) fun r => .cons (vals_getD r 0) .nil⟩
omit X G in
theorem tup_ok {a : Addr} {vs : List V} (h : tupAt K a vs = true) (H : Hp) : SqT K H a vs := by
  unfold tupAt at h
  cases q : K.lookup a with
  | none => rw [q] at h; cases h
  | some ob =>
    obtain ⟨oc, od, dt, osl⟩ := ob
    rw [q] at h
    cases oc with
    | type c =>
      cases dt with
      | seq its n =>
        obtain ⟨h1, h⟩ := Bool.and_eq_true_iff.mp (show (decide (c = "tuple") && (decide (its.size ≤ sizeLine) && He.relAll vs its.toList)) = true from h)
        obtain ⟨h2, h3⟩ := Bool.and_eq_true_iff.mp h
        exact .inr ⟨_, its, n, q, congrArg Value.type (of_decide_eq_true h1), rfl, of_decide_eq_true h2, He.relAll_ok h3⟩
      | _ => cases h
    | _ => cases dt <;> cases h
/-- all of it -/
theorem f_all (hbs : base.NoSeer) (hP : P.given.tree = none) : Txt (mkE P w mg base K) (.ref (adI (adM "Fraction" "__init__") K)) where
  G := f_glo S X G hbs hP
  C := f_cla S
  is_integer := f_is_integer S X G
  is_list := f_is_list S X G
  want_at_most := f_want_at_most S X G
  digits_of := f_digits_of S X G
  divisor_of := f_divisor_of S X G
  told_pair := f_told_pair S X G
  is_number := f_is_number S X G
  ratio_of := f_ratio_of S X G
  wholes := f_wholes S X G
  is_poly := f_is_poly S X G
  trimmed := f_trimmed S X G
  want_poly := f_want_poly S X G
  sum_of := f_sum_of S X G
  by_number := f_by_number S X G
  int_product := f_int_product S X G
  product_of := f_product_of S X G
  parts_of := f_parts_of S X G
  plain_row := f_plain_row S X G
  int_rest := f_int_rest S X G
  int_common := f_int_common S X G
  common_of := f_common_of S X G
  lowest := f_lowest S X G
  powers_of := f_powers_of S X G
  put_pair := f_put_pair S X G
  right_pair := f_right_pair S X G
  pair_in := f_pair_in S X G
  known_fraction := f_known_fraction S X G
  fraction_of := f_fraction_of S X G
  short_of := f_short_of S X G
  want_fraction := f_want_fraction S X G
  headed_pair := f_headed_pair S X G
  put := f_put S X G
  is_place := f_is_place S X G
  want_place := f_want_place S X G
  is_beyond := f_is_beyond S X G
  pair_of := f_pair_of S X G
  place_by := f_place_by S X G
  worth_by := f_worth_by S X G
  worth_of := f_worth_of S X G
  told_place := f_told_place S X G
  worth := f_worth S X G
  lw_pot := f__law_pot S X G
  lw_draw := f__law_draw S X G
  lw_pick := f__law_pick S X G
  lw_bare := f__law_bare S X G
  lw_plus := f__law_plus S X G
  lw_times := f__law_times S X G
  lw_divided := f__law_divided S X G
  lw_common := f__law_common S X G
  lw_lowest := f__law_lowest S X G
  lw_at := f__law_at S X G
  lw_worth := f__law_worth S X G
  lw_poly := f__law_poly S X G
  lw_drawn := f__law_drawn S X G
  lw_passed := f__law_passed S X G
  lw_made := f__law_made S X G
  lw_values := f__law_values S X G
  lw_is_place := f__law_is_place S X G
  lw_place := f__law_place S X G
  lw_built := f__law_built S X G
  lw_worths_right := f__law_worths_right S X G
  lw_rules_right := f__law_rules_right S X G
  lw_right := f__law_right S X G
  rat := f_rat S X G
  fra := f_fra S X G
  fraK := f_fraK S X G
  kno := f_kno S X G
  over := f_over S
  radd := f_oRadd S
  rsub := f_oRsub S
  rmul := f_oRmul S
  fadd := f_oFadd S
  fmul := f_oFmul S
  req := f_eqR S
  rtop := f_pRtop S
  rsign := f_pRsign S
  rwhole := f_pRwhole S
  fdeg := f_pFdeg S
  ffull := f_pFfull S
  rrepr := f_repr S
  worthK := f_worthK S X G
  is_placeK := f_is_placeK S X G
  hdv := fun H => holdsL_one (holds_tup.mpr ⟨_, _, rfl, tup_ok S (ex_at S 16 (f := fun K => tupAt K (adI (adM "Fraction" "__init__") K) [.int 1]) rfl) H, holdsL_one (holds_is.mpr rfl)⟩)
end
end My

set_option Elab.async false
set_option linter.all false
set_option maxRecDepth 100000
set_option maxHeartbeats 4000000
/-! Hd4: the row. -/
namespace My
open PySem L2 PyProof.Rows PySem.Spec
theorem walkE {l : PySem.W.OpenLaw} {n k : Nat} {q : Program} {loose : List Str} {XP : (Str → Option Value) → Heap → Prop} {YP : World → Heap → Prop} {d : DefRec} {x : Str}
    (hn : l.most = some n) (hn2 : n ≤ sizeLine) (hdf : d.params.defaults = []) (hr : Room k callerA) (hi : importsNone q = true)
    (F : ∀ (w : World) (mg : Str → Option Value) (fa : Addr) (h : Heap), YP w h → h.Ns mainGlobals mg → mg d.name = some (.ref fa) →
      ∃ (K : PySem.W.Frag) (fd : FuncData) (sp : Sp), K.In h ∧ (∀ (s : Shared) (u : Value), BindsTo s fd ⟨[u], []⟩ [(x, u)]) ∧
        (∀ base : Heap, K.In base → base.Ns mainGlobals mg → base.NoSeer → FnG l.prog w K mg base k fa fd [x] sp) ∧
        ∀ (H : Hp) (a : Addr) (ns : List Int), (∀ z ∈ ns, Builtin.Int.intBits z ≤ 1048576) → SqL K H a (ns.map V.int) → sp [.ref a] H (fun v _ => v = .bl true) fun _ _ _ => False) :
    PySem.W.WalkO q loose XP YP l.row.toRowW d [] (fun f vs => PySem.call f vs) := by
  refine Att.attach_callB hn hdf fun w s0 s1 mg mb fa o pm cd doc a vs ns G Y ho hd hcd hmg hobj hints hlen hbits hg => ?_
  obtain ⟨K, fd, sp, KX, hb, hF, hsp⟩ := F w mg fa _ Y G.T.g hmg
  exact my_law_call KX G.T.g G.T.b G.T.builtins G.T.nolimit (G.T.seer hi) hg hobj hints (Nat.le_trans hlen hn2) hr hF hb (fun H hO hS => hsp H a ns hbits hS)
theorem bits_lt {z : Int} (h : Builtin.Int.intBits z ≤ 1048576) : z.natAbs < 2 ^ 1048577 := by
  by_cases hz : z = 0
  · subst hz
    exact Nat.pow_pos (by decide)
  · have e : Builtin.Int.intBits z = z.natAbs.log2 + 1 := by
      unfold Builtin.Int.intBits
      rw [if_neg (by simpa using hz)]
    rw [e] at h
    exact Nat.lt_of_lt_of_le (Nat.lt_log2_self (n := z.natAbs)) (Nat.pow_le_pow_right (by decide) (show z.natAbs.log2 + 1 ≤ 1048577 by omega))
/-- law, at the head -/
theorem law_at {w : World} {mg : Str → Option Value} {fa : Addr} {h : Heap} (Y : ∃ K : Fg, K.In h ∧ obsM K = valM) (G : h.Ns mainGlobals mg) (hm : mg "law" = some (.ref fa)) :
    ∃ (K : PySem.W.Frag) (fd : FuncData) (sp : Sp), K.In h ∧ (∀ (s : Shared) (u : Value), BindsTo s fd ⟨[u], []⟩ [("_law_script", u)]) ∧
      (∀ base : Heap, K.In base → base.Ns mainGlobals mg → base.NoSeer → FnG PySem.Challenge.rw_innerfractions_k34_whole_any_value_as_pl.prog w K mg base 51 fa fd ["_law_script"] sp) ∧
      ∀ (H : Hp) (a : Addr) (ns : List Int), (∀ z ∈ ns, Builtin.Int.intBits z ≤ 1048576) → SqL K H a (ns.map V.int) → sp [.ref a] H (fun v _ => v = .bl true) fun _ _ _ => False := by
  obtain ⟨K, KX, S⟩ := Y
  have e := hm.symm.trans (He.glo_ok KX G (fa_at S 78 (f := .glo "law") rfl))
  cases e
  obtain ⟨fd, F⟩ := fn_at S 63 (d := dG "law" 94) rfl
  have F2 : FunD K "law" "law" (defArgs (top 94)) (defBody (top 94)) (defScope (top 94)) [] [] (adG "law" K) fd := F
  have b := FunD.bindsA (ps := ["_law_script"]) F2 fun _ _ _ _ _ _ us hl => match us, hl with | [_], _ => rfl
  refine ⟨K, fd, spLaw (mkE PySem.Challenge.rw_innerfractions_k34_whole_any_value_as_pl.prog w mg h K).c, KX, fun s u => b s [u] rfl, fun base Kb Gb hs => ?_, fun H a ns hb hS => ⟨a, ns, rfl, hS, fun z hz => bits_lt (hb z hz), fun _ => rfl⟩⟩
  exact (f_all S Kb Gb (P := PySem.Challenge.rw_innerfractions_k34_whole_any_value_as_pl.prog) (w := w) hs rfl).law (fun_of F2)
end My
open PySem PySem.W PySem.Calls PyProof.Rows
theorem PySem.Challenge.cw_innerfractions_k34_whole_any_value_as_pl_holds : PySem.Challenge.rw_innerfractions_k34_whole_any_value_as_pl.Holds := by
  w_on; o_law
  refine HandSHeadRun.head_imp (r := My.RW) (q := My.qv) (H := My.hookM) (ob := My.obM) (M := 10000) (loose := My.nmA) (d := HandSHeadRun.topDef My.RW.prog 94) (kwd := []) My.obM_eq My.run
    (by kernel_rfl) (by kernel_rfl) (by kernel_rfl) (by rfl) (by first | assumption | decide +kernel) (by decide +kernel) ⟨rfl, rfl, rfl, rfl, rfl, by decide +kernel⟩ ?hw ?hc
  case hw => w_witness2
  case hc =>
    refine My.walkE (l := PySem.Challenge.rw_innerfractions_k34_whole_any_value_as_pl) (n := 63) (k := 51) (x := "_law_script") rfl (by decide) (by kernel_rfl) ⟨rfl, by decide, by decide⟩ (by rfl) ?F
    intro w mg fa h Y G hmg0
    have hmg : mg ("law" : PySem.Str) = some (.ref fa) := by
      have e : (HandSHeadRun.topDef My.RW.prog 94).name = ("law" : PySem.Str) := by kernel_rfl
      rw [← e]
      exact hmg0
    exact My.law_at Y G hmg

