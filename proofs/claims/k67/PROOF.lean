import PyProof.Rows.All
import Wide.All
import OpenK.AllK
import Wide.FinOn
import HandS.ForMost
import HandS.Exc
import HandS.TryOnly
import HandS.TryMany
import HandS.ExcOwn
import HandS.WordsExc
import HandS.CallSlots
import HandS.DictComp
import HandS.ListItems
import HandS.IsInst
import HandS.Zip
import HandS.Flow
import HandS.Wide
import HandS.WideMore
import HandS.More
import HandS.Conv
import HandS.SortKw
import HandS.Defaults
import HandS.FStr
import HandS.Lambda
import HandS.Deep
import HandS.TupAny
import HandS.Style
import HandS.EndTab
import HandS.Set
import HandS.TupSets
import KE.SortKeyHeap
import HandS.DictTup
import KE.SortData
import KE.KNestM
import PySem.Challenge.RW_anywaybuilt_k67_whole_least_provisions
set_option Elab.async false
set_option linter.all false
set_option maxRecDepth 100000
set_option maxHeartbeats 4000000
set_option autoImplicit false
namespace VL
open PySem PySem.Spec PyProof.Rows L2

abbrev St := L2.St
/-- the tables of code objects that defs with inner defs write -/
class Tb where
  T : List (Addr × Str)
def NT : HO → Prop
  | .tbl _ => False
  | _ => True
def Plain : Option HO → Prop
  | some (.tup _) => False
  | some (.tbl _) => False
  | some (.ext _) => False
  | _ => True
theorem tabs_upd {T : List (Addr × Str)} {H : Hp} {p : Addr} {o : HO} (h : Plain (H p)) (t : LamX.Tabs T H) : LamX.Tabs T (upd H p o) := fun q hq => by
  obtain ⟨ps, a1, a2, a3⟩ := t q hq
  refine ⟨ps, (upd_ne fun z => ?_).trans a1, a2, fun pos cv hc => ?_⟩
  · rw [← z, a1] at h; exact h
  · obtain ⟨c, e1, e2⟩ := a3 pos cv hc
    refine ⟨c, e1, (upd_ne fun z => ?_).trans e2⟩
    rw [← z, e2] at h; exact h
variable [Tb]
/-! ### data -/
inductive D where
  | non | bl (b : Bool) | int (i : Int) | str (x : Str)
  | tup (xs : List D) | lst (xs : List D) | frl (xs : List D) | ktu (xs : List D)
  | dk (kvs : List (Key × D)) | dt (kvs : List (List Key × D))
  | ob (c : Str) (fs : List (Str × D))

/-- what may be read (U), what may be changed (O), the abstract heap -/
structure Wd where
  U : Addr → Prop
  O : Addr → Prop
  H : Hp

def KTup (K : PySem.W.Frag) (a : Addr) (xs : List V) : Prop :=
  ∃ (o : Obj) (its : Array Value) (n : Nat), K.lookup a = some o ∧ o.cls = .type "tuple" ∧ o.data = .seq its n ∧ its.size ≤ sizeLine ∧ Vals xs its.toList
def LAt (w : Wd) (a : Addr) (xs : List V) : Prop := w.H a = some (.lst xs) ∧ w.U a
def TAt (w : Wd) (a : Addr) (xs : List V) : Prop := w.H a = some (.tup xs)
/-- what may be owned -/
def Ob : HO → Prop
  | .lst _ => True
  | .dK _ => True
  | .dT _ => True
  | .ins _ _ _ => True
  | _ => False

mutual
inductive Den (K : PySem.W.Frag) (mg : Str → Option Value) (w : Wd) : V → D → Prop
  | non : Den K mg w .non .non
  | bl (b : Bool) : Den K mg w (.bl b) (.bl b)
  | int (i : Int) : Den K mg w (.int i) (.int i)
  | str (x : Str) : Den K mg w (.str x) (.str x)
  | tup {a : Addr} {xs : List V} {ds : List D} : TAt w a xs → Dens K mg w xs ds → Den K mg w (.ref a) (.tup ds)
  | ktu {a : Addr} {xs : List V} {ds : List D} : KTup K a xs → Dens K mg w xs ds → Den K mg w (.ref a) (.ktu ds)
  | lst {a : Addr} {xs : List V} {ds : List D} : LAt w a xs → Dens K mg w xs ds → Den K mg w (.ref a) (.lst ds)
  | frl {a : Addr} {xs : List V} {ds : List D} : Rd w.H a (.lst xs) → w.U a → Dens K mg w xs ds → Den K mg w (.ref a) (.frl ds)
  | dk {a : Addr} {kvs : List (Key × V)} {ks : List (Key × D)} : Rd w.H a (.dK kvs) → w.U a → kvs.map (·.1) = ks.map (·.1) → Dens K mg w (kvs.map (·.2)) (ks.map (·.2)) → Den K mg w (.ref a) (.dk ks)
  | dt {a : Addr} {kvs : List (List Key × V)} {ks : List (List Key × D)} : Rd w.H a (.dT kvs) → w.U a → kvs.map (·.1) = ks.map (·.1) → Dens K mg w (kvs.map (·.2)) (ks.map (·.2)) → Den K mg w (.ref a) (.dt ks)
  | ob {a C dx : Addr} {c : Str} {vs : List (Str × V)} {fs : List (Str × D)} : mg c = some (.ref C) → w.H a = some (.ins C dx vs) → w.U a → vs.map (·.1) = fs.map (·.1) → Dens K mg w (vs.map (·.2)) (fs.map (·.2)) → Den K mg w (.ref a) (.ob c fs)
inductive Dens (K : PySem.W.Frag) (mg : Str → Option Value) (w : Wd) : List V → List D → Prop
  | nil : Dens K mg w [] []
  | cons {v : V} {d : D} {vs : List V} {ds : List D} : Den K mg w v d → Dens K mg w vs ds → Dens K mg w (v :: vs) (d :: ds)
end

/-- the object at a, which nobody else holds -/
def Top (K : PySem.W.Frag) (mg : Str → Option Value) (w : Wd) (a : Addr) : D → Prop
  | .lst ds => ∃ xs, w.H a = some (.lst xs) ∧ Dens K mg w xs ds
  | .dk ks => ∃ kvs, w.H a = some (.dK kvs) ∧ kvs.map (·.1) = ks.map (·.1) ∧ Dens K mg w (kvs.map (·.2)) (ks.map (·.2))
  | .dt ks => ∃ kvs, w.H a = some (.dT kvs) ∧ kvs.map (·.1) = ks.map (·.1) ∧ Dens K mg w (kvs.map (·.2)) (ks.map (·.2))
  | .ob c fs => ∃ C dx vs, mg c = some (.ref C) ∧ w.H a = some (.ins C dx vs) ∧ vs.map (·.1) = fs.map (·.1) ∧ Dens K mg w (vs.map (·.2)) (fs.map (·.2))
  | _ => False

/-! ### worlds -/
structure Wf (w : Wd) : Prop where
  dis : ∀ b, w.U b → ¬ w.O b
  trU : ∀ b, w.U b → w.H b ≠ none
  obO : ∀ b, w.O b → ∃ o, w.H b = some o ∧ Ob o
  tab : LamX.Tabs Tb.T w.H
theorem Ob.nt : ∀ {o : HO}, Ob o → NT o := fun {o} h => by cases o <;> first | trivial | exact h.elim
theorem Ob.plain : ∀ {o : HO}, Ob o → Plain (some o) := fun {o} h => by cases o <;> first | trivial | exact h.elim
theorem Wf.trO {w : Wd} (f : Wf w) (b : Addr) (h : w.O b) : w.H b ≠ none := by
  obtain ⟨o, e, _⟩ := f.obO b h
  rw [e]
  exact fun z => nomatch z
theorem Wf.tpO {w : Wd} (f : Wf w) {b : Addr} {xs : List V} (h : w.H b = some (.tup xs)) : ¬ w.O b := fun z => by
  obtain ⟨o, e, q⟩ := f.obO b z
  rw [h] at e
  cases e
  exact q
structure Step (w w' : Wd) : Prop where
  keep : ∀ b o, w.H b = some o → ¬ w.O b → NT o → w'.H b = some o
  own : ∀ b, w.H b ≠ none → ¬ w.O b → ¬ w'.O b
  up : ∀ b, w.U b → w'.U b
  back : ∀ b, w.H b ≠ none → w'.U b → w.U b ∨ w.O b
  tr : ∀ b, w.H b ≠ none → w'.H b ≠ none
theorem Step.refl (w : Wd) : Step w w := ⟨fun _ _ h _ _ => h, fun _ _ h => h, fun _ h => h, fun _ _ h => .inl h, fun _ h => h⟩
theorem some_of {α : Type} {o : Option α} (h : o ≠ none) : ∃ x, o = some x := by
  cases o with
  | none => exact absurd rfl h
  | some x => exact ⟨x, rfl⟩
theorem none_of {α : Type} {o : Option α} {x : α} (h : o = some x) : o ≠ none := by rw [h]; exact fun z => nomatch z
theorem Step.trans {w w1 w2 : Wd} (a : Step w w1) (b : Step w1 w2) : Step w w2 where
  keep := fun c o h n t => b.keep c o (a.keep c o h n t) (a.own c (none_of h) n) t
  own := fun c h n => by
    obtain ⟨o, e⟩ := some_of h
    exact b.own c (a.tr c h) (a.own c h n)
  up := fun c h => b.up c (a.up c h)
  back := fun c h u => by
    by_cases n : w.O c
    · exact .inr n
    · obtain ⟨o, e⟩ := some_of h
      rcases b.back c (a.tr c h) u with z | z
      · exact a.back c h z
      · exact absurd z (a.own c h n)
  tr := fun c h => b.tr c (a.tr c h)
theorem Step.old {w w' : Wd} (s : Step w w') {b : Addr} (h : w'.H b = none) : w.H b = none := by
  cases e : w.H b with
  | none => rfl
  | some o => exact absurd h (s.tr b (none_of e))
theorem rd_keep {w w' : Wd} (s : Step w w') (f : Wf w) {a : Addr} {u : HO} (nt : NT u) (h : Rd w.H a u) (hu : w.U a) : Rd w'.H a u := by
  rcases h with h | ⟨o, h⟩
  · exact .inl (s.keep _ _ h (f.dis _ hu) nt)
  · exact .inr ⟨o, s.keep _ _ h (f.dis _ hu) trivial⟩
theorem LAt.step {w w' : Wd} (s : Step w w') (f : Wf w) {a : Addr} {xs : List V} (h : LAt w a xs) : LAt w' a xs := ⟨s.keep _ _ h.1 (f.dis _ h.2) trivial, s.up _ h.2⟩
theorem LAt.sq {K : PySem.W.Frag} {w : Wd} {a : Addr} {xs : List V} (h : LAt w a xs) : SqL K w.H a xs := .inl (.inl h.1)
theorem TAt.sq {K : PySem.W.Frag} {w : Wd} {a : Addr} {xs : List V} (h : TAt w a xs) : SqT K w.H a xs := .inl (.inl h)
theorem KTup.sq {K : PySem.W.Frag} {H : Hp} {a : Addr} {xs : List V} (h : KTup K a xs) : SqT K H a xs := .inr h
section
variable {K : PySem.W.Frag} {mg : Str → Option Value}
def NF : HO → Prop
  | .frz _ _ => False
  | .tbl _ => False
  | _ => True
theorem NF.nt : ∀ {o : HO}, NF o → NT o := fun {o} h => by cases o <;> first | trivial | exact h.elim
/-- a map of worlds that leaves what may be read -/
structure Stays (w w' : Wd) : Prop where
  rd : ∀ a u, NF u → Rd w.H a u → w.U a → Rd w'.H a u
  tp : ∀ a xs, w.H a = some (.tup xs) → w'.H a = some (.tup xs)
  ls : ∀ a xs, w.H a = some (.lst xs) → w.U a → w'.H a = some (.lst xs)
  is : ∀ a C dx vs, w.H a = some (.ins C dx vs) → w.U a → w'.H a = some (.ins C dx vs)
  up : ∀ b, w.U b → w'.U b
theorem Step.stays {w w' : Wd} (s : Step w w') (f : Wf w) : Stays w w' :=
  ⟨fun _ _ n h u => rd_keep s f n.nt h u, fun _ _ h => s.keep _ _ h (f.tpO h) trivial, fun _ _ h u => s.keep _ _ h (f.dis _ u) trivial, fun _ _ _ _ h u => s.keep _ _ h (f.dis _ u) trivial, s.up⟩
mutual
theorem Den.stays {w w' : Wd} (s : Stays w w') : ∀ {v : V} {d : D}, Den K mg w v d → Den K mg w' v d
  | _, _, .non => .non
  | _, _, .bl b => .bl b
  | _, _, .int i => .int i
  | _, _, .str x => .str x
  | _, _, .tup h r => .tup (s.tp _ _ h) (Dens.stays s r)
  | _, _, .ktu h r => .ktu h (Dens.stays s r)
  | _, _, .lst h r => .lst ⟨s.ls _ _ h.1 h.2, s.up _ h.2⟩ (Dens.stays s r)
  | _, _, .frl h u r => .frl (s.rd _ _ trivial h u) (s.up _ u) (Dens.stays s r)
  | _, _, .dk h u e r => .dk (s.rd _ _ trivial h u) (s.up _ u) e (Dens.stays s r)
  | _, _, .dt h u e r => .dt (s.rd _ _ trivial h u) (s.up _ u) e (Dens.stays s r)
  | _, _, .ob hc h u e r => .ob hc (s.is _ _ _ _ h u) (s.up _ u) e (Dens.stays s r)
theorem Dens.stays {w w' : Wd} (s : Stays w w') : ∀ {vs : List V} {ds : List D}, Dens K mg w vs ds → Dens K mg w' vs ds
  | _, _, .nil => .nil
  | _, _, .cons h r => .cons (Den.stays s h) (Dens.stays s r)
end
theorem Den.step {w w' : Wd} (s : Step w w') (f : Wf w) {v : V} {d : D} (h : Den K mg w v d) : Den K mg w' v d := h.stays (s.stays f)
theorem Dens.step {w w' : Wd} (s : Step w w') (f : Wf w) {vs : List V} {ds : List D} (h : Dens K mg w vs ds) : Dens K mg w' vs ds := h.stays (s.stays f)
theorem Dens.length : ∀ {w : Wd} {vs : List V} {ds : List D}, Dens K mg w vs ds → vs.length = ds.length
  | _, _, _, .nil => rfl
  | _, _, _, .cons _ r => congrArg (· + 1) r.length
theorem Dens.get {w : Wd} : ∀ {vs : List V} {ds : List D}, Dens K mg w vs ds → ∀ {i : Nat} {v : V}, vs[i]? = some v → ∃ d, ds[i]? = some d ∧ Den K mg w v d
  | _, _, .nil, _, _, e => by simp at e
  | _, _, .cons h _, 0, _, e => by simp at e; subst e; exact ⟨_, rfl, h⟩
  | _, _, .cons _ r, i + 1, _, e => r.get (i := i) (by simpa using e)
theorem Dens.get' {w : Wd} : ∀ {vs : List V} {ds : List D}, Dens K mg w vs ds → ∀ {i : Nat} {d : D}, ds[i]? = some d → ∃ v, vs[i]? = some v ∧ Den K mg w v d
  | _, _, .nil, _, _, e => by simp at e
  | _, _, .cons h _, 0, _, e => by simp at e; subst e; exact ⟨_, rfl, h⟩
  | _, _, .cons _ r, i + 1, _, e => r.get' (i := i) (by simpa using e)
theorem Dens.append {w : Wd} : ∀ {vs us : List V} {ds es : List D}, Dens K mg w vs ds → Dens K mg w us es → Dens K mg w (vs ++ us) (ds ++ es)
  | _, _, _, _, .nil, r => r
  | _, _, _, _, .cons h t, r => .cons h (t.append r)
theorem Dens.set {w : Wd} {v : V} {d : D} (h : Den K mg w v d) : ∀ {vs : List V} {ds : List D} (i : Nat), Dens K mg w vs ds → Dens K mg w (vs.set i v) (ds.set i d)
  | _, _, _, .nil => .nil
  | _, _, 0, .cons _ r => .cons h r
  | _, _, i + 1, .cons q r => .cons q (Dens.set h i r)
theorem Dens.take {w : Wd} : ∀ {vs : List V} {ds : List D} (n : Nat), Dens K mg w vs ds → Dens K mg w (vs.take n) (ds.take n)
  | _, _, 0, _ => .nil
  | _, _, _ + 1, .nil => .nil
  | _, _, n + 1, .cons q r => .cons q (Dens.take n r)
theorem Dens.drop {w : Wd} : ∀ {vs : List V} {ds : List D} (n : Nat), Dens K mg w vs ds → Dens K mg w (vs.drop n) (ds.drop n)
  | _, _, 0, r => r
  | _, _, _ + 1, .nil => .nil
  | _, _, n + 1, .cons _ r => Dens.drop n r
theorem Dens.reverse {w : Wd} : ∀ {vs : List V} {ds : List D}, Dens K mg w vs ds → Dens K mg w vs.reverse ds.reverse
  | _, _, .nil => .nil
  | _, _, .cons q r => by
    rw [List.reverse_cons, List.reverse_cons]
    exact (Dens.reverse r).append (.cons q .nil)
theorem Dens.eraseIdx {w : Wd} : ∀ {vs : List V} {ds : List D} (n : Nat), Dens K mg w vs ds → Dens K mg w (vs.eraseIdx n) (ds.eraseIdx n)
  | _, _, _, .nil => .nil
  | _, _, 0, .cons _ r => r
  | _, _, n + 1, .cons q r => .cons q (Dens.eraseIdx n r)
theorem Dens.dropLast {w : Wd} {vs : List V} {ds : List D} (h : Dens K mg w vs ds) : Dens K mg w vs.dropLast ds.dropLast := by
  rw [List.dropLast_eq_take, List.dropLast_eq_take, h.length]
  exact h.take _
theorem Top.step {w w' : Wd} (s : Stays w w') {a : Addr} {d : D} (e : w'.H a = w.H a) (h : Top K mg w a d) : Top K mg w' a d := by
  cases d with
  | lst ds => obtain ⟨xs, h1, h2⟩ := h; exact ⟨xs, e.trans h1, h2.stays s⟩
  | dk ks => obtain ⟨kvs, h1, h2, h3⟩ := h; exact ⟨kvs, e.trans h1, h2, h3.stays s⟩
  | dt ks => obtain ⟨kvs, h1, h2, h3⟩ := h; exact ⟨kvs, e.trans h1, h2, h3.stays s⟩
  | ob c fs => obtain ⟨C, dx, vs, h0, h1, h2, h3⟩ := h; exact ⟨C, dx, vs, h0, e.trans h1, h2, h3.stays s⟩
  | _ => exact h.elim
theorem Top.tr {w : Wd} {a : Addr} {d : D} (h : Top K mg w a d) : w.H a ≠ none := by
  cases d with
  | lst ds => obtain ⟨xs, h1, h2⟩ := h; exact none_of h1
  | dk ks => obtain ⟨kvs, h1, h2⟩ := h; exact none_of h1
  | dt ks => obtain ⟨kvs, h1, h2⟩ := h; exact none_of h1
  | ob c fs => obtain ⟨C, dx, vs, h0, h1, h2⟩ := h; exact none_of h1
  | _ => exact h.elim
theorem Top.ob {w : Wd} {a : Addr} {d : D} (h : Top K mg w a d) : ∃ o, w.H a = some o ∧ Ob o := by
  cases d with
  | lst ds => obtain ⟨xs, h1, h2⟩ := h; exact ⟨_, h1, trivial⟩
  | dk ks => obtain ⟨kvs, h1, h2⟩ := h; exact ⟨_, h1, trivial⟩
  | dt ks => obtain ⟨kvs, h1, h2⟩ := h; exact ⟨_, h1, trivial⟩
  | ob c fs => obtain ⟨C, dx, vs, h0, h1, h2⟩ := h; exact ⟨_, h1, trivial⟩
  | _ => exact h.elim
/-- an owned object that may now be read -/
theorem Top.den {w w' : Wd} (s : Stays w w') {a : Addr} {d : D} (e : w'.H a = w.H a) (u : w'.U a) (h : Top K mg w a d) : Den K mg w' (.ref a) d := by
  cases d with
  | lst ds => obtain ⟨xs, h1, h2⟩ := h; exact .lst ⟨e.trans h1, u⟩ (h2.stays s)
  | dk ks => obtain ⟨kvs, h1, h2, h3⟩ := h; exact .dk (.inl (e.trans h1)) u h2 (h3.stays s)
  | dt ks => obtain ⟨kvs, h1, h2, h3⟩ := h; exact .dt (.inl (e.trans h1)) u h2 (h3.stays s)
  | ob c fs => obtain ⟨C, dx, vs, h0, h1, h2, h3⟩ := h; exact .ob h0 (e.trans h1) u h2 (h3.stays s)
  | _ => exact h.elim
end

/-! ### frames and results -/
inductive Sl where
  | un | fz (d : D) | ow (d : D)
abbrev En := List Sl
structure Xn where
  cls : Str
  fs : List (Str × D)
inductive R (α : Type) where
  | ok (a : α) (e : En) | ex (x : Xn) (e : En) | no
abbrev M (α : Type) := En → R α
def R.bind {α β : Type} (r : R α) (g : α → M β) : R β := match r with
  | .ok a e => g a e
  | .ex x e => .ex x e
  | .no => .no
def bnd {α β : Type} (f : M α) (g : α → M β) : M β := fun e => (f e).bind g
def ret {α : Type} (a : α) : M α := fun e => .ok a e
def lift {α : Type} (o : Option α) : M α := fun e => match o with
  | some a => .ok a e
  | none => .no
/-- an operand: a value, or what stands at a slot -/
inductive Op where
  | val (d : D) | slot (i : Nat)
def getS (i : Nat) : M D := fun e => match e[i]? with
  | some (.fz d) => .ok d e
  | some (.ow d) => .ok d e
  | _ => .no
def getO (o : Op) : M D := match o with
  | .val d => ret d
  | .slot i => getS i
theorem getS_fz {e : En} {i : Nat} {d : D} (h : e[i]? = some (Sl.fz d)) : getS i e = .ok d e := by unfold getS; rw [h]
theorem getS_ow {e : En} {i : Nat} {d : D} (h : e[i]? = some (Sl.ow d)) : getS i e = .ok d e := by unfold getS; rw [h]
theorem getS_cases (e : En) (i : Nat) : getS i e = .no ∨ (∃ d, e[i]? = some (Sl.fz d) ∧ getS i e = .ok d e) ∨ ∃ d, e[i]? = some (Sl.ow d) ∧ getS i e = .ok d e := by
  cases hi : e[i]? with
  | none => exact .inl (by unfold getS; rw [hi])
  | some z =>
    cases z with
    | un => exact .inl (by unfold getS; rw [hi])
    | fz d => exact .inr (.inl ⟨d, rfl, getS_fz hi⟩)
    | ow d => exact .inr (.inr ⟨d, rfl, getS_ow hi⟩)

structure Rel (K : PySem.W.Frag) (mg : Str → Option Value) (w : Wd) (e : En) (σ : St) : Prop where
  wf : Wf w
  len : σ.length = e.length
  fz : ∀ (i : Nat) d, e[i]? = some (Sl.fz d) → ∃ v, σ[i]? = some (some v) ∧ Den K mg w v d
  ow : ∀ (i : Nat) d, e[i]? = some (Sl.ow d) → ∃ a, σ[i]? = some (some (V.ref a)) ∧ w.O a ∧ Top K mg w a d
  ap : ∀ (i j : Nat) d d' a, e[i]? = some (Sl.ow d) → e[j]? = some (Sl.ow d') → σ[i]? = some (some (V.ref a)) → σ[j]? = some (some (V.ref a)) → i = j

def XDen (K : PySem.W.Frag) (mg : Str → Option Value) (w : Wd) (x : Xn) (c : Value) (p : Option Addr) : Prop :=
  mg x.cls = some c ∧ ((x.fs = [] ∧ p = none) ∨ ∃ dx vs, p = some dx ∧ w.H dx = some (.xd vs) ∧ vs.map (·.1) = x.fs.map (·.1) ∧ Dens K mg w (vs.map (·.2)) (x.fs.map (·.2)))

/-- what is told of a result is told as well from an earlier world on -/
class Stb {α β : Type} (ρ : Wd → Wd → En → β → α → Prop) : Prop where
  st : ∀ w w' w'' e v d, Step w w' → ρ w' w'' e v d → ρ w w'' e v d
section
variable (K : PySem.W.Frag) (mg : Str → Option Value) (W : WX)
def Goes {α β : Type} (σ : St) (ρ : Wd → Wd → En → β → α → Prop) (w : Wd) (r : R α) (Q : β → Hp → Prop) : Prop := match r with
  | .ok d e => ∀ w' v, Step w w' → Rel K mg w' e σ → ρ w w' e v d → Q v w'.H
  | .ex x e => ∀ w' c p, Step w w' → Rel K mg w' e σ → XDen K mg w' x c p → W c p σ w'.H
  | .no => False
def tR {α β : Type} (ρ : St → Wd → Wd → En → β → α → Prop) (f : M α) : St → Hp → (β → Hp → Prop) → Prop := fun σ H Q =>
  ∃ w e, w.H = H ∧ Rel K mg w e σ ∧ Goes K mg W σ (ρ σ) w (f e) Q
def rD : St → Wd → Wd → En → V → D → Prop := fun _ _ w _ v d => Den K mg w v d
/-- a new object that nobody holds -/
def rF : St → Wd → Wd → En → V → D → Prop := fun _ w0 w _ v d => ∃ a, v = .ref a ∧ w0.H a = none ∧ ¬ w.U a ∧ ¬ w.O a ∧ Top K mg w a d
def rB : St → Wd → Wd → En → V → Op → Prop := fun σ _ w _ v o => match o with
  | .val d => Den K mg w v d
  | .slot i => σ[i]? = some (some v)
def rT : St → Wd → Wd → En → Bool → Bool → Prop := fun _ _ _ _ v d => v = d
end
instance {K : PySem.W.Frag} {mg : Str → Option Value} {σ : St} : Stb (rD K mg σ) := ⟨fun _ _ _ _ _ _ _ h => h⟩
instance {K : PySem.W.Frag} {mg : Str → Option Value} {σ : St} : Stb (rF K mg σ) := ⟨fun _ _ _ _ _ _ s ⟨a, e, h, r⟩ => ⟨a, e, s.old h, r⟩⟩
instance {K : PySem.W.Frag} {mg : Str → Option Value} {σ : St} : Stb (rB K mg σ) := ⟨fun _ _ _ _ _ _ _ h => h⟩
instance {σ : St} : Stb (rT σ) := ⟨fun _ _ _ _ _ _ _ h => h⟩
abbrev VE (X : Cx) (W : WX) (e : Expr) (f : M D) : Prop := PE X e (tR X.K X.mg W (rD X.K X.mg) f)
abbrev VF (X : Cx) (W : WX) (e : Expr) (f : M D) : Prop := PE X e (tR X.K X.mg W (rF X.K X.mg) f)
abbrev VB (X : Cx) (W : WX) (e : Expr) (f : M Op) : Prop := PE X e (tR X.K X.mg W (rB X.K X.mg) f)
abbrev VT (X : Cx) (W : WX) (e : Expr) (f : M Bool) : Prop := PT X e (tR X.K X.mg W rT f)
theorem PE.imp {X : Cx} {e : Expr} {t t' : TE} (h : PE X e t) (i : ∀ σ H Q, t' σ H Q → t σ H Q) : PE X e t' := ⟨fun pins s σ H Q I q => h.run pins s σ H Q I (i σ H Q q)⟩
theorem PT.imp {X : Cx} {e : Expr} {t t' : TT} (h : PT X e t) (i : ∀ σ H Q, t' σ H Q → t σ H Q) : PT X e t' := ⟨fun pins s σ H Q I q => h.run pins s σ H Q I (i σ H Q q)⟩
theorem PW.imp {X : Cx} {e : Expr} {t t' : TT} (h : PW X e t) (i : ∀ σ H Q, t' σ H Q → t σ H Q) : PW X e t' := ⟨fun wh pins s σ H Q I q => h.run wh pins s σ H Q I (i σ H Q q)⟩
theorem PA.imp {X : Cx} {e : List Expr} {t t' : TA} (h : PA X e t) (i : ∀ σ H Q, t' σ H Q → t σ H Q) : PA X e t' := ⟨fun pos pins s σ H Q I q => h.run pos pins s σ H Q I (i σ H Q q)⟩
theorem PS.imp {X : Cx} {e : Stmt} {t t' : TS} (h : PS X e t) (i : ∀ D σ H, t' D σ H → t D σ H) : PS X e t' := ⟨fun pins s σ H D I q => h.run pins s σ H D I (i D σ H q)⟩
theorem PSs.imp {X : Cx} {e : List Stmt} {t t' : TS} (h : PSs X e t) (i : ∀ D σ H, t' D σ H → t D σ H) : PSs X e t' := ⟨fun pins s σ H D I q => h.run pins s σ H D I (i D σ H q)⟩

section
variable {K : PySem.W.Frag} {mg : Str → Option Value} {W : WX} {σ : St} {w w' : Wd} {e : En}
theorem Goes.step {α β : Type} {ρ : Wd → Wd → En → β → α → Prop} [hS : Stb ρ] {r : R α} {Q : β → Hp → Prop} (s : Step w w') (h : Goes K mg W σ ρ w r Q) : Goes K mg W σ ρ w' r Q := by
  cases r with
  | ok d e => exact fun w'' v s' rel q => h w'' v (s.trans s') rel (hS.st _ _ _ _ _ _ s q)
  | ex x e => exact fun w'' c p s' => h w'' c p (s.trans s')
  | no => exact h
theorem Goes.mono {α β : Type} {ρ : Wd → Wd → En → β → α → Prop} {r : R α} {Q Q' : β → Hp → Prop} (h : Goes K mg W σ ρ w r Q) (hQ : ∀ v H, Q v H → Q' v H) : Goes K mg W σ ρ w r Q' := by
  cases r with
  | ok d e => exact fun w'' v s' rel q => hQ _ _ (h w'' v s' rel q)
  | ex x e => exact h
  | no => exact h
theorem Goes.ok {α β : Type} {ρ : Wd → Wd → En → β → α → Prop} {d : α} {Q : β → Hp → Prop} (h : Goes K mg W σ ρ w (.ok d e) Q) (rel : Rel K mg w e σ) {v : β} (q : ρ w w e v d) : Q v w.H := h w v (Step.refl w) rel q
theorem tR_mono {α β : Type} {ρ : St → Wd → Wd → En → β → α → Prop} {f : M α} {H : Hp} {Q Q' : β → Hp → Prop} (h : tR K mg W ρ f σ H Q) (hQ : ∀ v H, Q v H → Q' v H) : tR K mg W ρ f σ H Q' := by
  obtain ⟨w, e, hw, rel, g⟩ := h
  exact ⟨w, e, hw, rel, g.mono hQ⟩
/-- the first part runs -/
theorem goes_bind {α β γ δ : Type} {ρ1 : St → Wd → Wd → En → β → α → Prop} {ρ2 : Wd → Wd → En → δ → γ → Prop} [hS : Stb ρ2] {f : M α} {g : α → M γ} {Q : δ → Hp → Prop} (rel : Rel K mg w e σ) (h : Goes K mg W σ ρ2 w (bnd f g e) Q) :
    tR K mg W ρ1 f σ w.H (fun v H1 => ∃ w' e' d, w'.H = H1 ∧ Step w w' ∧ Rel K mg w' e' σ ∧ ρ1 σ w w' e' v d ∧ Goes K mg W σ ρ2 w' (g d e') Q) := by
  refine ⟨w, e, rfl, rel, ?_⟩
  unfold bnd at h
  cases hf : f e with
  | ok d e1 =>
    rw [hf] at h
    exact fun w' v s r q => ⟨w', e1, d, rfl, s, r, q, Goes.step s h⟩
  | ex x e1 =>
    rw [hf] at h
    exact h
  | no =>
    rw [hf] at h
    exact h
/-- read through an operand -/
def Look (K : PySem.W.Frag) (mg : Str → Option Value) (w : Wd) (v : V) (d : D) : Prop := Den K mg w v d ∨ ∃ a, v = .ref a ∧ w.O a ∧ Top K mg w a d
theorem Den.look {v : V} {d : D} (h : Den K mg w v d) : Look K mg w v d := .inl h
theorem look_of {v : V} {o : Op} {w0 : Wd} {e0 : En} (s : Step w0 w) (f : Wf w0) (rel : Rel K mg w e σ) {w00 : Wd} (h : rB K mg σ w00 w0 e0 v o) {α β : Type} {ρ : Wd → Wd → En → β → α → Prop} {g : D → M α} {Q : β → Hp → Prop} (hg : Goes K mg W σ ρ w (bnd (getO o) g e) Q) :
    ∃ d, Look K mg w v d ∧ Goes K mg W σ ρ w (g d e) Q := by
  cases o with
  | val d => exact ⟨d, .inl (Den.step s f h), hg⟩
  | slot i =>
    have h' : σ[i]? = some (some v) := h
    have hg : Goes K mg W σ ρ w ((getS i e).bind g) Q := hg
    rcases getS_cases e i with z | ⟨d, hi, z⟩ | ⟨d, hi, z⟩
    · rw [z] at hg
      exact hg.elim
    · rw [z] at hg
      obtain ⟨v', e1, q⟩ := rel.fz i d hi
      rw [h'] at e1
      cases e1
      exact ⟨d, .inl q, hg⟩
    · rw [z] at hg
      obtain ⟨a, e1, q1, q2⟩ := rel.ow i d hi
      rw [h'] at e1
      cases e1
      exact ⟨d, .inr ⟨a, rfl, q1, q2⟩, hg⟩
end
end VL
namespace VL
open PySem PySem.Spec PyProof.Rows L2
variable [Tb]
section
variable {K : PySem.W.Frag} {mg : Str → Option Value} {W : WX} {σ : St} {w w' : Wd} {e : En} {a p : Addr} {v : V} {d d' : D} {i : Nat} {o : HO}

theorem set_get {α : Type} (l : List α) (i j : Nat) (x : α) : (l.set i x)[j]? = if i = j then (if i < l.length then some x else none) else l[j]? := by
  rw [List.getElem?_set]
theorem set_get_some {α : Type} {l : List α} {i j : Nat} {x y : α} (h : (l.set i x)[j]? = some y) : (j = i ∧ i < l.length ∧ y = x) ∨ (j ≠ i ∧ l[j]? = some y) := by
  rw [set_get] at h
  by_cases e : i = j
  · rw [if_pos e] at h
    by_cases hl : i < l.length
    · rw [if_pos hl] at h
      cases h
      exact .inl ⟨e.symm, hl, rfl⟩
    · rw [if_neg hl] at h
      cases h
  · rw [if_neg e] at h
    exact .inr ⟨fun z => e z.symm, h⟩

/-! ### worlds made of worlds -/
def Wd.fz (w : Wd) (a : Addr) : Wd := ⟨fun b => w.U b ∨ b = a, fun b => w.O b ∧ b ≠ a, w.H⟩
def Wd.al (w : Wd) (p : Addr) (o : HO) : Wd := ⟨fun b => w.U b ∨ b = p, w.O, upd w.H p o⟩
/-- what nobody holds is held, is owned -/
def Wd.hd (w : Wd) (p : Addr) : Wd := ⟨fun b => w.U b ∨ b = p, w.O, w.H⟩
def Wd.ad (w : Wd) (p : Addr) : Wd := ⟨w.U, fun b => w.O b ∨ b = p, w.H⟩
/-- new, held by nobody -/
def Wd.an (w : Wd) (p : Addr) (o : HO) : Wd := ⟨w.U, w.O, upd w.H p o⟩
/-- what is owned is changed -/
def Wd.mt (w : Wd) (a : Addr) (o : HO) : Wd := ⟨w.U, w.O, upd w.H a o⟩

theorem upd_tr {H : Hp} {b : Addr} (h : H b ≠ none) : upd H p o b ≠ none := by
  by_cases e : b = p
  · subst e; rw [upd_same]; exact fun z => nomatch z
  · rw [upd_ne e]; exact h
theorem ne_new (hp : w.H p = none) {b : Addr} (h : w.H b ≠ none) : b ≠ p := fun z => h (z ▸ hp)
theorem step_fz (h : w.O a) : Step w (w.fz a) := ⟨fun _ _ e _ _ => e, fun _ _ n z => n z.1, fun _ u => .inl u, fun b _ u => u.elim .inl fun q => .inr (q ▸ h), fun _ h => h⟩
theorem stays_fz : Stays w (w.fz a) := ⟨fun _ _ _ h _ => h, fun _ _ h => h, fun _ _ h _ => h, fun _ _ _ _ h _ => h, fun _ u => .inl u⟩
theorem wf_fz (f : Wf w) (h : w.O a) : Wf (w.fz a) := ⟨fun b u z => u.elim (fun q => f.dis b q z.1) z.2, fun b u => u.elim (f.trU b) fun q => q ▸ f.trO a h, fun b z => f.obO b z.1, f.tab⟩
theorem step_al (f : Wf w) (hp : w.H p = none) : Step w (w.al p o) := ⟨fun b u e _ _ => (upd_ne (ne_new hp (none_of e))).trans e, fun _ _ n => n, fun _ u => .inl u, fun b h u => u.elim .inl fun q => absurd hp (q ▸ h), fun _ h => upd_tr h⟩
theorem step_hd {w0 : Wd} (s : Step w0 w) (hp : w0.H p = none) : Step w0 (w.hd p) := ⟨s.keep, s.own, fun b u => .inl (s.up b u), fun b h u => u.elim (s.back b h) fun q => absurd hp (q ▸ h), s.tr⟩
theorem step_ad {w0 : Wd} (s : Step w0 w) (hp : w0.H p = none) : Step w0 (w.ad p) := ⟨s.keep, fun b h n z => z.elim (s.own b h n) fun q => absurd hp (q ▸ h), s.up, s.back, s.tr⟩
theorem step_an (f : Wf w) (hp : w.H p = none) : Step w (w.an p o) := ⟨fun b u e _ _ => (upd_ne (ne_new hp (none_of e))).trans e, fun _ _ n => n, fun _ u => u, fun _ _ u => .inl u, fun _ h => upd_tr h⟩
/-- a hidden object that is new since w0 is changed -/
theorem step_hid {w0 : Wd} (s : Step w0 w) (hp : w0.H p = none) : Step w0 (w.an p o) := ⟨fun b u e n t => (upd_ne (ne_new hp (none_of e))).trans (s.keep b u e n t), s.own, s.up, s.back, fun b h => upd_tr (s.tr b h)⟩
theorem step_mt (h : w.O a) : Step w (w.mt a o) := ⟨fun b u e n _ => (upd_ne (show b ≠ a from fun z => n (z ▸ h))).trans e, fun _ _ n => n, fun _ u => u, fun _ _ u => .inl u, fun _ h => upd_tr h⟩
theorem ob_upd (f : Wf w) (hO : ¬ w.O p) : ∀ b, w.O b → ∃ q, upd w.H p o b = some q ∧ Ob q := fun b z => by
  obtain ⟨q, e, h⟩ := f.obO b z
  exact ⟨q, (upd_ne fun k => by subst k; exact hO z).trans e, h⟩
theorem newO (f : Wf w) (hp : w.H p = none) : ¬ w.O p := fun z => f.trO p z hp
theorem newU (f : Wf w) (hp : w.H p = none) : ¬ w.U p := fun z => f.trU p z hp
theorem wf_al (f : Wf w) (hp : w.H p = none) : Wf (w.al p o) := ⟨fun b u z => u.elim (fun q => f.dis b q z) fun q => f.trO b z (q ▸ hp), fun b u => u.elim (fun q => upd_tr (f.trU b q)) fun q => by subst q; exact none_of upd_same, ob_upd f (newO f hp), tabs_upd (by rw [hp]; trivial) f.tab⟩
theorem wf_hd (f : Wf w) (ht : w.H p ≠ none) (hO : ¬ w.O p) : Wf (w.hd p) := ⟨fun b u z => u.elim (fun q => f.dis b q z) fun q => hO (q ▸ z), fun b u => u.elim (f.trU b) fun q => q ▸ ht, f.obO, f.tab⟩
theorem wf_ad (f : Wf w) (ht : ∃ q, w.H p = some q ∧ Ob q) (hU : ¬ w.U p) : Wf (w.ad p) := ⟨fun b u z => z.elim (f.dis b u) fun q => hU (q ▸ u), f.trU, fun b z => z.elim (f.obO b) fun q => q ▸ ht, f.tab⟩
theorem stays_hd : Stays w (w.hd p) := ⟨fun _ _ _ h _ => h, fun _ _ h => h, fun _ _ h _ => h, fun _ _ _ _ h _ => h, fun _ u => .inl u⟩
theorem stays_ad : Stays w (w.ad p) := ⟨fun _ _ _ h _ => h, fun _ _ h => h, fun _ _ h _ => h, fun _ _ _ _ h _ => h, fun _ u => u⟩
theorem wf_hid (f : Wf w) (hO : ¬ w.O p) (hT : Plain (w.H p)) : Wf (w.an p o) := ⟨f.dis, fun b u => upd_tr (f.trU b u), ob_upd f hO, tabs_upd hT f.tab⟩
theorem wf_an (f : Wf w) (hp : w.H p = none) : Wf (w.an p o) := wf_hid f (newO f hp) (by rw [hp]; trivial)
theorem wf_mt (f : Wf w) (ha : w.O a) (ho : Ob o) : Wf (w.mt a o) := ⟨f.dis, fun b u => upd_tr (f.trU b u), fun b z => by
  by_cases e : b = a
  · subst e; exact ⟨o, upd_same, ho⟩
  · obtain ⟨q, e1, h⟩ := f.obO b z
    exact ⟨q, (upd_ne e).trans e1, h⟩, tabs_upd (by
    obtain ⟨q, e1, h⟩ := f.obO a ha
    rw [e1]
    exact h.plain) f.tab⟩

/-! ### frames -/
theorem Rel.drop (r : Rel K mg w e σ) (i : Nat) : Rel K mg w (e.set i .un) σ where
  wf := r.wf
  len := by rw [List.length_set]; exact r.len
  fz := fun j d h => by
    rcases set_get_some h with ⟨_, _, z⟩ | ⟨_, z⟩
    · cases z
    · exact r.fz j d z
  ow := fun j d h => by
    rcases set_get_some h with ⟨_, _, z⟩ | ⟨_, z⟩
    · cases z
    · exact r.ow j d z
  ap := fun j k d d' a h h' => by
    rcases set_get_some h with ⟨_, _, z⟩ | ⟨_, z⟩
    · cases z
    rcases set_get_some h' with ⟨_, _, z'⟩ | ⟨_, z'⟩
    · cases z'
    exact r.ap j k d d' a z z'
theorem Rel.move (r : Rel K mg w e σ) (s : Stays w w') (f : Wf w') (h : ∀ (i : Nat) d a, e[i]? = some (Sl.ow d) → σ[i]? = some (some (V.ref a)) → w'.O a ∧ w'.H a = w.H a) : Rel K mg w' e σ where
  wf := f
  len := r.len
  fz := fun j d q => by
    obtain ⟨v, e1, q⟩ := r.fz j d q
    exact ⟨v, e1, q.stays s⟩
  ow := fun j d q => by
    obtain ⟨a, e1, q1, q2⟩ := r.ow j d q
    obtain ⟨h1, h2⟩ := h j d a q e1
    exact ⟨a, e1, h1, q2.step s h2⟩
  ap := r.ap
theorem Rel.al (r : Rel K mg w e σ) (hp : w.H p = none) : Rel K mg (w.al p o) e σ :=
  r.move ((step_al r.wf hp).stays r.wf) (wf_al r.wf hp) fun i d a q s => by
    obtain ⟨a', e1, q1, q2⟩ := r.ow i d q
    rw [s] at e1; cases e1
    exact ⟨q1, upd_ne (ne_new hp q2.tr)⟩
theorem Rel.hd (r : Rel K mg w e σ) (ht : w.H p ≠ none) (hO : ¬ w.O p) : Rel K mg (w.hd p) e σ :=
  r.move stays_hd (wf_hd r.wf ht hO) fun i d a q s => by
    obtain ⟨a', e1, q1, q2⟩ := r.ow i d q
    rw [s] at e1; cases e1
    exact ⟨q1, rfl⟩
theorem Rel.ad (r : Rel K mg w e σ) (ht : ∃ q, w.H p = some q ∧ Ob q) (hU : ¬ w.U p) : Rel K mg (w.ad p) e σ :=
  r.move stays_ad (wf_ad r.wf ht hU) fun i d a q s => by
    obtain ⟨a', e1, q1, q2⟩ := r.ow i d q
    rw [s] at e1; cases e1
    exact ⟨.inl q1, rfl⟩
theorem stays_hid (hU : ¬ w.U p) (hT : Plain (w.H p)) : Stays w (w.an p o) := by
  have k : ∀ {a : Addr}, w.U a → upd w.H p o a = w.H a := fun {a} q => upd_ne fun z => by subst z; exact hU q
  refine ⟨fun a u _ h q => ?_, fun a xs h => (upd_ne fun z => by subst z; rw [h] at hT; exact hT).trans h, fun a xs h q => (k q).trans h, fun a C dx vs h q => (k q).trans h, fun _ u => u⟩
  rcases h with h | ⟨ob, h⟩
  · exact .inl ((k q).trans h)
  · exact .inr ⟨ob, (k q).trans h⟩
/-- what nobody holds may be changed -/
theorem Rel.hid (r : Rel K mg w e σ) (hU : ¬ w.U p) (hO : ¬ w.O p) (hT : Plain (w.H p)) : Rel K mg (w.an p o) e σ :=
  r.move (stays_hid hU hT) (wf_hid r.wf hO hT) fun i d a q s => by
    obtain ⟨a', e1, q1, q2⟩ := r.ow i d q
    rw [s] at e1; cases e1
    exact ⟨q1, upd_ne fun z => by subst z; exact hO q1⟩
theorem Rel.an (r : Rel K mg w e σ) (hp : w.H p = none) : Rel K mg (w.an p o) e σ :=
  r.move ((step_an r.wf hp).stays r.wf) (wf_an r.wf hp) fun i d a q s => by
    obtain ⟨a', e1, q1, q2⟩ := r.ow i d q
    rw [s] at e1; cases e1
    exact ⟨q1, upd_ne (ne_new hp q2.tr)⟩
theorem Rel.freeze (r : Rel K mg w e σ) (ha : w.O a) (hn : ∀ (i : Nat) d', e[i]? = some (Sl.ow d') → σ[i]? ≠ some (some (V.ref a))) : Rel K mg (w.fz a) e σ :=
  r.move stays_fz (wf_fz r.wf ha) fun i d b q s => by
    obtain ⟨a', e1, q1, q2⟩ := r.ow i d q
    rw [s] at e1; cases e1
    exact ⟨⟨q1, fun z => hn i d q (z ▸ s)⟩, rfl⟩
theorem Rel.fzAt (r : Rel K mg w e σ) (h : σ[i]? = some (some v)) (q : Den K mg w v d) : Rel K mg w (e.set i (.fz d)) σ where
  wf := r.wf
  len := by rw [List.length_set]; exact r.len
  fz := fun j d h' => by
    rcases set_get_some h' with ⟨e1, _, z⟩ | ⟨_, z⟩
    · cases z; subst e1; exact ⟨v, h, q⟩
    · exact r.fz j d z
  ow := fun j d h => by
    rcases set_get_some h with ⟨_, _, z⟩ | ⟨_, z⟩
    · cases z
    · exact r.ow j d z
  ap := fun j k d d' a h h' => by
    rcases set_get_some h with ⟨_, _, z⟩ | ⟨_, z⟩
    · cases z
    rcases set_get_some h' with ⟨_, _, z'⟩ | ⟨_, z'⟩
    · cases z'
    exact r.ap j k d d' a z z'
theorem Rel.store (r : Rel K mg w e σ) (i : Nat) (q : Den K mg w v d) : Rel K mg w (e.set i (.fz d)) (σ.set i (some v)) where
  wf := r.wf
  len := by rw [List.length_set, List.length_set]; exact r.len
  fz := fun j d h' => by
    rcases set_get_some h' with ⟨e1, hl, z⟩ | ⟨n, z⟩
    · cases z; subst e1
      exact ⟨v, by rw [set_get, if_pos rfl, if_pos (by rw [r.len]; exact hl)], q⟩
    · obtain ⟨v', e1, q'⟩ := r.fz j d z
      exact ⟨v', by rw [set_get, if_neg (Ne.symm n)]; exact e1, q'⟩
  ow := fun j d h => by
    rcases set_get_some h with ⟨_, _, z⟩ | ⟨n, z⟩
    · cases z
    · obtain ⟨a', e1, q'⟩ := r.ow j d z
      exact ⟨a', by rw [set_get, if_neg (Ne.symm n)]; exact e1, q'⟩
  ap := fun j k d d' a h h' s s' => by
    rcases set_get_some h with ⟨_, _, z⟩ | ⟨n, z⟩
    · cases z
    rcases set_get_some h' with ⟨_, _, z'⟩ | ⟨n', z'⟩
    · cases z'
    rw [set_get, if_neg (Ne.symm n)] at s
    rw [set_get, if_neg (Ne.symm n')] at s'
    exact r.ap j k d d' a z z' s s'
theorem Rel.storeO (r : Rel K mg w e σ) (i : Nat) (ha : w.O a) (q : Top K mg w a d) (hn : ∀ (i : Nat) d', e[i]? = some (Sl.ow d') → σ[i]? ≠ some (some (V.ref a))) : Rel K mg w (e.set i (.ow d)) (σ.set i (some (.ref a))) where
  wf := r.wf
  len := by rw [List.length_set, List.length_set]; exact r.len
  fz := fun j d h' => by
    rcases set_get_some h' with ⟨e1, hl, z⟩ | ⟨n, z⟩
    · cases z
    · obtain ⟨v', e1, q'⟩ := r.fz j d z
      exact ⟨v', by rw [set_get, if_neg (Ne.symm n)]; exact e1, q'⟩
  ow := fun j d h => by
    rcases set_get_some h with ⟨e1, hl, z⟩ | ⟨n, z⟩
    · cases z; subst e1
      exact ⟨a, by rw [set_get, if_pos rfl, if_pos (by rw [r.len]; exact hl)], ha, q⟩
    · obtain ⟨a', e1, q'⟩ := r.ow j d z
      exact ⟨a', by rw [set_get, if_neg (Ne.symm n)]; exact e1, q'⟩
  ap := fun j k d1 d2 b h h' s s' => by
    rcases set_get_some h with ⟨e1, l1, z⟩ | ⟨n, z⟩ <;> rcases set_get_some h' with ⟨e2, l2, z'⟩ | ⟨n', z'⟩
    · exact e1.trans e2.symm
    · subst e1
      rw [set_get, if_pos rfl, if_pos (by rw [r.len]; exact l1)] at s
      rw [set_get, if_neg (Ne.symm n')] at s'
      cases s
      exact absurd s' (hn k d2 z')
    · subst e2
      rw [set_get, if_pos rfl, if_pos (by rw [r.len]; exact l2)] at s'
      rw [set_get, if_neg (Ne.symm n)] at s
      cases s'
      exact absurd s (hn j d1 z)
    · rw [set_get, if_neg (Ne.symm n)] at s
      rw [set_get, if_neg (Ne.symm n')] at s'
      exact r.ap j k d1 d2 b z z' s s'
/-- what stands at an owned slot is changed -/
theorem Rel.mt (r : Rel K mg w e σ) (h : e[i]? = some (Sl.ow d)) (hs : σ[i]? = some (some (V.ref a))) (q : Top K mg (w.mt a o) a d') : Step w (w.mt a o) ∧ Rel K mg (w.mt a o) (e.set i (.ow d')) σ := by
  obtain ⟨a', e1, q1, q2⟩ := r.ow i d h
  rw [hs] at e1
  cases e1
  have st := step_mt (w := w) (o := o) q1
  have sy := st.stays r.wf
  have ho : Ob o := by
    obtain ⟨u, e2, h2⟩ := q.ob
    have e3 : upd w.H a o a = some u := e2
    rw [upd_same] at e3
    cases e3
    exact h2
  refine ⟨st, ⟨wf_mt r.wf q1 ho, by rw [List.length_set]; exact r.len, fun j d h' => ?_, fun j d h' => ?_, fun j k d1 d2 b h1 h2 s s' => ?_⟩⟩
  · rcases set_get_some h' with ⟨_, _, z⟩ | ⟨_, z⟩
    · cases z
    · obtain ⟨v', e1, q'⟩ := r.fz j d z
      exact ⟨v', e1, q'.stays sy⟩
  · rcases set_get_some h' with ⟨e1, _, z⟩ | ⟨n, z⟩
    · cases z; subst e1
      exact ⟨a, hs, q1, q⟩
    · obtain ⟨b, e1, q', t⟩ := r.ow j d z
      refine ⟨b, e1, q', t.step sy (upd_ne fun z' => n ?_)⟩
      subst z'
      exact r.ap j i _ _ _ z h e1 hs
  · have hj : ∀ {j : Nat} {d1 : D}, (e.set i (.ow d'))[j]? = some (Sl.ow d1) → ∃ d2, e[j]? = some (Sl.ow d2) := fun {j d1} z => by
      rcases set_get_some z with ⟨e1, _, z⟩ | ⟨_, z⟩
      · subst e1; exact ⟨_, h⟩
      · exact ⟨_, z⟩
    obtain ⟨_, z1⟩ := hj h1
    obtain ⟨_, z2⟩ := hj h2
    exact r.ap j k _ _ b z1 z2 s s'

/-! ### what is read -/
theorem Look.lst {ds : List D} (h : Look K mg w v (.lst ds)) : ∃ a xs, v = .ref a ∧ w.H a = some (.lst xs) ∧ Dens K mg w xs ds := by
  rcases h with h | ⟨a, e, _, xs, h1, h2⟩
  · cases h with
    | lst h1 h2 => exact ⟨_, _, rfl, h1.1, h2⟩
  · exact ⟨a, xs, e, h1, h2⟩
theorem Look.frl {ds : List D} (h : Look K mg w v (.frl ds)) : ∃ a xs, v = .ref a ∧ Rd w.H a (.lst xs) ∧ Dens K mg w xs ds := by
  rcases h with h | ⟨a, e, _, h⟩
  · cases h with
    | frl h1 _ h2 => exact ⟨_, _, rfl, h1, h2⟩
  · exact h.elim
theorem Look.tup {ds : List D} (h : Look K mg w v (.tup ds)) : ∃ a xs, v = .ref a ∧ TAt w a xs ∧ Dens K mg w xs ds := by
  rcases h with h | ⟨a, e, _, h⟩
  · cases h with
    | tup h1 h2 => exact ⟨_, _, rfl, h1, h2⟩
  · exact h.elim
theorem Look.ktu {ds : List D} (h : Look K mg w v (.ktu ds)) : ∃ a xs, v = .ref a ∧ KTup K a xs ∧ Dens K mg w xs ds := by
  rcases h with h | ⟨a, e, _, h⟩
  · cases h with
    | ktu h1 h2 => exact ⟨_, _, rfl, h1, h2⟩
  · exact h.elim
theorem Look.dk {ks : List (Key × D)} (h : Look K mg w v (.dk ks)) : ∃ a kvs, v = .ref a ∧ Rd w.H a (.dK kvs) ∧ kvs.map (·.1) = ks.map (·.1) ∧ Dens K mg w (kvs.map (·.2)) (ks.map (·.2)) := by
  rcases h with h | ⟨a, e, _, kvs, h1, h2, h3⟩
  · cases h with
    | dk h1 _ h2 h3 => exact ⟨_, _, rfl, h1, h2, h3⟩
  · exact ⟨a, kvs, e, .inl h1, h2, h3⟩
theorem Look.dt {ks : List (List Key × D)} (h : Look K mg w v (.dt ks)) : ∃ a kvs, v = .ref a ∧ Rd w.H a (.dT kvs) ∧ kvs.map (·.1) = ks.map (·.1) ∧ Dens K mg w (kvs.map (·.2)) (ks.map (·.2)) := by
  rcases h with h | ⟨a, e, _, kvs, h1, h2, h3⟩
  · cases h with
    | dt h1 _ h2 h3 => exact ⟨_, _, rfl, h1, h2, h3⟩
  · exact ⟨a, kvs, e, .inl h1, h2, h3⟩
theorem Look.int {j : Int} (h : Look K mg w v (.int j)) : v = .int j := by
  rcases h with h | ⟨a, e, _, h⟩
  · cases h; rfl
  · exact h.elim
theorem Look.bl {b : Bool} (h : Look K mg w v (.bl b)) : v = .bl b := by
  rcases h with h | ⟨a, e, _, h⟩
  · cases h; rfl
  · exact h.elim
theorem Look.str {x : Str} (h : Look K mg w v (.str x)) : v = .str x := by
  rcases h with h | ⟨a, e, _, h⟩
  · cases h; rfl
  · exact h.elim
theorem Look.non (h : Look K mg w v .non) : v = .non := by
  rcases h with h | ⟨a, e, _, h⟩
  · cases h; rfl
  · exact h.elim
end

/-! ### names, constants, operands -/
section
variable {X : Cx} {W : WX}
def nm (i : Nat) : M D := fun e => match e[i]? with
  | some (.fz d) => .ok d e
  | some (.ow d) => .ok d (e.set i (.fz d))
  | _ => .no
def nmB (i : Nat) : M Op := fun e => match e[i]? with
  | some (.fz _) => .ok (.slot i) e
  | some (.ow _) => .ok (.slot i) e
  | _ => .no
theorem sl_cases (e : En) (i : Nat) : (e[i]? = none ∨ e[i]? = some .un) ∨ (∃ d, e[i]? = some (Sl.fz d)) ∨ ∃ d, e[i]? = some (Sl.ow d) := by
  cases e[i]? with
  | none => exact .inl (.inl rfl)
  | some z =>
    cases z with
    | un => exact .inl (.inr rfl)
    | fz d => exact .inr (.inl ⟨d, rfl⟩)
    | ow d => exact .inr (.inr ⟨d, rfl⟩)
theorem nmB_cases (e : En) (i : Nat) : nmB i e = .no ∨ (nmB i e = .ok (.slot i) e ∧ ((∃ d, e[i]? = some (Sl.fz d)) ∨ ∃ d, e[i]? = some (Sl.ow d))) := by
  rcases sl_cases e i with h | ⟨d, h⟩ | ⟨d, h⟩
  · rcases h with h | h <;> exact .inl (by unfold nmB; rw [h])
  · exact .inr ⟨by unfold nmB; rw [h], .inl ⟨d, h⟩⟩
  · exact .inr ⟨by unfold nmB; rw [h], .inr ⟨d, h⟩⟩
theorem vb_name (i : Nat) {x : Str} {pos : Pos} (hN : X.N[i]? = some x := by rfl) (hv : Vis X.env.scope x := by first | exact Or.inl rfl | exact Or.inr (Or.inl rfl) | exact Or.inr (Or.inr rfl)) (hd : (x == ("__debug__" : Str)) = false := by decide)
    (hcd : (x == ("__classdict__" : Str)) = false := by decide) : VB X W (.Name x pos) (nmB i) :=
  PE.imp (pe_var hN hv hd hcd) fun σ H Q ⟨w, e, hw, rel, g⟩ => by
    subst hw
    rcases nmB_cases e i with z | ⟨z, h⟩
    · rw [z] at g; exact g.elim
    · rw [z] at g
      rcases h with ⟨d, h⟩ | ⟨d, h⟩
      · obtain ⟨v, e1, _⟩ := rel.fz i d h
        exact ⟨v, e1, g.ok rel e1⟩
      · obtain ⟨a, e1, _⟩ := rel.ow i d h
        exact ⟨_, e1, g.ok rel e1⟩
theorem ve_name (i : Nat) {x : Str} {pos : Pos} (hN : X.N[i]? = some x := by rfl) (hv : Vis X.env.scope x := by first | exact Or.inl rfl | exact Or.inr (Or.inl rfl) | exact Or.inr (Or.inr rfl)) (hd : (x == ("__debug__" : Str)) = false := by decide)
    (hcd : (x == ("__classdict__" : Str)) = false := by decide) : VE X W (.Name x pos) (nm i) :=
  PE.imp (pe_var hN hv hd hcd) fun σ H Q ⟨w, e, hw, rel, g⟩ => by
    subst hw
    rcases sl_cases e i with h | ⟨d, h⟩ | ⟨d, h⟩
    · rcases h with h | h <;> (unfold nm at g; rw [h] at g; exact g.elim)
    · unfold nm at g; rw [h] at g
      obtain ⟨v, e1, q⟩ := rel.fz i d h
      exact ⟨v, e1, g.ok rel q⟩
    · unfold nm at g; rw [h] at g
      obtain ⟨a, e1, q1, q2⟩ := rel.ow i d h
      refine ⟨_, e1, ?_⟩
      have hn : ∀ (j : Nat) d', (e.set i .un)[j]? = some (Sl.ow d') → σ[j]? ≠ some (some (V.ref a)) := fun j d' z s => by
        rcases set_get_some z with ⟨_, _, z⟩ | ⟨n, z⟩
        · cases z
        · exact n (rel.ap j i _ _ a z h s e1)
      have r1 := (rel.drop i).freeze q1 hn
      have hd : Den X.K X.mg (w.fz a) (.ref a) d := q2.den stays_fz rfl (.inr rfl)
      have r2 : Rel X.K X.mg (w.fz a) (e.set i (.fz d)) σ := by
        have := r1.fzAt e1 hd
        rw [List.set_set] at this
        exact this
      exact g (w.fz a) _ (step_fz q1) r2 hd
theorem ve_const {ex : Expr} {v : V} {d : D} (h : PE X ex (tC v)) (hd : ∀ w, Den X.K X.mg w v d) : VE X W ex (ret d) :=
  PE.imp h fun σ H Q ⟨w, e, hw, rel, g⟩ => by
    subst hw
    exact Goes.ok g rel (hd w)
theorem ve_int {i j pos} : VE X W (.Constant (.int i) j pos) (ret (.int i)) := ve_const pe_int fun _ => .int i
theorem ve_bl {b j pos} : VE X W (.Constant (.bool b) j pos) (ret (.bl b)) := ve_const pe_bl fun _ => .bl b
theorem ve_non {j pos} : VE X W (.Constant .none j pos) (ret .non) := ve_const pe_non fun _ => .non
theorem ve_str {x j pos} : VE X W (.Constant (.str x) j pos) (ret (.str x)) := ve_const pe_str fun _ => .str x
theorem ve_glob {x : Str} {v : V} {u : Value} {d : D} {pos : Pos} (hm : X.mg x = some u) (r : RelV v u) (hd : ∀ w, Den X.K X.mg w v d) (hg : Gl X x := by rfl) (hb : (x == ("__debug__" : Str)) = false := by decide) : VE X W (.Name x pos) (ret d) := ve_const (pe_glob hg hm r hb) hd
theorem vb_val {ex : Expr} {f : M D} (h : VE X W ex f) : VB X W ex (bnd f fun d => ret (.val d)) :=
  PE.imp h fun σ H Q ⟨w, e, hw, rel, g⟩ => by
    subst hw
    refine tR_mono (goes_bind (ρ1 := rD X.K X.mg) rel g) fun v H1 ⟨w1, e1, d, h1, s, r1, q, g1⟩ => ?_
    subst h1
    exact Goes.ok g1 r1 q
theorem ve_fresh {ex : Expr} {f : M D} (h : VF X W ex f) : VE X W ex f :=
  PE.imp h fun σ H Q ⟨w, e, hw, rel, g⟩ => by
    subst hw
    refine ⟨w, e, rfl, rel, ?_⟩
    cases hf : f e with
    | ok d e1 =>
      rw [hf] at g
      rintro w1 v s r ⟨a, rfl, hn, hU, hO, q2⟩
      exact g (w1.hd a) _ (step_hd s hn) (r.hd q2.tr hO) (q2.den stays_hd rfl (.inr rfl))
    | ex x e1 => rw [hf] at g; exact g
    | no => rw [hf] at g; exact g

/-! ### one, two, three operands -/
def op1 {α : Type} (fa : M Op) (g : D → M α) : M α := bnd fa fun o => bnd (getO o) g
def op2 {α : Type} (fa fb : M Op) (g : D → D → M α) : M α := bnd fa fun o => bnd fb fun o' => bnd (getO o) fun a => bnd (getO o') fun b => g a b
def op3 {α : Type} (fa fb fc : M Op) (g : D → D → D → M α) : M α := bnd fa fun o => bnd fb fun o' => bnd fc fun o'' => bnd (getO o) fun a => bnd (getO o') fun b => bnd (getO o'') fun c => g a b c
variable {K : PySem.W.Frag} {mg : Str → Option Value} {α β : Type} {ρ : St → Wd → Wd → En → β → α → Prop} [hS : ∀ σ, Stb (ρ σ)]
theorem imp1 {fa : M Op} {g : D → M α} {r : V → Hp → (β → Hp → Prop) → Prop}
    (hr : ∀ w e σ x d Q, Rel K mg w e σ → Look K mg w x d → Goes K mg W σ (ρ σ) w (g d e) Q → r x w.H Q) {σ : St} {H : Hp} {Q : β → Hp → Prop} (h : tR K mg W ρ (op1 fa g) σ H Q) :
    tR K mg W (rB K mg) fa σ H fun x H1 => r x H1 Q := by
  obtain ⟨w, e, hw, rel, g'⟩ := h
  subst hw
  refine tR_mono (goes_bind (ρ1 := rB K mg) rel g') fun v H1 ⟨w1, e1, o, h1, s, r1, q, g1⟩ => ?_
  subst h1
  obtain ⟨d, l, g2⟩ := look_of (Step.refl w1) r1.wf r1 q g1
  exact hr _ _ _ _ _ _ r1 l g2
theorem imp2 {fa fb : M Op} {g : D → D → M α} {r : V → V → Hp → (β → Hp → Prop) → Prop}
    (hr : ∀ w e σ x y d d' Q, Rel K mg w e σ → Look K mg w x d → Look K mg w y d' → Goes K mg W σ (ρ σ) w (g d d' e) Q → r x y w.H Q) {σ : St} {H : Hp} {Q : β → Hp → Prop} (h : tR K mg W ρ (op2 fa fb g) σ H Q) :
    tR K mg W (rB K mg) fa σ H fun x H1 => tR K mg W (rB K mg) fb σ H1 fun y H2 => r x y H2 Q := by
  obtain ⟨w, e, hw, rel, g'⟩ := h
  subst hw
  refine tR_mono (goes_bind (ρ1 := rB K mg) rel g') fun v H1 ⟨w1, e1, o, h1, s, r1, q, g1⟩ => ?_
  subst h1
  refine tR_mono (goes_bind (ρ1 := rB K mg) r1 g1) fun v2 H2 ⟨w2, e2, o2, h2, s2, r2, q2, g2⟩ => ?_
  subst h2
  obtain ⟨d, l, g3⟩ := look_of s2 r1.wf r2 q g2
  obtain ⟨d', l', g4⟩ := look_of (Step.refl w2) r2.wf r2 q2 g3
  exact hr _ _ _ _ _ _ _ _ r2 l l' g4
theorem imp3 {fa fb fc : M Op} {g : D → D → D → M α} {r : V → V → V → Hp → (β → Hp → Prop) → Prop}
    (hr : ∀ w e σ x y z d d' d'' Q, Rel K mg w e σ → Look K mg w x d → Look K mg w y d' → Look K mg w z d'' → Goes K mg W σ (ρ σ) w (g d d' d'' e) Q → r x y z w.H Q) {σ : St} {H : Hp} {Q : β → Hp → Prop} (h : tR K mg W ρ (op3 fa fb fc g) σ H Q) :
    tR K mg W (rB K mg) fa σ H fun x H1 => tR K mg W (rB K mg) fb σ H1 fun y H2 => tR K mg W (rB K mg) fc σ H2 fun z H3 => r x y z H3 Q := by
  obtain ⟨w, e, hw, rel, g'⟩ := h
  subst hw
  refine tR_mono (goes_bind (ρ1 := rB K mg) rel g') fun v H1 ⟨w1, e1, o, h1, s, r1, q, g1⟩ => ?_
  subst h1
  refine tR_mono (goes_bind (ρ1 := rB K mg) r1 g1) fun v2 H2 ⟨w2, e2, o2, h2, s2, r2, q2, g2⟩ => ?_
  subst h2
  refine tR_mono (goes_bind (ρ1 := rB K mg) r2 g2) fun v3 H3 ⟨w3, e3, o3, h3, s3, r3, q3, g3⟩ => ?_
  subst h3
  obtain ⟨d, l, g4⟩ := look_of (s2.trans s3) r1.wf r3 q g3
  obtain ⟨d', l', g5⟩ := look_of s3 r2.wf r3 q2 g4
  obtain ⟨d'', l'', g6⟩ := look_of (Step.refl w3) r3.wf r3 q3 g5
  exact hr _ _ _ _ _ _ _ _ _ _ r3 l l' l'' g6
end
end VL
namespace VL
open PySem PySem.Spec PyProof.Rows L2
variable [Tb]
abbrev line : Nat := 16777216
theorem line_eq : sizeLine = line := sizeLine_eq
def nope {α : Type} : M α := fun _ => .no
def chk {α : Type} (c : Bool) (m : M α) : M α := match c with
  | true => m
  | false => nope

section
variable {K : PySem.W.Frag} {mg : Str → Option Value} {W : WX} {σ : St} {w w' : Wd} {e : En} {a p : Addr} {v : V} {d d' : D} {i : Nat} {o : HO} {Q : VK}
theorem chk_of {α β : Type} {ρ : Wd → Wd → En → β → α → Prop} {c : Bool} {m : M α} {Q : β → Hp → Prop} (h : Goes K mg W σ ρ w (chk c m e) Q) : c = true ∧ Goes K mg W σ ρ w (m e) Q := by
  cases c with
  | true => exact ⟨rfl, h⟩
  | false => exact h.elim
theorem lift_of {α β : Type} {ρ : Wd → Wd → En → β → α → Prop} {c : Option α} {Q : β → Hp → Prop} (h : Goes K mg W σ ρ w (lift c e) Q) : ∃ z, c = some z ∧ Goes K mg W σ ρ w (.ok z e) Q := by
  cases c with
  | some z => exact ⟨z, rfl, h⟩
  | none => exact h.elim
/-- a new object that may be read -/
theorem goes_new (rel : Rel K mg w e σ) (g : Goes K mg W σ (rD K mg σ) w (.ok d e) Q) (hp : w.H p = none) (hd : Den K mg (w.al p o) (.ref p) d) : Q (.ref p) (upd w.H p o) := g (w.al p o) _ (step_al rel.wf hp) (rel.al hp) hd
theorem goes_newF (rel : Rel K mg w e σ) (g : Goes K mg W σ (rF K mg σ) w (.ok d e) Q) (hp : w.H p = none) (hd : Top K mg (w.an p o) p d) : Q (.ref p) (upd w.H p o) :=
  g (w.an p o) _ (step_an rel.wf hp) (rel.an hp) ⟨p, rfl, hp, fun z => rel.wf.trU p z hp, fun z => rel.wf.trO p z hp, hd⟩
theorem new_lst {xs : List V} {ds : List D} (f : Wf w) (hp : w.H p = none) (h : Dens K mg w xs ds) : Den K mg (w.al p (.lst xs)) (.ref p) (.lst ds) := .lst ⟨upd_same, .inr rfl⟩ (h.step (step_al f hp) f)
theorem new_tup {xs : List V} {ds : List D} (f : Wf w) (hp : w.H p = none) (h : Dens K mg w xs ds) : Den K mg (w.al p (.tup xs)) (.ref p) (.tup ds) := .tup upd_same (h.step (step_al f hp) f)
theorem new_lstF {xs : List V} {ds : List D} (f : Wf w) (hp : w.H p = none) (h : Dens K mg w xs ds) : Top K mg (w.an p (.lst xs)) p (.lst ds) := ⟨xs, upd_same, h.step (step_an f hp) f⟩
end

/-! ### plain data -/
mutual
def toP : D → Option PyData
  | .non => some .none
  | .bl b => some (.bool b)
  | .int i => some (.int i)
  | .str x => some (.str x)
  | .tup xs => (toPs xs).map .tuple
  | .ktu xs => (toPs xs).map .tuple
  | .lst xs => (toPs xs).map .list
  | _ => none
def toPs : List D → Option (List PyData)
  | [] => some []
  | d :: r => match toP d, toPs r with
    | some p, some q => some (p :: q)
    | _, _ => none
end
section
variable {K : PySem.W.Frag} {mg : Str → Option Value} {w : Wd}
theorem toPs_cons {d : D} {r : List D} {q : List PyData} (h : toPs (d :: r) = some q) : ∃ p q', toP d = some p ∧ toPs r = some q' ∧ q = p :: q' := by
  unfold toPs at h
  cases h1 : toP d with
  | none => rw [h1] at h; cases h
  | some p =>
    cases h2 : toPs r with
    | none => rw [h1, h2] at h; cases h
    | some q' => rw [h1, h2] at h; cases h; exact ⟨p, q', rfl, rfl, rfl⟩
theorem toP_tup {xs : List D} {p : PyData} (h : toP (.tup xs) = some p) : ∃ q, toPs xs = some q ∧ p = .tuple q := by
  unfold toP at h
  obtain ⟨q, h1, h2⟩ := Option.map_eq_some_iff.mp h
  exact ⟨q, h1, h2.symm⟩
theorem toP_ktu {xs : List D} {p : PyData} (h : toP (.ktu xs) = some p) : ∃ q, toPs xs = some q ∧ p = .tuple q := by
  unfold toP at h
  obtain ⟨q, h1, h2⟩ := Option.map_eq_some_iff.mp h
  exact ⟨q, h1, h2.symm⟩
theorem toP_lst {xs : List D} {p : PyData} (h : toP (.lst xs) = some p) : ∃ q, toPs xs = some q ∧ p = .list q := by
  unfold toP at h
  obtain ⟨q, h1, h2⟩ := Option.map_eq_some_iff.mp h
  exact ⟨q, h1, h2.symm⟩
mutual
theorem Den.dp : ∀ {v : V} {d : D} {p : PyData}, Den K mg w v d → toP d = some p → Dp K w.H v p
  | _, _, p, .non, h => by unfold toP at h; cases h; exact .non
  | _, _, p, .bl b, h => by unfold toP at h; cases h; exact .bl b
  | _, _, p, .int i, h => by unfold toP at h; cases h; exact .int i
  | _, _, p, .str x, h => by unfold toP at h; cases h; exact .str x
  | _, _, p, .tup h1 h2, h => by
    obtain ⟨q, h3, rfl⟩ := toP_tup h
    exact .tup h1.sq (Dens.dp h2 h3)
  | _, _, p, .ktu h1 h2, h => by
    obtain ⟨q, h3, rfl⟩ := toP_ktu h
    exact .tup h1.sq (Dens.dp h2 h3)
  | _, _, p, .lst h1 h2, h => by
    obtain ⟨q, h3, rfl⟩ := toP_lst h
    exact .lst h1.sq (Dens.dp h2 h3)
  | _, _, p, .frl _ _ _, h => by unfold toP at h; cases h
  | _, _, p, .dk _ _ _ _, h => by unfold toP at h; cases h
  | _, _, p, .dt _ _ _ _, h => by unfold toP at h; cases h
  | _, _, p, .ob _ _ _ _ _, h => by unfold toP at h; cases h
theorem Dens.dp : ∀ {vs : List V} {ds : List D} {ps : List PyData}, Dens K mg w vs ds → toPs ds = some ps → DpAll K w.H vs ps
  | _, _, _, .nil, h => by unfold toPs at h; cases h; exact .nil
  | _, _, _, .cons h1 h2, h => by
    obtain ⟨p, q, e1, e2, rfl⟩ := toPs_cons h
    exact .cons (Den.dp h1 e1) (Dens.dp h2 e2)
end
theorem Look.dp {v : V} {d : D} {p : PyData} (h : Look K mg w v d) (hp : toP d = some p) : Dp K w.H v p := by
  rcases h with h | ⟨a, rfl, _, t⟩
  · exact h.dp hp
  · cases d with
    | lst ds =>
      obtain ⟨xs, h1, h2⟩ := t
      obtain ⟨q, h3, rfl⟩ := toP_lst hp
      exact .lst (SqL.of h1) (h2.dp h3)
    | dk ks => unfold toP at hp; cases hp
    | dt ks => unfold toP at hp; cases hp
    | ob c fs => unfold toP at hp; cases hp
    | _ => exact t.elim
end
def shp (p : PyData) : Bool := SeqAt.shaped p
/-- == of two data: none where it is not told here -/
def valD {κ : Type} [DecidableEq κ] (ks : List (κ × D)) (k : κ) : Option D := (ks.find? fun p => decide (p.1 = k)).map (·.2)
def eqPO (d d' : D) : Option Bool := match toP d, toP d' with
  | some p, some q => if shp p && shp q then some (PyData.eqv p q) else none
  | _, _ => none
def eqHits (ls : List (Key × D)) : List (Key × D) → Option Bool
  | [] => some true
  | (k, d) :: r => match valD ls k with
    | none => some false
    | some d' => match eqPO d d', eqHits ls r with
      | some b, some c => some (b && c)
      | _, _ => none
def eqO (d d' : D) : Option Bool := match d, d' with
  | .dk ks, .dk ls => if ks.length = ls.length then eqHits ls ks else some false
  | d, d' => eqPO d d'

/-! ### operators on data -/
def addD : D → D → M D
  | .int i, .int j => ret (.int (i + j))
  | .int i, .bl b => ret (.int (i + if b then 1 else 0))
  | .str x, .str y => chk (decide (x.length + y.length ≤ line)) (ret (.str (x ++ y)))
  | .lst xs, .lst ys => chk (decide (xs.length + ys.length ≤ line)) (ret (.lst (xs ++ ys)))
  | .tup xs, .tup ys => chk (decide (xs.length + ys.length ≤ line)) (ret (.tup (xs ++ ys)))
  | _, _ => nope
def subD : D → D → M D
  | .int i, .int j => ret (.int (i - j))
  | _, _ => nope
def mulD : D → D → M D
  | .int i, .int j => chk (decide (i.natAbs.log2 + j.natAbs.log2 < 1000000)) (ret (.int (i * j)))
  | .lst xs, .int k => chk (decide (-(2 ^ 63) ≤ k) && decide (k < 2 ^ 63) && decide (xs.length * k.toNat ≤ line)) (ret (.lst (List.replicate k.toNat xs).flatten))
  | _, _ => nope
def divD : D → D → M D
  | .int i, .int j => chk (decide (0 < j) && decide (j.natAbs.log2 < 9000)) (ret (.int (i / j)))
  | _, _ => nope
def modD : D → D → M D
  | .int i, .int j => chk (decide (0 < j)) (ret (.int (i % j)))
  | _, _ => nope
def powD : D → D → M D
  | .int i, .int j => chk (decide (0 ≤ j) && decide ((Builtin.Int.intBits i : Int) * j ≤ 2 ^ 27)) (ret (.int (i ^ j.toNat)))
  | _, _ => nope
def cmpD (op : CmpOp) : D → D → M D := fun d d' => match op with
  | .Eq => lift ((eqO d d').map .bl)
  | .NotEq => lift ((eqO d d').map fun b => .bl (!b))
  | .Lt => match d, d' with
    | .int i, .int j => ret (.bl (decide (i < j)))
    | .str x, .str y => ret (.bl (decide (x.cps.toList < y.cps.toList)))
    | _, _ => nope
  | .LtE => match d, d' with
    | .int i, .int j => ret (.bl (decide (i ≤ j)))
    | _, _ => nope
  | .Gt => match d, d' with
    | .int i, .int j => ret (.bl (decide (j < i)))
    | _, _ => nope
  | .GtE => match d, d' with
    | .int i, .int j => ret (.bl (decide (j ≤ i)))
    | _, _ => nope
  | .Is => match d, d' with
    | .non, .non => ret (.bl true)
    | _, .non => ret (.bl false)
    | _, _ => nope
  | .IsNot => match d, d' with
    | .non, .non => ret (.bl false)
    | _, .non => ret (.bl true)
    | _, _ => nope
  | _ => nope

section
variable {X : Cx} {W : WX}
/-- an operation on values that does on data what g tells -/
def rOp (X : Cx) (W : WX) (g : D → D → M D) : R2 := fun x y H Q => ∃ w e σ d d', w.H = H ∧ Rel X.K X.mg w e σ ∧ Look X.K X.mg w x d ∧ Look X.K X.mg w y d' ∧ Goes X.K X.mg W σ (rD X.K X.mg σ) w (g d d' e) Q
abbrev OpV (X : Cx) (W : WX) (f : Value → Value → Sem Value) (g : D → D → M D) : Prop := OpR X f (rOp X W g)
theorem ve_bin {op : Operator} {a b : Expr} {fa fb : M Op} {pos : Pos} {g : D → D → M D} (ho : OpV X W (binaryOp op) g) (ha : VB X W a fa) (hb : VB X W b fb) : VE X W (.BinOp a op b pos) (op2 fa fb g) :=
  PE.imp (pe_op ho ha hb) fun σ H Q h => imp2 (r := rOp X W g) (fun w e σ x y d d' Q r l l' g => ⟨w, e, σ, d, d', rfl, r, l, l', g⟩) h
theorem ve_cmp {op : CmpOp} {a b : Expr} {fa fb : M Op} {pos : Pos} {g : D → D → M D} (ho : OpV X W (compareOp op) g) (ha : VB X W a fa) (hb : VB X W b fb) (hm : behindInMarks op b = false := by first | exact nomark _ | rfl) : VE X W (.Compare a [op] [b] pos) (op2 fa fb g) :=
  PE.imp (pe_cmpR ho ha hb hm) fun σ H Q h => imp2 (r := rOp X W g) (fun w e σ x y d d' Q r l l' g => ⟨w, e, σ, d, d', rfl, r, l, l', g⟩) h
theorem ov_add : OpV X W (binaryOp .Add) addD := by
  intro pins s σ H x y v u Q I rx ry h
  obtain ⟨w, e, σ', d, d', rfl, rel, l, l', g⟩ := h
  unfold addD at g
  split at g
  · obtain rfl := l.int
    obtain rfl := l'.int
    exact op_add pins s σ _ _ _ v u Q I rx ry ⟨_, _, rfl, rfl, g.ok rel (.int _)⟩
  · obtain rfl := l.int
    obtain rfl := l'.bl
    refine op_add_ib pins s σ _ _ _ v u Q I rx ry ⟨_, _, rfl, rfl, ?_⟩
    exact g.ok rel (.int _)
  · obtain ⟨hc, g⟩ := chk_of g
    obtain rfl := l.str
    obtain rfl := l'.str
    exact op_add_str pins s σ _ _ _ v u Q I rx ry ⟨_, _, rfl, rfl, by rw [line_eq]; exact of_decide_eq_true hc, g.ok rel (.str _)⟩
  · obtain ⟨hc, g⟩ := chk_of g
    obtain ⟨a, xs, rfl, h1, h2⟩ := l.lst
    obtain ⟨b, ys, rfl, h3, h4⟩ := l'.lst
    refine op_cat pins s σ _ _ _ v u Q I rx ry ⟨_, _, xs, ys, rfl, rfl, h1, h3, by rw [line_eq, h2.length, h4.length]; exact of_decide_eq_true hc, fun p hp => ?_⟩
    exact goes_new rel g hp (new_lst rel.wf hp (h2.append h4))
  · obtain ⟨hc, g⟩ := chk_of g
    obtain ⟨a, xs, rfl, h1, h2⟩ := l.tup
    obtain ⟨b, ys, rfl, h3, h4⟩ := l'.tup
    refine op_catA pins s σ _ _ _ v u Q I rx ry ⟨_, _, xs, ys, rfl, rfl, h1.sq, h3.sq, by rw [line_eq, h2.length, h4.length]; exact of_decide_eq_true hc, fun z => ?_, fun _ z => ?_, fun _ _ p hp => ?_⟩
    · subst z
      cases h2
      exact g.ok rel (.tup h3 h4)
    · subst z
      cases h4
      rw [List.append_nil] at g
      exact g.ok rel (.tup h1 h2)
    · exact goes_new rel g hp (new_tup rel.wf hp (h2.append h4))
  · exact g.elim
theorem ov_sub : OpV X W (binaryOp .Sub) subD := by
  intro pins s σ H x y v u Q I rx ry h
  obtain ⟨w, e, σ', d, d', rfl, rel, l, l', g⟩ := h
  unfold subD at g
  split at g
  · obtain rfl := l.int
    obtain rfl := l'.int
    exact op_sub pins s σ _ _ _ v u Q I rx ry ⟨_, _, rfl, rfl, g.ok rel (.int _)⟩
  · exact g.elim
theorem Dens.rep {K : PySem.W.Frag} {mg : Str → Option Value} {w : Wd} {xs : List V} {ds : List D} (h : Dens K mg w xs ds) : ∀ n, Dens K mg w (List.replicate n xs).flatten (List.replicate n ds).flatten
  | 0 => .nil
  | n + 1 => by
    rw [List.replicate_succ, List.replicate_succ, List.flatten_cons, List.flatten_cons]
    exact h.append (h.rep n)
theorem ov_mul : OpV X W (binaryOp .Mult) mulD := by
  intro pins s σ H x y v u Q I rx ry h
  obtain ⟨w, e, σ', d, d', rfl, rel, l, l', g⟩ := h
  unfold mulD at g
  split at g
  · obtain ⟨hc, g⟩ := chk_of g
    obtain rfl := l.int
    obtain rfl := l'.int
    have hc := of_decide_eq_true hc
    exact op_mulW pins s σ _ _ _ v u Q I rx ry ⟨_, _, rfl, rfl, hc, g.ok rel (.int _)⟩
  · obtain ⟨hc, g⟩ := chk_of g
    obtain ⟨a, xs, rfl, h1, h2⟩ := l.lst
    obtain rfl := l'.int
    simp only [Bool.and_eq_true, decide_eq_true_eq] at hc
    exact op_rep pins s σ _ _ _ v u Q I rx ry ⟨_, _, xs, rfl, rfl, h1, hc.1.1, hc.1.2, by rw [line_eq, h2.length]; exact hc.2, fun p hp => goes_new rel g hp (new_lst rel.wf hp (h2.rep _))⟩
  · exact g.elim
theorem ov_div : OpV X W (binaryOp .FloorDiv) divD := by
  intro pins s σ H x y v u Q I rx ry h
  obtain ⟨w, e, σ', d, d', rfl, rel, l, l', g⟩ := h
  unfold divD at g
  split at g
  · obtain ⟨hc, g⟩ := chk_of g
    obtain rfl := l.int
    obtain rfl := l'.int
    obtain ⟨h1, h2⟩ := (Bool.and_eq_true_iff.mp hc)
    exact op_fdivW pins s σ _ _ _ v u Q I rx ry ⟨_, _, rfl, rfl, ⟨of_decide_eq_true h1, of_decide_eq_true h2⟩, g.ok rel (.int _)⟩
  · exact g.elim
theorem ov_mod : OpV X W (binaryOp .Mod) modD := by
  intro pins s σ H x y v u Q I rx ry h
  obtain ⟨w, e, σ', d, d', rfl, rel, l, l', g⟩ := h
  unfold modD at g
  split at g
  · obtain ⟨hc, g⟩ := chk_of g
    obtain rfl := l.int
    obtain rfl := l'.int
    exact L2.op_mod pins s σ _ _ _ v u Q I rx ry ⟨_, _, rfl, rfl, of_decide_eq_true hc, g.ok rel (.int _)⟩
  · exact g.elim
theorem op_powW : OpR X (binaryOp .Pow) (rI (fun i j => 0 ≤ j ∧ (Builtin.Int.intBits i : Int) * j ≤ 2 ^ 27) fun i j => .int (i ^ j.toNat)) := opI fun _ _ _ _ _ _ _ hc q => PyProof.Rows.pow_int hc.1 hc.2 q
theorem ov_pow : OpV X W (binaryOp .Pow) powD := by
  intro pins s σ H x y v u Q I rx ry h
  obtain ⟨w, e, σ', d, d', rfl, rel, l, l', g⟩ := h
  unfold powD at g
  split at g
  · obtain ⟨hc, g⟩ := chk_of g
    obtain rfl := l.int
    obtain rfl := l'.int
    obtain ⟨h1, h2⟩ := (Bool.and_eq_true_iff.mp hc)
    exact op_powW pins s σ _ _ _ v u Q I rx ry ⟨_, _, rfl, rfl, ⟨of_decide_eq_true h1, of_decide_eq_true h2⟩, g.ok rel (.int _)⟩
  · exact g.elim
end
end VL
namespace VL
open PySem PySem.Spec PyProof.Rows L2
variable [Tb]
/-! ### keys of dicts -/
def keyD : D → Option Key
  | .int i => some (.inl i)
  | .str x => some (.inr x)
  | _ => none
def keysD : List D → Option (List Key)
  | [] => some []
  | d :: r => match keyD d, keysD r with
    | some k, some q => some (k :: q)
    | _, _ => none
section
variable {K : PySem.W.Frag} {mg : Str → Option Value} {w : Wd} {v : V} {d : D}
theorem keyD_v (h : Look K mg w v d) {k : Key} (e : keyD d = some k) : v = kV k := by
  cases d with
  | int i => cases e; exact h.int
  | str x => cases e; exact h.str
  | _ => cases e
theorem keyD_den {k : Key} (h : Den K mg w v d) (e : keyD d = some k) : v = kV k := keyD_v (.inl h) e
theorem keysD_cons {r : List D} {q : List Key} (h : keysD (d :: r) = some q) : ∃ k q', keyD d = some k ∧ keysD r = some q' ∧ q = k :: q' := by
  unfold keysD at h
  cases h1 : keyD d with
  | none => rw [h1] at h; cases h
  | some p =>
    cases h2 : keysD r with
    | none => rw [h1, h2] at h; cases h
    | some q' => rw [h1, h2] at h; cases h; exact ⟨p, q', rfl, rfl, rfl⟩
theorem keysD_v : ∀ {vs : List V} {ds : List D} {ks : List Key}, Dens K mg w vs ds → keysD ds = some ks → vs = ks.map kV
  | _, _, ks, .nil, h => by cases h; rfl
  | _, _, ks, .cons h1 h2, h => by
    obtain ⟨k, q, e1, e2, rfl⟩ := keysD_cons h
    rw [List.map_cons, keyD_den h1 e1, keysD_v h2 e2]
/-- what a dict tells of a key, on both sides -/
theorem valD_den {κ : Type} [DecidableEq κ] (k : κ) : ∀ {ks : List (κ × V)} {ls : List (κ × D)}, ks.map (·.1) = ls.map (·.1) → Dens K mg w (ks.map (·.2)) (ls.map (·.2)) →
    (valD ls k = none ∧ valV ks k = none) ∨ ∃ d v, valD ls k = some d ∧ valV ks k = some v ∧ Den K mg w v d
  | [], [], _, _ => .inl ⟨rfl, rfl⟩
  | [], _ :: _, h, _ => by cases h
  | _ :: _, [], h, _ => by cases h
  | (a, x) :: ks, (b, y) :: ls, h, q => by
    rw [List.map_cons, List.map_cons] at h
    have h1 : a = b := (List.cons.inj h).1
    have h2 := (List.cons.inj h).2
    subst h1
    cases q with
    | cons q1 q2 =>
      by_cases e : a = k
      · refine .inr ⟨y, x, ?_, ?_, q1⟩
        · unfold valD; rw [List.find?_cons_of_pos (by simpa using e)]; rfl
        · unfold valV; rw [List.find?_cons_of_pos (by simpa using e)]; rfl
      · have z1 : valD ((a, y) :: ls) k = valD ls k := by unfold valD; rw [List.find?_cons_of_neg (by simpa using e)]
        have z2 : valV ((a, x) :: ks) k = valV ks k := by unfold valV; rw [List.find?_cons_of_neg (by simpa using e)]
        rw [z1, z2]
        exact valD_den k h2 q2
/-- a look into a dict: some (what stands there), none where the dict or the key is none of those told here -/
def dgetD (d y : D) : Option (Option D) := match d, y with
  | .dk ks, y => (keyD y).map fun k => valD ks k
  | .dt ks, .tup ys => (keysD ys).map fun k => valD ks k
  | _, _ => none
theorem dget_look {x y : V} {d d' : D} {r : Option D} (l : Look K mg w x d) (l' : Look K mg w y d') (h : dgetD d d' = some r) :
    ∃ a o, x = .ref a ∧ DGet w.H a y o ∧ ((r = none ∧ o = none) ∨ ∃ z v, r = some z ∧ o = some v ∧ Den K mg w v z) ∧ (∀ z v, o = some v → r = some z → Den K mg w v z) := by
  cases d with
  | dk ks =>
    unfold dgetD at h
    obtain ⟨k, hk, rfl⟩ := Option.map_eq_some_iff.mp h
    obtain ⟨a, kvs, rfl, h1, h2, h3⟩ := l.dk
    have ey := keyD_v l' hk
    subst ey
    refine ⟨a, valV kvs k, rfl, .inl ⟨kvs, k, h1, rfl, rfl⟩, ?_⟩
    rcases valD_den k h2 h3 with ⟨e1, e2⟩ | ⟨z, v, e1, e2, q⟩
    · rw [e1, e2]; exact ⟨.inl ⟨rfl, rfl⟩, fun z v h => by cases h⟩
    · rw [e1, e2]; exact ⟨.inr ⟨z, v, rfl, rfl, q⟩, fun z' v' h h' => by cases h; cases h'; exact q⟩
  | dt ks =>
    cases d' with
    | tup ys =>
      unfold dgetD at h
      obtain ⟨k, hk, rfl⟩ := Option.map_eq_some_iff.mp h
      obtain ⟨a, kvs, rfl, h1, h2, h3⟩ := l.dt
      obtain ⟨b, xs, rfl, h4, h5⟩ := l'.tup
      have ey := keysD_v h5 hk
      subst ey
      refine ⟨a, valV kvs k, rfl, .inr ⟨kvs, k, b, h1, rfl, h4, rfl⟩, ?_⟩
      rcases valD_den k h2 h3 with ⟨e1, e2⟩ | ⟨z, v, e1, e2, q⟩
      · rw [e1, e2]; exact ⟨.inl ⟨rfl, rfl⟩, fun z v h => by cases h⟩
      · rw [e1, e2]; exact ⟨.inr ⟨z, v, rfl, rfl, q⟩, fun z' v' h h' => by cases h; cases h'; exact q⟩
    | _ => unfold dgetD at h; cases h
  | _ => unfold dgetD at h; cases h
end

/-! ### comparisons -/
section
variable {X : Cx} {W : WX}
theorem goes_bl {K : PySem.W.Frag} {mg : Str → Option Value} {σ : St} {w : Wd} {e : En} {b : Bool} {Q : VK} (g : Goes K mg W σ (rD K mg σ) w (ret (D.bl b) e) Q) (rel : Rel K mg w e σ) : Q (.bl b) w.H := Goes.ok g rel (.bl b)
theorem keq_hits {pins : List (Addr × Obj)} {σ : St} {s : Shared} {w : Wd} {A : Around} {kl : List (Key × V)} {ls : List (Key × D)} {vb : List (Key × Value)} (I : Inv X pins σ w.H s) (hu : A.in1.units + 64 < cLine)
    (k1 : kl.map (·.1) = ls.map (·.1)) (k2 : Dens X.K X.mg w (kl.map (·.2)) (ls.map (·.2))) (rb : KV kl vb) :
    ∀ {ks : List (Key × D)} {ka : List (Key × V)} {va : List (Key × Value)} {r : Bool}, ka.map (·.1) = ks.map (·.1) → Dens X.K X.mg w (ka.map (·.2)) (ks.map (·.2)) → KV ka va → eqHits ls ks = some r → PySem.W.KeqHits A.in1 s vb va r
  | [], [], va, r, _, _, rv, h => by
    cases rv
    cases h
    exact .nil
  | [], _ :: _, _, _, e, _, _, _ => by cases e
  | _ :: _, [], _, _, e, _, _, _ => by cases e
  | (k, d) :: ks, (k', x) :: ka, va, r, e, q, rv, h => by
    rw [List.map_cons, List.map_cons] at e
    have e1 : k' = k := (List.cons.inj e).1
    have e2 := (List.cons.inj e).2
    subst e1
    cases rv with
    | @cons _ p _ vs hp ht =>
      obtain ⟨kk, u⟩ := p
      obtain ⟨hp1, hp2⟩ := hp
      have hp1 : k' = kk := hp1
      subst hp1
      cases q with
      | cons q1 q2 =>
        unfold eqHits at h
        have rr : RelO (valV kl k') (valueAt vb k') := rb.val k'
        rcases valD_den k' k1 k2 with ⟨z1, z2⟩ | ⟨d', y, z1, z2, q3⟩
        · rw [z1] at h
          cases h
          rw [z2] at rr
          refine .miss ?_
          cases hv : valueAt vb k' with
          | none => rfl
          | some _ => rw [hv] at rr; exact rr.elim
        · rw [z1] at h
          rw [z2] at rr
          obtain ⟨u', hu', ru⟩ := rr.some_of
          dsimp only at h
          cases hb : eqPO d d' with
          | none => rw [hb] at h; cases h
          | some b =>
            cases hc : eqHits ls ks with
            | none => rw [hb, hc] at h; cases h
            | some c =>
              rw [hb, hc] at h
              cases h
              refine .hit hu' ?_ (keq_hits I hu k1 k2 rb e2 q2 ht hc)
              unfold eqPO at hb
              cases hd : toP d with
              | none => rw [hd] at hb; cases hb
              | some p1 =>
                cases hd' : toP d' with
                | none => rw [hd, hd'] at hb; cases hb
                | some p2 =>
                  rw [hd, hd'] at hb
                  dsimp only at hb
                  split at hb
                  · rename_i hs
                    cases hb
                    obtain ⟨s1, s2⟩ := Bool.and_eq_true_iff.mp hs
                    obtain ⟨as, r1⟩ := Dp.reads I p1 x u (q1.dp hd) hp2
                    obtain ⟨bs, r2⟩ := Dp.reads I p2 y u' (q3.dp hd') ru
                    exact PySem.W.keq_at r1 r2 s1 s2 hu
                  · cases hb
theorem eqPO_of {d d' : D} {b : Bool} (h : eqPO d d' = some b) : ∃ p q, toP d = some p ∧ toP d' = some q ∧ SeqAt.shaped p = true ∧ SeqAt.shaped q = true ∧ b = PyData.eqv p q := by
  unfold eqPO at h
  cases h1 : toP d with
  | none => rw [h1] at h; cases h
  | some p =>
    cases h2 : toP d' with
    | none => rw [h1, h2] at h; cases h
    | some q =>
      rw [h1, h2] at h
      dsimp only at h
      split at h
      · rename_i hs
        cases h
        obtain ⟨s1, s2⟩ := Bool.and_eq_true_iff.mp hs
        exact ⟨p, q, rfl, rfl, s1, s2, rfl⟩
      · cases h
theorem eqO_cases {d d' : D} {b : Bool} (h : eqO d d' = some b) : (∃ ks ls, d = .dk ks ∧ d' = .dk ls ∧ (if ks.length = ls.length then eqHits ls ks else some false) = some b) ∨ eqPO d d' = some b := by
  unfold eqO at h
  split at h
  · exact .inl ⟨_, _, rfl, rfl, h⟩
  · exact .inr h
theorem ov_eq (hu : X.A.units + 100 < cLine) : OpV X W (compareOp .Eq) (cmpD .Eq) := by
  intro pins s σ H x y v u Q I rx ry h
  obtain ⟨w, e, σ', d, d', rfl, rel, l, l', g⟩ := h
  obtain ⟨z, hz, g⟩ := lift_of g
  obtain ⟨b, hb, rfl⟩ := Option.map_eq_some_iff.mp hz
  have q := goes_bl g rel
  rcases eqO_cases hb with ⟨ks, ls, rfl, rfl, hr⟩ | hr
  · obtain ⟨a, ka, rfl, h1, h2, h3⟩ := l.dk
    obtain ⟨b', kb, rfl, k1, k2, k3⟩ := l'.dk
    cases rx
    cases ry
    obtain ⟨_, ya, va, ra, da⟩ := dk_rd I.hok h1
    obtain ⟨_, yb, vb, rb, db⟩ := dk_rd I.hok k1
    have l1 : va.length = ks.length := by rw [← ra.length, ← List.length_map (f := fun x : Key × V => x.1), h2, List.length_map]
    have l2 : vb.length = ls.length := by rw [← rb.length, ← List.length_map (f := fun x : Key × V => x.1), k2, List.length_map]
    split at hr
    · rename_i hlen
      refine PySem.W.keq_eq (knd := mixKind X.prog X.w) (r := b) ya yb da db (by omega) (fun _ => keq_hits I (by show X.A.units + 1 + 64 < _; omega) k2 k3 rb h2 h3 ra hr) (fin_bl I q ?_)
      rw [l1, l2, hlen, beq_self_eq_true, Bool.true_and]
    · rename_i hlen
      cases hr
      have hn : va.length ≠ vb.length := by rw [l1, l2]; exact hlen
      refine PySem.W.keq_eq (knd := mixKind X.prog X.w) (r := false) ya yb da db (by omega) (fun z => absurd z hn) (fin_bl I q ?_)
      rw [Bool.and_false]
  · obtain ⟨p, q', h1, h2, s1, s2, rfl⟩ := eqPO_of hr
    exact op_eqD (by omega) pins s σ _ _ _ v u Q I rx ry ⟨p, q', l.dp h1, l'.dp h2, s1, s2, q⟩
theorem ov_ne (hu : X.A.units + 100 < cLine) : OpV X W (compareOp .NotEq) (cmpD .NotEq) := by
  intro pins s σ H x y v u Q I rx ry h
  obtain ⟨w, e, σ', d, d', rfl, rel, l, l', g⟩ := h
  obtain ⟨z, hz, g⟩ := lift_of g
  obtain ⟨b, hb, rfl⟩ := Option.map_eq_some_iff.mp hz
  have q := goes_bl g rel
  rcases eqO_cases hb with ⟨ks, ls, rfl, rfl, hr⟩ | hr
  · obtain ⟨a, ka, rfl, h1, h2, h3⟩ := l.dk
    obtain ⟨b', kb, rfl, k1, k2, k3⟩ := l'.dk
    cases rx
    cases ry
    obtain ⟨_, ya, va, ra, da⟩ := dk_rd I.hok h1
    obtain ⟨_, yb, vb, rb, db⟩ := dk_rd I.hok k1
    have l1 : va.length = ks.length := by rw [← ra.length, ← List.length_map (f := fun x : Key × V => x.1), h2, List.length_map]
    have l2 : vb.length = ls.length := by rw [← rb.length, ← List.length_map (f := fun x : Key × V => x.1), k2, List.length_map]
    split at hr
    · rename_i hlen
      refine PySem.W.keq_ne (knd := mixKind X.prog X.w) (r := b) ya yb da db (by omega) (fun _ => keq_hits I (by show X.A.units + 1 + 64 < _; omega) k2 k3 rb h2 h3 ra hr) (fin_bl I q ?_)
      rw [l1, l2, hlen, beq_self_eq_true, Bool.true_and]
    · rename_i hlen
      cases hr
      have hn : va.length ≠ vb.length := by rw [l1, l2]; exact hlen
      refine PySem.W.keq_ne (knd := mixKind X.prog X.w) (r := false) ya yb da db (by omega) (fun z => absurd z hn) (fin_bl I q ?_)
      rw [Bool.and_false]
  · obtain ⟨p, q', h1, h2, s1, s2, rfl⟩ := eqPO_of hr
    exact op_neD (by omega) pins s σ _ _ _ v u Q I rx ry ⟨p, q', l.dp h1, l'.dp h2, s1, s2, q⟩
theorem ov_lt : OpV X W (compareOp .Lt) (cmpD .Lt) := by
  intro pins s σ H x y v u Q I rx ry h
  obtain ⟨w, e, σ', d, d', rfl, rel, l, l', g⟩ := h
  unfold cmpD at g
  dsimp only at g
  split at g
  · obtain rfl := l.int
    obtain rfl := l'.int
    exact op_lt pins s σ _ _ _ v u Q I rx ry ⟨_, _, rfl, rfl, goes_bl g rel⟩
  · obtain rfl := l.str
    obtain rfl := l'.str
    exact op_lt_str pins s σ _ _ _ v u Q I rx ry ⟨_, _, rfl, rfl, goes_bl g rel⟩
  · exact g.elim
theorem ov_le : OpV X W (compareOp .LtE) (cmpD .LtE) := by
  intro pins s σ H x y v u Q I rx ry h
  obtain ⟨w, e, σ', d, d', rfl, rel, l, l', g⟩ := h
  unfold cmpD at g
  dsimp only at g
  split at g
  · obtain rfl := l.int
    obtain rfl := l'.int
    exact op_le pins s σ _ _ _ v u Q I rx ry ⟨_, _, rfl, rfl, goes_bl g rel⟩
  · exact g.elim
theorem ov_gt : OpV X W (compareOp .Gt) (cmpD .Gt) := by
  intro pins s σ H x y v u Q I rx ry h
  obtain ⟨w, e, σ', d, d', rfl, rel, l, l', g⟩ := h
  unfold cmpD at g
  dsimp only at g
  split at g
  · obtain rfl := l.int
    obtain rfl := l'.int
    exact op_gt pins s σ _ _ _ v u Q I rx ry ⟨_, _, rfl, rfl, goes_bl g rel⟩
  · exact g.elim
theorem ov_ge : OpV X W (compareOp .GtE) (cmpD .GtE) := by
  intro pins s σ H x y v u Q I rx ry h
  obtain ⟨w, e, σ', d, d', rfl, rel, l, l', g⟩ := h
  unfold cmpD at g
  dsimp only at g
  split at g
  · obtain rfl := l.int
    obtain rfl := l'.int
    exact op_ge pins s σ _ _ _ v u Q I rx ry ⟨_, _, rfl, rfl, goes_bl g rel⟩
  · exact g.elim
theorem look_non {w : Wd} {v : V} {d : D} (l : Look X.K X.mg w v d) : (d = .non ∧ v = .non) ∨ (d ≠ .non ∧ v ≠ .non) := by
  rcases l with l | ⟨a, rfl, _, t⟩
  · cases l <;> first | exact .inl ⟨rfl, rfl⟩ | exact .inr ⟨(fun z => by cases z), fun z => by cases z⟩
  · refine .inr ⟨fun z => ?_, fun z => by cases z⟩
    subst z
    exact t.elim
theorem ov_is : OpV X W (compareOp .Is) (cmpD .Is) := by
  intro pins s σ H x y v u Q I rx ry h
  obtain ⟨w, e, σ', d, d', rfl, rel, l, l', g⟩ := h
  unfold cmpD at g
  dsimp only at g
  split at g
  · obtain rfl := l.non
    obtain rfl := l'.non
    exact op_isN pins s σ _ _ _ v u Q I rx ry ⟨rfl, goes_bl g rel⟩
  · rename_i hn
    obtain rfl := l'.non
    rcases look_non l with ⟨e1, _⟩ | ⟨_, e1⟩
    · exact (hn e1).elim
    · refine op_isN pins s σ _ _ _ v u Q I rx ry ⟨rfl, ?_⟩
      rw [decide_eq_false e1]
      exact goes_bl g rel
  · exact g.elim
theorem ov_isn : OpV X W (compareOp .IsNot) (cmpD .IsNot) := by
  intro pins s σ H x y v u Q I rx ry h
  obtain ⟨w, e, σ', d, d', rfl, rel, l, l', g⟩ := h
  unfold cmpD at g
  dsimp only at g
  split at g
  · obtain rfl := l.non
    obtain rfl := l'.non
    exact op_notN pins s σ _ _ _ v u Q I rx ry ⟨rfl, goes_bl g rel⟩
  · rename_i hn
    obtain rfl := l'.non
    rcases look_non l with ⟨e1, _⟩ | ⟨_, e1⟩
    · exact (hn e1).elim
    · refine op_notN pins s σ _ _ _ v u Q I rx ry ⟨rfl, ?_⟩
      rw [decide_eq_false e1]
      exact goes_bl g rel
  · exact g.elim

/-! ### in -/
def inSeq (x : D) (ds : List D) (dp : List PyData → PyData) : Option Bool := match toP x, toPs ds with
  | some p, some ps => if shp p && shp (dp ps) then some (ps.any fun z => PyData.eqv z p) else none
  | _, _ => none
def inO (x y : D) : Option Bool := match y with
  | .lst ds => inSeq x ds .list
  | .tup ds => inSeq x ds .tuple
  | .ktu ds => inSeq x ds .tuple
  | .str z => match x with
    | .str c => some (!(Builtin.Str.occurrences z c 0 z.length 1).isEmpty)
    | _ => none
  | y => (dgetD y x).map (·.isSome)
def inD (x y : D) : M D := lift ((inO x y).map .bl)
def ninD (x y : D) : M D := lift ((inO x y).map fun b => .bl (!b))
theorem inSeq_of {x : D} {ds : List D} {f : List PyData → PyData} {b : Bool} (h : inSeq x ds f = some b) : ∃ p ps, toP x = some p ∧ toPs ds = some ps ∧ SeqAt.shaped p = true ∧ SeqAt.shaped (f ps) = true ∧ b = ps.any fun z => PyData.eqv z p := by
  unfold inSeq at h
  cases h1 : toP x with
  | none => rw [h1] at h; cases h
  | some p =>
    cases h2 : toPs ds with
    | none => rw [h1, h2] at h; cases h
    | some q =>
      rw [h1, h2] at h
      dsimp only at h
      split at h
      · rename_i hs
        cases h
        obtain ⟨s1, s2⟩ := Bool.and_eq_true_iff.mp hs
        exact ⟨p, q, rfl, rfl, s1, s2, rfl⟩
      · cases h
theorem Look.dpt {K : PySem.W.Frag} {mg : Str → Option Value} {w : Wd} {v : V} {ds : List D} {ps : List PyData} (l : Look K mg w v (.tup ds)) (h : toPs ds = some ps) : Dp K w.H v (.tuple ps) := l.dp (by unfold toP; rw [h]; rfl)
theorem Look.dpk {K : PySem.W.Frag} {mg : Str → Option Value} {w : Wd} {v : V} {ds : List D} {ps : List PyData} (l : Look K mg w v (.ktu ds)) (h : toPs ds = some ps) : Dp K w.H v (.tuple ps) := l.dp (by unfold toP; rw [h]; rfl)
theorem Look.dpl {K : PySem.W.Frag} {mg : Str → Option Value} {w : Wd} {v : V} {ds : List D} {ps : List PyData} (l : Look K mg w v (.lst ds)) (h : toPs ds = some ps) : Dp K w.H v (.list ps) := l.dp (by unfold toP; rw [h]; rfl)
theorem in_cases {pins : List (Addr × Obj)} {s : Shared} {σ : St} {w : Wd} {x y : V} {v u : Value} {d d' : D} {b : Bool} (hu : X.A.units + 100 < cLine) (I : Inv X pins σ w.H s) (rx : RelV x v) (ry : RelV y u) (l : Look X.K X.mg w x d) (l' : Look X.K X.mg w y d') (h : inO d d' = some b) (neg : Bool)
    {Q : VK} (q : Q (.bl (if neg then !b else b)) w.H) : wpAny (model X.prog X.w) X.A (compareOp (if neg then .NotIn else .In) v u) (EP X pins σ Q) X.xe s := by
  have dict : ∀ r : Option D, dgetD d' d = some r → b = r.isSome → wpAny (model X.prog X.w) X.A (compareOp (if neg then .NotIn else .In) v u) (EP X pins σ Q) X.xe s := fun r hr hb => by
    obtain ⟨a, o, rfl, hg, ho, _⟩ := dget_look l' l hr
    have e : o.isSome = b := by
      rw [hb]
      rcases ho with ⟨rfl, rfl⟩ | ⟨z, v', rfl, rfl, _⟩ <;> rfl
    cases ry
    cases neg with
    | true => exact d_notIn (by omega) I hg rx fun s3 I3 => ⟨.bl (!o.isSome), w.H, I3, rfl, by rw [e]; exact q⟩
    | false => exact d_in (by omega) I hg rx fun s3 I3 => ⟨.bl o.isSome, w.H, I3, rfl, by rw [e]; exact q⟩
  cases d' with
  | lst ds =>
    obtain ⟨p, ps, h1, h2, s1, s2, rfl⟩ := inSeq_of h
    cases neg with
    | true => exact op_notInD (by omega) pins s σ _ _ _ v u Q I rx ry ⟨p, ps, l.dp h1, l'.dpl h2, s1, s2, q⟩
    | false => exact op_inD (by omega) pins s σ _ _ _ v u Q I rx ry ⟨p, ps, l.dp h1, l'.dpl h2, s1, s2, q⟩
  | tup ds =>
    obtain ⟨p, ps, h1, h2, s1, s2, rfl⟩ := inSeq_of h
    obtain ⟨as, r1⟩ := Dp.reads I p x v (l.dp h1) rx
    obtain ⟨bs, r2⟩ := Dp.reads I (.tuple ps) y u (l'.dpt h2) ry
    cases neg with
    | true => exact SeqAt.notIn_tuple_reads r2 r1 (SeqAt.canLay_of_shaped s2) (SeqAt.canLay_of_shaped s1) (room_in_shaped s1 (by omega)) ⟨.bl _, w.H, I, rfl, q⟩
    | false => exact SeqAt.in_tuple_reads r2 r1 (SeqAt.canLay_of_shaped s2) (SeqAt.canLay_of_shaped s1) (room_in_shaped s1 (by omega)) ⟨.bl _, w.H, I, rfl, q⟩
  | ktu ds =>
    obtain ⟨p, ps, h1, h2, s1, s2, rfl⟩ := inSeq_of h
    obtain ⟨as, r1⟩ := Dp.reads I p x v (l.dp h1) rx
    obtain ⟨bs, r2⟩ := Dp.reads I (.tuple ps) y u (l'.dpk h2) ry
    cases neg with
    | true => exact SeqAt.notIn_tuple_reads r2 r1 (SeqAt.canLay_of_shaped s2) (SeqAt.canLay_of_shaped s1) (room_in_shaped s1 (by omega)) ⟨.bl _, w.H, I, rfl, q⟩
    | false => exact SeqAt.in_tuple_reads r2 r1 (SeqAt.canLay_of_shaped s2) (SeqAt.canLay_of_shaped s1) (room_in_shaped s1 (by omega)) ⟨.bl _, w.H, I, rfl, q⟩
  | str z =>
    cases d with
    | str c =>
      cases h
      obtain rfl := l.str
      obtain rfl := l'.str
      cases neg with
      | true => exact op_notIn_str pins s σ _ _ _ v u Q I rx ry ⟨_, _, rfl, rfl, q⟩
      | false => exact op_in_str pins s σ _ _ _ v u Q I rx ry ⟨_, _, rfl, rfl, q⟩
    | _ => cases h
  | dk ks =>
    obtain ⟨r, hr, hb⟩ := Option.map_eq_some_iff.mp (show (dgetD (.dk ks) d).map (·.isSome) = some b from h)
    exact dict r hr hb.symm
  | dt ks =>
    obtain ⟨r, hr, hb⟩ := Option.map_eq_some_iff.mp (show (dgetD (.dt ks) d).map (·.isSome) = some b from h)
    exact dict r hr hb.symm
  | _ => cases h
theorem ov_in (hu : X.A.units + 100 < cLine) : OpV X W (compareOp .In) inD := by
  intro pins s σ H x y v u Q I rx ry h
  obtain ⟨w, e, σ', d, d', rfl, rel, l, l', g⟩ := h
  obtain ⟨z, hz, g⟩ := lift_of g
  obtain ⟨b, hb, rfl⟩ := Option.map_eq_some_iff.mp hz
  exact in_cases hu I rx ry l l' hb false (goes_bl g rel)
theorem ov_nin (hu : X.A.units + 100 < cLine) : OpV X W (compareOp .NotIn) ninD := by
  intro pins s σ H x y v u Q I rx ry h
  obtain ⟨w, e, σ', d, d', rfl, rel, l, l', g⟩ := h
  obtain ⟨z, hz, g⟩ := lift_of g
  obtain ⟨b, hb, rfl⟩ := Option.map_eq_some_iff.mp hz
  exact in_cases hu I rx ry l l' hb true (goes_bl g rel)
end
end VL
namespace VL
open PySem PySem.Spec PyProof.Rows L2
variable [Tb]
section
variable {K : PySem.W.Frag} {mg : Str → Option Value} {W : WX} {σ : St} {w w' : Wd} {e : En}
/-- as goes_bind, at a result -/
theorem goes_then {α β γ δ : Type} {ρ1 : Wd → Wd → En → β → α → Prop} {ρ2 : Wd → Wd → En → δ → γ → Prop} [hS : Stb ρ2] {r : R α} {g : α → M γ} {Q : δ → Hp → Prop} (h : Goes K mg W σ ρ2 w (r.bind g) Q) :
    Goes K mg W σ ρ1 w r (fun v H1 => ∃ w' e' d, w'.H = H1 ∧ Step w w' ∧ Rel K mg w' e' σ ∧ ρ1 w w' e' v d ∧ Goes K mg W σ ρ2 w' (g d e') Q) := by
  cases r with
  | ok d e1 => exact fun w' v s r q => ⟨w', e1, d, rfl, s, r, q, Goes.step s h⟩
  | ex x e1 => exact h
  | no => exact h
end
def asB : D → M Bool
  | .bl b => ret b
  | _ => nope
def ifM {α : Type} (c : Bool) (a b : M α) : M α := match c with
  | true => a
  | false => b
section
variable {X : Cx} {W : WX}
theorem tr_test {f : M D} {σ : St} {H : Hp} {Q : Bool → Hp → Prop} (h : tR X.K X.mg W rT (bnd f asB) σ H Q) : tR X.K X.mg W (rD X.K X.mg) f σ H fun x H' => ∃ k, x = .bl k ∧ Q k H' := by
  obtain ⟨w, e, hw, rel, g⟩ := h
  subst hw
  refine tR_mono (goes_bind (ρ1 := rD X.K X.mg) rel g) fun v H1 ⟨w1, e1, d, h1, s, r1, q, g1⟩ => ?_
  subst h1
  cases d with
  | bl b =>
    cases q
    exact ⟨b, rfl, Goes.ok g1 r1 rfl⟩
  | _ => exact g1.elim
abbrev VW (X : Cx) (W : WX) (e : Expr) (f : M Bool) : Prop := PW X e (tR X.K X.mg W rT f)
/-! ### tests -/
theorem vt_cmp {op : CmpOp} {a b : Expr} {fa fb : M Op} {pos : Pos} {g : D → D → M D} (ho : OpV X W (compareOp op) g) (ha : VB X W a fa) (hb : VB X W b fb) (hm : behindInMarks op b = false := by first | exact nomark _ | rfl) : VT X W (.Compare a [op] [b] pos) (bnd (op2 fa fb g) asB) :=
  PT.imp (pt_cmpR ho ha hb hm) fun σ H Q h => imp2 (r := rOp X W g) (fun w e σ x y d d' Q r l l' g => ⟨w, e, σ, d, d', rfl, r, l, l', g⟩) (tr_test h)
def truthD : D → Option Bool
  | .non => some false
  | .bl b => some b
  | .int i => some (i != 0)
  | .str x => if x.length ≤ line then some ((x.length : Int) != 0) else none
  | .lst xs => some !xs.isEmpty
  | .tup xs => some !xs.isEmpty
  | .ktu xs => some !xs.isEmpty
  | .dk ks => some !ks.isEmpty
  | _ => none
theorem isEmpty_len {α β : Type} {xs : List α} {ys : List β} (h : xs.length = ys.length) : xs.isEmpty = ys.isEmpty := by
  cases xs <;> cases ys <;> first | rfl | (simp at h)
def rTru (X : Cx) (W : WX) : V → Hp → (Bool → Hp → Prop) → Prop := fun x H Q => ∃ w e σ d, w.H = H ∧ Rel X.K X.mg w e σ ∧ Look X.K X.mg w x d ∧ Goes X.K X.mg W σ (rT σ) w (lift (truthD d) e) Q
theorem tru_v : TruR X (rTru X W) := by
  intro pins s σ H x v Q I rx h
  obtain ⟨w, e, σ', d, rfl, rel, l, g⟩ := h
  obtain ⟨b, hb, g⟩ := lift_of g
  have q : Q b w.H := Goes.ok g rel rfl
  cases d with
  | non => cases hb; obtain rfl := l.non; exact tru_ok pins s σ _ _ v Q I rx ⟨false, rfl, q⟩
  | bl b' => cases hb; obtain rfl := l.bl; exact tru_ok pins s σ _ _ v Q I rx ⟨_, rfl, q⟩
  | int i => cases hb; obtain rfl := l.int; exact tru_ok pins s σ _ _ v Q I rx ⟨_, rfl, q⟩
  | str z =>
    have hb : (if z.length ≤ line then some ((z.length : Int) != 0) else none) = some b := hb
    split at hb
    · rename_i hz
      cases hb
      obtain rfl := l.str
      exact tru_ok pins s σ _ _ v Q I rx ⟨_, ⟨by rw [line_eq]; exact hz, rfl⟩, q⟩
    · cases hb
  | lst ds =>
    cases hb
    obtain ⟨a, xs, rfl, h1, h2⟩ := l.lst
    exact tru_ok pins s σ _ _ v Q I rx ⟨_, .inl ⟨xs, SqL.of h1, by rw [isEmpty_len h2.length]⟩, q⟩
  | tup ds =>
    cases hb
    obtain ⟨a, xs, rfl, h1, h2⟩ := l.tup
    exact tru_ok pins s σ _ _ v Q I rx ⟨_, .inr (.inl ⟨xs, h1.sq, by rw [isEmpty_len h2.length]⟩), q⟩
  | ktu ds =>
    cases hb
    obtain ⟨a, xs, rfl, h1, h2⟩ := l.ktu
    exact tru_ok pins s σ _ _ v Q I rx ⟨_, .inr (.inl ⟨xs, h1.sq, by rw [isEmpty_len h2.length]⟩), q⟩
  | dk ks =>
    cases hb
    obtain ⟨a, kvs, rfl, h1, h2, h3⟩ := l.dk
    cases rx
    have hl : kvs.length = ks.length := by rw [← List.length_map (f := fun x : Key × V => x.1), h2, List.length_map]
    exact d_truth I h1 fun s' I' => ⟨w.H, I', by rw [isEmpty_len hl]; exact q⟩
  | _ => cases hb
theorem vt_truth {a : Expr} {f : M Op} (ha : VB X W a f) (he : ∀ whole, isTrue a X.env whole = (do let v ← whole; standAt a.pos; holding [v] (truthy v)) := by intro _; rfl) : VT X W a (op1 f fun d => lift (truthD d)) :=
  ⟨fun pins s σ H Q I h => isTrue_plain (thn (ha.run pins s σ H _ I (imp1 (r := rTru X W) (fun w e σ x d Q r l g => ⟨w, e, σ, d, rfl, r, l, g⟩) h)) fun v s1 ⟨x, H1, I1, r1, q1⟩ => tru_v pins s1 σ H1 x v Q I1 r1 q1) (he _)⟩
/-- and, or, not -/
def andT (fa fb : M Bool) : M Bool := bnd fa fun b => ifM b fb (ret false)
def orT (fa fb : M Bool) : M Bool := bnd fa fun b => ifM b (ret true) fb
def notT (fa : M Bool) : M Bool := bnd fa fun b => ret (!b)
variable {a b : Expr} {rest : List Expr} {fa fb : M Bool} {pos : Pos}
theorem vw_and1 (ha : VT X W a fa) : VW X W (.BoolOp .And [a] pos) fa := pw_and1 ha
theorem vw_or1 (ha : VT X W a fa) : VW X W (.BoolOp .Or [a] pos) fa := pw_or1 ha
theorem vw_and (ha : VT X W a fa) (hb : VW X W (.BoolOp .And (b :: rest) pos) fb) : VW X W (.BoolOp .And (a :: b :: rest) pos) (andT fa fb) :=
  PW.imp (pw_and ha hb) fun σ H Q ⟨w, e, hw, rel, g⟩ => by
    subst hw
    refine tR_mono (goes_bind (ρ1 := rT) rel g) fun v H1 ⟨w1, e1, d, h1, s, r1, q, g1⟩ => ?_
    subst h1
    have q : v = d := q
    subst q
    cases v with
    | true => exact iteT ⟨w1, e1, rfl, r1, g1⟩
    | false => exact iteF (Goes.ok g1 r1 rfl)
theorem vw_or (ha : VT X W a fa) (hb : VW X W (.BoolOp .Or (b :: rest) pos) fb) : VW X W (.BoolOp .Or (a :: b :: rest) pos) (orT fa fb) :=
  PW.imp (pw_or ha hb) fun σ H Q ⟨w, e, hw, rel, g⟩ => by
    subst hw
    refine tR_mono (goes_bind (ρ1 := rT) rel g) fun v H1 ⟨w1, e1, d, h1, s, r1, q, g1⟩ => ?_
    subst h1
    have q : v = d := q
    subst q
    cases v with
    | true => exact iteT (Goes.ok g1 r1 rfl)
    | false => exact iteF ⟨w1, e1, rfl, r1, g1⟩
theorem vt_w {e : Expr} {f : M Bool} (h : VW X W e f) : VT X W e f := PW.pt h
theorem vt_not (ha : VT X W a fa) : VT X W (.UnaryOp .Not a pos) (notT fa) :=
  PT.imp (pt_not ha) fun σ H Q ⟨w, e, hw, rel, g⟩ => by
    subst hw
    refine tR_mono (goes_bind (ρ1 := rT) rel g) fun v H1 ⟨w1, e1, d, h1, s, r1, q, g1⟩ => ?_
    subst h1
    have q : v = d := q
    subst q
    exact Goes.ok g1 r1 rfl
/-- as values -/
def andV (fa fb : M D) : M D := bnd fa fun d => bnd (asB d) fun b => ifM b fb (ret (.bl false))
def orV (fa fb : M D) : M D := bnd fa fun d => bnd (asB d) fun b => ifM b (ret (.bl true)) fb
def notV (fa : M D) : M D := bnd fa fun d => bnd (asB d) fun b => ret (.bl (!b))
theorem asB_of {K : PySem.W.Frag} {mg : Str → Option Value} {σ : St} {w : Wd} {e : En} {α β : Type} {ρ : Wd → Wd → En → β → α → Prop} {d : D} {g : Bool → M α} {Q : β → Hp → Prop} (h : Goes K mg W σ ρ w (bnd (asB d) g e) Q) : ∃ b, d = .bl b ∧ Goes K mg W σ ρ w (g b e) Q := by
  cases d with
  | bl b => exact ⟨b, rfl, h⟩
  | _ => exact h.elim
variable {ga gb : M D}
theorem ve_and1 (ha : VE X W a ga) : VE X W (.BoolOp .And [a] pos) ga := pe_one ha
theorem ve_or1 (ha : VE X W a ga) : VE X W (.BoolOp .Or [a] pos) ga := pe_one ha
theorem ve_and (ha : VE X W a ga) (hb : VE X W (.BoolOp .And (b :: rest) pos) gb) : VE X W (.BoolOp .And (a :: b :: rest) pos) (andV ga gb) :=
  PE.imp (pe_and ha hb) fun σ H Q ⟨w, e, hw, rel, g⟩ => by
    subst hw
    refine tR_mono (goes_bind (ρ1 := rD X.K X.mg) rel g) fun v H1 ⟨w1, e1, d, h1, s, r1, q, g1⟩ => ?_
    subst h1
    obtain ⟨c, rfl, g2⟩ := asB_of g1
    cases q
    cases c with
    | true => exact ⟨true, rfl, iteT ⟨w1, e1, rfl, r1, g2⟩⟩
    | false => exact ⟨false, rfl, iteF (Goes.ok g2 r1 (.bl _))⟩
theorem ve_or (ha : VE X W a ga) (hb : VE X W (.BoolOp .Or (b :: rest) pos) gb) : VE X W (.BoolOp .Or (a :: b :: rest) pos) (orV ga gb) :=
  PE.imp (pe_or ha hb) fun σ H Q ⟨w, e, hw, rel, g⟩ => by
    subst hw
    refine tR_mono (goes_bind (ρ1 := rD X.K X.mg) rel g) fun v H1 ⟨w1, e1, d, h1, s, r1, q, g1⟩ => ?_
    subst h1
    obtain ⟨c, rfl, g2⟩ := asB_of g1
    cases q
    cases c with
    | true => exact ⟨true, rfl, iteT (Goes.ok g2 r1 (.bl _))⟩
    | false => exact ⟨false, rfl, iteF ⟨w1, e1, rfl, r1, g2⟩⟩
theorem ve_not (ha : VE X W a ga) : VE X W (.UnaryOp .Not a pos) (notV ga) :=
  PE.imp (pe_not ha) fun σ H Q ⟨w, e, hw, rel, g⟩ => by
    subst hw
    refine tR_mono (goes_bind (ρ1 := rD X.K X.mg) rel g) fun v H1 ⟨w1, e1, d, h1, s, r1, q, g1⟩ => ?_
    subst h1
    obtain ⟨c, rfl, g2⟩ := asB_of g1
    cases q
    exact ⟨c, rfl, Goes.ok g2 r1 (.bl _)⟩
def ifE {α : Type} (fc : M Bool) (ga gb : M α) : M α := bnd fc fun b => ifM b ga gb
theorem ve_if {c : Expr} {fc : M Bool} (hc : VT X W c fc) (ha : VE X W a ga) (hb : VE X W b gb) : VE X W (.IfExp c a b pos) (ifE fc ga gb) :=
  PE.imp (pe_ifExp hc ha hb) fun σ H Q ⟨w, e, hw, rel, g⟩ => by
    subst hw
    refine tR_mono (goes_bind (ρ1 := rT) rel g) fun v H1 ⟨w1, e1, d, h1, s, r1, q, g1⟩ => ?_
    subst h1
    have q : v = d := q
    subst q
    cases v with
    | true => exact iteT ⟨w1, e1, rfl, r1, g1⟩
    | false => exact iteF ⟨w1, e1, rfl, r1, g1⟩
/-! ### a op b op' c -/
def chain (fa fb fc : M Op) (g g' : D → D → M D) : M D := bnd fa fun o => bnd fb fun o' => bnd (getO o) fun x => bnd (getO o') fun y => bnd (g x y) fun z => bnd (asB z) fun k =>
  ifM k (bnd fc fun o'' => bnd (getO o') fun y => bnd (getO o'') fun z => g' y z) (ret (.bl false))
variable {c : Expr} {op op' : CmpOp} {ha' hb' hc' : M Op} {g1 g2 : D → D → M D}
theorem chain_imp {σ : St} {H : Hp} {Q : VK} (h : tR X.K X.mg W (rD X.K X.mg) (chain ha' hb' hc' g1 g2) σ H Q) : tChain (rOp X W g1) (rOp X W g2) (tR X.K X.mg W (rB X.K X.mg) ha') (tR X.K X.mg W (rB X.K X.mg) hb') (tR X.K X.mg W (rB X.K X.mg) hc') σ H Q := by
  obtain ⟨w, e, hw, rel, g⟩ := h
  subst hw
  refine tR_mono (goes_bind (ρ1 := rB X.K X.mg) rel g) fun v H1 ⟨w1, e1, o, h1, s, r1, q, g⟩ => ?_
  subst h1
  refine tR_mono (goes_bind (ρ1 := rB X.K X.mg) r1 g) fun v2 H2 ⟨w2, e2, o2, h2, s2, r2, q2, g⟩ => ?_
  subst h2
  obtain ⟨d, l, g⟩ := look_of s2 r1.wf r2 q g
  obtain ⟨d', l', g⟩ := look_of (Step.refl w2) r2.wf r2 q2 g
  refine ⟨w2, e2, σ, d, d', rfl, r2, l, l', ?_⟩
  refine Goes.mono (goes_then (ρ1 := rD X.K X.mg σ) g) fun v3 H3 ⟨w3, e3, z, h3, s3, r3, q3, g⟩ => ?_
  subst h3
  obtain ⟨k, rfl, g⟩ := asB_of g
  cases q3
  refine ⟨k, rfl, ?_⟩
  cases k with
  | false => exact iteF (Goes.ok g r3 (.bl _))
  | true =>
    refine iteT (tR_mono (goes_bind (ρ1 := rB X.K X.mg) r3 g) fun v4 H4 ⟨w4, e4, o4, h4, s4, r4, q4, g⟩ => ?_)
    subst h4
    obtain ⟨d5, l5, g⟩ := look_of (s3.trans s4) r2.wf r4 q2 g
    obtain ⟨d6, l6, g⟩ := look_of (Step.refl w4) r4.wf r4 q4 g
    exact ⟨w4, e4, σ, d5, d6, rfl, r4, l5, l6, g⟩
theorem ve_chain (ho : OpV X W (compareOp op) g1) (ho' : OpV X W (compareOp op') g2) (ha : VB X W a ha') (hb : VB X W b hb') (hc : VB X W c hc') (hm : lastMarks [op, op'] [b, c] = false := by with_unfolding_all rfl) : VE X W (.Compare a [op, op'] [b, c] pos) (chain ha' hb' hc' g1 g2) :=
  PE.imp (pe_chain ho ho' ha hb hc hm) fun σ H Q h => chain_imp h
theorem vt_chain (ho : OpV X W (compareOp op) g1) (ho' : OpV X W (compareOp op') g2) (ha : VB X W a ha') (hb : VB X W b hb') (hc : VB X W c hc') (hm : lastMarks [op, op'] [b, c] = false := by with_unfolding_all rfl) : VT X W (.Compare a [op, op'] [b, c] pos) (bnd (chain ha' hb' hc' g1 g2) asB) :=
  PT.imp (pt_chain ho ho' ha hb hc hm) fun σ H Q h => chain_imp (tr_test h)
/-! ### subscripts -/
theorem Dens.atI {K : PySem.W.Frag} {mg : Str → Option Value} {w : Wd} {vs : List V} {ds : List D} (h : Dens K mg w vs ds) {i : Int} {d : D} (e : L2.atI ds i = some d) : ∃ v, L2.atI vs i = some v ∧ Den K mg w v d := by
  unfold L2.atI at e ⊢
  rw [h.length]
  obtain ⟨j, h1, h2⟩ := Option.bind_eq_some_iff.mp e
  obtain ⟨v, h3, h4⟩ := h.get' h2
  exact ⟨v, by rw [h1]; exact h3, h4⟩
def ixD : D → D → M D
  | .lst ds, .int i => lift (L2.atI ds i)
  | .tup ds, .int i => lift (L2.atI ds i)
  | .ktu ds, .int i => lift (L2.atI ds i)
  | .frl ds, .int i => lift (L2.atI ds i)
  | .str z, .int i => chk (decide (z.length ≤ line)) (lift ((L2.atI z.cps.toList i).map fun c => .str ⟨#[c]⟩))
  | d, y => lift ((dgetD d y).bind id)
theorem ix_v (hu : X.A.units + 100 < cLine) : IxR X (rOp X W ixD) := by
  intro value slice pins s σ H x y v u Q I rx ry h hs
  obtain ⟨w, e, σ', d, d', rfl, rel, l, l', g⟩ := h
  unfold ixD at g
  split at g
  · obtain ⟨z, hz, g⟩ := lift_of g
    obtain ⟨a, xs, rfl, h1, h2⟩ := l.lst
    obtain rfl := l'.int
    obtain ⟨v', e1, e2⟩ := h2.atI hz
    exact ix_list value slice pins s σ _ _ _ v u Q I rx ry ⟨a, xs, _, v', rfl, rfl, SqL.of h1, e1, g.ok rel e2⟩ hs
  · obtain ⟨z, hz, g⟩ := lift_of g
    obtain ⟨a, xs, rfl, h1, h2⟩ := l.tup
    obtain rfl := l'.int
    obtain ⟨v', e1, e2⟩ := h2.atI hz
    exact ix_tup value slice pins s σ _ _ _ v u Q I rx ry ⟨a, xs, _, v', rfl, rfl, h1.sq, e1, g.ok rel e2⟩ hs
  · obtain ⟨z, hz, g⟩ := lift_of g
    obtain ⟨a, xs, rfl, h1, h2⟩ := l.ktu
    obtain rfl := l'.int
    obtain ⟨v', e1, e2⟩ := h2.atI hz
    exact ix_tup value slice pins s σ _ _ _ v u Q I rx ry ⟨a, xs, _, v', rfl, rfl, h1.sq, e1, g.ok rel e2⟩ hs
  · obtain ⟨z, hz, g⟩ := lift_of g
    obtain ⟨a, xs, rfl, h1, h2⟩ := l.frl
    obtain rfl := l'.int
    obtain ⟨v', e1, e2⟩ := h2.atI hz
    exact ix_list value slice pins s σ _ _ _ v u Q I rx ry ⟨a, xs, _, v', rfl, rfl, .inl h1, e1, g.ok rel e2⟩ hs
  · obtain ⟨hc, g⟩ := chk_of g
    obtain ⟨z, hz, g⟩ := lift_of g
    obtain ⟨c, h1, rfl⟩ := Option.map_eq_some_iff.mp hz
    obtain rfl := l.str
    obtain rfl := l'.int
    exact ix_str value slice pins s σ _ _ _ v u Q I rx ry ⟨_, _, c, rfl, rfl, by rw [line_eq]; exact of_decide_eq_true hc, h1, g.ok rel (.str _)⟩ hs
  · obtain ⟨z, hz, g⟩ := lift_of g
    obtain ⟨r, h1, h2⟩ := Option.bind_eq_some_iff.mp hz
    have h2 : r = some z := h2
    subst h2
    obtain ⟨a, o, rfl, hg, ho, _⟩ := dget_look l l' h1
    rcases ho with ⟨z0, _⟩ | ⟨z', v', e1, e2, q⟩
    · cases z0
    · cases e1
      subst e2
      cases rx
      exact tail_any (dict_typeIs I hg) PySem.F.slot_dict_getitem.lookup (d_getItem (by omega) I hg ry fun w' s' I' r' => ⟨v', w.H, I', r', g.ok rel q⟩) hs
variable {o1 o2 : M Op}
theorem ve_sub (hu : X.A.units + 100 < cLine) (ha : VB X W a o1) (hb : VB X W b o2) (hs : PlainIx b := by intro _ _; rfl) : VE X W (.Subscript a b pos) (op2 o1 o2 ixD) :=
  PE.imp (pe_ix (ix_v hu) ha hb hs) fun σ H Q h => imp2 (r := rOp X W ixD) (fun w e σ x y d d' Q r l l' g => ⟨w, e, σ, d, d', rfl, r, l, l', g⟩) h
/-! ### slices -/
def cutL {α : Type} (xs : List α) (lo hi : Option Int) : List α := (xs.drop (HT.sIx xs.length 0 lo)).take (HT.sIx xs.length xs.length hi - HT.sIx xs.length 0 lo)
theorem Dens.cut {K : PySem.W.Frag} {mg : Str → Option Value} {w : Wd} {vs : List V} {ds : List D} (h : Dens K mg w vs ds) (lo hi : Option Int) : Dens K mg w (cutV vs lo hi) (cutL ds lo hi) := by
  unfold cutV cutL
  rw [h.length]
  exact (h.drop _).take _
def sliceD (d : D) (lo hi : Option Int) : M D := match d with
  | .lst ds => ret (.lst (cutL ds lo hi))
  | .tup ds => ret (.tup (cutL ds lo hi))
  | .str z => chk (decide (z.length ≤ line)) (ret (.str (cutS z lo hi)))
  | _ => nope
def rSlV (X : Cx) (W : WX) : V → Option Int → Option Int → Hp → VK → Prop := fun x lo hi H Q => ∃ w e σ d, w.H = H ∧ Rel X.K X.mg w e σ ∧ Look X.K X.mg w x d ∧ Goes X.K X.mg W σ (rD X.K X.mg σ) w (sliceD d lo hi e) Q
theorem cut_whole {α : Type} {xs : List α} {lo hi : Option Int} (h : HT.sIx xs.length 0 lo = 0 ∧ HT.sIx xs.length xs.length hi = xs.length) : cutL xs lo hi = xs := by
  unfold cutL
  rw [h.1, h.2, Nat.sub_zero, List.drop_zero, List.take_length]
theorem sl_v : SlR X (rSlV X W) := by
  intro pins s σ H x v vl vu lo hi sl Q I rx hs pl pu h
  obtain ⟨w, e, σ', d, rfl, rel, l, g⟩ := h
  cases d with
  | lst ds =>
    obtain ⟨a, xs, rfl, h1, h2⟩ := l.lst
    exact sl_list pins s σ _ _ v vl vu lo hi sl Q I rx hs pl pu ⟨a, xs, rfl, SqL.of h1, fun p hp => goes_new rel g hp (new_lst rel.wf hp (h2.cut lo hi))⟩
  | tup ds =>
    obtain ⟨a, xs, rfl, h1, h2⟩ := l.tup
    refine sl_tupA pins s σ _ _ v vl vu lo hi sl Q I rx hs pl pu ⟨a, xs, rfl, h1.sq, fun z => ?_, fun _ p hp => goes_new rel g hp (new_tup rel.wf hp (h2.cut lo hi))⟩
    rw [h2.length] at z
    have e1 := cut_whole z
    have g : Goes X.K X.mg W σ' (rD X.K X.mg σ') w (.ok (.tup (cutL ds lo hi)) e) Q := g
    rw [e1] at g
    exact g.ok rel (.tup h1 h2)
  | str z =>
    obtain ⟨hc, g⟩ := chk_of g
    obtain rfl := l.str
    exact sl_str pins s σ _ _ v vl vu lo hi sl Q I rx hs pl pu ⟨z, rfl, by rw [line_eq]; exact of_decide_eq_true hc, g.ok rel (.str _)⟩
  | _ => exact g.elim
/-- a part of a slice -/
def asI : D → M Int
  | .int i => ret i
  | _ => nope
def rP : St → Wd → Wd → En → Option Int → Option Int → Prop := fun _ _ _ _ v d => v = d
instance {σ : St} : Stb (rP σ) := ⟨fun _ _ _ _ _ _ _ h => h⟩
abbrev VP (X : Cx) (W : WX) (e : Option Expr) (f : M (Option Int)) : Prop := PO X e (tR X.K X.mg W rP f)
def partM (f : M D) : M (Option Int) := bnd f fun d => bnd (asI d) fun i => ret (some i)
theorem asI_of {K : PySem.W.Frag} {mg : Str → Option Value} {σ : St} {w : Wd} {e : En} {α β : Type} {ρ : Wd → Wd → En → β → α → Prop} {d : D} {g : Int → M α} {Q : β → Hp → Prop} (h : Goes K mg W σ ρ w (bnd (asI d) g e) Q) : ∃ b, d = .int b ∧ Goes K mg W σ ρ w (g b e) Q := by
  cases d with
  | int b => exact ⟨b, rfl, h⟩
  | _ => exact h.elim
theorem PO.imp {X : Cx} {e : Option Expr} {t t' : St → Hp → (Option Int → Hp → Prop) → Prop} (h : PO X e t) (i : ∀ σ H Q, t' σ H Q → t σ H Q) : PO X e t' := ⟨fun pins s σ H Q I q => h.run pins s σ H Q I (i σ H Q q)⟩
theorem vp_none : VP X W none (ret none) := PO.imp po_none fun σ H Q ⟨w, e, hw, rel, g⟩ => by
  subst hw
  exact Goes.ok g rel rfl
theorem vp_some (ha : VE X W a ga) : VP X W (some a) (partM ga) := PO.imp (po_some ha) fun σ H Q ⟨w, e, hw, rel, g⟩ => by
  subst hw
  refine tR_mono (goes_bind (ρ1 := rD X.K X.mg) rel g) fun v H1 ⟨w1, e1, d, h1, s, r1, q, g1⟩ => ?_
  subst h1
  obtain ⟨i, rfl, g2⟩ := asI_of g1
  cases q
  exact ⟨i, rfl, Goes.ok g2 r1 rfl⟩
def sliceM (fa : M Op) (fl fh : M (Option Int)) : M D := bnd fa fun o => bnd fl fun lo => bnd fh fun hi => bnd (getO o) fun d => sliceD d lo hi
variable {lo hi : Option Expr} {fl fh : M (Option Int)} {p2 : Pos}
theorem ve_slice (ha : VB X W a o1) (hl : VP X W lo fl) (hh : VP X W hi fh) : VE X W (.Subscript a (.Slice lo hi none p2) pos) (sliceM o1 fl fh) :=
  PE.imp (pe_slice (sl_v (W := W)) ha hl hh) fun σ H Q ⟨w, e, hw, rel, g⟩ => by
    subst hw
    refine tR_mono (goes_bind (ρ1 := rB X.K X.mg) rel g) fun v H1 ⟨w1, e1, o, h1, s, r1, q, g1⟩ => ?_
    subst h1
    refine tR_mono (goes_bind (ρ1 := rP) r1 g1) fun v2 H2 ⟨w2, e2, o2, h2, s2, r2, q2, g2⟩ => ?_
    subst h2
    have q2 : v2 = o2 := q2
    subst q2
    refine tR_mono (goes_bind (ρ1 := rP) r2 g2) fun v3 H3 ⟨w3, e3, o3, h3, s3, r3, q3, g3⟩ => ?_
    subst h3
    have q3 : v3 = o3 := q3
    subst q3
    obtain ⟨d, l, g4⟩ := look_of (s2.trans s3) r1.wf r3 q g3
    exact ⟨w3, e3, σ, d, rfl, r3, l, g4⟩
/-! ### written lists and tuples -/
def rL (K : PySem.W.Frag) (mg : Str → Option Value) : St → Wd → Wd → En → List V → List D → Prop := fun _ _ w _ vs ds => Dens K mg w vs ds
instance {K : PySem.W.Frag} {mg : Str → Option Value} {σ : St} : Stb (rL K mg σ) := ⟨fun _ _ _ _ _ _ _ h => h⟩
abbrev VA (X : Cx) (W : WX) (es : List Expr) (f : M (List D)) : Prop := PA X es (tR X.K X.mg W (rL X.K X.mg) f)
def consM (f : M D) (r : M (List D)) : M (List D) := bnd f fun d => bnd r fun ds => ret (d :: ds)
theorem va_nil : VA X W [] (ret []) := PA.imp pa_nil fun σ H Q ⟨w, e, hw, rel, g⟩ => by
  subst hw
  exact Goes.ok g rel .nil
variable {es : List Expr} {fs : M (List D)}
theorem va_cons (ha : VE X W a ga) (hr : VA X W es fs) (hs : starEach (a :: es) X.env = (false, eval a X.env) :: starEach es X.env := by rfl) : VA X W (a :: es) (consM ga fs) :=
  PA.imp (pa_cons ha hr hs) fun σ H Q ⟨w, e, hw, rel, g⟩ => by
    subst hw
    refine tR_mono (goes_bind (ρ1 := rD X.K X.mg) rel g) fun v H1 ⟨w1, e1, d, h1, s, r1, q, g1⟩ => ?_
    subst h1
    refine tR_mono (goes_bind (ρ1 := rL X.K X.mg) r1 g1) fun v2 H2 ⟨w2, e2, ds, h2, s2, r2, q2, g2⟩ => ?_
    subst h2
    exact Goes.ok g2 r2 (.cons (q.step s2 r1.wf) q2)
def tupM (fs : M (List D)) : M D := bnd fs fun ds => chk (decide (ds.length ≤ line)) (ret (.tup ds))
def lstM (fs : M (List D)) : M D := bnd fs fun ds => chk (decide (ds.length ≤ line)) (ret (.lst ds))
theorem ve_tup {x1} (h : VA X W es fs) : VE X W (.Tuple es x1 pos) (tupM fs) :=
  PE.imp (pe_tup h) fun σ H Q ⟨w, e, hw, rel, g⟩ => by
    subst hw
    refine tR_mono (goes_bind (ρ1 := rL X.K X.mg) rel g) fun v H1 ⟨w1, e1, ds, h1, s, r1, q, g1⟩ => ?_
    subst h1
    obtain ⟨hc, g2⟩ := chk_of g1
    exact ⟨by rw [line_eq, q.length]; exact of_decide_eq_true hc, fun p hp => goes_new r1 g2 hp (new_tup r1.wf hp q)⟩
theorem vf_lst (h : VA X W es fs) : VF X W (.List es pos) (lstM fs) :=
  PE.imp (pe_lst h) fun σ H Q ⟨w, e, hw, rel, g⟩ => by
    subst hw
    refine tR_mono (goes_bind (ρ1 := rL X.K X.mg) rel g) fun v H1 ⟨w1, e1, ds, h1, s, r1, q, g1⟩ => ?_
    subst h1
    obtain ⟨hc, g2⟩ := chk_of g1
    exact ⟨by rw [line_eq, q.length]; exact of_decide_eq_true hc, fun p hp => goes_newF r1 g2 hp (new_lstF r1.wf hp q)⟩
theorem vf_dnew : VF X W (.Dict [] [] pos) (ret (.dk [])) :=
  PE.imp pe_dnewK fun σ H Q ⟨w, e, hw, rel, g⟩ => by
    subst hw
    exact fun p hp => goes_newF rel g hp ⟨[], upd_same, rfl, .nil⟩
theorem vf_dnewT : VF X W (.Dict [] [] pos) (ret (.dt [])) :=
  PE.imp pe_dnewT fun σ H Q ⟨w, e, hw, rel, g⟩ => by
    subst hw
    exact fun p hp => goes_newF rel g hp ⟨[], upd_same, rfl, .nil⟩
def negD (d : D) : M D := bnd (asI d) fun i => ret (.int (-i))
def rOp1 (X : Cx) (W : WX) (g : D → M D) : V → Hp → VK → Prop := fun x H Q => ∃ w e σ d, w.H = H ∧ Rel X.K X.mg w e σ ∧ Look X.K X.mg w x d ∧ Goes X.K X.mg W σ (rD X.K X.mg σ) w (g d e) Q
theorem un_negV : UnR X (unaryOp .USub) (rOp1 X W negD) := by
  intro pins s σ H x v Q I rx h
  obtain ⟨w, e, σ', d, rfl, rel, l, g⟩ := h
  obtain ⟨i, rfl, g⟩ := asI_of g
  obtain rfl := l.int
  exact un_neg pins s σ _ _ v Q I rx ⟨i, rfl, Goes.ok g rel (.int _)⟩
theorem ve_neg (ha : VB X W a o1) : VE X W (.UnaryOp .USub a pos) (op1 o1 negD) :=
  PE.imp (pe_un (un_negV (W := W)) ha) fun σ H Q h => imp1 (r := rOp1 X W negD) (fun w e σ x d Q r l g => ⟨w, e, σ, d, rfl, r, l, g⟩) h
end
end VL
namespace VL
open PySem PySem.Spec PyProof.Rows L2
variable [Tb]
/-! ### statements -/
inductive Fl where
  | nx | bk | ct | rt (d : D) | rf (d : D)
section
variable (K : PySem.W.Frag) (mg : Str → Option Value) (W : WX) (C : Nat → Bool)
def Fix (σ σ' : St) : Prop := ∀ i : Nat, C i = true → σ'[i]? = σ[i]?
/-- what is wanted behind a statement that ends so: w0 is the world ahead of it -/
def FlP (w0 w : Wd) (e : En) (σ : St) (E : Ends) : Fl → Prop
  | .nx => E.nx σ w.H
  | .bk => E.bk σ w.H
  | .ct => E.ct σ w.H
  | .rt d => ∀ v, Den K mg w v d → E.rt v w.H
  | .rf d => ∀ a, Top K mg w a d → ¬ w.U a → (w0.H a = none ∨ w0.O a) → (∀ (i : Nat) d', e[i]? = some (Sl.ow d') → σ[i]? ≠ some (some (V.ref a))) → E.rt (.ref a) w.H
def GoesS (σ : St) (w : Wd) (r : R Fl) (E : Ends) : Prop := match r with
  | .ok fl e => ∀ w' σ', Step w w' → Rel K mg w' e σ' → Fix C σ σ' → FlP K mg w w' e σ' E fl
  | .ex x e => ∀ w' σ' c p, Step w w' → Rel K mg w' e σ' → Fix C σ σ' → XDen K mg w' x c p → W c p σ' w'.H
  | .no => False
def tS (g : M Fl) : TS := fun E σ H => ∃ w e, w.H = H ∧ Rel K mg w e σ ∧ GoesS K mg W C σ w (g e) E
end
abbrev VS (X : Cx) (W : WX) (C : Nat → Bool) (st : Stmt) (g : M Fl) : Prop := PS X st (tS X.K X.mg W C g)
abbrev VSs (X : Cx) (W : WX) (C : Nat → Bool) (st : List Stmt) (g : M Fl) : Prop := PSs X st (tS X.K X.mg W C g)
section
variable {K : PySem.W.Frag} {mg : Str → Option Value} {W : WX} {C : Nat → Bool} {σ σ' : St} {w w' : Wd} {e : En} {E E' : Ends}
theorem Fix.refl : Fix C σ σ := fun _ _ => rfl
theorem Fix.trans {σ'' : St} (a : Fix C σ σ') (b : Fix C σ' σ'') : Fix C σ σ'' := fun i h => (b i h).trans (a i h)
theorem Fix.set {i : Nat} {x : Option V} (h : C i = false) : Fix C σ (σ.set i x) := fun j hj => by
  rw [set_get, if_neg (fun z => by subst z; rw [h] at hj; cases hj)]
theorem GoesS.step {r : R Fl} (s : Step w w') (f : Fix C σ σ') (h : GoesS K mg W C σ w r E) : GoesS K mg W C σ' w' r E := by
  cases r with
  | ok fl e =>
    intro w2 σ2 s2 rel f2
    have q := h w2 σ2 (s.trans s2) rel (f.trans f2)
    cases fl with
    | rf d =>
      intro a t hU ho hn
      refine q a t hU ?_ hn
      rcases ho with z | z
      · exact .inl (s.old z)
      · by_cases hw : w.H a = none
        · exact .inl hw
        · by_cases hO : w.O a
          · exact .inr hO
          · exact absurd z (s.own a hw hO)
    | _ => exact q
  | ex x e => exact fun w2 σ2 c p s2 rel f2 => h w2 σ2 c p (s.trans s2) rel (f.trans f2)
  | no => exact h
/-- an expression within a statement -/
theorem goesS_bind {α β : Type} {ρ1 : St → Wd → Wd → En → β → α → Prop} {f : M α} {g : α → M Fl} (rel : Rel K mg w e σ) (h : GoesS K mg W C σ w (bnd f g e) E) :
    tR K mg W ρ1 f σ w.H (fun v H1 => ∃ w' e' d, w'.H = H1 ∧ Step w w' ∧ Rel K mg w' e' σ ∧ ρ1 σ w w' e' v d ∧ GoesS K mg W C σ w' (g d e') E) := by
  refine ⟨w, e, rfl, rel, ?_⟩
  unfold bnd at h
  cases hf : f e with
  | ok d e1 =>
    rw [hf] at h
    exact fun w' v s r q => ⟨w', e1, d, rfl, s, r, q, GoesS.step s Fix.refl h⟩
  | ex x e1 =>
    rw [hf] at h
    exact fun w' c p s r q => h w' σ c p s r Fix.refl q
  | no =>
    rw [hf] at h
    exact h
theorem GoesS.nx (h : GoesS K mg W C σ w (.ok .nx e) E) (rel : Rel K mg w e σ') (f : Fix C σ σ') : E.nx σ' w.H := h w σ' (Step.refl w) rel f
theorem chkS {c : Bool} {m : M Fl} (h : GoesS K mg W C σ w (chk c m e) E) : c = true ∧ GoesS K mg W C σ w (m e) E := by
  cases c with
  | true => exact ⟨rfl, h⟩
  | false => exact h.elim
theorem liftS {α : Type} {o : Option α} {g : α → M Fl} (h : GoesS K mg W C σ w (bnd (lift o) g e) E) : ∃ z, o = some z ∧ GoesS K mg W C σ w (g z e) E := by
  cases o with
  | some z => exact ⟨z, rfl, h⟩
  | none => exact h.elim
end
section
variable {X : Cx} {W : WX} {C : Nat → Bool}
def seqM (g1 g2 : M Fl) : M Fl := bnd g1 fun fl => match fl with
  | .nx => g2
  | fl => ret fl
theorem vss_nil : VSs X W C [] (ret .nx) := PSs.imp pss_nil fun E σ H ⟨w, e, hw, rel, g⟩ => by
  subst hw
  exact GoesS.nx g rel Fix.refl
theorem seq_imp {g1 g2 : M Fl} {E : Ends} {σ : St} {H : Hp} (h : tS X.K X.mg W C (seqM g1 g2) E σ H) : tS X.K X.mg W C g1 { E with nx := tS X.K X.mg W C g2 E } σ H := by
  obtain ⟨w, e, hw, rel, g⟩ := h
  refine ⟨w, e, hw, rel, ?_⟩
  unfold seqM bnd at g
  cases hf : g1 e with
  | no => rw [hf] at g; exact g
  | ex x e1 => rw [hf] at g; exact g
  | ok fl e1 =>
    rw [hf] at g
    cases fl with
    | nx => exact fun w' σ' s r f => ⟨w', e1, rfl, r, GoesS.step s f g⟩
    | bk => exact g
    | ct => exact g
    | rt d => exact g
    | rf d => exact g
variable {st : Stmt} {rest : List Stmt} {g1 g2 : M Fl}
theorem vss_cons (h1 : VS X W C st g1) (h2 : VSs X W C rest g2) : VSs X W C (st :: rest) (seqM g1 g2) := PSs.imp (pss_cons h1 h2) fun E σ H h => seq_imp h
theorem vss_one (h1 : VS X W C st g1) : VSs X W C [st] g1 := pss_one h1
theorem vs_never {st : Stmt} : VS X W C st nope := PS.imp ps_never fun E σ H ⟨w, e, hw, rel, g⟩ => g
theorem vss_never {st : List Stmt} : VSs X W C st nope := PSs.imp pss_never fun E σ H ⟨w, e, hw, rel, g⟩ => g
variable {pos : Pos}
theorem vs_pass : VS X W C (.Pass pos) (ret .nx) := PS.imp ps_pass fun E σ H ⟨w, e, hw, rel, g⟩ => by
  subst hw
  exact GoesS.nx g rel Fix.refl
theorem vs_break : VS X W C (.Break pos) (ret .bk) := PS.imp ps_break fun E σ H ⟨w, e, hw, rel, g⟩ => by
  subst hw
  exact g w σ (Step.refl w) rel Fix.refl
theorem vs_continue : VS X W C (.Continue pos) (ret .ct) := PS.imp ps_continue fun E σ H ⟨w, e, hw, rel, g⟩ => by
  subst hw
  exact g w σ (Step.refl w) rel Fix.refl
variable {a : Expr} {f : M D} {fb : M Bool} {fo : M Op}
def exprM {α : Type} (f : M α) : M Fl := bnd f fun _ => ret .nx
theorem vs_expr (ha : VE X W a f) (hs : swapsWith a none pos.line X.env = pure false := by rfl) : VS X W C (.Expr a pos) (exprM f) := PS.imp (ps_expr ha hs) fun E σ H ⟨w, e, hw, rel, g⟩ => by
  subst hw
  refine tR_mono (goesS_bind (ρ1 := rD X.K X.mg) rel g) fun v H1 ⟨w1, e1, d, h1, s, r1, q, g1⟩ => ?_
  subst h1
  exact GoesS.nx g1 r1 Fix.refl
def retM (f : M D) : M Fl := bnd f fun d => ret (.rt d)
theorem vs_ret (ha : VE X W a f) : VS X W C (.Return (some a) pos) (retM f) := PS.imp (ps_ret ha) fun E σ H ⟨w, e, hw, rel, g⟩ => by
  subst hw
  refine tR_mono (goesS_bind (ρ1 := rD X.K X.mg) rel g) fun v H1 ⟨w1, e1, d, h1, s, r1, q, g1⟩ => ?_
  subst h1
  exact g1 w1 σ (Step.refl w1) r1 Fix.refl v q
theorem vs_retN : VS X W C (.Return none pos) (ret (.rt .non)) := PS.imp ps_retN fun E σ H ⟨w, e, hw, rel, g⟩ => by
  subst hw
  exact g w σ (Step.refl w) rel Fix.refl _ .non
def retF (f : M D) : M Fl := bnd f fun d => ret (.rf d)
theorem vs_retF (ha : VF X W a f) : VS X W C (.Return (some a) pos) (retF f) := PS.imp (ps_ret ha) fun E σ H ⟨w, e, hw, rel, g⟩ => by
  subst hw
  unfold retF bnd at g
  refine ⟨w, e, rfl, rel, ?_⟩
  cases hf : f e with
  | no => rw [hf] at g; exact g
  | ex x e1 =>
    rw [hf] at g
    exact fun w' c p s r q => g w' σ c p s r Fix.refl q
  | ok d e1 =>
    rw [hf] at g
    rintro w' v s r ⟨a, rfl, hn, hU, hO, t⟩
    refine g w' σ s r Fix.refl a t hU (.inl hn) fun i d' h z => ?_
    obtain ⟨b, e2, q, _⟩ := r.ow i d' h
    rw [z] at e2
    cases e2
    exact hO q
/-- return of a name whose object is handed on -/
def retO (i : Nat) : M Fl := fun e => match e[i]? with
  | some (.ow d) => .ok (.rf d) (e.set i .un)
  | _ => .no
theorem vs_retO (i : Nat) {x : Str} {p : Pos} (hN : X.N[i]? = some x := by rfl) (hv : Vis X.env.scope x := by first | exact Or.inl rfl | exact Or.inr (Or.inl rfl) | exact Or.inr (Or.inr rfl)) (hd : (x == ("__debug__" : Str)) = false := by decide)
    (hcd : (x == ("__classdict__" : Str)) = false := by decide) : VS X W C (.Return (some (.Name x p)) pos) (retO i) := PS.imp (ps_ret (pe_var hN hv hd hcd)) fun E σ H ⟨w, e, hw, rel, g⟩ => by
  subst hw
  unfold retO at g
  rcases sl_cases e i with h | ⟨d, h⟩ | ⟨d, h⟩
  · rcases h with h | h <;> (rw [h] at g; exact g.elim)
  · rw [h] at g; exact g.elim
  · rw [h] at g
    obtain ⟨a, e1, q1, q2⟩ := rel.ow i d h
    refine ⟨_, e1, g w σ (Step.refl w) (rel.drop i) Fix.refl a q2 (fun z => rel.wf.dis _ z q1) (.inr q1) fun j d' z s => ?_⟩
    rcases set_get_some z with ⟨_, _, z⟩ | ⟨n, z⟩
    · cases z
    · exact n (rel.ap j i _ _ a z h s e1)
def ifS (fc : M Bool) (ga gb : M Fl) : M Fl := bnd fc fun b => ifM b ga gb
variable {sa sb : List Stmt}
theorem vs_if (hc : VT X W a fb) (ha : VSs X W C sa g1) (hb : VSs X W C sb g2) : VS X W C (.If a sa sb pos) (ifS fb g1 g2) := PS.imp (ps_if hc ha hb) fun E σ H ⟨w, e, hw, rel, g⟩ => by
  subst hw
  refine tR_mono (goesS_bind (ρ1 := rT) rel g) fun v H1 ⟨w1, e1, d, h1, s, r1, q, g1⟩ => ?_
  subst h1
  have q : v = d := q
  subst q
  cases v with
  | true => exact iteT ⟨w1, e1, rfl, r1, g1⟩
  | false => exact iteF ⟨w1, e1, rfl, r1, g1⟩
/-! ### names stored -/
def putS (i : Nat) (d : D) : M Fl := fun e => .ok .nx (e.set i (.fz d))
def setM (i : Nat) (f : M D) : M Fl := bnd f (putS i)
theorem vs_set (i : Nat) {x : Str} {p : Pos} (hN : X.N.Nodup) (ha : VE X W a f) (hi : X.N[i]? = some x := by rfl) (hx : Loc X.env.scope x := by first | exact Or.inl rfl | exact Or.inr rfl) (hC : C i = false := by rfl) (hs : swapsWith a (some (.Name x p)) pos.line X.env = pure false := by rfl) (hf : X.fn x = true ∨ X.env.scope.names.lookup x = some .local := by first | exact .inl rfl | exact .inr rfl) :
    VS X W C (.Assign [.Name x p] a pos) (setM i f) := PS.imp (ps_set (pos' := p) hN hi hx ha hs hf) fun E σ H ⟨w, e, hw, rel, g⟩ => by
  subst hw
  refine tR_mono (goesS_bind (ρ1 := rD X.K X.mg) rel g) fun v H1 ⟨w1, e1, d, h1, s, r1, q, g1⟩ => ?_
  subst h1
  exact GoesS.nx g1 (r1.store i q) (Fix.set hC)
def putO (i : Nat) (d : D) : M Fl := fun e => .ok .nx (e.set i (.ow d))
def setO (i : Nat) (f : M D) : M Fl := bnd f (putO i)
theorem goesS_new {i : Nat} {σ : St} {w : Wd} {e : En} {E : Ends} {f : M D} (rel : Rel X.K X.mg w e σ) (hC : C i = false) (g : GoesS X.K X.mg W C σ w (setO i f e) E) :
    tR X.K X.mg W (rF X.K X.mg) f σ w.H fun x H1 => E.nx (σ.set i (some x)) H1 := by
  unfold setO bnd at g
  refine ⟨w, e, rfl, rel, ?_⟩
  cases hf : f e with
  | no => rw [hf] at g; exact g
  | ex x e1 =>
    rw [hf] at g
    exact fun w' c p s r q => g w' σ c p s r Fix.refl q
  | ok d e1 =>
    rw [hf] at g
    rintro w' v s r ⟨a, rfl, hn, hU, hO, t⟩
    have r2 := r.ad t.ob hU
    refine g (w'.ad a) _ (step_ad s hn) (r2.storeO i (.inr rfl) (t.step stays_ad rfl) fun j d' h z => ?_) (Fix.set hC)
    obtain ⟨b, e2, q, _⟩ := r.ow j d' h
    rw [z] at e2
    cases e2
    exact hO q
theorem vs_setO (i : Nat) {x : Str} {p : Pos} (hN : X.N.Nodup) (ha : VF X W a f) (hi : X.N[i]? = some x := by rfl) (hx : Loc X.env.scope x := by first | exact Or.inl rfl | exact Or.inr rfl) (hC : C i = false := by rfl) (hs : swapsWith a (some (.Name x p)) pos.line X.env = pure false := by rfl) (hf : X.fn x = true ∨ X.env.scope.names.lookup x = some .local := by first | exact .inl rfl | exact .inr rfl) :
    VS X W C (.Assign [.Name x p] a pos) (setO i f) := PS.imp (ps_set (pos' := p) hN hi hx ha hs hf) fun E σ H ⟨w, e, hw, rel, g⟩ => by
  subst hw
  exact goesS_new rel hC g
/-! ### what a target takes -/
def tG (K : PySem.W.Frag) (mg : Str → Option Value) (C : Nat → Bool) (sm : D → En → Option En) : TG := fun v σ H Q => ∃ w e d e', w.H = H ∧ Rel K mg w e σ ∧ Den K mg w v d ∧ sm d e = some e' ∧ ∀ w' σ', Step w w' → Rel K mg w' e' σ' → Fix C σ σ' → Q σ' w'.H
def tGs (K : PySem.W.Frag) (mg : Str → Option Value) (C : Nat → Bool) (sm : List D → En → Option En) : TGs := fun vs σ H Q => ∃ w e ds e', w.H = H ∧ Rel K mg w e σ ∧ Dens K mg w vs ds ∧ sm ds e = some e' ∧ ∀ w' σ', Step w w' → Rel K mg w' e' σ' → Fix C σ σ' → Q σ' w'.H
abbrev VG (X : Cx) (C : Nat → Bool) (tg : Expr) (sm : D → En → Option En) : Prop := PG X tg (tG X.K X.mg C sm)
abbrev VGs (X : Cx) (C : Nat → Bool) (tgs : List Expr) (sm : List D → En → Option En) : Prop := PGs X tgs (tGs X.K X.mg C sm)
theorem PG.imp {tg : Expr} {t t' : TG} (h : PG X tg t) (i : ∀ v σ H Q, t' v σ H Q → t v σ H Q) : PG X tg t' := ⟨fun pins s σ H v u Q I r q => h.run pins s σ H v u Q I r (i v σ H Q q)⟩
theorem PGs.imp {tg : List Expr} {t t' : TGs} (h : PGs X tg t) (i : ∀ v σ H Q, t' v σ H Q → t v σ H Q) : PGs X tg t' := ⟨fun pins s σ H v u Q I r q => h.run pins s σ H v u Q I r (i v σ H Q q)⟩
def stM (i : Nat) (d : D) : En → Option En := fun e => some (e.set i (.fz d))
theorem vg_name (i : Nat) {x : Str} {p : Pos} (hN : X.N.Nodup) (hi : X.N[i]? = some x := by rfl) (hx : Loc X.env.scope x := by first | exact Or.inl rfl | exact Or.inr rfl) (hC : C i = false := by rfl)
    (hf : X.fn x = true ∨ X.env.scope.names.lookup x = some .local := by first | exact .inl rfl | exact .inr rfl) : VG X C (.Name x p) (stM i) :=
  PG.imp (pg_name hN hi hx hf) fun v σ H Q ⟨w, e, d, e', hw, rel, q, h1, h2⟩ => by
    subst hw
    cases h1
    exact h2 w _ (Step.refl w) (rel.store i q) (Fix.set hC)
def stNil : List D → En → Option En := fun ds e => match ds with
  | [] => some e
  | _ => none
def stCons (s : D → En → Option En) (r : List D → En → Option En) : List D → En → Option En := fun ds e => match ds with
  | d :: ds => (s d e).bind (r ds)
  | [] => none
theorem vgs_nil : VGs X C [] stNil := PGs.imp pgs_nil fun v σ H Q ⟨w, e, ds, e', hw, rel, q, h1, h2⟩ => by
  subst hw
  cases q with
  | nil =>
    cases h1
    exact ⟨rfl, h2 w σ (Step.refl w) rel Fix.refl⟩
  | cons _ _ => cases h1
variable {tg : Expr} {tgs : List Expr} {s1 : D → En → Option En} {s2 : List D → En → Option En}
theorem vgs_cons (h1 : VG X C tg s1) (h2 : VGs X C tgs s2) (hs : (assignEach (tg :: tgs) X.env).map (·.2) = assign tg X.env :: (assignEach tgs X.env).map (·.2) := by rfl) : VGs X C (tg :: tgs) (stCons s1 s2) := PGs.imp (pgs_cons h1 h2 hs) fun v σ H Q ⟨w, e, ds, e', hw, rel, q, k1, k2⟩ => by
  subst hw
  cases q with
  | nil => cases k1
  | cons q1 q2 =>
    obtain ⟨e1, h3, h4⟩ := Option.bind_eq_some_iff.mp k1
    exact ⟨_, _, rfl, w, e, _, e1, rfl, rel, q1, h3, fun w' σ' st r f => ⟨w', e1, _, e', rfl, r, q2.step st rel.wf, h4, fun w2 σ2 st2 r2 f2 => k2 w2 σ2 (st.trans st2) r2 (f.trans f2)⟩⟩
def stTup (n : Nat) (r : List D → En → Option En) : D → En → Option En := fun d e => match d with
  | .tup ds => if ds.length = n then r ds e else none
  | .ktu ds => if ds.length = n then r ds e else none
  | _ => none
theorem vg_tup {kk n : Nat} {tp : Pos} (hc : X.calm = true) (h : VGs X C tgs s2) (hn : (assignEach tgs X.env).length = n := by rfl) (hst : (assignEach tgs X.env).findIdx? (·.1) = none := by rfl) : VG X C (.Tuple tgs kk tp) (stTup n s2) := PG.imp (pg_tup hc h hn hst) fun v σ H Q ⟨w, e, d, e', hw, rel, q, k1, k2⟩ => by
  subst hw
  unfold stTup at k1
  cases q with
  | tup q1 q2 =>
    dsimp only at k1
    split at k1
    · rename_i hl
      exact ⟨_, _, rfl, q1.sq, by rw [q2.length]; exact hl, w, e, _, e', rfl, rel, q2, k1, k2⟩
    · cases k1
  | ktu q1 q2 =>
    dsimp only at k1
    split at k1
    · rename_i hl
      exact ⟨_, _, rfl, q1.sq, by rw [q2.length]; exact hl, w, e, _, e', rfl, rel, q2, k1, k2⟩
    · cases k1
  | _ => cases k1
/-- a target takes a value -/
def asgM (f : M D) (sm : D → En → Option En) : M Fl := bnd f fun d e => match sm d e with
  | some e' => .ok .nx e'
  | none => .no
theorem vs_asg (ha : VE X W a f) (hg : VG X C tg s1) (hs : swapsWithSole [tg] a pos.line X.env = pure false := by rfl) (hw : swappedStores [tg] a X.env = pure none := by rfl) (h1 : (assignEach [tg] X.env).map (·.2) = [assign tg X.env] := by rfl) : VS X W C (.Assign [tg] a pos) (asgM f s1) :=
  PS.imp (ps_asg ha hg hs hw h1) fun E σ H ⟨w, e, hw, rel, g⟩ => by
    subst hw
    refine tR_mono (goesS_bind (ρ1 := rD X.K X.mg) rel g) fun v H1 ⟨w1, e1, d, h1, s, r1, q, g1⟩ => ?_
    subst h1
    cases hs : s1 d e1 with
    | none => rw [hs] at g1; exact g1.elim
    | some e2 =>
      rw [hs] at g1
      exact ⟨w1, e1, d, e2, rfl, r1, q, hs, fun w' σ' st r f => g1 w' σ' st r f⟩
/-! ### several values at once, some of them new and owned -/
inductive Tm where
  | fz (d : D) | ow (d : D)
def TmR (K : PySem.W.Frag) (mg : Str → Option Value) (w0 w : Wd) : List V → List Tm → List Addr → Prop
  | [], [], as => as = []
  | v :: vs, .fz d :: ts, as => Den K mg w v d ∧ TmR K mg w0 w vs ts as
  | v :: vs, .ow d :: ts, as => ∃ a r, as = a :: r ∧ v = .ref a ∧ w0.H a = none ∧ ¬ w.U a ∧ ¬ w.O a ∧ Top K mg w a d ∧ a ∉ r ∧ TmR K mg w0 w vs ts r
  | _, _, _ => False
theorem TmR.fresh {K : PySem.W.Frag} {mg : Str → Option Value} {w0 w : Wd} : ∀ {vs : List V} {ts : List Tm} {as : List Addr}, TmR K mg w0 w vs ts as → ∀ a ∈ as, w0.H a = none
  | [], [], _, h, a, ha => by cases (show _ = [] from h); cases ha
  | v :: vs, .fz d :: ts, as, h, a, ha => TmR.fresh h.2 a ha
  | v :: vs, .ow d :: ts, _, ⟨b, r, rfl, _, h1, _, _, _, _, h2⟩, a, ha => by
    rcases List.mem_cons.mp ha with rfl | ha
    · exact h1
    · exact TmR.fresh h2 a ha
  | [], .fz _ :: _, _, h, _, _ => h.elim
  | [], .ow _ :: _, _, h, _, _ => h.elim
  | _ :: _, [], _, h, _, _ => h.elim
theorem TmR.mono {K : PySem.W.Frag} {mg : Str → Option Value} {w00 w0 w : Wd} (hf : ∀ a, w0.H a = none → w00.H a = none) : ∀ {vs : List V} {ts : List Tm} {as : List Addr}, TmR K mg w0 w vs ts as → TmR K mg w00 w vs ts as
  | [], [], _, h => h
  | v :: vs, .fz d :: ts, as, h => ⟨h.1, TmR.mono hf h.2⟩
  | v :: vs, .ow d :: ts, _, ⟨b, r, e1, e2, h1, h3, h4, h5, h6, h2⟩ => ⟨b, r, e1, e2, hf b h1, h3, h4, h5, h6, TmR.mono hf h2⟩
  | [], .fz _ :: _, _, h => h.elim
  | [], .ow _ :: _, _, h => h.elim
  | _ :: _, [], _, h => h.elim
theorem TmR.len {K : PySem.W.Frag} {mg : Str → Option Value} {w0 w : Wd} : ∀ {vs : List V} {ts : List Tm} {as : List Addr}, TmR K mg w0 w vs ts as → vs.length = ts.length
  | [], [], _, h => rfl
  | v :: vs, .fz d :: ts, as, h => congrArg (· + 1) (TmR.len h.2)
  | v :: vs, .ow d :: ts, _, ⟨b, r, e1, e2, h1, h3, h4, h5, h6, h2⟩ => congrArg (· + 1) (TmR.len h2)
  | [], .fz _ :: _, _, h => h.elim
  | [], .ow _ :: _, _, h => h.elim
  | _ :: _, [], _, h => h.elim
def rTm (K : PySem.W.Frag) (mg : Str → Option Value) : St → Wd → Wd → En → List V → List Tm → Prop := fun _ w0 w _ vs ts => ∃ as, TmR K mg w0 w vs ts as
instance {K : PySem.W.Frag} {mg : Str → Option Value} {σ : St} : Stb (rTm K mg σ) := ⟨fun _ _ _ _ _ _ s ⟨as, h⟩ => ⟨as, h.mono fun _ q => s.old q⟩⟩
abbrev VM (X : Cx) (W : WX) (es : List Expr) (f : M (List Tm)) : Prop := PA X es (tR X.K X.mg W (rTm X.K X.mg) f)
def tmF (f : M D) (r : M (List Tm)) : M (List Tm) := bnd f fun d => bnd r fun ts => ret (.fz d :: ts)
def tmO (f : M D) (r : M (List Tm)) : M (List Tm) := bnd f fun d => bnd r fun ts => ret (.ow d :: ts)
theorem vm_nil : VM X W [] (ret []) := PA.imp pa_nil fun σ H Q ⟨w, e, hw, rel, g⟩ => by
  subst hw
  exact Goes.ok g rel ⟨[], rfl⟩
variable {es : List Expr} {ms : M (List Tm)}
/-- as goes_bind, the start kept -/
theorem goes_bind0 {K : PySem.W.Frag} {mg : Str → Option Value} {σ : St} {w0 w : Wd} {e : En} {α β γ δ : Type} {ρ1 : St → Wd → Wd → En → β → α → Prop} {ρ2 : Wd → Wd → En → δ → γ → Prop} {f : M α} {g : α → M γ} {Q : δ → Hp → Prop} (s : Step w0 w) (rel : Rel K mg w e σ) (h : Goes K mg W σ ρ2 w0 (bnd f g e) Q) :
    tR K mg W ρ1 f σ w.H (fun v H1 => ∃ w' e' d, w'.H = H1 ∧ Step w w' ∧ Rel K mg w' e' σ ∧ ρ1 σ w w' e' v d ∧ Goes K mg W σ ρ2 w0 (g d e') Q) := by
  refine ⟨w, e, rfl, rel, ?_⟩
  unfold bnd at h
  cases hf : f e with
  | ok d e1 =>
    rw [hf] at h
    exact fun w' v s r q => ⟨w', e1, d, rfl, s, r, q, h⟩
  | ex x e1 =>
    rw [hf] at h
    exact fun w' c p s' r q => h w' c p (s.trans s') r q
  | no =>
    rw [hf] at h
    exact h
theorem vm_fz (ha : VE X W a f) (hr : VM X W es ms) (hs : starEach (a :: es) X.env = (false, eval a X.env) :: starEach es X.env := by rfl) : VM X W (a :: es) (tmF f ms) :=
  PA.imp (pa_cons ha hr hs) fun σ H Q ⟨w, e, hw, rel, g⟩ => by
    subst hw
    refine tR_mono (goes_bind0 (ρ1 := rD X.K X.mg) (Step.refl w) rel g) fun v H1 ⟨w1, e1, d, h1, s, r1, q, g1⟩ => ?_
    subst h1
    refine tR_mono (goes_bind0 (ρ1 := rTm X.K X.mg) s r1 g1) fun v2 H2 ⟨w2, e2, ts, h2, s2, r2, ⟨as, q2⟩, g2⟩ => ?_
    subst h2
    exact g2 w2 _ (s.trans s2) r2 ⟨as, q.step s2 r1.wf, q2.mono fun a z => s.old z⟩
theorem vm_ow (ha : VF X W a f) (hr : VM X W es ms) (hs : starEach (a :: es) X.env = (false, eval a X.env) :: starEach es X.env := by rfl) : VM X W (a :: es) (tmO f ms) :=
  PA.imp (pa_cons ha hr hs) fun σ H Q ⟨w, e, hw, rel, g⟩ => by
    subst hw
    refine tR_mono (goes_bind0 (ρ1 := rF X.K X.mg) (Step.refl w) rel g) fun v H1 ⟨w1, e1, d, h1, s, r1, ⟨a, ea, hn, hU, hO, t⟩, g1⟩ => ?_
    subst h1
    refine tR_mono (goes_bind0 (ρ1 := rTm X.K X.mg) s r1 g1) fun v2 H2 ⟨w2, e2, ts, h2, s2, r2, ⟨as, q2⟩, g2⟩ => ?_
    subst h2
    obtain ⟨o, ho, hob⟩ := t.ob
    refine g2 w2 _ (s.trans s2) r2 ⟨a :: as, a, as, rfl, ea, hn, fun z => ?_, s2.own a t.tr hO, t.step (s2.stays r1.wf) ((s2.keep a o ho hO hob.nt).trans ho.symm), fun z => t.tr (q2.fresh a z), q2.mono fun a z => s.old z⟩
    rcases s2.back a t.tr z with z | z
    · exact hU z
    · exact hO z
/-- the slots take the values -/
def stAll : En → List Nat → List Tm → En
  | e, i :: is, .fz d :: ts => stAll (e.set i (.fz d)) is ts
  | e, i :: is, .ow d :: ts => stAll (e.set i (.ow d)) is ts
  | e, _, _ => e
def sgAll : St → List Nat → List V → St
  | σ, i :: is, v :: vs => sgAll (σ.set i (some v)) is vs
  | σ, _, _ => σ
theorem TmR.ad {K : PySem.W.Frag} {mg : Str → Option Value} {w0 w : Wd} {p : Addr} : ∀ {vs : List V} {ts : List Tm} {as : List Addr}, p ∉ as → TmR K mg w0 w vs ts as → TmR K mg w0 (w.ad p) vs ts as
  | [], [], _, _, h => h
  | v :: vs, .fz d :: ts, as, n, h => ⟨h.1.stays stays_ad, TmR.ad n h.2⟩
  | v :: vs, .ow d :: ts, _, n, ⟨b, r, e1, e2, h1, h3, h4, h5, h6, h2⟩ => by
    subst e1
    exact ⟨b, r, rfl, e2, h1, h3, fun z => z.elim h4 fun q => n (by rw [← q]; exact List.mem_cons_self), h5.step stays_ad rfl, h6, TmR.ad (fun z => n (List.mem_cons_of_mem _ z)) h2⟩
  | [], .fz _ :: _, _, _, h => h.elim
  | [], .ow _ :: _, _, _, h => h.elim
  | _ :: _, [], _, _, h => h.elim
theorem TmR.an {K : PySem.W.Frag} {mg : Str → Option Value} {w0 w : Wd} {p : Addr} {o : HO} (f : Wf w) (hp : w.H p = none) : ∀ {vs : List V} {ts : List Tm} {as : List Addr}, TmR K mg w0 w vs ts as → TmR K mg w0 (w.an p o) vs ts as
  | [], [], _, h => h
  | v :: vs, .fz d :: ts, as, h => ⟨h.1.step (step_an f hp) f, TmR.an f hp h.2⟩
  | v :: vs, .ow d :: ts, _, ⟨b, r, e1, e2, h1, h3, h4, h5, h6, h2⟩ => ⟨b, r, e1, e2, h1, h3, h4, h5.step ((step_an f hp).stays f) (upd_ne (ne_new hp h5.tr)), h6, TmR.an f hp h2⟩
  | [], .fz _ :: _, _, h => h.elim
  | [], .ow _ :: _, _, h => h.elim
  | _ :: _, [], _, h => h.elim
theorem Rel.all {K : PySem.W.Frag} {mg : Str → Option Value} {w0 : Wd} : ∀ {is : List Nat} {vs : List V} {ts : List Tm} {as : List Addr} {w : Wd} {e : En} {σ : St}, TmR K mg w0 w vs ts as → Step w0 w → Rel K mg w e σ → (∀ i ∈ is, C i = false) →
    ∃ w', Step w0 w' ∧ w'.H = w.H ∧ Rel K mg w' (stAll e is ts) (sgAll σ is vs) ∧ Fix C σ (sgAll σ is vs)
  | [], vs, ts, as, w, e, σ, h, s, r, _ => ⟨w, s, rfl, by cases vs <;> cases ts <;> exact r, by cases vs <;> exact Fix.refl⟩
  | i :: is, [], [], as, w, e, σ, h, s, r, _ => ⟨w, s, rfl, r, Fix.refl⟩
  | i :: is, v :: vs, .fz d :: ts, as, w, e, σ, h, s, r, hC => by
    obtain ⟨w', s', e1, r', f'⟩ := Rel.all (is := is) h.2 s (r.store i h.1) fun j hj => hC j (List.mem_cons_of_mem _ hj)
    exact ⟨w', s', e1, r', (Fix.set (hC i List.mem_cons_self)).trans f'⟩
  | i :: is, v :: vs, .ow d :: ts, as, w, e, σ, ⟨a, rs, e1, e2, h1, h3, h4, h5, h6, h2⟩, s, r, hC => by
    subst e1
    subst e2
    have r2 := (r.ad h5.ob h3).storeO i (.inr rfl) (h5.step stays_ad rfl) fun j d' h z => by
      obtain ⟨b, e2, q, _⟩ := r.ow j d' h
      rw [z] at e2
      cases e2
      exact h4 q
    obtain ⟨w', s', e1, r', f'⟩ := Rel.all (is := is) (TmR.ad h6 h2) (step_ad s h1) r2 fun j hj => hC j (List.mem_cons_of_mem _ hj)
    exact ⟨w', s', e1, r', (Fix.set (hC i List.mem_cons_self)).trans f'⟩
  | _ :: _, [], .fz _ :: _, _, _, _, _, h, _, _, _ => h.elim
  | _ :: _, [], .ow _ :: _, _, _, _, _, h, _, _, _ => h.elim
  | _ :: _, _ :: _, [], _, _, _, _, h, _, _, _ => h.elim
def parM (is : List Nat) (ms : M (List Tm)) : M Fl := bnd ms fun ts => chk (decide (ts.length = is.length)) fun e => .ok .nx (stAll e is ts)
theorem goesS_par {is : List Nat} {ms : M (List Tm)} {σ : St} {w : Wd} {e : En} {E : Ends} (rel : Rel X.K X.mg w e σ) (hC : ∀ i ∈ is, C i = false) (g : GoesS X.K X.mg W C σ w (parM is ms e) E) :
    tR X.K X.mg W (rTm X.K X.mg) ms σ w.H fun vs H1 => vs.length = is.length ∧ E.nx (sgAll σ is vs) H1 := by
  refine ⟨w, e, rfl, rel, ?_⟩
  unfold parM bnd at g
  cases hf : ms e with
  | no => rw [hf] at g; exact g
  | ex x e1 =>
    rw [hf] at g
    exact fun w' c p s r q => g w' σ c p s r Fix.refl q
  | ok ts e1 =>
    rw [hf] at g
    rintro w' vs s r ⟨as, q⟩
    obtain ⟨hc, g⟩ := chkS g
    obtain ⟨w2, s2, e2, r2, f2⟩ := Rel.all (is := is) q s r hC
    rw [← e2]
    exact ⟨by rw [q.len]; exact of_decide_eq_true hc, g w2 _ s2 r2 f2⟩
/-- two, three plain local names at once -/
theorem vs_par2 {i j : Nat} {x y : Str} {a b : Expr} {px py pt : Pos} {kt k2 pt2} (hN : X.N.Nodup) (ha : VM X W [a, b] ms) (hi : X.N[i]? = some x := by rfl) (hj : X.N[j]? = some y := by rfl) (hij : i ≠ j := by decide)
    (hx : X.env.scope.names.lookup x = some .local := by rfl) (hy : X.env.scope.names.lookup y = some .local := by rfl) (hc : X.calm = true := by rfl)
    (hw : swappedStores [.Tuple [.Name x px, .Name y py] kt pt] (.Tuple [a, b] k2 pt2) X.env = pure (some [x, y]) := by rfl)
    (hs : swapsWithSole [.Tuple [.Name x px, .Name y py] kt pt] (.Tuple [a, b] k2 pt2) pos.line X.env = pure false := by rfl) (hC : ∀ k ∈ [i, j], C k = false := by decide) :
    VS X W C (.Assign [.Tuple [.Name x px, .Name y py] kt pt] (.Tuple [a, b] k2 pt2) pos) (parM [i, j] ms) :=
  PS.imp (ps_par hc hN hi hj hij hx hy ha hw hs) fun E σ H ⟨w, e, hw, rel, g⟩ => by
    subst hw
    refine tR_mono (goesS_par rel hC g) fun vs H1 ⟨hl, q⟩ => ?_
    match vs, hl, q with
    | [u, v], _, q => exact ⟨u, v, rfl, q⟩
theorem vs_par3 {i j l : Nat} {x y z : Str} {a b c : Expr} {px py pz pt : Pos} {kt k2 pt2} (hN : X.N.Nodup) (ha : VM X W [a, b, c] ms) (hi : X.N[i]? = some x := by rfl) (hj : X.N[j]? = some y := by rfl) (hl : X.N[l]? = some z := by rfl) (hij : i ≠ j := by decide) (hil : i ≠ l := by decide) (hjl : j ≠ l := by decide)
    (hx : X.env.scope.names.lookup x = some .local := by rfl) (hy : X.env.scope.names.lookup y = some .local := by rfl) (hz : X.env.scope.names.lookup z = some .local := by rfl) (hc : X.calm = true := by rfl)
    (hw : swappedStores [.Tuple [.Name x px, .Name y py, .Name z pz] kt pt] (.Tuple [a, b, c] k2 pt2) X.env = pure (some [x, y, z]) := by rfl)
    (hs : swapsWithSole [.Tuple [.Name x px, .Name y py, .Name z pz] kt pt] (.Tuple [a, b, c] k2 pt2) pos.line X.env = pure false := by rfl) (hC : ∀ k ∈ [i, j, l], C k = false := by decide) :
    VS X W C (.Assign [.Tuple [.Name x px, .Name y py, .Name z pz] kt pt] (.Tuple [a, b, c] k2 pt2) pos) (parM [i, j, l] ms) :=
  PS.imp (ps_par3 hc hN hi hj hl hij hil hjl hx hy hz ha hw hs) fun E σ H ⟨w, e, hw, rel, g⟩ => by
    subst hw
    refine tR_mono (goesS_par rel hC g) fun vs H1 ⟨hl, q⟩ => ?_
    match vs, hl, q with
    | [u, v, w'], _, q => exact ⟨u, v, w', rfl, q⟩
/-- names at once by way of a tuple -/
structure NamesAt (X : Cx) (is : List Nat) (tgs : List Expr) : Prop where
  pg : PGs X tgs fun vs σ H Q => vs.length = is.length ∧ Q (sgAll σ is vs) H
theorem na_nil : NamesAt X [] [] := ⟨PGs.imp pgs_nil fun vs σ H Q ⟨h, q⟩ => by
  cases vs with
  | nil => exact ⟨rfl, q⟩
  | cons _ _ => cases h⟩
theorem na_cons (i : Nat) {is : List Nat} {tgs : List Expr} {x : Str} {p : Pos} (hN : X.N.Nodup) (h : NamesAt X is tgs) (hi : X.N[i]? = some x := by rfl) (hx : Loc X.env.scope x := by first | exact Or.inl rfl | exact Or.inr rfl)
    (hf : X.fn x = true ∨ X.env.scope.names.lookup x = some .local := by first | exact .inl rfl | exact .inr rfl) (hs : (assignEach (.Name x p :: tgs) X.env).map (·.2) = assign (.Name x p) X.env :: (assignEach tgs X.env).map (·.2) := by rfl) : NamesAt X (i :: is) (.Name x p :: tgs) :=
  ⟨PGs.imp (pgs_cons (pg_name hN hi hx hf) h.pg hs) fun vs σ H Q ⟨h, q⟩ => by
    cases vs with
    | nil => cases h
    | cons v vs => exact ⟨v, vs, rfl, Nat.succ.inj h, q⟩⟩
theorem vs_tupN {is : List Nat} {tgs : List Expr} {es : List Expr} {kt k2 n : Nat} {pt pt2 : Pos} (h : NamesAt X is tgs) (ha : VM X W es ms) (hn : (assignEach tgs X.env).length = n := by rfl) (hst : (assignEach tgs X.env).findIdx? (·.1) = none := by rfl) (hc : X.calm = true := by rfl)
    (hln : is.length = n := by rfl) (hln2 : n ≤ 100 := by decide) (hs : swapsWithSole [.Tuple tgs kt pt] (.Tuple es k2 pt2) pos.line X.env = pure false := by rfl) (hw : swappedStores [.Tuple tgs kt pt] (.Tuple es k2 pt2) X.env = pure none := by rfl)
    (h1 : (assignEach [.Tuple tgs kt pt] X.env).map (·.2) = [assign (.Tuple tgs kt pt) X.env] := by rfl) (hC : ∀ k ∈ is, C k = false := by decide) :
    VS X W C (.Assign [.Tuple tgs kt pt] (.Tuple es k2 pt2) pos) (parM is ms) :=
  PS.imp (ps_asg (pe_tup ha) (pg_tup hc h.pg hn hst) hs hw h1) fun E σ H ⟨w, e, hw, rel, g⟩ => by
    subst hw
    refine ⟨w, e, rfl, rel, ?_⟩
    unfold parM bnd at g
    cases hf : ms e with
    | no => rw [hf] at g; exact g
    | ex x e1 =>
      rw [hf] at g
      exact fun w' c p s r q => g w' σ c p s r Fix.refl q
    | ok ts e1 =>
      rw [hf] at g
      rintro w' vs s r ⟨as, q⟩
      obtain ⟨hc, g⟩ := chkS g
      have hl : vs.length = is.length := by rw [q.len]; exact of_decide_eq_true hc
      refine ⟨by rw [hl, hln, line_eq]; unfold line; omega, fun p hp => ⟨p, vs, rfl, .inl (.inl upd_same), by rw [hl, hln], hl, ?_⟩⟩
      have sp := step_an (o := .tup vs) r.wf hp
      obtain ⟨w2, s2, e2, r2, f2⟩ := Rel.all (is := is) (q.an r.wf hp) (s.trans sp) (r.an hp) hC
      have z : E.nx (sgAll σ is vs) w2.H := g w2 _ s2 r2 f2
      rw [e2] at z
      exact z
end
end VL
namespace VL
open PySem PySem.Spec PyProof.Rows L2
variable [Tb]
/-! ### locks -/
def NoFrz (X : Cx) (d : Addr) : Prop := ∀ o u, X.H_0 d ≠ some (.frz o u)
def unl {α : Type} (X : Cx) (H : Hp) (k : Hp → Prop) : Prop := k H ∨ ∃ d od u, NoFrz X d ∧ H d = some (.frz od u) ∧ k (upd H d u)
def unlE (X : Cx) (E : Ends) : Ends := ⟨fun σ H => unl (α := Unit) X H (E.nx σ), fun v H => unl (α := Unit) X H (E.rt v), fun σ H => unl (α := Unit) X H (E.bk σ), fun σ H => unl (α := Unit) X H (E.ct σ)⟩
def unlW (X : Cx) (W : WX) : WX := fun c p σ H => unl (α := Unit) X H (W c p σ)
section
variable {X : Cx}
theorem unl_inv {pins : List (Addr × Obj)} {σ : St} {H : Hp} {s : Shared} {k : Hp → Prop} (I : Inv X pins σ H s) (h : unl (α := Unit) X H k) : ∃ H', Inv X pins σ H' s ∧ k H' := by
  rcases h with h | ⟨d, od, u, hn, he, h⟩
  · exact ⟨H, I, h⟩
  · exact ⟨_, I.unlock he hn, h⟩
theorem ps_unl {st : Stmt} {t : TS} (h : PS X st t) : PS X st (fun E σ H => t (unlE X E) σ H) := by
  refine ⟨fun pins s σ H E I q => thn (h.run pins s σ H _ I q) fun f s1 r => ?_⟩
  cases f with
  | next => obtain ⟨σ', H', I', r⟩ := r; obtain ⟨H2, I2, r⟩ := unl_inv I' r; exact ⟨σ', H2, I2, r⟩
  | brk => obtain ⟨σ', H', I', r⟩ := r; obtain ⟨H2, I2, r⟩ := unl_inv I' r; exact ⟨σ', H2, I2, r⟩
  | cont => obtain ⟨σ', H', I', r⟩ := r; obtain ⟨H2, I2, r⟩ := unl_inv I' r; exact ⟨σ', H2, I2, r⟩
  | ret v => obtain ⟨x, σ', H', I', rv, r⟩ := r; obtain ⟨H2, I2, r⟩ := unl_inv I' r; exact ⟨x, σ', H2, I2, rv, r⟩
theorem pe_unl {e : Expr} {t : TE} (h : PE X e t) : PE X e (fun σ H Q => t σ H fun v H1 => unl (α := Unit) X H1 (Q v)) := by
  refine ⟨fun pins s σ H Q I q => thn (h.run pins s σ H _ I q) fun v s1 ⟨x, H1, I1, rv, r⟩ => ?_⟩
  obtain ⟨H2, I2, r⟩ := unl_inv I1 r
  exact ⟨x, H2, I2, rv, r⟩
theorem takes_unl {W : WX} (tk : Takes X W) : Takes X (unlW X W) := fun u s' ⟨a, B, sI, pins, σ, H, cls, d, e, I, nb, up, sky, na, os, ag, w⟩ => by
  rcases w with w | ⟨b, od, o, hn, he, w⟩
  · exact tk u s' ⟨a, B, sI, pins, σ, H, cls, d, e, I, nb, up, sky, na, os, ag, w⟩
  · have hab : a ≠ b := fun z => by
      subst z
      rw [na] at he
      cases he
    exact tk u s' ⟨a, B, sI, pins, σ, _, cls, d, e, I.unlock he hn, nb, up, sky, (upd_ne hab).trans na, os, ag, w⟩
/-- the expression's dict is locked from here on, or it stands so -/
theorem pe_lk {e : Expr} {t : TE} (h : PE X e t) : PE X e (fun σ H Q => t σ H fun x H1 => (∃ d u, x = .ref d ∧ H1 d = some u ∧ Mut (some u) ∧ ∀ od, NoFrz X d → Q x (upd H1 d (.frz od u))) ∨ Q x H1) := by
  refine ⟨fun pins s σ H Q I q => thn (h.run pins s σ H _ I q) fun v s1 ⟨x, H1, I1, rv, r⟩ => ?_⟩
  rcases r with ⟨d, u, ex, hd, mu, r⟩ | r
  · obtain ⟨od, I2⟩ := I1.lock hd mu
    exact ⟨x, _, I2, rv, r od (I1.nofrz hd mu)⟩
  · exact ⟨x, _, I1, rv, r⟩
theorem PI.imp {tg e : Expr} {t t' : TI} (h : PI X tg e t) (i : ∀ σ H R, t' σ H R → t σ H R) : PI X tg e t' := ⟨fun pins s σ H R I q => h.run pins s σ H R I (i σ H R q)⟩
theorem PI.or {tg e : Expr} {t t' : TI} (h : PI X tg e t) (h' : PI X tg e t') : PI X tg e (fun σ H R => t σ H R ∨ t' σ H R) := ⟨fun pins s σ H R I q => q.elim (h.run pins s σ H R I) (h'.run pins s σ H R I)⟩
end
def Wd.lk (w : Wd) (d : Addr) (od : Obj) (u : HO) : Wd := ⟨w.U, w.O, upd w.H d (.frz od u)⟩
def Wd.ul (w : Wd) (d : Addr) (u : HO) : Wd := ⟨w.U, w.O, upd w.H d u⟩
/-- what may be locked -/
def Lky : HO → Prop
  | .dK _ => True
  | .dT _ => True
  | _ => False
inductive Lk (X : Cx) : Wd → Wd → Prop
  | no (w : Wd) : Lk X w w
  | lk {w : Wd} {d : Addr} (od : Obj) {u : HO} : w.H d = some u → Lky u → ¬ w.O d → NoFrz X d → Lk X w (w.lk d od u)
section
variable {K : PySem.W.Frag} {mg : Str → Option Value} {W : WX} {C : Nat → Bool} {σ σ' : St} {w w' w1 : Wd} {e : En} {d : Addr} {od : Obj} {u : HO}
theorem Lky.mut (h : Lky u) : Mut (some u) := by
  cases u <;> first | exact h.elim | trivial
theorem stays_lk (h : w.H d = some u) (hu : Lky u) : Stays w (w.lk d od u) := by
  refine ⟨fun a v nf q _ => ?_, fun a xs q => ?_, fun a xs q _ => ?_, fun a C dx vs q _ => ?_, fun _ q => q⟩
  · by_cases e : a = d
    · subst e
      rcases q with q | ⟨o, q⟩
      · rw [h] at q; cases q; exact .inr ⟨od, upd_same⟩
      · rw [h] at q; cases q; exact hu.elim
    · rcases q with q | ⟨o, q⟩
      · exact .inl ((upd_ne e).trans q)
      · exact .inr ⟨o, (upd_ne e).trans q⟩
  · exact (upd_ne fun e => by subst e; rw [h] at q; cases q; exact hu.elim).trans q
  · exact (upd_ne fun e => by subst e; rw [h] at q; cases q; exact hu.elim).trans q
  · exact (upd_ne fun e => by subst e; rw [h] at q; cases q; exact hu.elim).trans q
theorem stays_ul (h : w.H d = some (.frz od u)) (hu : Lky u) : Stays w (w.ul d u) := by
  refine ⟨fun a v nf q _ => ?_, fun a xs q => ?_, fun a xs q _ => ?_, fun a C dx vs q _ => ?_, fun _ q => q⟩
  · by_cases e : a = d
    · subst e
      rcases q with q | ⟨o, q⟩
      · rw [h] at q; cases q; exact nf.elim
      · rw [h] at q; cases q; exact .inl upd_same
    · rcases q with q | ⟨o, q⟩
      · exact .inl ((upd_ne e).trans q)
      · exact .inr ⟨o, (upd_ne e).trans q⟩
  · exact (upd_ne fun e => by subst e; rw [h] at q; cases q).trans q
  · exact (upd_ne fun e => by subst e; rw [h] at q; cases q).trans q
  · exact (upd_ne fun e => by subst e; rw [h] at q; cases q).trans q
theorem wf_lk (f : Wf w) (h : w.H d = some u) (hu : Lky u) (hO : ¬ w.O d) : Wf (w.lk d od u) := ⟨f.dis, fun b q => upd_tr (f.trU b q), fun b q => by
  obtain ⟨o, e, r⟩ := f.obO b q
  exact ⟨o, (upd_ne fun k => by subst k; exact hO q).trans e, r⟩, tabs_upd (by rw [h]; cases u <;> first | trivial | exact hu.elim) f.tab⟩
theorem Rel.lk {X : Cx} (k : Lk X w w1) (r : Rel K mg w e σ) : Rel K mg w1 e σ := by
  cases k with
  | no => exact r
  | @lk d od u h hu hO _ =>
    refine r.move (stays_lk h hu) (wf_lk r.wf h hu hO) fun i d' a q s => ?_
    obtain ⟨a', e1, q1, q2⟩ := r.ow i d' q
    rw [s] at e1; cases e1
    exact ⟨q1, upd_ne fun z => by subst z; exact hO q1⟩
theorem Lk.stays {X : Cx} (k : Lk X w w1) : Stays w w1 := by
  cases k with
  | no => exact ⟨fun _ _ _ h _ => h, fun _ _ h => h, fun _ _ h _ => h, fun _ _ _ _ h _ => h, fun _ h => h⟩
  | lk od h hu hO _ => exact stays_lk h hu
theorem Lk.old {X : Cx} (k : Lk X w w1) {a : Addr} (h : w1.H a = none) : w.H a = none := by
  cases k with
  | no => exact h
  | lk od h' hu hO _ =>
    cases e : w.H a with
    | none => rfl
    | some o => exact absurd h (upd_tr (none_of e))
theorem Lk.O {X : Cx} (k : Lk X w w1) : w1.O = w.O ∧ w1.U = w.U := by
  cases k <;> exact ⟨rfl, rfl⟩
/-- behind a lock: the world without it -/
structure Back (K : PySem.W.Frag) (mg : Str → Option Value) (X : Cx) (w w2 w3 : Wd) : Prop where
  step : Step w w3
  stays : Stays w2 w3
  rel : ∀ e σ, Rel K mg w2 e σ → Rel K mg w3 e σ
  ul : ∀ k : Hp → Prop, k w3.H → unl (α := Unit) X w2.H k
  top : ∀ a d, Top K mg w2 a d → Top K mg w3 a d
  xd : ∀ a vs, w2.H a = some (.xd vs) → w3.H a = some (.xd vs)
  U : w3.U = w2.U
  O : w3.O = w2.O
  old : ∀ a, w3.H a = none → w2.H a = none
theorem lk_back {X : Cx} {w2 : Wd} (k : Lk X w w1) (f1 : Wf w1) (s : Step w1 w2) : ∃ w3, Back K mg X w w2 w3 := by
  cases k with
  | no => exact ⟨w2, s, ⟨fun _ _ _ h _ => h, fun _ _ h => h, fun _ _ h _ => h, fun _ _ _ _ h _ => h, fun _ h => h⟩, fun _ _ r => r, fun _ h => .inl h, fun _ _ t => t, fun _ _ h => h, rfl, rfl, fun _ h => h⟩
  | @lk d od u h hu hO hn =>
    have e2 : w2.H d = some (.frz od u) := s.keep d _ upd_same hO trivial
    have sy := stays_ul e2 hu
    have tr1 : ∀ b, w.H b ≠ none → (w.lk d od u).H b ≠ none := fun b q => upd_tr q
    have hO2 : ¬ w2.O d := s.own d (none_of upd_same) hO
    have tp : ∀ a t, Top K mg w2 a t → (w2.ul d u).H a = w2.H a := fun a t q => by
      obtain ⟨o, e3, ho⟩ := q.ob
      refine upd_ne fun z => ?_
      subst z
      rw [e2] at e3
      cases e3
      exact ho
    refine ⟨w2.ul d u, ⟨fun b o q n nt => ?_, fun b q n => s.own b (tr1 b q) n, s.up, fun b q => s.back b (tr1 b q), fun b q => upd_tr (s.tr b (tr1 b q))⟩, sy, fun e σ r => ?_, fun k q => .inr ⟨d, od, u, hn, e2, q⟩, fun a t q => q.step sy (tp a t q), fun a vs q => ?_, rfl, rfl, fun a q => ?_⟩
    · by_cases z : b = d
      · subst z
        rw [h] at q
        cases q
        exact upd_same
      · exact (upd_ne z).trans (s.keep b o ((upd_ne z).trans q) n nt)
    · refine r.move sy ⟨r.wf.dis, fun b q => upd_tr (r.wf.trU b q), fun b q => ?_, tabs_upd (by rw [e2]; trivial) r.wf.tab⟩ fun i d' a q s' => ?_
      · obtain ⟨o, e3, ho⟩ := r.wf.obO b q
        exact ⟨o, (upd_ne fun k => by subst k; exact hO2 q).trans e3, ho⟩
      · obtain ⟨a', e1, q1, q2⟩ := r.ow i d' q
        rw [s'] at e1; cases e1
        exact ⟨q1, tp a _ q2⟩
    · refine (upd_ne fun z => ?_).trans q
      subst z
      rw [e2] at q
      cases q
    · cases e : w2.H a with
      | none => rfl
      | some o => exact absurd q (upd_tr (none_of e))
theorem Back.xden {X : Cx} {w2 w3 : Wd} (b : Back K mg X w w2 w3) {x : Xn} {c : Value} {p : Option Addr} (h : XDen K mg w2 x c p) : XDen K mg w3 x c p := by
  obtain ⟨h1, h2⟩ := h
  refine ⟨h1, ?_⟩
  rcases h2 with h2 | ⟨dx, vs, h3, h4, h5, h6⟩
  · exact .inl h2
  · exact .inr ⟨dx, vs, h3, b.xd _ _ h4, h5, h6.stays b.stays⟩
theorem lkS {X : Cx} {r : R Fl} {E : Ends} (k : Lk X w w1) (f1 : Wf w1) (h : GoesS K mg W C σ w r E) : GoesS K mg (unlW X W) C σ w1 r (unlE X E) := by
  cases r with
  | no => exact h
  | ex x e =>
    intro w2 σ2 c p s rel f q
    obtain ⟨w3, b⟩ := lk_back (K := K) (mg := mg) k f1 s
    exact b.ul _ (h w3 σ2 c p b.step (b.rel _ _ rel) f (b.xden q))
  | ok fl e =>
    intro w2 σ2 s rel f
    obtain ⟨w3, b⟩ := lk_back (K := K) (mg := mg) k f1 s
    have g := h w3 σ2 b.step (b.rel _ _ rel) f
    cases fl with
    | nx => exact b.ul _ g
    | bk => exact b.ul _ g
    | ct => exact b.ul _ g
    | rt d => exact fun v q => b.ul _ (g v (q.stays b.stays))
    | rf d =>
      intro a t hU ho hn
      refine b.ul _ (g a (b.top _ _ t) (by rw [b.U]; exact hU) ?_ hn)
      rcases ho with z | z
      · exact .inl (k.old z)
      · rw [k.O.1] at z; exact .inr z
end

/-! ### what a walk yields -/
def Yields (K : PySem.W.Frag) (mg : Str → Option Value) (w0 : Wd) (J : It) (ds : List D) : Prop := ∀ i w, Step w0 w → Wf w →
  (i < ds.length → J.go i w.H ∧ ∀ x H', J.yld i w.H x H' → ∃ w' d, w'.H = H' ∧ Step w w' ∧ (∀ e σ, Rel K mg w e σ → Rel K mg w' e σ) ∧ ds[i]? = some d ∧ Den K mg w' x d) ∧ (ds.length ≤ i → J.stop i w.H)
def GoesI (X : Cx) (W : WX) (σ : St) (w : Wd) (r : R (List D)) (Q : It → Hp → Prop) : Prop := match r with
  | .ok ds e' => ∀ w' w1 J, Step w w' → Rel X.K X.mg w' e' σ → Lk X w' w1 → Yields X.K X.mg w1 J ds → Q J w1.H
  | .ex x e' => ∀ w' c p, Step w w' → Rel X.K X.mg w' e' σ → XDen X.K X.mg w' x c p → W c p σ w'.H
  | .no => False
def tI (X : Cx) (W : WX) (fi : M (List D)) : TI := fun σ H Q => ∃ w e, w.H = H ∧ Rel X.K X.mg w e σ ∧ GoesI X W σ w (fi e) Q
abbrev VI (X : Cx) (W : WX) (tg iter : Expr) (fi : M (List D)) : Prop := PI X tg iter (tI X W fi)
def keyV : Key → D
  | .inl i => .int i
  | .inr x => .str x
theorem keyV_den {K : PySem.W.Frag} {mg : Str → Option Value} {w : Wd} : ∀ k : Key, Den K mg w (kV k) (keyV k)
  | .inl i => .int i
  | .inr x => .str x
theorem keysV_den {K : PySem.W.Frag} {mg : Str → Option Value} {w : Wd} : ∀ ks : List Key, Dens K mg w (ks.map kV) (ks.map keyV)
  | [] => .nil
  | k :: ks => .cons (keyV_den k) (keysV_den ks)
def itemsD : D → Option (List D)
  | .lst ds => some ds
  | .tup ds => some ds
  | .ktu ds => some ds
  | .frl ds => some ds
  | .str z => some (z.cps.toList.map fun c => .str ⟨#[c]⟩)
  | .dk ks => some (ks.map fun p => keyV p.1)
  | .dt ks => some (ks.map fun p => .tup (p.1.map keyV))
  | _ => none
def iterM (f : M D) : M (List D) := bnd f fun d => lift (itemsD d)
section
variable {X : Cx} {W : WX}
/-- the heap does not turn with the item -/
theorem yields_of {K : PySem.W.Frag} {mg : Str → Option Value} {w0 : Wd} {J : It} {ds : List D} (h : ∀ i w, Step w0 w → Wf w → (i < ds.length → J.go i w.H ∧ ∀ x H', J.yld i w.H x H' → H' = w.H ∧ ∃ d, ds[i]? = some d ∧ Den K mg w x d) ∧ (ds.length ≤ i → J.stop i w.H)) : Yields K mg w0 J ds := fun i w s f =>
  ⟨fun hi => ⟨((h i w s f).1 hi).1, fun x H' y => by
    obtain ⟨e, d, h1, h2⟩ := ((h i w s f).1 hi).2 x H' y
    exact ⟨w, d, e.symm, Step.refl w, fun _ _ r => r, h1, h2⟩⟩, (h i w s f).2⟩
theorem get_some {α : Type} {l : List α} {i : Nat} (h : i < l.length) : ∃ x, l[i]? = some x := ⟨_, List.getElem?_eq_getElem h⟩
theorem yields_list {K : PySem.W.Frag} {mg : Str → Option Value} {w0 : Wd} {a : Addr} {xs : List V} {ds : List D} (f0 : Wf w0) (q : Dens K mg w0 xs ds) (hs : ∀ w, Step w0 w → SqL K w.H a xs) : Yields K mg w0 (Itl K a) ds := yields_of fun i w s f => by
  have hl := q.length
  refine ⟨fun hi => ?_, fun hi => ⟨xs, hs w s, by omega⟩⟩
  obtain ⟨d, hd⟩ := get_some hi
  obtain ⟨v, hv, qv⟩ := q.get' hd
  refine ⟨⟨xs, v, hs w s, hv⟩, fun x H' ⟨e, y⟩ => ⟨e, d, hd, ?_⟩⟩
  have ev := y xs (hs w s)
  rw [hv] at ev
  cases ev
  exact qv.step s f0
theorem yields_tup {K : PySem.W.Frag} {mg : Str → Option Value} {w0 : Wd} {a : Addr} {xs : List V} {ds : List D} (f0 : Wf w0) (q : Dens K mg w0 xs ds) (hs : ∀ w, Step w0 w → SqT K w.H a xs) : Yields K mg w0 (Itt K a) ds := yields_of fun i w s f => by
  have hl := q.length
  refine ⟨fun hi => ?_, fun hi => ⟨xs, hs w s, by omega⟩⟩
  obtain ⟨d, hd⟩ := get_some hi
  obtain ⟨v, hv, qv⟩ := q.get' hd
  refine ⟨⟨xs, v, hs w s, hv⟩, fun x H' ⟨e, y⟩ => ⟨e, d, hd, ?_⟩⟩
  have ev := y xs (hs w s)
  rw [hv] at ev
  cases ev
  exact qv.step s f0
theorem yields_str {K : PySem.W.Frag} {mg : Str → Option Value} {w0 : Wd} {z : Str} : Yields K mg w0 (Its z) (z.cps.toList.map fun c => .str ⟨#[c]⟩) := yields_of fun i w s f => by
  have hl : (z.cps.toList.map fun c => D.str ⟨#[c]⟩).length = z.cps.size := by rw [List.length_map, Array.length_toList]
  rw [hl]
  refine ⟨fun hi => ⟨hi, fun x H' ⟨e, c, hc, ex⟩ => ⟨e, .str ⟨#[c]⟩, ?_, ?_⟩⟩, fun hi => hi⟩
  · rw [List.getElem?_map, Array.getElem?_toList, hc]; rfl
  · subst ex; exact .str _
theorem map_get {α β : Type} {f : α → β} {l : List α} {i : Nat} {y : β} (h : (l.map f)[i]? = some y) : ∃ x, l[i]? = some x ∧ f x = y := by
  rw [List.getElem?_map] at h
  exact Option.map_eq_some_iff.mp h
theorem len_of_keys {κ α β : Type} {ks : List (κ × α)} {ls : List (κ × β)} (h : ks.map (·.1) = ls.map (·.1)) : ks.length = ls.length := by
  have := congrArg List.length h
  rwa [List.length_map, List.length_map] at this
theorem key_at {κ α β : Type} {ks : List (κ × α)} {ls : List (κ × β)} (h : ks.map (·.1) = ls.map (·.1)) {i : Nat} {k : κ} {v : α} (e : ks[i]? = some (k, v)) : ∃ u, ls[i]? = some (k, u) := by
  have q : (ks.map (·.1))[i]? = some k := by rw [List.getElem?_map, e]; rfl
  rw [h] at q
  obtain ⟨⟨k', u⟩, h1, h2⟩ := map_get q
  have h2 : k' = k := h2
  subst h2
  exact ⟨u, h1⟩
theorem yields_keys {K : PySem.W.Frag} {mg : Str → Option Value} {w0 : Wd} {d : Addr} {od : Obj} {kvs : List (Key × V)} {ks : List (Key × D)} (h : w0.H d = some (.frz od (.dK kvs))) (hO : ¬ w0.O d) (e : kvs.map (·.1) = ks.map (·.1)) : Yields K mg w0 (Itk d od kvs) (ks.map fun p => keyV p.1) := yields_of fun i w s f => by
  have hl := len_of_keys e
  have h2 := s.keep d _ h hO trivial
  rw [List.length_map]
  refine ⟨fun hi => ⟨⟨h2, by omega⟩, fun x H' ⟨eH, k, v, hk, ex⟩ => ⟨eH, keyV k, ?_, ?_⟩⟩, fun hi => ⟨h2, by omega⟩⟩
  · obtain ⟨u, hu⟩ := key_at e hk
    rw [List.getElem?_map, hu]; rfl
  · subst ex; exact keyV_den k
theorem yields_keysT {K : PySem.W.Frag} {mg : Str → Option Value} {w0 : Wd} {d : Addr} {od : Obj} {kvs : List (List Key × V)} {ks : List (List Key × D)} (h : w0.H d = some (.frz od (.dT kvs))) (hO : ¬ w0.O d) (e : kvs.map (·.1) = ks.map (·.1)) : Yields K mg w0 (Itkt d od kvs) (ks.map fun p => .tup (p.1.map keyV)) := yields_of fun i w s f => by
  have hl := len_of_keys e
  have h2 := s.keep d _ h hO trivial
  rw [List.length_map]
  refine ⟨fun hi => ⟨⟨h2, by omega⟩, fun x H' ⟨eH, k, v, q, hk, ex, hq⟩ => ⟨eH, .tup (k.map keyV), ?_, ?_⟩⟩, fun hi => ⟨h2, by omega⟩⟩
  · obtain ⟨u, hu⟩ := key_at e hk
    rw [List.getElem?_map, hu]; rfl
  · subst ex; exact .tup hq (keysV_den k)
/-- the dict that is read, locked if it is not yet so -/
theorem lock_of {w : Wd} {a : Addr} {u : HO} {Q : VK} (f : Wf w) (h : Rd w.H a u) (hU : w.U a) (hu : Lky u) (k : ∀ od w1, Lk X w w1 → w1.H a = some (.frz od u) → ¬ w1.O a → Wf w1 → Q (.ref a) w1.H) :
    (∃ d u', V.ref a = .ref d ∧ w.H d = some u' ∧ Mut (some u') ∧ ∀ od, NoFrz X d → Q (.ref a) (upd w.H d (.frz od u'))) ∨ Q (.ref a) w.H := by
  have hO := f.dis _ hU
  rcases h with h | ⟨od, h⟩
  · exact .inl ⟨a, u, rfl, h, hu.mut, fun od hn => k od (w.lk a od u) (.lk od h hu hO hn) upd_same hO (wf_lk f h hu hO)⟩
  · exact .inr (k od w (.no w) h hO f)
def kQ (R : It → Hp → Prop) : VK := fun x H1 => ∃ d o, x = .ref d ∧ ((∃ kvs, H1 d = some (.frz o (.dK kvs)) ∧ R (Itk d o kvs) H1) ∨ ∃ kvs, H1 d = some (.frz o (.dT kvs)) ∧ R (Itkt d o kvs) H1)
theorem vi_any {tg e : Expr} {f : M D} (he : VE X W e f) : VI X W tg e (iterM f) :=
  PI.imp (PI.or (pi_list he) (PI.or (pi_tup he) (PI.or (pi_str he) (pi_keys (pe_lk he))))) fun σ H Q ⟨w, e0, hw, rel, g⟩ => by
    subst hw
    unfold iterM bnd at g
    cases hf : f e0 with
    | no => rw [hf] at g; exact g.elim
    | ex x e1 =>
      rw [hf] at g
      exact .inl ⟨w, e0, rfl, rel, by rw [hf]; exact g⟩
    | ok d e1 =>
      rw [hf] at g
      have mk : ∀ {Q' : V → Hp → Prop}, (∀ w' v, Step w w' → Rel X.K X.mg w' e1 σ → Den X.K X.mg w' v d → Q' v w'.H) → tR X.K X.mg W (rD X.K X.mg) f σ w.H Q' := fun {Q'} h => ⟨w, e0, rfl, rel, by rw [hf]; exact h⟩
      cases d with
      | lst ds =>
        refine .inl (mk fun w' v s r q => ?_)
        cases q with
        | lst h1 h2 => exact ⟨_, rfl, ⟨_, h1.sq⟩, g w' w' _ s r (.no _) (yields_list r.wf h2 fun w2 s2 => (h1.step s2 r.wf).sq)⟩
      | frl ds =>
        refine .inl (mk fun w' v s r q => ?_)
        cases q with
        | frl h1 hu h2 => exact ⟨_, rfl, ⟨_, .inl h1⟩, g w' w' _ s r (.no _) (yields_list r.wf h2 fun w2 s2 => .inl (rd_keep s2 r.wf trivial h1 hu))⟩
      | tup ds =>
        refine .inr (.inl (mk fun w' v s r q => ?_))
        cases q with
        | tup h1 h2 => exact ⟨_, rfl, ⟨_, h1.sq⟩, g w' w' _ s r (.no _) (yields_tup r.wf h2 fun w2 s2 => .inl (.inl (s2.keep _ _ h1 (r.wf.tpO h1) trivial)))⟩
      | ktu ds =>
        refine .inr (.inl (mk fun w' v s r q => ?_))
        cases q with
        | ktu h1 h2 => exact ⟨_, rfl, ⟨_, h1.sq⟩, g w' w' _ s r (.no _) (yields_tup r.wf h2 fun w2 s2 => h1.sq)⟩
      | str z =>
        refine .inr (.inr (.inl (mk fun w' v s r q => ?_)))
        cases q
        exact ⟨z, rfl, g w' w' _ s r (.no _) yields_str⟩
      | dk ks =>
        refine .inr (.inr (.inr (mk fun w' v s r q => ?_)))
        cases q with
        | @dk a kvs _ h1 hU h2 h3 => exact lock_of (X := X) (Q := kQ Q) r.wf h1 hU trivial fun od w1 k e hO f1 => ⟨a, od, rfl, .inl ⟨kvs, e, g w' w1 _ s r k (yields_keys e hO h2)⟩⟩
      | dt ks =>
        refine .inr (.inr (.inr (mk fun w' v s r q => ?_)))
        cases q with
        | @dt a kvs _ h1 hU h2 h3 => exact lock_of (X := X) (Q := kQ Q) r.wf h1 hU trivial fun od w1 k e hO f1 => ⟨a, od, rfl, .inr ⟨kvs, e, g w' w1 _ s r k (yields_keysT e hO h2)⟩⟩
      | _ => exact g.elim
end
end VL
namespace VL
open PySem PySem.Spec PyProof.Rows L2
variable [Tb]
section
variable {X : Cx} {W : WX}
/-! ### values, items, ranges -/
theorem den_at {K : PySem.W.Frag} {mg : Str → Option Value} {w : Wd} {κ : Type} {kvs : List (κ × V)} {ks : List (κ × D)} (e : kvs.map (·.1) = ks.map (·.1)) (q : Dens K mg w (kvs.map (·.2)) (ks.map (·.2))) {i : Nat} {k : κ} {v : V} (h : kvs[i]? = some (k, v)) : ∃ d, ks[i]? = some (k, d) ∧ Den K mg w v d := by
  have q1 : (kvs.map (·.2))[i]? = some v := by rw [List.getElem?_map, h]; rfl
  obtain ⟨d, h1, h2⟩ := q.get q1
  obtain ⟨⟨k', d'⟩, h3, h4⟩ := map_get h1
  have h4 : d' = d := h4
  subst h4
  obtain ⟨u, hu⟩ := key_at e h
  rw [h3] at hu
  cases hu
  exact ⟨d', h3, h2⟩
theorem yields_vals {K : PySem.W.Frag} {mg : Str → Option Value} {w0 : Wd} {d : Addr} {od : Obj} {kvs : List (Key × V)} {ks : List (Key × D)} (f0 : Wf w0) (h : w0.H d = some (.frz od (.dK kvs))) (hO : ¬ w0.O d) (e : kvs.map (·.1) = ks.map (·.1)) (q : Dens K mg w0 (kvs.map (·.2)) (ks.map (·.2))) : Yields K mg w0 (Itd d od kvs) (ks.map (·.2)) := yields_of fun i w s f => by
  have hl := len_of_keys e
  have h2 := s.keep d _ h hO trivial
  rw [List.length_map]
  refine ⟨fun hi => ⟨⟨h2, by omega⟩, fun x H' ⟨eH, k, hk⟩ => ⟨eH, ?_⟩⟩, fun hi => ⟨h2, by omega⟩⟩
  obtain ⟨d', h3, h4⟩ := den_at e q hk
  exact ⟨d', by rw [List.getElem?_map, h3]; rfl, h4.step s f0⟩
theorem yields_items {K : PySem.W.Frag} {mg : Str → Option Value} {w0 : Wd} {d : Addr} {od : Obj} {kvs : List (Key × V)} {ks : List (Key × D)} (f0 : Wf w0) (h : w0.H d = some (.frz od (.dK kvs))) (hO : ¬ w0.O d) (e : kvs.map (·.1) = ks.map (·.1)) (q : Dens K mg w0 (kvs.map (·.2)) (ks.map (·.2))) : Yields K mg w0 (Iti d od kvs) (ks.map fun p => .tup [keyV p.1, p.2]) := fun i w s f => by
  have hl := len_of_keys e
  have h2 := s.keep d _ h hO trivial
  rw [List.length_map]
  refine ⟨fun hi => ⟨⟨h2, by omega⟩, fun x H' ⟨T, k, v, hk, ex, hT, eH⟩ => ?_⟩, fun hi => ⟨h2, by omega⟩⟩
  obtain ⟨d', h3, h4⟩ := den_at e q hk
  subst ex
  subst eH
  have sT := step_an (o := .tup [kV k, v]) f hT
  exact ⟨w.an T _, .tup [keyV k, d'], rfl, sT, fun _ _ r => r.an hT, by rw [List.getElem?_map, h3]; rfl, .tup upd_same (.cons (keyV_den k) (.cons ((h4.step s f0).step sT f) .nil))⟩
theorem yields_range {K : PySem.W.Frag} {mg : Str → Option Value} {w0 : Wd} (lo : Int) (n : Nat) : Yields K mg w0 (Itr lo n) ((List.range n).map fun i => D.int (lo + (i : Nat))) := yields_of fun i w s f => by
  rw [List.length_map, List.length_range]
  refine ⟨fun hi => ⟨hi, fun x H' ⟨e, ex⟩ => ⟨e, .int (lo + (i : Nat)), ?_, ?_⟩⟩, fun hi => hi⟩
  · rw [List.getElem?_map, List.getElem?_range hi]; rfl
  · subst ex; exact .int _
def valuesD : D → Option (List D)
  | .dk ks => some (ks.map (·.2))
  | _ => none
def itemsOf : D → Option (List D)
  | .dk ks => some (ks.map fun p => .tup [keyV p.1, p.2])
  | _ => none
def walkM (g : D → Option (List D)) (f : M D) : M (List D) := bnd f fun d => lift (g d)
def vQ (R : It → Hp → Prop) : VK := fun x H1 => ∃ d o kvs, x = .ref d ∧ H1 d = some (.frz o (.dK kvs)) ∧ R (Itd d o kvs) H1
def iQ (R : It → Hp → Prop) : VK := fun x H1 => ∃ d o kvs, x = .ref d ∧ H1 d = some (.frz o (.dK kvs)) ∧ R (Iti d o kvs) H1
theorem goesI_val {σ : St} {w : Wd} {e0 : En} {f : M D} {g0 : D → Option (List D)} {R : It → Hp → Prop} {Q : V → Hp → Prop} (rel : Rel X.K X.mg w e0 σ) (g : GoesI X W σ w (walkM g0 f e0) R)
    (k : ∀ ds d e1 w' v, g0 d = some ds → Step w w' → Rel X.K X.mg w' e1 σ → Den X.K X.mg w' v d → (∀ w1 J, Lk X w' w1 → Yields X.K X.mg w1 J ds → R J w1.H) → Q v w'.H) : tR X.K X.mg W (rD X.K X.mg) f σ w.H Q := by
  unfold walkM bnd at g
  refine ⟨w, e0, rfl, rel, ?_⟩
  cases hf : f e0 with
  | no => rw [hf] at g; exact g
  | ex x e1 => rw [hf] at g; exact g
  | ok d e1 =>
    rw [hf] at g
    cases hd : g0 d with
    | none =>
      have g : GoesI X W σ w (lift (g0 d) e1) R := g
      rw [hd] at g
      exact g.elim
    | some ds =>
      have g : GoesI X W σ w (lift (g0 d) e1) R := g
      rw [hd] at g
      exact fun w' v s r q => k ds d e1 w' v hd s r q fun w1 J l y => g w' w1 J s r l y
theorem vi_values {tg e : Expr} {f : M D} {apos cpos : Pos} (he : VE X W e f) (hbase : attributeBase e "values" X.env (eval e X.env) = eval e X.env := by rfl) (hline : (apos.endLine == cpos.line) = true := by rfl) : VI X W tg (.Call (.Attribute e "values" apos) [] [] cpos) (walkM valuesD f) :=
  PI.imp (pi_values (pe_lk he) hbase hline) fun σ H R ⟨w, e0, hw, rel, g⟩ => by
    subst hw
    refine goesI_val rel g fun ds d e1 w' v hd s r q k => ?_
    cases q <;> first | (cases hd; done) | skip
    rename_i a kvs ks h1 hU h2 h3
    cases hd
    exact lock_of (X := X) (Q := vQ R) r.wf h1 hU trivial fun od w1 l e' hO f1 => ⟨a, od, kvs, rfl, e', k w1 _ l (yields_vals f1 e' hO h2 (h3.stays l.stays))⟩
theorem vi_items {elts : List Expr} {kk : Nat} {tpos : Pos} {e : Expr} {f : M D} {apos cpos : Pos} (he : VE X W e f) (hbase : attributeBase e "items" X.env (eval e X.env) = eval e X.env := by rfl) (hline : (apos.endLine == cpos.line) = true := by rfl) : VI X W (.Tuple elts kk tpos) (.Call (.Attribute e "items" apos) [] [] cpos) (walkM itemsOf f) :=
  PI.imp (pi_items (pe_lk he) hbase hline) fun σ H R ⟨w, e0, hw, rel, g⟩ => by
    subst hw
    refine goesI_val rel g fun ds d e1 w' v hd s r q k => ?_
    cases q <;> first | (cases hd; done) | skip
    rename_i a kvs ks h1 hU h2 h3
    cases hd
    exact lock_of (X := X) (Q := iQ R) r.wf h1 hU trivial fun od w1 l e' hO f1 => ⟨a, od, kvs, rfl, e', k w1 _ l (yields_items f1 e' hO h2 (h3.stays l.stays))⟩
def rangeL (lo hi : Int) : List D := (List.range (hi - lo).toNat).map fun i => D.int (lo + (i : Nat))
def small62 (i : Int) : Bool := decide (-(2 ^ 62) ≤ i) && decide (i < 2 ^ 62)
def rng1D : D → Option (List D)
  | .int j => if small62 j then some (rangeL 0 j) else none
  | _ => none
theorem small62_of {i : Int} (h : small62 i = true) : -(2 ^ 62) ≤ i ∧ i < 2 ^ 62 := by
  obtain ⟨h1, h2⟩ := Bool.and_eq_true_iff.mp h
  exact ⟨of_decide_eq_true h1, of_decide_eq_true h2⟩
theorem vi_range1 {tg a : Expr} {f : M D} {p pos : Pos} (hm : X.mg "range" = none) (ha : VE X W a f) (hg : Gl X "range" := by rfl) (hs : starEach [a] X.env = [(false, eval a X.env)] := by rfl) (hs2 : starEach [a] X.env = (false, eval a X.env) :: starEach [] X.env := by rfl) : VI X W tg (.Call (.Name "range" p) [a] [] pos) (walkM rng1D f) :=
  PI.imp (pi_range1 hg hm (pa_cons ha pa_nil hs2) hs) fun σ H R ⟨w, e0, hw, rel, g⟩ => by
    subst hw
    refine goesI_val rel g fun ds d e1 w' v hd s r q k => ?_
    cases q <;> first | (cases hd; done) | skip
    rename_i j
    unfold rng1D at hd
    dsimp only at hd
    split at hd
    · rename_i hj
      cases hd
      obtain ⟨h1, h2⟩ := small62_of hj
      have y := yields_range (K := X.K) (mg := X.mg) (w0 := w') 0 j.toNat
      refine ⟨j, rfl, h1, h2, k w' _ (.no _) ?_⟩
      unfold rangeL
      rw [Int.sub_zero]
      exact y
    · cases hd
def rngM (fa fb : M D) : M (List D) := bnd fa fun x => bnd (asI x) fun i => bnd fb fun y => bnd (asI y) fun j => chk (small62 i && small62 j) (ret (rangeL i j))
theorem vi_range2 {tg a b : Expr} {fa fb : M D} {p pos : Pos} (hm : X.mg "range" = none) (ha : VE X W a fa) (hb : VE X W b fb) (hg : Gl X "range" := by rfl) (hs : starEach [a, b] X.env = [(false, eval a X.env), (false, eval b X.env)] := by rfl)
    (hs1 : starEach [a, b] X.env = (false, eval a X.env) :: starEach [b] X.env := by rfl) (hs2 : starEach [b] X.env = (false, eval b X.env) :: starEach [] X.env := by rfl) (hs3 : starEach [b] X.env = [(false, eval b X.env)] := by rfl) : VI X W tg (.Call (.Name "range" p) [a, b] [] pos) (rngM fa fb) :=
  PI.imp (pi_range2 hg hm (pa_cons ha (pa_cons hb pa_nil hs2) hs1) hs hs3) fun σ H R ⟨w, e0, hw, rel, g⟩ => by
    subst hw
    refine ⟨w, e0, rfl, rel, ?_⟩
    unfold rngM bnd at g
    cases hf : fa e0 with
    | no => rw [hf] at g; exact g
    | ex x e1 => rw [hf] at g; exact g
    | ok d e1 =>
      rw [hf] at g
      intro w1 v s1 r1 q1
      cases q1 <;> first | (exact g.elim) | skip
      rename_i i
      refine ⟨w1, e1, rfl, r1, ?_⟩
      have g : GoesI X W σ w ((fb e1).bind fun y => bnd (asI y) fun j => chk (small62 i && small62 j) (ret (rangeL i j))) R := g
      cases hf2 : fb e1 with
      | no => rw [hf2] at g; exact g
      | ex x e2 =>
        rw [hf2] at g
        exact fun w' c p s r q => g w' c p (s1.trans s) r q
      | ok d2 e2 =>
        rw [hf2] at g
        intro w2 v2 s2 r2 q2
        cases q2 <;> first | (exact g.elim) | skip
        rename_i j
        have g : GoesI X W σ w (chk (small62 i && small62 j) (ret (rangeL i j)) e2) R := g
        cases hc : (small62 i && small62 j) with
        | false => rw [hc] at g; exact g.elim
        | true =>
          rw [hc] at g
          obtain ⟨c1, c2⟩ := Bool.and_eq_true_iff.mp hc
          obtain ⟨b1, b2⟩ := small62_of c1
          obtain ⟨b3, b4⟩ := small62_of c2
          exact ⟨i, j, rfl, ⟨b1, b2, b3, b4⟩, g w2 w2 _ (s1.trans s2) r2 (.no _) (yields_range i (j - i).toNat)⟩
/-! ### for -/
/-- behind a body's turn: k is the next turn -/
def flN (k : M Fl) : Fl → M Fl
  | .nx => k
  | .ct => k
  | .bk => ret .nx
  | .rt d => ret (.rt d)
  | .rf d => ret (.rf d)
def stP {α : Type} (o : Option En) (k : M α) : R α := match o with
  | none => .no
  | some e => k e
def forL (sm : D → En → Option En) (gb : M Fl) : List D → M Fl
  | [] => ret .nx
  | d :: ds => fun e => stP (sm d e) (bnd gb (flN (forL sm gb ds)))
def forM (fi : M (List D)) (sm : D → En → Option En) (gb : M Fl) : M Fl := bnd fi (forL sm gb)
variable {C : Nat → Bool}
theorem for_turns {sm : D → En → Option En} {gb : M Fl} {J : It} {ds : List D} {w1 : Wd} {W' : WX} {E : Ends} (f1 : Wf w1) (y : Yields X.K X.mg w1 J ds) :
    ∀ (n i : Nat) (w : Wd) (e : En) (σ : St), n = ds.length - i → i ≤ ds.length → Step w1 w → Rel X.K X.mg w e σ → GoesS X.K X.mg W' C σ w (forL sm gb (ds.drop i) e) E →
      (J.stop i w.H ∧ E.nx σ w.H) ∨ (J.go i w.H ∧ ∃ N : St → Hp → Prop, (∀ σ' H', N σ' H' → ∃ w' e', w'.H = H' ∧ i < ds.length ∧ Step w1 w' ∧ Rel X.K X.mg w' e' σ' ∧ GoesS X.K X.mg W' C σ' w' (forL sm gb (ds.drop (i + 1)) e') E) ∧
        ∀ x H', J.yld i w.H x H' → tG X.K X.mg C sm x σ H' fun σ2 H2 => tS X.K X.mg W' C gb { E with nx := N, ct := N, bk := E.nx } σ2 H2) := by
  intro n i w e σ hn hi s rel g
  by_cases hlt : i < ds.length
  · refine .inr ⟨((y i w s rel.wf).1 hlt).1, fun σ' H' => ∃ w' e', w'.H = H' ∧ i < ds.length ∧ Step w1 w' ∧ Rel X.K X.mg w' e' σ' ∧ GoesS X.K X.mg W' C σ' w' (forL sm gb (ds.drop (i + 1)) e') E, fun _ _ h => h, fun x H' yl => ?_⟩
    obtain ⟨w2, d, e2, s2, r2, hd, q⟩ := ((y i w s rel.wf).1 hlt).2 x H' yl
    have hdr : ds.drop i = d :: ds.drop (i + 1) := by
      rw [List.drop_eq_getElem_cons hlt]
      rw [List.getElem?_eq_getElem hlt] at hd
      rw [Option.some.inj hd]
    rw [hdr] at g
    have g : GoesS X.K X.mg W' C σ w (stP (sm d e) (bnd gb (flN (forL sm gb (ds.drop (i + 1)))))) E := g
    cases hs : sm d e with
    | none => rw [hs] at g; exact g.elim
    | some e1 =>
      rw [hs] at g
      have g : GoesS X.K X.mg W' C σ w ((gb e1).bind (flN (forL sm gb (ds.drop (i + 1))))) E := g
      refine ⟨w2, e, d, e1, e2, r2 _ _ rel, q, hs, fun w3 σ3 s3 r3 f3 => ⟨w3, e1, rfl, r3, ?_⟩⟩
      have g2 := GoesS.step (s2.trans s3) f3 g
      cases hb : gb e1 with
      | no => rw [hb] at g2; exact g2
      | ex x e4 => rw [hb] at g2; exact g2
      | ok fl e4 =>
        rw [hb] at g2
        have sw : Step w1 w3 := s.trans (s2.trans s3)
        cases fl with
        | nx => exact fun w4 σ4 s4 r4 f4 => ⟨w4, e4, rfl, hlt, sw.trans s4, r4, GoesS.step s4 f4 g2⟩
        | ct => exact fun w4 σ4 s4 r4 f4 => ⟨w4, e4, rfl, hlt, sw.trans s4, r4, GoesS.step s4 f4 g2⟩
        | bk => exact fun w4 σ4 s4 r4 f4 => g2 w4 σ4 s4 r4 f4
        | rt d' => exact fun w4 σ4 s4 r4 f4 => g2 w4 σ4 s4 r4 f4
        | rf d' => exact fun w4 σ4 s4 r4 f4 => g2 w4 σ4 s4 r4 f4
  · have hi2 : ds.length ≤ i := by omega
    rw [List.drop_of_length_le hi2] at g
    exact .inl ⟨(y i w s rel.wf).2 hi2, GoesS.nx g rel Fix.refl⟩
theorem vs_for {iter tg : Expr} {body : List Stmt} {fi : M (List D)} {sm : D → En → Option En} {gb : M Fl} {pos : Pos} (hp : PassesOwn (model X.prog X.w) X.A X.env X.xe) (hi : VI X W tg iter fi) (hg : VG X C tg sm) (hb : VSs X (unlW X W) C body gb) (hc : X.calm = true := by rfl)
    (hs : ∀ x, foldedSetIterable iter X.env x = pure x := by intro _; rfl) : VS X W C (.For tg iter body [] pos) (forM fi sm gb) :=
  PS.imp (ps_unl (ps_for hp hc hi hg hb hs)) fun E σ H ⟨w, e, hw, rel, g⟩ => by
    subst hw
    refine ⟨w, e, rfl, rel, ?_⟩
    unfold forM bnd at g
    cases hf : fi e with
    | no => rw [hf] at g; exact g
    | ex x e1 =>
      rw [hf] at g
      exact fun w' c p s r q => g w' σ c p s r Fix.refl q
    | ok ds e1 =>
      rw [hf] at g
      intro w' w1 J s r l y
      have r1 := r.lk l
      have g1 : GoesS X.K X.mg (unlW X W) C σ w1 (forL sm gb ds e1) (unlE X E) := lkS l r1.wf (GoesS.step s Fix.refl g)
      refine ⟨fun i m σ' H' => m = ds.length - i ∧ i ≤ ds.length ∧ ∃ w2 e2, w2.H = H' ∧ Step w1 w2 ∧ Rel X.K X.mg w2 e2 σ' ∧ GoesS X.K X.mg (unlW X W) C σ' w2 (forL sm gb (ds.drop i) e2) (unlE X E), ⟨ds.length, rfl, Nat.zero_le _, w1, e1, rfl, Step.refl w1, r1, g1⟩, ?_⟩
      rintro i m σ' H' ⟨hm, hi', w2, e2, rfl, s2, r2, g2⟩
      rcases for_turns r1.wf y m i w2 e2 σ' hm hi' s2 r2 g2 with ⟨h1, h2⟩ | ⟨h1, N, h2, h3⟩
      · exact .inl ⟨h1, h2⟩
      · refine .inr ⟨h1, N, fun σ3 H3 hN => ?_, h3⟩
        obtain ⟨w3, e3, h4, h5, h6, h7, h8⟩ := h2 σ3 H3 hN
        exact ⟨ds.length - (i + 1), by omega, rfl, by omega, w3, e3, h4, h6, h7, h8⟩
/-! ### while: at most n turns -/
def whileM (fc : M Bool) (gb : M Fl) : Nat → M Fl
  | 0 => nope
  | n + 1 => bnd fc fun b => ifM b (bnd gb (flN (whileM fc gb n))) (ret .nx)
theorem vs_while (n : Nat) {c : Expr} {body : List Stmt} {fc : M Bool} {gb : M Fl} {pos : Pos} (hp : PassesOwn (model X.prog X.w) X.A X.env X.xe) (hc : VT X W c fc) (hb : VSs X W C body gb) : VS X W C (.While c body [] pos) (whileM fc gb n) :=
  PS.imp (ps_while hp hc hb) fun E σ H ⟨w, e, hw, rel, g⟩ => by
    subst hw
    refine ⟨fun m σ' H' => ∃ w2 e2, w2.H = H' ∧ Rel X.K X.mg w2 e2 σ' ∧ GoesS X.K X.mg W C σ' w2 (whileM fc gb m e2) E, ⟨n, w, e, rfl, rel, g⟩, ?_⟩
    rintro m σ' H' ⟨w2, e2, rfl, r2, g2⟩
    cases m with
    | zero => exact g2.elim
    | succ m =>
      refine tR_mono (goesS_bind (ρ1 := rT) r2 g2) fun b H1 ⟨w3, e3, d, h3, s3, r3, q, g3⟩ => ?_
      subst h3
      have q : b = d := q
      subst q
      cases b with
      | false => exact iteF (GoesS.nx g3 r3 Fix.refl)
      | true =>
        refine iteT ⟨fun σ4 H4 => ∃ w4 e4, w4.H = H4 ∧ Rel X.K X.mg w4 e4 σ4 ∧ GoesS X.K X.mg W C σ4 w4 (whileM fc gb m e4) E, fun σ4 H4 h => ⟨m, Nat.lt_succ_self m, h⟩, w3, e3, rfl, r3, ?_⟩
        have g3 : GoesS X.K X.mg W C σ' w3 ((gb e3).bind (flN (whileM fc gb m))) E := g3
        cases hb : gb e3 with
        | no => rw [hb] at g3; exact g3
        | ex x e4 => rw [hb] at g3; exact g3
        | ok fl e4 =>
          rw [hb] at g3
          cases fl with
          | nx => exact fun w4 σ4 s4 r4 f4 => ⟨w4, e4, rfl, r4, GoesS.step s4 f4 g3⟩
          | ct => exact fun w4 σ4 s4 r4 f4 => ⟨w4, e4, rfl, r4, GoesS.step s4 f4 g3⟩
          | bk => exact fun w4 σ4 s4 r4 f4 => g3 w4 σ4 s4 r4 f4
          | rt d' => exact fun w4 σ4 s4 r4 f4 => g3 w4 σ4 s4 r4 f4
          | rf d' => exact fun w4 σ4 s4 r4 f4 => g3 w4 σ4 s4 r4 f4
end
end VL
namespace VL
open PySem PySem.Spec PyProof.Rows L2
variable [Tb]
/-! ### list comprehensions -/
def noX {α : Type} (f : M α) : M α := fun e => match f e with
  | .ok a e' => .ok a e'
  | _ => .no
def wipeE : En → List Nat → En
  | e, [] => e
  | e, v :: vs => (wipeE e vs).set v .un
theorem wipeE_len (e : En) : ∀ vs : List Nat, (wipeE e vs).length = e.length
  | [] => rfl
  | v :: vs => by unfold wipeE; rw [List.length_set, wipeE_len e vs]
theorem wipeE_some {e : En} {i : Nat} {x : Sl} (hx : x ≠ .un) : ∀ {vs : List Nat}, (wipeE e vs)[i]? = some x → e[i]? = some x ∧ i ∉ vs
  | [], h => ⟨h, by simp⟩
  | v :: vs, h => by
    rcases set_get_some (show ((wipeE e vs).set v .un)[i]? = some x from h) with ⟨_, _, z⟩ | ⟨n, z⟩
    · exact absurd z hx
    · obtain ⟨h1, h2⟩ := wipeE_some hx z
      exact ⟨h1, by simp only [List.mem_cons, not_or]; exact ⟨n, h2⟩⟩
theorem wipe_in {σ : St} {i : Nat} : ∀ {vs : List Nat}, i ∈ vs → i < σ.length → (wipe σ vs)[i]? = some none
  | [], h, _ => by cases h
  | v :: vs, h, hl => by
    unfold wipe
    by_cases e : v = i
    · subst e; rw [List.getElem?_set_self (by rw [wipe_length]; exact hl)]
    · rw [List.getElem?_set_ne e]
      exact wipe_in ((List.mem_cons.mp h).resolve_left fun z => e z.symm) hl
def cpl (vs : List Nat) : Nat → Bool := fun i => !vs.contains i
theorem cpl_of {vs : List Nat} {i : Nat} (h : i ∉ vs) : cpl vs i = true := by
  unfold cpl
  rw [Bool.not_eq_true', List.contains_eq_mem]
  exact decide_eq_false h
theorem wipe_fix {σ σ' : St} {vs : List Nat} (hl : σ'.length = σ.length) (f : Fix (cpl vs) σ σ') : wipe σ' vs = wipe σ vs := by
  refine List.ext_getElem? fun i => ?_
  by_cases h : i ∈ vs
  · by_cases hi : i < σ.length
    · rw [wipe_in h hi, wipe_in h (by rw [hl]; exact hi)]
    · rw [List.getElem?_eq_none (by rw [wipe_length]; omega), List.getElem?_eq_none (by rw [wipe_length]; omega)]
  · rw [wipe_out h, wipe_out h]
    exact f i (cpl_of h)
theorem wipe_wipe (σ : St) (vs : List Nat) : wipe (wipe σ vs) vs = wipe σ vs := wipe_fix (wipe_length σ vs) fun i hi => by
  refine wipe_out fun h => ?_
  unfold cpl at hi
  rw [Bool.not_eq_true', List.contains_eq_mem] at hi
  exact absurd h (of_decide_eq_false hi)
section
variable {K : PySem.W.Frag} {mg : Str → Option Value} {W : WX} {σ : St} {w w' : Wd} {e : En}
theorem Rel.wipe (r : Rel K mg w e σ) (vs : List Nat) : Rel K mg w (wipeE e vs) (L2.wipe σ vs) where
  wf := r.wf
  len := by rw [wipe_length, wipeE_len]; exact r.len
  fz := fun i d h => by
    obtain ⟨h1, h2⟩ := wipeE_some (fun z => by cases z) h
    obtain ⟨v, e1, q⟩ := r.fz i d h1
    exact ⟨v, by rw [wipe_out h2]; exact e1, q⟩
  ow := fun i d h => by
    obtain ⟨h1, h2⟩ := wipeE_some (fun z => by cases z) h
    obtain ⟨v, e1, q⟩ := r.ow i d h1
    exact ⟨v, by rw [wipe_out h2]; exact e1, q⟩
  ap := fun i j d d' a h h' s s' => by
    obtain ⟨h1, h2⟩ := wipeE_some (fun z => by cases z) h
    obtain ⟨h3, h4⟩ := wipeE_some (fun z => by cases z) h'
    rw [wipe_out h2] at s
    rw [wipe_out h4] at s'
    exact r.ap i j d d' a h1 h3 s s'
theorem Rel.unwipe {vs : List Nat} (r : Rel K mg w (wipeE e vs) (L2.wipe σ vs)) : Rel K mg w (wipeE e vs) σ where
  wf := r.wf
  len := by rw [← r.len, wipe_length]
  fz := fun i d h => by
    obtain ⟨h1, h2⟩ := wipeE_some (fun z => by cases z) h
    obtain ⟨v, e1, q⟩ := r.fz i d h
    exact ⟨v, by rw [wipe_out h2] at e1; exact e1, q⟩
  ow := fun i d h => by
    obtain ⟨h1, h2⟩ := wipeE_some (fun z => by cases z) h
    obtain ⟨v, e1, q⟩ := r.ow i d h
    exact ⟨v, by rw [wipe_out h2] at e1; exact e1, q⟩
  ap := fun i j d d' a h h' s s' => by
    obtain ⟨h1, h2⟩ := wipeE_some (fun z => by cases z) h
    obtain ⟨h3, h4⟩ := wipeE_some (fun z => by cases z) h'
    exact r.ap i j d d' a h h' (by rw [wipe_out h2]; exact s) (by rw [wipe_out h4]; exact s')
theorem noX_of {α β : Type} {ρ : Wd → Wd → En → β → α → Prop} {γ δ : Type} {ρ2 : Wd → Wd → En → δ → γ → Prop} {f : M α} {k : α → M γ} {Q : δ → Hp → Prop} {w0 : Wd} (h : Goes K mg W σ ρ2 w0 (bnd (noX f) k e) Q) : ∃ a e', f e = .ok a e' ∧ Goes K mg W σ ρ2 w0 (k a e') Q := by
  unfold bnd noX at h
  cases hf : f e with
  | ok a e' => rw [hf] at h; exact ⟨a, e', rfl, h⟩
  | ex x e' => rw [hf] at h; exact h.elim
  | no => rw [hf] at h; exact h.elim
end
/-- what a target does leaves the frame's length -/
def LenP (sm : D → En → Option En) : Prop := ∀ d e e', sm d e = some e' → e'.length = e.length
def LenPs (sm : List D → En → Option En) : Prop := ∀ d e e', sm d e = some e' → e'.length = e.length
theorem lp_name (i : Nat) : LenP (stM i) := fun d e e' h => by
  cases h
  exact List.length_set
theorem lp_nil : LenPs stNil := fun ds e e' h => by
  cases ds with
  | nil => cases h; rfl
  | cons _ _ => cases h
theorem lp_cons {s : D → En → Option En} {r : List D → En → Option En} (h1 : LenP s) (h2 : LenPs r) : LenPs (stCons s r) := fun ds e e' h => by
  cases ds with
  | nil => cases h
  | cons d ds =>
    obtain ⟨e1, h3, h4⟩ := Option.bind_eq_some_iff.mp h
    exact (h2 _ _ _ h4).trans (h1 _ _ _ h3)
theorem lp_tup {n : Nat} {r : List D → En → Option En} (h : LenPs r) : LenP (stTup n r) := fun d e e' q => by
  unfold stTup at q
  cases d with
  | tup ds =>
    dsimp only at q
    split at q
    · exact h _ _ _ q
    · cases q
  | ktu ds =>
    dsimp only at q
    split at q
    · exact h _ _ _ q
    · cases q
  | _ => cases q
def lcL (sm : D → En → Option En) (ft : M Bool) (fe : M D) (vs : List Nat) : List D → M (List D)
  | [] => fun e => .ok [] (wipeE e vs)
  | d :: ds => fun e => stP (sm d (wipeE e vs)) (bnd (noX ft) fun b => ifM b (bnd (noX fe) fun y => bnd (lcL sm ft fe vs ds) fun ys => ret (y :: ys)) (lcL sm ft fe vs ds))
def lcM (fi : M (List D)) (sm : D → En → Option En) (ft : M Bool) (fe : M D) (vs : List Nat) : M D := bnd fi fun ds => bnd (lcL sm ft fe vs ds) fun ys => chk (decide (ys.length ≤ line)) (ret (.lst ys))
theorem R.bind_assoc {α β γ : Type} (r : R α) (f : α → M β) (g : β → M γ) : (r.bind f).bind g = r.bind fun a e => (f a e).bind g := by
  cases r <;> rfl
section
variable {X : Cx} {W : WX}
abbrev W0 : WX := fun _ _ _ _ => False
/-- the block's own context -/
abbrev Cx.in' (X : Cx) (s : Shared) (H : Hp) (scope : Scope) (C : Addr) (cl : List (Str × Addr)) (fp : List Addr) : Cx := X.blk s H scope (compEnvC scope cl C X.env) fp
def LcK (acc : List D) (ys : List D) : M D := chk (decide ((acc ++ ys).length ≤ line)) (ret (.lst (acc ++ ys)))
theorem lc_acc {sm : D → En → Option En} {ft : M Bool} {fe : M D} {vs : List Nat} {σ : St} {w : Wd} {ρ : Wd → Wd → En → V → D → Prop} {Q : VK} : ∀ (ds : List D) (acc : List D) (e : En), Goes X.K X.mg W σ ρ w (bnd (lcL sm ft fe vs ds) (LcK acc) e) Q → acc.length ≤ line
  | [], acc, e, h => by
    have h : Goes X.K X.mg W σ ρ w (LcK acc [] (wipeE e vs)) Q := h
    obtain ⟨hc, _⟩ := chk_of h
    have := of_decide_eq_true hc
    rw [List.append_nil] at this
    exact this
  | d :: ds, acc, e, h => by
    have h : Goes X.K X.mg W σ ρ w ((stP (sm d (wipeE e vs)) (bnd (noX ft) fun b => ifM b (bnd (noX fe) fun y => bnd (lcL sm ft fe vs ds) fun ys => ret (y :: ys)) (lcL sm ft fe vs ds))).bind (LcK acc)) Q := h
    cases hs : sm d (wipeE e vs) with
    | none => rw [hs] at h; exact h.elim
    | some e1 =>
      rw [hs] at h
      have h : Goes X.K X.mg W σ ρ w (((noX ft e1).bind fun b => ifM b (bnd (noX fe) fun y => bnd (lcL sm ft fe vs ds) fun ys => ret (y :: ys)) (lcL sm ft fe vs ds)).bind (LcK acc)) Q := h
      rw [R.bind_assoc] at h
      obtain ⟨b, e2, _, h⟩ := noX_of (ρ := fun _ _ _ (_ : Unit) _ => True) h
      cases b with
      | false => exact lc_acc ds acc e2 h
      | true =>
        have h : Goes X.K X.mg W σ ρ w (((noX fe e2).bind fun y => bnd (lcL sm ft fe vs ds) fun ys => ret (y :: ys)).bind (LcK acc)) Q := h
        rw [R.bind_assoc] at h
        obtain ⟨y, e3, _, h⟩ := noX_of (ρ := fun _ _ _ (_ : Unit) _ => True) h
        have h : Goes X.K X.mg W σ ρ w (((lcL sm ft fe vs ds e3).bind fun ys => ret (y :: ys)).bind (LcK acc)) Q := h
        rw [R.bind_assoc] at h
        have e5 : (fun (a : List D) (e : En) => ((ret (y :: a) : M (List D)) e).bind (LcK acc)) = LcK (acc ++ [y]) := by
          funext ys e
          show LcK acc (y :: ys) e = LcK (acc ++ [y]) ys e
          unfold LcK
          rw [List.append_cons]
        rw [e5] at h
        have := lc_acc ds (acc ++ [y]) e3 h
        rw [List.length_append] at this
        omega
theorem lc_imp {elt tg iter : Expr} {ifs : List Expr} {scope : Scope} {own : List (Str × Nat)} {fi : M (List D)} {sm : D → En → Option En} {ft : M Bool} {fe : M D} (hl : LenP sm) {σ : St} {H : Hp} {Q : VK} (h : tR X.K X.mg W (rF X.K X.mg) (lcM fi sm ft fe (own.map (·.2))) σ H Q) :
    tLc (tI X W fi) (tG X.K X.mg (cpl (own.map (·.2))) sm) (tR X.K X.mg W0 rT ft) (tR X.K X.mg W0 (rD X.K X.mg) fe) (own.map (·.2)) σ H (fun v H1 => unl (α := Unit) X H1 (Q v)) := by
  obtain ⟨w, e, hw, rel, g⟩ := h
  subst hw
  generalize own.map (·.2) = vs at g ⊢
  refine ⟨w, e, rfl, rel, ?_⟩
  unfold lcM bnd at g
  cases hf : fi e with
  | no => rw [hf] at g; exact g
  | ex x e1 => rw [hf] at g; exact g
  | ok ds e1 =>
    rw [hf] at g
    intro w' w1 J s r l y Dp hD
    have r1 := r.lk l
    have hU : ¬ w1.U Dp := newU r1.wf hD
    have hO : ¬ w1.O Dp := newO r1.wf hD
    have hDw : w.H Dp = none := s.old (l.old hD)
    have g : Goes X.K X.mg W σ (rF X.K X.mg σ) w (bnd (lcL sm ft fe vs ds) (LcK []) e1) Q := g
    refine ⟨fun i m H => m = ds.length - i ∧ i ≤ ds.length ∧ ∃ w2 e2 acc dacc, w2.H = H ∧ Step w1 w2 ∧ ¬ w2.U Dp ∧ ¬ w2.O Dp ∧ w2.H Dp = some (.lst acc) ∧ Dens X.K X.mg w2 acc dacc ∧ Rel X.K X.mg w2 (wipeE e2 vs) (wipe σ vs) ∧
      Goes X.K X.mg W σ (rF X.K X.mg σ) w (bnd (lcL sm ft fe vs (ds.drop i)) (LcK dacc) e2) Q, ⟨ds.length, rfl, Nat.zero_le _, w1.an Dp (.lst []), e1, [], [], rfl, step_an r1.wf hD, hU, hO, upd_same, .nil, (r1.an hD).wipe vs, g⟩, ?_⟩
    rintro i m H ⟨hm, hi, w2, e2, acc, dacc, rfl, s2, hU2, hO2, hD2, q2, r2, g2⟩
    by_cases hlt : i < ds.length
    · refine .inr ⟨((y i w2 s2 r2.wf).1 hlt).1, fun H' => ∃ w3 e3 acc' dacc', w3.H = H' ∧ Step w1 w3 ∧ ¬ w3.U Dp ∧ ¬ w3.O Dp ∧ w3.H Dp = some (.lst acc') ∧ Dens X.K X.mg w3 acc' dacc' ∧ Rel X.K X.mg w3 (wipeE e3 vs) (wipe σ vs) ∧
        Goes X.K X.mg W σ (rF X.K X.mg σ) w (bnd (lcL sm ft fe vs (ds.drop (i + 1))) (LcK dacc') e3) Q, fun H' h => ⟨ds.length - (i + 1), by omega, rfl, by omega, h⟩, fun x H' yl => ?_⟩
      obtain ⟨w3, d, e3, s3, r3, hd, q3⟩ := ((y i w2 s2 r2.wf).1 hlt).2 x H' yl
      subst e3
      have hdr : ds.drop i = d :: ds.drop (i + 1) := by
        rw [List.drop_eq_getElem_cons hlt]
        rw [List.getElem?_eq_getElem hlt] at hd
        rw [Option.some.inj hd]
      rw [hdr] at g2
      generalize ds.drop (i + 1) = rest at g2 ⊢
      have g2 : Goes X.K X.mg W σ (rF X.K X.mg σ) w ((stP (sm d (wipeE e2 vs)) (bnd (noX ft) fun b => ifM b (bnd (noX fe) fun y => bnd (lcL sm ft fe vs rest) fun ys => ret (y :: ys)) (lcL sm ft fe vs rest))).bind (LcK dacc)) Q := g2
      cases hs : sm d (wipeE e2 vs) with
      | none => rw [hs] at g2; exact g2.elim
      | some e4 =>
        rw [hs] at g2
        have g2 : Goes X.K X.mg W σ (rF X.K X.mg σ) w (((noX ft e4).bind fun b => ifM b (bnd (noX fe) fun y => bnd (lcL sm ft fe vs rest) fun ys => ret (y :: ys)) (lcL sm ft fe vs rest)).bind (LcK dacc)) Q := g2
        rw [R.bind_assoc] at g2
        obtain ⟨b, e5, hb, g2⟩ := noX_of (ρ := fun _ _ _ (_ : Unit) _ => True) g2
        refine ⟨w3, wipeE e2 vs, d, e4, rfl, r3 _ _ r2, q3, hs, fun w4 σ4 s4 r4 f4 => ?_⟩
        have hlen : σ4.length = (wipe σ vs).length := by rw [r4.len, hl _ _ _ hs, ← r2.len]
        have hw4 : wipe σ4 vs = wipe σ vs := (wipe_fix hlen f4).trans (wipe_wipe σ vs)
        refine ⟨hw4, w4, e4, rfl, r4, ?_⟩
        rw [hb]
        rintro w5 b' s5 r5 rfl
        -- the new list through all of it
        have st : Step w2 w5 := (s3.trans s4).trans s5
        have hid : ∀ {w6 : Wd}, Step w2 w6 → ¬ w6.U Dp ∧ ¬ w6.O Dp ∧ w6.H Dp = some (.lst acc) := fun {w6} s6 =>
          ⟨fun z => (s6.back Dp (none_of hD2) z).elim hU2 hO2, s6.own Dp (none_of hD2) hO2, s6.keep Dp _ hD2 hO2 trivial⟩
        cases b' with
        | false =>
          refine iteF ⟨w5, e5, acc, dacc, rfl, s2.trans st, (hid st).1, (hid st).2.1, (hid st).2.2, q2.step st r2.wf, ?_, g2⟩
          rw [← hw4]
          exact r5.wipe vs
        | true =>
          have g2 : Goes X.K X.mg W σ (rF X.K X.mg σ) w (((noX fe e5).bind fun y => bnd (lcL sm ft fe vs rest) fun ys => ret (y :: ys)).bind (LcK dacc)) Q := g2
          rw [R.bind_assoc] at g2
          obtain ⟨dy, e6, hy, g2⟩ := noX_of (ρ := fun _ _ _ (_ : Unit) _ => True) g2
          have g2 : Goes X.K X.mg W σ (rF X.K X.mg σ) w (((lcL sm ft fe vs rest e6).bind fun ys => ret (dy :: ys)).bind (LcK dacc)) Q := g2
          rw [R.bind_assoc] at g2
          have e7 : (fun (a : List D) (e : En) => ((ret (dy :: a) : M (List D)) e).bind (LcK dacc)) = LcK (dacc ++ [dy]) := by
            funext ys e
            show LcK dacc (dy :: ys) e = LcK (dacc ++ [dy]) ys e
            unfold LcK
            rw [List.append_cons]
          rw [e7] at g2
          have hacc := lc_acc rest (dacc ++ [dy]) e6 g2
          rw [List.length_append, ← q2.length] at hacc
          refine iteT ⟨w5, e5, rfl, r5, ?_⟩
          rw [hy]
          intro w6 v s6 r6 q6
          have st6 := st.trans s6
          obtain ⟨h1, h2, h3⟩ := hid st6
          have hT : Plain (w6.H Dp) := by rw [h3]; trivial
          have sy := stays_hid (o := .lst (acc ++ [v])) h1 hT
          refine ⟨acc, h3, by rw [line_eq]; simp at hacc; omega, w6.an Dp (.lst (acc ++ [v])), e6, acc ++ [v], dacc ++ [dy], rfl, step_hid (s2.trans st6) hD, h1, h2, upd_same, ((q2.step st6 r2.wf).append (.cons q6 .nil)).stays sy, ?_, g2⟩
          rw [← hw4]
          exact (r6.hid h1 h2 hT).wipe vs
    · have hi2 : ds.length ≤ i := by omega
      rw [List.drop_of_length_le hi2] at g2
      have g2 : Goes X.K X.mg W σ (rF X.K X.mg σ) w (LcK dacc [] (wipeE e2 vs)) Q := g2
      obtain ⟨_, g2⟩ := chk_of g2
      rw [List.append_nil] at g2
      refine .inl ⟨(y i w2 s2 r2.wf).2 hi2, ?_⟩
      obtain ⟨w3, b⟩ := lk_back (K := X.K) (mg := X.mg) l r1.wf s2
      refine b.ul _ (g2 w3 _ (s.trans b.step) (b.rel _ _ r2.unwipe) ⟨Dp, rfl, hDw, by rw [b.U]; exact hU2, by rw [b.O]; exact hO2, b.top _ _ ⟨acc, hD2, q2⟩⟩)
/-- the tests of a comprehension -/
abbrev VTs (X : Cx) (W : WX) (ifs : List Expr) (f : M Bool) : Prop := PTs X ifs (tR X.K X.mg W rT f)
theorem vts_nil : VTs X W [] (ret true) := ⟨fun pins s σ H Q I ⟨w, e, hw, rel, g⟩ => pts_nil.run pins s σ H Q I (by
  subst hw
  exact Goes.ok g rel rfl)⟩
theorem vts_one {c : Expr} {f : M Bool} (h : VT X W c f) : VTs X W [c] f := pts_one h
theorem vf_lc {elt tg iter : Expr} {ifs : List Expr} {scope : Scope} {own : List (Str × Nat)} {pos : Pos} {fi : M (List D)} {sm : D → En → Option En} {ft : M Bool} {fe : M D} (hN : X.N.Nodup) (hi : VI X W tg iter fi) (ok : BlkOk X.N X.env.scope scope own) (hl : LenP sm)
    (hg : ∀ (s : Shared) (H : Hp) (C : Addr) (cl : List (Str × Addr)) (fp : List Addr), VG (Cx.in' X s H scope C cl fp) (cpl (own.map (·.2))) tg sm)
    (ht : ∀ (s : Shared) (H : Hp) (C : Addr) (cl : List (Str × Addr)) (fp : List Addr), VTs (Cx.in' X s H scope C cl fp) W0 ifs ft)
    (he : ∀ (s : Shared) (H : Hp) (C : Addr) (cl : List (Str × Addr)) (fp : List Addr), VE (Cx.in' X s H scope C cl fp) W0 elt fe)
    (hc : X.calm = true := by rfl) (hs : ∀ x, foldedSetIterable iter X.env x = pure x := by intro _; rfl) : VF X W (.ListComp elt [⟨tg, iter, ifs, 0⟩] scope pos) (lcM fi sm ft fe (own.map (·.2))) :=
  PE.imp (pe_unl (pe_lc hc hN hi ok hg ht he hs)) fun σ H Q h => lc_imp (elt := elt) (tg := tg) (iter := iter) (ifs := ifs) (scope := scope) hl h
theorem goesS_newF {C : Nat → Bool} {i : Nat} {σ : St} {w : Wd} {e : En} {E : Ends} {f : M D} (rel : Rel X.K X.mg w e σ) (hC : C i = false) (g : GoesS X.K X.mg W C σ w (setM i f e) E) :
    tR X.K X.mg W (rF X.K X.mg) f σ w.H fun x H1 => E.nx (σ.set i (some x)) H1 := by
  unfold setM bnd at g
  refine ⟨w, e, rfl, rel, ?_⟩
  cases hf : f e with
  | no => rw [hf] at g; exact g
  | ex x e1 =>
    rw [hf] at g
    exact fun w' c p s r q => g w' σ c p s r Fix.refl q
  | ok d e1 =>
    rw [hf] at g
    rintro w' v s r ⟨a, rfl, hn, hU, hO, t⟩
    exact g (w'.hd a) _ (step_hd s hn) ((r.hd t.tr hO).store i (t.den stays_hd rfl (.inr rfl))) (Fix.set hC)
/-- name = [..] on one line, the name a plain local -/
theorem vs_setLc {C : Nat → Bool} (i : Nat) {y : Str} {py : Pos} {elt tg iter : Expr} {ifs : List Expr} {scope : Scope} {own : List (Str × Nat)} {pos spos : Pos} {fi : M (List D)} {sm : D → En → Option En} {ft : M Bool} {fe : M D} (hN : X.N.Nodup) (hi : VI X W tg iter fi) (ok : BlkOk X.N X.env.scope scope own) (hl : LenP sm)
    (hg : ∀ (s : Shared) (H : Hp) (C : Addr) (cl : List (Str × Addr)) (fp : List Addr), VG (Cx.in' X s H scope C cl fp) (cpl (own.map (·.2))) tg sm)
    (ht : ∀ (s : Shared) (H : Hp) (C : Addr) (cl : List (Str × Addr)) (fp : List Addr), VTs (Cx.in' X s H scope C cl fp) W0 ifs ft)
    (he : ∀ (s : Shared) (H : Hp) (C : Addr) (cl : List (Str × Addr)) (fp : List Addr), VE (Cx.in' X s H scope C cl fp) W0 elt fe)
    (hsw : swapsWith (.ListComp elt [⟨tg, iter, ifs, 0⟩] scope pos) (some (.Name y py)) spos.line X.env = pure true)
    (hy : X.N[i]? = some y := by rfl) (hyl : X.env.scope.names.lookup y = some .local := by rfl) (hC : C i = false := by rfl) (hc : X.calm = true := by rfl) (hs : ∀ x, foldedSetIterable iter X.env x = pure x := by intro _; rfl) :
    VS X W C (.Assign [.Name y py] (.ListComp elt [⟨tg, iter, ifs, 0⟩] scope pos) spos) (setM i (lcM fi sm ft fe (own.map (·.2)))) :=
  PS.imp (ps_unl (ps_setLc hc hN hy hyl hsw hi ok hg ht he hs)) fun E σ H ⟨w, e, hw, rel, g⟩ => by
    subst hw
    exact lc_imp (elt := elt) (tg := tg) (iter := iter) (ifs := ifs) (scope := scope) hl (goesS_newF rel hC g)
theorem vs_setLcO {C : Nat → Bool} (i : Nat) {y : Str} {py : Pos} {elt tg iter : Expr} {ifs : List Expr} {scope : Scope} {own : List (Str × Nat)} {pos spos : Pos} {fi : M (List D)} {sm : D → En → Option En} {ft : M Bool} {fe : M D} (hN : X.N.Nodup) (hi : VI X W tg iter fi) (ok : BlkOk X.N X.env.scope scope own) (hl : LenP sm)
    (hg : ∀ (s : Shared) (H : Hp) (C : Addr) (cl : List (Str × Addr)) (fp : List Addr), VG (Cx.in' X s H scope C cl fp) (cpl (own.map (·.2))) tg sm)
    (ht : ∀ (s : Shared) (H : Hp) (C : Addr) (cl : List (Str × Addr)) (fp : List Addr), VTs (Cx.in' X s H scope C cl fp) W0 ifs ft)
    (he : ∀ (s : Shared) (H : Hp) (C : Addr) (cl : List (Str × Addr)) (fp : List Addr), VE (Cx.in' X s H scope C cl fp) W0 elt fe)
    (hsw : swapsWith (.ListComp elt [⟨tg, iter, ifs, 0⟩] scope pos) (some (.Name y py)) spos.line X.env = pure true)
    (hy : X.N[i]? = some y := by rfl) (hyl : X.env.scope.names.lookup y = some .local := by rfl) (hC : C i = false := by rfl) (hc : X.calm = true := by rfl) (hs : ∀ x, foldedSetIterable iter X.env x = pure x := by intro _; rfl) :
    VS X W C (.Assign [.Name y py] (.ListComp elt [⟨tg, iter, ifs, 0⟩] scope pos) spos) (setO i (lcM fi sm ft fe (own.map (·.2)))) :=
  PS.imp (ps_unl (ps_setLc hc hN hy hyl hsw hi ok hg ht he hs)) fun E σ H ⟨w, e, hw, rel, g⟩ => by
    subst hw
    exact lc_imp (elt := elt) (tg := tg) (iter := iter) (ifs := ifs) (scope := scope) hl (goesS_new rel hC g)
end
end VL
namespace VL
open PySem PySem.Spec PyProof.Rows L2
variable [Tb]
/-! ### what is owned is changed in place -/
def modS {α : Type} (i : Nat) (g : D → Option (D × α)) : M α := fun e => match e[i]? with
  | some (.ow d) => match g d with
    | some (d', a) => .ok a (e.set i (.ow d'))
    | none => .no
  | _ => .no
theorem modS_cases {α : Type} (e : En) (i : Nat) (g : D → Option (D × α)) : modS i g e = .no ∨ ∃ d d' a, e[i]? = some (Sl.ow d) ∧ g d = some (d', a) ∧ modS i g e = .ok a (e.set i (.ow d')) := by
  rcases sl_cases e i with h | ⟨d, h⟩ | ⟨d, h⟩
  · rcases h with h | h <;> exact .inl (by unfold modS; rw [h])
  · exact .inl (by unfold modS; rw [h])
  · cases hg : g d with
    | none => exact .inl (by unfold modS; rw [h]; dsimp only; rw [hg])
    | some p =>
      obtain ⟨d', a⟩ := p
      exact .inr ⟨d, d', a, h, hg, by unfold modS; rw [h]; dsimp only; rw [hg]⟩
def putD {κ : Type} [DecidableEq κ] (ks : List (κ × D)) (k : κ) (v : D) : List (κ × D) :=
  if (ks.any fun p => decide (p.1 = k)) = true then ks.map (fun p => if p.1 = k then (p.1, v) else p) else ks ++ [(k, v)]
def dropD {κ : Type} [DecidableEq κ] (ks : List (κ × D)) (k : κ) : List (κ × D) := ks.filter fun p => decide (p.1 ≠ k)
section
variable {K : PySem.W.Frag} {mg : Str → Option Value} {w : Wd}
/-- two dicts with the same keys, side by side -/
inductive DK {κ : Type} (K : PySem.W.Frag) (mg : Str → Option Value) (w : Wd) : List (κ × V) → List (κ × D) → Prop
  | nil : DK K mg w [] []
  | cons {k : κ} {v : V} {d : D} {ks : List (κ × V)} {ls : List (κ × D)} : Den K mg w v d → DK K mg w ks ls → DK K mg w ((k, v) :: ks) ((k, d) :: ls)
theorem DK.of {κ : Type} : ∀ {ks : List (κ × V)} {ls : List (κ × D)}, ks.map (·.1) = ls.map (·.1) → Dens K mg w (ks.map (·.2)) (ls.map (·.2)) → DK K mg w ks ls
  | [], [], _, _ => .nil
  | [], _ :: _, h, _ => by cases h
  | _ :: _, [], h, _ => by cases h
  | (a, x) :: ks, (b, y) :: ls, h, q => by
    rw [List.map_cons, List.map_cons] at h
    have h1 : a = b := (List.cons.inj h).1
    subst h1
    cases q with
    | cons q1 q2 => exact .cons q1 (DK.of (List.cons.inj h).2 q2)
theorem DK.keys {κ : Type} {ks : List (κ × V)} {ls : List (κ × D)} (h : DK K mg w ks ls) : ks.map (·.1) = ls.map (·.1) := by
  induction h with
  | nil => rfl
  | cons _ _ ih => rw [List.map_cons, List.map_cons, ih]
theorem DK.dens {κ : Type} {ks : List (κ × V)} {ls : List (κ × D)} (h : DK K mg w ks ls) : Dens K mg w (ks.map (·.2)) (ls.map (·.2)) := by
  induction h with
  | nil => exact .nil
  | cons q _ ih => exact .cons q ih
theorem DK.len {κ : Type} {ks : List (κ × V)} {ls : List (κ × D)} (h : DK K mg w ks ls) : ks.length = ls.length := by
  induction h with
  | nil => rfl
  | cons _ _ ih => rw [List.length_cons, List.length_cons, ih]
theorem DK.any {κ : Type} [DecidableEq κ] {ks : List (κ × V)} {ls : List (κ × D)} (h : DK K mg w ks ls) (k : κ) : (ks.any fun p => decide (p.1 = k)) = ls.any fun p => decide (p.1 = k) := by
  induction h with
  | nil => rfl
  | cons _ _ ih => rw [List.any_cons, List.any_cons, ih]
theorem DK.snoc {κ : Type} {ks : List (κ × V)} {ls : List (κ × D)} (h : DK K mg w ks ls) {k : κ} {v : V} {d : D} (q : Den K mg w v d) : DK K mg w (ks ++ [(k, v)]) (ls ++ [(k, d)]) := by
  induction h with
  | nil => exact .cons q .nil
  | cons q' _ ih => exact .cons q' ih
theorem DK.repl {κ : Type} [DecidableEq κ] {ks : List (κ × V)} {ls : List (κ × D)} (h : DK K mg w ks ls) {k : κ} {v : V} {d : D} (q : Den K mg w v d) : DK K mg w (ks.map fun p => if p.1 = k then (p.1, v) else p) (ls.map fun p => if p.1 = k then (p.1, d) else p) := by
  induction h with
  | nil => exact .nil
  | @cons k' v' d' _ _ q' _ ih =>
    rw [List.map_cons, List.map_cons]
    by_cases e : k' = k
    · rw [if_pos e, if_pos e]; exact .cons q ih
    · rw [if_neg e, if_neg e]; exact .cons q' ih
theorem DK.put {κ : Type} [DecidableEq κ] {ks : List (κ × V)} {ls : List (κ × D)} (h : DK K mg w ks ls) (k : κ) {v : V} {d : D} (q : Den K mg w v d) : DK K mg w (putK ks k v) (putD ls k d) := by
  unfold putK putD
  rw [h.any k]
  split
  · exact h.repl q
  · exact h.snoc q
theorem DK.drop {κ : Type} [DecidableEq κ] {ks : List (κ × V)} {ls : List (κ × D)} (h : DK K mg w ks ls) (k : κ) : DK K mg w (dropK ks k) (dropD ls k) := by
  unfold dropK dropD
  induction h with
  | nil => exact .nil
  | @cons k' v' d' _ _ q' _ ih =>
    by_cases e : k' = k
    · rw [List.filter_cons_of_neg (by simpa using e), List.filter_cons_of_neg (by simpa using e)]; exact ih
    · rw [List.filter_cons_of_pos (by simpa using e), List.filter_cons_of_pos (by simpa using e)]; exact .cons q' ih
theorem DK.stays {κ : Type} {w' : Wd} (s : Stays w w') {ks : List (κ × V)} {ls : List (κ × D)} (h : DK K mg w ks ls) : DK K mg w' ks ls := by
  induction h with
  | nil => exact .nil
  | cons q _ ih => exact .cons (q.stays s) ih
theorem DK.val {κ : Type} [DecidableEq κ] {ks : List (κ × V)} {ls : List (κ × D)} (h : DK K mg w ks ls) (k : κ) : (valD ls k = none ∧ valV ks k = none) ∨ ∃ d v, valD ls k = some d ∧ valV ks k = some v ∧ Den K mg w v d := valD_den k h.keys h.dens
end
/-- c[k] = v -/
def setItemD (c k v : D) : Option D := match c, k with
  | .lst ds, .int i => (ixN ds.length i).map fun j => .lst (ds.set j v)
  | .dk ks, k => if ks.length < line then (keyD k).map fun k => .dk (putD ks k v) else none
  | .dt ks, .tup ys => if ks.length < line then (keysD ys).map fun k => .dt (putD ks k v) else none
  | _, _ => none
section
variable {X : Cx} {W : WX} {C : Nat → Bool}
theorem stays_own {w : Wd} {a : Addr} {o : HO} (f : Wf w) (h : w.O a) : Stays w (w.mt a o) := (step_mt h).stays f
/-- the heap behind a store into what stands at slot i -/
theorem store_top {K : PySem.W.Frag} {mg : Str → Option Value} {w : Wd} {a : Addr} {c k v' c' : D} {y v : V} (f : Wf w) (ha : w.O a) (t : Top K mg w a c) (lk : Look K mg w y k) (q : Den K mg w v v') (h : setItemD c k v' = some c') :
    (∃ xs i j, c = .lst (match c with | .lst ds => ds | _ => []) ∧ y = .int i ∧ w.H a = some (.lst xs) ∧ ixN xs.length i = some j ∧ Top K mg (w.mt a (.lst (xs.set j v))) a c') ∨ ((∀ ds, c ≠ .lst ds) ∧ ∃ o, DPut w.H a y v (upd w.H a o) ∧ Top K mg (w.mt a o) a c') := by
  cases c with
  | lst ds =>
    cases k with
    | int i =>
      obtain ⟨j, hj, rfl⟩ := Option.map_eq_some_iff.mp h
      obtain ⟨xs, h1, h2⟩ := t
      refine .inl ⟨xs, i, j, rfl, lk.int, h1, by rw [h2.length]; exact hj, xs.set j v, upd_same, ?_⟩
      exact (Dens.set q j h2).stays (stays_own f ha)
    | _ => cases h
  | dk ks =>
    unfold setItemD at h
    dsimp only at h
    split at h
    · rename_i hl
      obtain ⟨kk, hk, rfl⟩ := Option.map_eq_some_iff.mp h
      obtain ⟨kvs, h1, h2, h3⟩ := t
      have ey := keyD_v lk hk
      subst ey
      have dk := (DK.of h2 h3).put kk q
      have dk' := dk.stays (stays_own (o := .dK (putK kvs kk v)) f ha)
      exact .inr ⟨fun ds z => (by cases z), HO.dK (putK kvs kk v), Or.inl ⟨kvs, kk, h1, rfl, (by rw [line_eq, (DK.of h2 h3).len]; exact hl), rfl⟩, _, upd_same, dk'.keys, dk'.dens⟩
    · cases h
  | dt ks =>
    cases k with
    | tup ys =>
      unfold setItemD at h
      dsimp only at h
      split at h
      · rename_i hl
        obtain ⟨kk, hk, rfl⟩ := Option.map_eq_some_iff.mp h
        obtain ⟨kvs, h1, h2, h3⟩ := t
        obtain ⟨b, xs, rfl, h4, h5⟩ := lk.tup
        have ey := keysD_v h5 hk
        subst ey
        have dk := (DK.of h2 h3).put kk q
        have dk' := dk.stays (stays_own (o := .dT (putK kvs kk v)) f ha)
        exact .inr ⟨fun ds z => (by cases z), HO.dT (putK kvs kk v), Or.inr ⟨kvs, kk, b, h1, rfl, h4, (by rw [line_eq, (DK.of h2 h3).len]; exact hl), rfl⟩, _, upd_same, dk'.keys, dk'.dens⟩
      · cases h
    | _ => cases h
  | _ => cases h
def rSetV (X : Cx) : TSet := fun o i v H Q => (∃ p xs k j, o = .ref p ∧ i = .int k ∧ H p = some (.lst xs) ∧ ixN xs.length k = some j ∧ Q (upd H p (.lst (xs.set j v)))) ∨ ∃ a H4, o = .ref a ∧ DPut H a i v H4 ∧ Q H4
theorem set_v (hu : X.A.units + 100 < cLine) : PSet X (rSetV X) := by
  intro pins s σ H o i v ov iv u Q I ro ri rv h
  rcases h with h | ⟨a, H4, rfl, g, q⟩
  · exact set_list pins s σ H o i v ov iv u Q I ro ri rv h
  · cases ro
    exact d_setItem (by omega) I g ri rv fun s4 I4 => ⟨H4, I4, q⟩
def peekO (i : Nat) : M Unit := fun e => match e[i]? with
  | some (.ow _) => .ok () e
  | _ => .no
theorem peekO_cases (i : Nat) (e : En) : peekO i e = .no ∨ ∃ d, e[i]? = some (Sl.ow d) ∧ peekO i e = .ok () e := by
  rcases sl_cases e i with h | ⟨d, h⟩ | ⟨d, h⟩
  · rcases h with h | h <;> exact .inl (by unfold peekO; rw [h])
  · exact .inl (by unfold peekO; rw [h])
  · exact .inr ⟨d, h, by unfold peekO; rw [h]⟩
def subSet (i : Nat) (fk : M D) (fv : M D) : M Fl := bnd fv fun v => bnd (peekO i) fun _ => bnd fk fun k => bnd (modS i fun c => (setItemD c k v).map fun c' => (c', ())) fun _ => ret .nx
theorem peekS_of {K : PySem.W.Frag} {mg : Str → Option Value} {σ : St} {w : Wd} {e : En} {E : Ends} {i : Nat} {k : Unit → M Fl} (rel : Rel K mg w e σ) (h : GoesS K mg W C σ w (bnd (peekO i) k e) E) :
    ∃ a d, e[i]? = some (Sl.ow d) ∧ σ[i]? = some (some (V.ref a)) ∧ w.O a ∧ Top K mg w a d ∧ GoesS K mg W C σ w (k () e) E := by
  have h : GoesS K mg W C σ w ((peekO i e).bind k) E := h
  rcases peekO_cases i e with z | ⟨d, h1, h3⟩
  · rw [z] at h; exact h.elim
  · rw [h3] at h
    obtain ⟨a, e1, q1, q2⟩ := rel.ow i d h1
    exact ⟨a, d, h1, e1, q1, q2, h⟩
theorem peekG_of {K : PySem.W.Frag} {mg : Str → Option Value} {σ : St} {w : Wd} {e : En} {β γ : Type} {ρ : Wd → Wd → En → γ → β → Prop} {Q : γ → Hp → Prop} {i : Nat} {k : Unit → M β} (rel : Rel K mg w e σ) (h : Goes K mg W σ ρ w (bnd (peekO i) k e) Q) :
    ∃ a d, e[i]? = some (Sl.ow d) ∧ σ[i]? = some (some (V.ref a)) ∧ w.O a ∧ Top K mg w a d ∧ Goes K mg W σ ρ w (k () e) Q := by
  have h : Goes K mg W σ ρ w ((peekO i e).bind k) Q := h
  rcases peekO_cases i e with z | ⟨d, h1, h3⟩
  · rw [z] at h; exact h.elim
  · rw [h3] at h
    obtain ⟨a, e1, q1, q2⟩ := rel.ow i d h1
    exact ⟨a, d, h1, e1, q1, q2, h⟩
theorem modS_of {K : PySem.W.Frag} {mg : Str → Option Value} {σ : St} {w : Wd} {e : En} {E : Ends} {α : Type} {i : Nat} {g : D → Option (D × α)} {k : α → M Fl} (rel : Rel K mg w e σ) (h : GoesS K mg W C σ w (bnd (modS i g) k e) E) :
    ∃ d d' a x, e[i]? = some (Sl.ow d) ∧ g d = some (d', x) ∧ σ[i]? = some (some (V.ref a)) ∧ w.O a ∧ Top K mg w a d ∧
      ∀ o, Top K mg (w.mt a o) a d' → Step w (w.mt a o) ∧ Rel K mg (w.mt a o) (e.set i (.ow d')) σ ∧ GoesS K mg W C σ (w.mt a o) (k x (e.set i (.ow d'))) E := by
  have h : GoesS K mg W C σ w ((modS i g e).bind k) E := h
  rcases modS_cases e i g with z | ⟨d, d', x, h1, h2, h3⟩
  · rw [z] at h; exact h.elim
  · rw [h3] at h
    obtain ⟨a, e1, q1, q2⟩ := rel.ow i d h1
    refine ⟨d, d', a, x, h1, h2, e1, q1, q2, fun o t => ?_⟩
    obtain ⟨s, r⟩ := rel.mt (o := o) h1 e1 t
    exact ⟨s, r, GoesS.step s Fix.refl h⟩
theorem modG_of {K : PySem.W.Frag} {mg : Str → Option Value} {σ : St} {w : Wd} {e : En} {α β γ : Type} {ρ : Wd → Wd → En → γ → β → Prop} [hS : Stb ρ] {Q : γ → Hp → Prop} {i : Nat} {g : D → Option (D × α)} {k : α → M β} (rel : Rel K mg w e σ) (h : Goes K mg W σ ρ w (bnd (modS i g) k e) Q) :
    ∃ d d' a x, e[i]? = some (Sl.ow d) ∧ g d = some (d', x) ∧ σ[i]? = some (some (V.ref a)) ∧ w.O a ∧ Top K mg w a d ∧
      ∀ o, Top K mg (w.mt a o) a d' → Step w (w.mt a o) ∧ Rel K mg (w.mt a o) (e.set i (.ow d')) σ ∧ Goes K mg W σ ρ (w.mt a o) (k x (e.set i (.ow d'))) Q := by
  have h : Goes K mg W σ ρ w ((modS i g e).bind k) Q := h
  rcases modS_cases e i g with z | ⟨d, d', x, h1, h2, h3⟩
  · rw [z] at h; exact h.elim
  · rw [h3] at h
    obtain ⟨a, e1, q1, q2⟩ := rel.ow i d h1
    refine ⟨d, d', a, x, h1, h2, e1, q1, q2, fun o t => ?_⟩
    obtain ⟨s, r⟩ := rel.mt (o := o) h1 e1 t
    exact ⟨s, r, Goes.step s h⟩
variable {ek ev : Expr} {fk fv : M D} {x : Str} {p pos pos' : Pos}
theorem vs_subset (i : Nat) (hu : X.A.units + 100 < cLine) (hv : VE X W ev fv) (hk : VE X W ek fk) (hN : X.N[i]? = some x := by rfl) (hx : Vis X.env.scope x := by first | exact Or.inl rfl | exact Or.inr (Or.inl rfl) | exact Or.inr (Or.inr rfl))
    (hd : (x == ("__debug__" : Str)) = false := by decide) (hcd : (x == ("__classdict__" : Str)) = false := by decide) (hs : swapsWithSole [.Subscript (.Name x p) ek pos'] ev pos.line X.env = pure false := by rfl) (hw : swappedStores [.Subscript (.Name x p) ek pos'] ev X.env = pure none := by rfl)
    (ha : ∀ v, assign (.Subscript (.Name x p) ek pos') X.env v = (do
      let ov ← holding [v] (eval (.Name x p) X.env)
      let iv ← holding [v, ov] (eval ek X.env)
      standAt pos'
      holding [v, ov, iv] (setItem ov iv v)
      release [v, ov, iv] []) := by intro _; rfl)
    (h1 : (assignEach [.Subscript (.Name x p) ek pos'] X.env).map (·.2) = [assign (.Subscript (.Name x p) ek pos') X.env] := by rfl) : VS X W C (.Assign [.Subscript (.Name x p) ek pos'] ev pos) (subSet i fk fv) :=
  PS.imp (ps_asg hv (pg_sub (pe_var hN hx hd hcd) hk (set_v hu) ha) hs hw h1) fun E σ H ⟨w, e, hw, rel, g⟩ => by
    subst hw
    refine tR_mono (goesS_bind (ρ1 := rD X.K X.mg) rel g) fun v H1 ⟨w1, e1, dv, h1, s, r1, q, g1⟩ => ?_
    subst h1
    obtain ⟨a0, _, _, es0, _, _, g2⟩ := peekS_of r1 g1
    refine ⟨_, es0, ?_⟩
    refine tR_mono (goesS_bind (ρ1 := rD X.K X.mg) r1 g2) fun y H2 ⟨w2, e2, dk, h2, s2, r2, q2, g3⟩ => ?_
    subst h2
    obtain ⟨d, d', a, _, hi, hg, es, ho, t, k⟩ := modS_of r2 g3
    rw [es0] at es
    cases es
    obtain ⟨c', hc', e4⟩ := Option.map_eq_some_iff.mp hg
    cases e4
    have qv := q.step s2 r1.wf
    rcases store_top r2.wf ho t (.inl q2) qv hc' with ⟨xs, z, j, _, rfl, h3, h4, t'⟩ | ⟨_, o, h3, t'⟩
    · obtain ⟨st, r3, g4⟩ := k _ t'
      exact .inl ⟨a0, xs, z, j, rfl, rfl, h3, h4, GoesS.nx g4 r3 Fix.refl⟩
    · obtain ⟨st, r3, g4⟩ := k _ t'
      exact .inr ⟨a0, _, rfl, h3, GoesS.nx g4 r3 Fix.refl⟩
end
end VL
namespace VL
open PySem PySem.Spec PyProof.Rows L2
variable [Tb]
/-! ### op= -/
def iaddD : D → D → M D
  | .int i, .int j => ret (.int (i + j))
  | .str x, .str y => chk (decide (x.length + y.length ≤ line)) (ret (.str (x ++ y)))
  | _, _ => nope
def isubD : D → D → M D
  | .int i, .int j => ret (.int (i - j))
  | _, _ => nope
section
variable {X : Cx} {W : WX} {C : Nat → Bool}
theorem ip_addV : PIp X .Add (rOp X W iaddD) := by
  intro pins s σ H x y v u Q I rx ry h
  obtain ⟨w, e, σ', d, d', rfl, rel, l, l', g⟩ := h
  unfold iaddD at g
  split at g
  · obtain rfl := l.int
    obtain rfl := l'.int
    exact ip_add pins s σ _ _ _ v u Q I rx ry ⟨_, _, rfl, rfl, g.ok rel (.int _)⟩
  · obtain ⟨hc, g⟩ := chk_of g
    obtain rfl := l.str
    obtain rfl := l'.str
    exact iop_add_str pins s σ _ _ _ v u Q I rx ry ⟨_, _, rfl, rfl, by rw [line_eq]; exact of_decide_eq_true hc, g.ok rel (.str _)⟩
  · exact g.elim
theorem ip_subV : PIp X .Sub (rOp X W isubD) := by
  intro pins s σ H x y v u Q I rx ry h
  obtain ⟨w, e, σ', d, d', rfl, rel, l, l', g⟩ := h
  unfold isubD at g
  split at g
  · obtain rfl := l.int
    obtain rfl := l'.int
    exact ip_sub pins s σ _ _ _ v u Q I rx ry ⟨_, _, rfl, rfl, g.ok rel (.int _)⟩
  · exact g.elim
/-- name op= e -/
def augM (i : Nat) (fe : M D) (g : D → D → M D) : M Fl := bnd (nm i) fun x => bnd fe fun y => bnd (g x y) (putS i)
theorem nm_of {σ : St} {w : Wd} {e : En} {E : Ends} {i : Nat} {k : D → M Fl} (rel : Rel X.K X.mg w e σ) (h : GoesS X.K X.mg W C σ w (bnd (nm i) k e) E) :
    ∃ v w' e' d, σ[i]? = some (some v) ∧ w'.H = w.H ∧ Step w w' ∧ Rel X.K X.mg w' e' σ ∧ Den X.K X.mg w' v d ∧ GoesS X.K X.mg W C σ w' (k d e') E := by
  have h : GoesS X.K X.mg W C σ w ((nm i e).bind k) E := h
  rcases sl_cases e i with q | ⟨d, q⟩ | ⟨d, q⟩
  · rcases q with q | q <;> (unfold nm at h; rw [q] at h; exact h.elim)
  · unfold nm at h; rw [q] at h
    obtain ⟨v, e1, q1⟩ := rel.fz i d q
    exact ⟨v, w, e, d, e1, rfl, Step.refl w, rel, q1, h⟩
  · unfold nm at h; rw [q] at h
    obtain ⟨a, e1, q1, q2⟩ := rel.ow i d q
    have hn : ∀ (j : Nat) d', (e.set i .un)[j]? = some (Sl.ow d') → σ[j]? ≠ some (some (V.ref a)) := fun j d' z s => by
      rcases set_get_some z with ⟨_, _, z⟩ | ⟨n, z⟩
      · cases z
      · exact n (rel.ap j i _ _ a z q s e1)
    have r1 := (rel.drop i).freeze q1 hn
    have hd : Den X.K X.mg (w.fz a) (.ref a) d := q2.den stays_fz rfl (.inr rfl)
    have r2 : Rel X.K X.mg (w.fz a) (e.set i (.fz d)) σ := by
      have := r1.fzAt e1 hd
      rw [List.set_set] at this
      exact this
    exact ⟨_, w.fz a, _, d, e1, rfl, step_fz q1, r2, hd, GoesS.step (step_fz q1) Fix.refl h⟩
/-- an operation within a statement -/
theorem op_then {σ : St} {w : Wd} {E : Ends} {r : R D} {k : D → M Fl} (h : GoesS X.K X.mg W C σ w (r.bind k) E) :
    Goes X.K X.mg W σ (rD X.K X.mg σ) w r fun v H1 => ∃ w' e' d, w'.H = H1 ∧ Step w w' ∧ Rel X.K X.mg w' e' σ ∧ Den X.K X.mg w' v d ∧ GoesS X.K X.mg W C σ w' (k d e') E := by
  cases r with
  | ok d e1 => exact fun w' v s r q => ⟨w', e1, d, rfl, s, r, q, GoesS.step s Fix.refl h⟩
  | ex x e1 => exact fun w' c p s r q => h w' σ c p s r Fix.refl q
  | no => exact h
variable {ex : Expr} {fe : M D} {x : Str} {p pos : Pos} {op : Operator} {g : D → D → M D}
theorem vs_aug (i : Nat) (hN : X.N.Nodup) (ho : PIp X op (rOp X W g)) (he : VE X W ex fe) (hi : X.N[i]? = some x := by rfl) (hx : Loc X.env.scope x := by first | exact Or.inl rfl | exact Or.inr rfl) (hC : C i = false := by rfl)
    (hf : X.fn x = true ∨ X.env.scope.names.lookup x = some .local := by first | exact .inl rfl | exact .inr rfl) : VS X W C (.AugAssign (.Name x p) op ex pos) (augM i fe g) :=
  PS.imp (ps_aug hN hi hx he ho hf) fun E σ H ⟨w, e, hw, rel, g1⟩ => by
    subst hw
    obtain ⟨v, w1, e1, d, h1, h2, s1, r1, q1, g2⟩ := nm_of rel g1
    refine ⟨v, h1, ?_⟩
    rw [← h2]
    refine tR_mono (goesS_bind (ρ1 := rD X.K X.mg) r1 g2) fun y H2 ⟨w2, e2, dy, h3, s2, r2, q2, g3⟩ => ?_
    subst h3
    refine ⟨w2, e2, σ, d, dy, rfl, r2, .inl (q1.step s2 r1.wf), .inl q2, ?_⟩
    refine Goes.mono (op_then (r := g d dy e2) (k := putS i) g3) fun z H3 ⟨w3, e3, dz, h4, s3, r3, q3, g4⟩ => ?_
    subst h4
    exact GoesS.nx g4 (r3.store i q3) (Fix.set hC)
/-- d[k] op= e, d owned -/
def augSub (i : Nat) (fk fe : M D) (g : D → D → M D) : M Fl := bnd (peekO i) fun _ => bnd fk fun k => bnd (getS i) fun c => bnd (lift ((dgetD c k).bind id)) fun old => bnd fe fun y => bnd (g old y) fun z => bnd (modS i fun c => (setItemD c k z).map fun c' => (c', ())) fun _ => ret .nx
def rGetD : V → V → Hp → VK → Prop := fun o i H Q => ∃ a v, o = .ref a ∧ DGet H a i (some v) ∧ Q v H
theorem get_d (hu : X.A.units + 100 < cLine) : PGet X rGetD := by
  intro pins s σ H o i ov iv Q I ro ri h
  obtain ⟨a, v, rfl, g, q⟩ := h
  cases ro
  exact d_getItem (by omega) I g ri fun w' s' I' r' => ⟨v, H, I', r', q⟩
theorem getS_of {σ : St} {w : Wd} {e : En} {E : Ends} {i : Nat} {a : V} {k : D → M Fl} (rel : Rel X.K X.mg w e σ) (hs : σ[i]? = some (some a)) (h : GoesS X.K X.mg W C σ w (bnd (getS i) k e) E) :
    ∃ d, Look X.K X.mg w a d ∧ GoesS X.K X.mg W C σ w (k d e) E := by
  have h : GoesS X.K X.mg W C σ w ((getS i e).bind k) E := h
  rcases getS_cases e i with z | ⟨d, hi, z⟩ | ⟨d, hi, z⟩
  · rw [z] at h; exact h.elim
  · rw [z] at h
    obtain ⟨v', e1, q⟩ := rel.fz i d hi
    rw [hs] at e1
    cases e1
    exact ⟨d, .inl q, h⟩
  · rw [z] at h
    obtain ⟨b, e1, q1, q2⟩ := rel.ow i d hi
    rw [hs] at e1
    cases e1
    exact ⟨d, .inr ⟨b, rfl, q1, q2⟩, h⟩
variable {ek : Expr} {fk : M D} {tpos : Pos}
theorem vs_augsub (i : Nat) (hu : X.A.units + 100 < cLine) (ho : PIp X op (rOp X W g)) (hk : VE X W ek fk) (he : VE X W ex fe) (hN : X.N[i]? = some x := by rfl) (hx : Vis X.env.scope x := by first | exact Or.inl rfl | exact Or.inr (Or.inl rfl) | exact Or.inr (Or.inr rfl))
    (hd : (x == ("__debug__" : Str)) = false := by decide) (hcd : (x == ("__classdict__" : Str)) = false := by decide)
    (ha : ∀ ov iv new, augStore ek ov iv new = (do holding [new, ov, iv] (setItem ov iv new); release [new, ov, iv] []; pure .next) := by intros; rfl) : VS X W C (.AugAssign (.Subscript (.Name x p) ek tpos) op ex pos) (augSub i fk fe g) :=
  PS.imp (ps_augS (pe_var hN hx hd hcd) hk (get_d hu) he ho (set_v hu) ha) fun E σ H ⟨w, e, hw, rel, g1⟩ => by
    subst hw
    obtain ⟨a0, _, _, es0, _, _, g2⟩ := peekS_of rel g1
    refine ⟨_, es0, ?_⟩
    refine tR_mono (goesS_bind (ρ1 := rD X.K X.mg) rel g2) fun y H2 ⟨w2, e2, dk, h2, s2, r2, q2, g3⟩ => ?_
    subst h2
    obtain ⟨c, lc, g4⟩ := getS_of r2 es0 g3
    obtain ⟨old, ho', g5⟩ := liftS g4
    obtain ⟨r, hr1, hr2⟩ := Option.bind_eq_some_iff.mp ho'
    have hr2 : r = some old := hr2
    subst hr2
    obtain ⟨a, o, ea, hg, hoo, _⟩ := dget_look lc (.inl q2) hr1
    rcases hoo with ⟨z0, _⟩ | ⟨z', v', e1, e2', q⟩
    · cases z0
    cases e1
    subst e2'
    refine ⟨a, v', ea, hg, ?_⟩
    refine tR_mono (goesS_bind (ρ1 := rD X.K X.mg) r2 g5) fun y2 H3 ⟨w3, e3, dy, h3, s3, r3, q3, g6⟩ => ?_
    subst h3
    refine ⟨w3, e3, σ, old, dy, rfl, r3, .inl (q.step s3 r2.wf), .inl q3, ?_⟩
    refine Goes.mono (op_then (r := g old dy e3) g6) fun z H4 ⟨w4, e4, dz, h4, s4, r4, q4, g7⟩ => ?_
    subst h4
    obtain ⟨d, d', a', _, hi, hgd, es, hO, t, k⟩ := modS_of r4 g7
    rw [es0] at es
    cases es
    obtain ⟨c', hc', e4'⟩ := Option.map_eq_some_iff.mp hgd
    cases e4'
    rcases store_top r4.wf hO t (.inl ((q2.step s3 r2.wf).step s4 r3.wf)) q4 hc' with ⟨xs, z1, j, _, rfl, h3, h4, t'⟩ | ⟨_, o, h3, t'⟩
    · obtain ⟨st, r5, g8⟩ := k _ t'
      exact .inl ⟨a0, xs, z1, j, rfl, rfl, h3, h4, GoesS.nx g8 r5 Fix.refl⟩
    · obtain ⟨st, r5, g8⟩ := k _ t'
      exact .inr ⟨a0, _, rfl, h3, GoesS.nx g8 r5 Fix.refl⟩
end

/-! ### methods that change what is owned -/
def mutM (i : Nat) (fs : M (List D)) (g : D → List D → Option (D × D)) : M D := bnd (peekO i) fun _ => bnd fs fun ds => modS i fun c => g c ds
def rMut (K : PySem.W.Frag) (mg : Str → Option Value) (g : D → List D → Option (D × D)) : V → List V → Hp → VK → Prop := fun x vs H Q => ∃ a c ds c' r w, x = .ref a ∧ w.H = H ∧ Wf w ∧ w.O a ∧ Top K mg w a c ∧ Dens K mg w vs ds ∧ g c ds = some (c', r) ∧
  ∀ o v, Top K mg (w.mt a o) a c' → Den K mg (w.mt a o) v r → Q v (upd H a o)
def IsLst : D → Prop
  | .lst _ => True
  | _ => False
def IsDkt : D → Prop
  | .dk _ => True
  | .dt _ => True
  | _ => False
section
variable {X : Cx} {W : WX}
theorem top_list {K : PySem.W.Frag} {mg : Str → Option Value} {w : Wd} {a : Addr} {c : D} (t : Top K mg w a c) (h : IsLst c) : tyV K "list" (.ref a) w.H := by
  cases c with
  | lst ds => obtain ⟨xs, h1, _⟩ := t; exact .inl ⟨rfl, xs, SqL.of h1⟩
  | _ => exact h.elim
theorem top_dict {K : PySem.W.Frag} {mg : Str → Option Value} {w : Wd} {a : Addr} {c : D} (t : Top K mg w a c) (h : IsDkt c) : tyV K "dict" (.ref a) w.H := by
  cases c with
  | dk ks => obtain ⟨kvs, h1, _⟩ := t; exact .inr (.inr (.inl ⟨rfl, .inl ⟨kvs, h1⟩⟩))
  | dt ks => obtain ⟨kvs, h1, _⟩ := t; exact .inr (.inr (.inl ⟨rfl, .inr ⟨kvs, h1⟩⟩))
  | _ => exact h.elim
/-- the slot's kind, kept by what the arguments do, is asked of it ahead of them -/
def peekK (k : D → Bool) (i : Nat) : M Unit := fun e => match e[i]? with
  | some (.ow d) => if k d = true then .ok () e else .no
  | _ => .no
def isLst : D → Bool
  | .lst _ => true
  | _ => false
def isDkt : D → Bool
  | .dk _ => true
  | .dt _ => true
  | _ => false
theorem isLst_of {d : D} (h : isLst d = true) : IsLst d := by cases d <;> first | trivial | cases h
theorem isDkt_of {d : D} (h : isDkt d = true) : IsDkt d := by cases d <;> first | trivial | cases h
theorem peekK_of {K : PySem.W.Frag} {mg : Str → Option Value} {σ : St} {w : Wd} {e : En} {β γ : Type} {ρ : Wd → Wd → En → γ → β → Prop} {Q : γ → Hp → Prop} {i : Nat} {kd : D → Bool} {k : Unit → M β} (rel : Rel K mg w e σ) (h : Goes K mg W σ ρ w (bnd (peekK kd i) k e) Q) :
    ∃ a d, e[i]? = some (Sl.ow d) ∧ kd d = true ∧ σ[i]? = some (some (V.ref a)) ∧ w.O a ∧ Top K mg w a d ∧ Goes K mg W σ ρ w (k () e) Q := by
  have h : Goes K mg W σ ρ w ((peekK kd i e).bind k) Q := h
  rcases sl_cases e i with z | ⟨d, z⟩ | ⟨d, z⟩
  · rcases z with z | z <;> (unfold peekK at h; rw [z] at h; exact h.elim)
  · unfold peekK at h; rw [z] at h; exact h.elim
  · unfold peekK at h; rw [z] at h
    dsimp only at h
    split at h
    · rename_i hk
      obtain ⟨a, e1, q1, q2⟩ := rel.ow i d z
      exact ⟨a, d, z, hk, e1, q1, q2, h⟩
    · exact h.elim
def mutK (kd : D → Bool) (i : Nat) (fs : M (List D)) (g : D → List D → Option (D × D)) : M D := bnd (peekK kd i) fun _ => bnd fs fun ds => bnd (modS i fun c => g c ds) ret
variable {e1 : Expr} {es : List Expr} {fs : M (List D)} {name x : Str} {id T : String} {g : D → List D → Option (D × D)} {apos cpos p : Pos} {kd : D → Bool}
theorem mut_end {σ : St} {w : Wd} {e : En} {Q : VK} {i : Nat} {vs : List V} {ds : List D} {a : Addr} (es0 : σ[i]? = some (some (V.ref a))) (r2 : Rel X.K X.mg w e σ) (q2 : Dens X.K X.mg w vs ds) (g3 : Goes X.K X.mg W σ (rD X.K X.mg σ) w (bnd (modS i fun c => g c ds) ret e) Q) : rMut X.K X.mg g (.ref a) vs w.H Q := by
  obtain ⟨c, c', a', r, hi, hg, es, hO, t, k⟩ := modG_of r2 g3
  rw [es0] at es
  cases es
  refine ⟨a, c, ds, c', r, w, rfl, rfl, r2.wf, hO, t, q2, hg, fun o v t' qv => ?_⟩
  obtain ⟨st, r3, g4⟩ := k o t'
  exact Goes.ok g4 r3 qv
theorem ve_mut (i : Nat) (pa : PlainAttrs T) (slot : Slot T name id) (hty : typeOf (.builtin id) = pure (.type "method_descriptor")) (hm : MtR X id (rMut X.K X.mg g)) (hT : ∀ w a d, Top X.K X.mg w a d → kd d = true → tyV X.K T (.ref a) w.H) (ha : VA X W (e1 :: es) fs)
    (hN : X.N[i]? = some x := by rfl) (hx : Vis X.env.scope x := by first | exact Or.inl rfl | exact Or.inr (Or.inl rfl) | exact Or.inr (Or.inr rfl)) (hd : (x == ("__debug__" : Str)) = false := by decide) (hcd : (x == ("__classdict__" : Str)) = false := by decide)
    (hbase : attributeBase (.Name x p) name X.env (eval (.Name x p) X.env) = eval (.Name x p) X.env := by rfl)
    (hfew : ((backTo cpos (starEach (e1 :: es) X.env)).all (fun x => !x.1) && (backToKw cpos (keywordEach [] X.env)).all (fun x => x.1.isSome)
      && decide ((e1 :: es).length + ([] : List Keyword).length + (if ([] : List Keyword).isEmpty then 0 else 1) < 30)) = true := by rfl)
    (hline : (apos.endLine == cpos.line) = true := by rfl) (hs : starEach (e1 :: es) X.env = (false, eval e1 X.env) :: starEach es X.env := by rfl) (hplain : (backTo cpos (starEach es X.env)).any (·.1) = false := by rfl) :
    VE X W (.Call (.Attribute (.Name x p) name apos) (e1 :: es) [] cpos) (mutK kd i fs g) :=
  PE.imp (pe_bm pa slot hty hm (pe_var hN hx hd hcd) ha hbase hfew hline hs hplain) fun σ H Q ⟨w, e, hw, rel, g1⟩ => by
    subst hw
    obtain ⟨a, d, hi, hk, es0, hO, t, g2⟩ := peekK_of rel g1
    refine ⟨_, es0, hT w a d t hk, ?_⟩
    refine tR_mono (goes_bind (ρ1 := rL X.K X.mg) rel g2) fun vs H2 ⟨w2, e2, ds, h2, s2, r2, q2, g3⟩ => ?_
    subst h2
    exact mut_end es0 r2 q2 g3
theorem ve_mut0 (i : Nat) (pa : PlainAttrs T) (slot : Slot T name id) (hty : typeOf (.builtin id) = pure (.type "method_descriptor")) (hm : MtR X id (rMut X.K X.mg g)) (hT : ∀ w a d, Top X.K X.mg w a d → kd d = true → tyV X.K T (.ref a) w.H)
    (hN : X.N[i]? = some x := by rfl) (hx : Vis X.env.scope x := by first | exact Or.inl rfl | exact Or.inr (Or.inl rfl) | exact Or.inr (Or.inr rfl)) (hd : (x == ("__debug__" : Str)) = false := by decide) (hcd : (x == ("__classdict__" : Str)) = false := by decide)
    (hbase : attributeBase (.Name x p) name X.env (eval (.Name x p) X.env) = eval (.Name x p) X.env := by rfl) (hline : (apos.endLine == cpos.line) = true := by rfl) :
    VE X W (.Call (.Attribute (.Name x p) name apos) [] [] cpos) (mutK kd i (ret []) g) :=
  PE.imp (pe_bm0 pa slot hty hm (pe_var hN hx hd hcd) hbase hline) fun σ H Q ⟨w, e, hw, rel, g1⟩ => by
    subst hw
    obtain ⟨a, d, hi, hk, es0, hO, t, g2⟩ := peekK_of rel g1
    exact ⟨_, es0, hT w a d t hk, mut_end es0 rel .nil g2⟩
/-- list.append, pop, extend -/
def appD : D → List D → Option (D × D)
  | .lst ds, [v] => if ds.length < line then some (.lst (ds ++ [v]), .non) else none
  | _, _ => none
def popD : D → List D → Option (D × D)
  | .lst ds, [] => (ds[ds.length - 1]?).map fun d => (.lst ds.dropLast, d)
  | .lst ds, [.int i] => (ixN ds.length i).bind fun j => (ds[j]?).map fun d => (.lst (ds.eraseIdx j), d)
  | _, _ => none
def extD : D → List D → Option (D × D)
  | .lst ds, [.lst es] => if ds.length + es.length ≤ line then some (.lst (ds ++ es), .non) else none
  | _, _ => none
theorem mv_append : MtR X "list.append" (rMut X.K X.mg appD) := by
  intro pins s σ H x xs v us Q I rx rxs h
  obtain ⟨a, c, ds, c', r, w, rfl, rfl, f, hO, t, q, hg, k⟩ := h
  unfold appD at hg
  split at hg
  · rename_i ds' v'
    split at hg
    · rename_i hl
      cases hg
      obtain ⟨ys, h1, h2⟩ := t
      cases q with
      | @cons v1 _ _ _ q1 q2 =>
        cases q2
        have s1 := stays_own (o := .lst (ys ++ [v1])) f hO
        exact mt_append pins s σ _ _ _ v us Q I rx rxs ⟨a, ys, _, rfl, rfl, h1, by rw [line_eq, h2.length]; exact hl, k _ _ ⟨_, upd_same, (h2.append (.cons q1 .nil)).stays s1⟩ .non⟩
    · cases hg
  · cases hg
theorem mv_pop : MtR X "list.pop" (rMut X.K X.mg popD) := by
  intro pins s σ H x xs v us Q I rx rxs h
  obtain ⟨a, c, ds, c', r, w, rfl, rfl, f, hO, t, q, hg, k⟩ := h
  unfold popD at hg
  split at hg
  · rename_i ds'
    obtain ⟨d, hd, e1⟩ := Option.map_eq_some_iff.mp hg
    cases e1
    obtain ⟨ys, h1, h2⟩ := t
    cases q
    obtain ⟨y, hy, qy⟩ := h2.get' hd
    rw [← h2.length] at hy
    have s1 := stays_own (o := .lst ys.dropLast) f hO
    exact mt_pop pins s σ _ _ _ v us Q I rx rxs ⟨a, ys, y, rfl, rfl, h1, hy, k _ _ ⟨_, upd_same, h2.dropLast.stays s1⟩ (qy.stays s1)⟩
  · rename_i ds' i
    obtain ⟨j, hj, hg⟩ := Option.bind_eq_some_iff.mp hg
    obtain ⟨d, hd, e1⟩ := Option.map_eq_some_iff.mp hg
    cases e1
    obtain ⟨ys, h1, h2⟩ := t
    cases q with
    | cons q1 q2 =>
      cases q2
      cases q1
      obtain ⟨y, hy, qy⟩ := h2.get' hd
      rw [← h2.length] at hj
      have s1 := stays_own (o := .lst (ys.eraseIdx j)) f hO
      have hz : ys.length ≤ sizeLine := by
        obtain ⟨z, _⟩ := I.lstM h1
        exact z
      obtain ⟨k1, k2, k3, k4⟩ := ixN_seq hj
      have hn := line63
      exact mt_popAt pins s σ _ _ _ v us Q I rx rxs ⟨a, ys, i, j, y, rfl, rfl, h1, by omega, by omega, k1, hy, k _ _ ⟨_, upd_same, (h2.eraseIdx j).stays s1⟩ (qy.stays s1)⟩
  · cases hg
end
end VL
namespace VL
open PySem PySem.Spec PyProof.Rows L2
variable [Tb]
/-! ### operands of a call -/
inductive Bs (K : PySem.W.Frag) (mg : Str → Option Value) (σ : St) (w : Wd) : List V → List Op → Prop
  | nil : Bs K mg σ w [] []
  | cons {v : V} {o : Op} {vs : List V} {os : List Op} : rB K mg σ w w [] v o → Bs K mg σ w vs os → Bs K mg σ w (v :: vs) (o :: os)
inductive Lks (K : PySem.W.Frag) (mg : Str → Option Value) (w : Wd) : List V → List D → Prop
  | nil : Lks K mg w [] []
  | cons {v : V} {d : D} {vs : List V} {ds : List D} : Look K mg w v d → Lks K mg w vs ds → Lks K mg w (v :: vs) (d :: ds)
def rBs (K : PySem.W.Frag) (mg : Str → Option Value) : St → Wd → Wd → En → List V → List Op → Prop := fun σ _ w _ vs os => Bs K mg σ w vs os
instance {K : PySem.W.Frag} {mg : Str → Option Value} {σ : St} : Stb (rBs K mg σ) := ⟨fun _ _ _ _ _ _ _ h => h⟩
abbrev VO (X : Cx) (W : WX) (es : List Expr) (f : M (List Op)) : Prop := PA X es (tR X.K X.mg W (rBs X.K X.mg) f)
def opsM (f : M Op) (r : M (List Op)) : M (List Op) := bnd f fun o => bnd r fun os => ret (o :: os)
def getOs : List Op → M (List D)
  | [] => ret []
  | o :: os => bnd (getO o) fun d => bnd (getOs os) fun ds => ret (d :: ds)
def callM (fo : M (List Op)) (g : List D → M D) : M D := bnd fo fun os => bnd (getOs os) g
section
variable {X : Cx} {W : WX} {a : Expr} {es : List Expr} {fa : M Op} {fs : M (List Op)}
theorem vo_nil : VO X W [] (ret []) := PA.imp pa_nil fun σ H Q ⟨w, e, hw, rel, g⟩ => by
  subst hw
  exact Goes.ok g rel .nil
theorem rB_step {K : PySem.W.Frag} {mg : Str → Option Value} {σ : St} {w0 w w' : Wd} {e e' : En} {v : V} {o : Op} (s : Step w w') (f : Wf w) (h : rB K mg σ w0 w e v o) : rB K mg σ w' w' [] v o := by
  cases o with
  | val d => exact Den.step s f h
  | slot i => exact h
theorem vo_cons (ha : VB X W a fa) (hr : VO X W es fs) (hs : starEach (a :: es) X.env = (false, eval a X.env) :: starEach es X.env := by rfl) : VO X W (a :: es) (opsM fa fs) :=
  PA.imp (pa_cons ha hr hs) fun σ H Q ⟨w, e, hw, rel, g⟩ => by
    subst hw
    refine tR_mono (goes_bind (ρ1 := rB X.K X.mg) rel g) fun v H1 ⟨w1, e1, d, h1, s, r1, q, g1⟩ => ?_
    subst h1
    refine tR_mono (goes_bind (ρ1 := rBs X.K X.mg) r1 g1) fun v2 H2 ⟨w2, e2, ds, h2, s2, r2, q2, g2⟩ => ?_
    subst h2
    exact Goes.ok g2 r2 (.cons (rB_step (e' := e2) s2 r1.wf q) q2)
theorem looks_of {K : PySem.W.Frag} {mg : Str → Option Value} {σ : St} {w : Wd} {e : En} {α β : Type} {ρ : Wd → Wd → En → β → α → Prop} {Q : β → Hp → Prop} (rel : Rel K mg w e σ) : ∀ {vs : List V} {os : List Op} {g : List D → M α}, Bs K mg σ w vs os → Goes K mg W σ ρ w (bnd (getOs os) g e) Q →
    ∃ ds, Lks K mg w vs ds ∧ Goes K mg W σ ρ w (g ds e) Q
  | _, _, g, .nil, h => ⟨[], .nil, h⟩
  | _, _, g, .cons (o := o) (os := os) q qs, h => by
    have h : Goes K mg W σ ρ w (((getO o e).bind fun d => bnd (getOs os) fun ds => ret (d :: ds)).bind g) Q := h
    rw [R.bind_assoc] at h
    obtain ⟨d, l, h⟩ := look_of (g := fun d e => (bnd (getOs os) (fun ds => ret (d :: ds)) e).bind g) (e0 := []) (w00 := w) (Step.refl w) rel.wf rel q h
    have h : Goes K mg W σ ρ w (((getOs os e).bind fun ds => ret (d :: ds)).bind g) Q := h
    rw [R.bind_assoc] at h
    obtain ⟨ds, l2, h⟩ := looks_of (g := fun ds => g (d :: ds)) rel qs h
    exact ⟨d :: ds, .cons l l2, h⟩
def rCall (X : Cx) (W : WX) (g : List D → M D) : List V → Hp → VK → Prop := fun vs H Q => ∃ w e σ ds, w.H = H ∧ Rel X.K X.mg w e σ ∧ Lks X.K X.mg w vs ds ∧ Goes X.K X.mg W σ (rD X.K X.mg σ) w (g ds e) Q
def rCallF (X : Cx) (W : WX) (g : List D → M D) : List V → Hp → VK → Prop := fun vs H Q => ∃ w e σ ds, w.H = H ∧ Rel X.K X.mg w e σ ∧ Lks X.K X.mg w vs ds ∧ Goes X.K X.mg W σ (rF X.K X.mg σ) w (g ds e) Q
abbrev CallV (X : Cx) (W : WX) (f : Value) (g : List D → M D) : Prop := CallR X f (rCall X W g)
abbrev CallF (X : Cx) (W : WX) (f : Value) (g : List D → M D) : Prop := CallR X f (rCallF X W g)
theorem call_imp {fo : M (List Op)} {g : List D → M D} {σ : St} {H : Hp} {Q : VK} (h : tR X.K X.mg W (rD X.K X.mg) (callM fo g) σ H Q) : tCB (rCall X W g) (tR X.K X.mg W (rBs X.K X.mg) fo) σ H Q := by
  obtain ⟨w, e, hw, rel, g1⟩ := h
  subst hw
  refine tR_mono (goes_bind (ρ1 := rBs X.K X.mg) rel g1) fun v H1 ⟨w1, e1, d, h1, s, r1, q, g1⟩ => ?_
  subst h1
  obtain ⟨ds, l, g2⟩ := looks_of r1 q g1
  exact ⟨w1, e1, σ, ds, rfl, r1, l, g2⟩
theorem callF_imp {fo : M (List Op)} {g : List D → M D} {σ : St} {H : Hp} {Q : VK} (h : tR X.K X.mg W (rF X.K X.mg) (callM fo g) σ H Q) : tCB (rCallF X W g) (tR X.K X.mg W (rBs X.K X.mg) fo) σ H Q := by
  obtain ⟨w, e, hw, rel, g1⟩ := h
  subst hw
  refine tR_mono (goes_bind (ρ1 := rBs X.K X.mg) rel g1) fun v H1 ⟨w1, e1, d, h1, s, r1, q, g1⟩ => ?_
  subst h1
  obtain ⟨ds, l, g2⟩ := looks_of r1 q g1
  exact ⟨w1, e1, σ, ds, rfl, r1, l, g2⟩
variable {x : Str} {id T : String} {g : List D → M D} {p pos : Pos}
theorem ve_callB (hc : CallV X W (.builtin id) g) (hm : X.mg x = none) (ha : VO X W (a :: es) fs) (hv : bootBuiltins x = some (.builtin id) := by rfl) (hg : Gl X x := by rfl) (hn : x ≠ "__name__" := by decide) (hdb : (x == ("__debug__" : Str)) = false := by decide)
    (he : starEach (a :: es) X.env = (false, eval a X.env) :: starEach es X.env := by rfl) (hpl : (backTo pos (starEach es X.env)).any (·.1) = false := by rfl) : VE X W (.Call (.Name x p) (a :: es) [] pos) (callM fs g) :=
  PE.imp (pe_callB hc hg hm hv ha hn hdb he hpl) fun σ H Q h => call_imp h
theorem vf_callB (hc : CallF X W (.builtin id) g) (hm : X.mg x = none) (ha : VO X W (a :: es) fs) (hv : bootBuiltins x = some (.builtin id) := by rfl) (hg : Gl X x := by rfl) (hn : x ≠ "__name__" := by decide) (hdb : (x == ("__debug__" : Str)) = false := by decide)
    (he : starEach (a :: es) X.env = (false, eval a X.env) :: starEach es X.env := by rfl) (hpl : (backTo pos (starEach es X.env)).any (·.1) = false := by rfl) : VF X W (.Call (.Name x p) (a :: es) [] pos) (callM fs g) :=
  PE.imp (pe_callB hc hg hm hv ha hn hdb he hpl) fun σ H Q h => callF_imp h
theorem ve_callT (hc : CallV X W (.type T) g) (hm : X.mg x = none) (ha : VO X W (a :: es) fs) (hv : bootBuiltins x = some (.type T) := by rfl) (hg : Gl X x := by rfl) (hn : x ≠ "__name__" := by decide) (hdb : (x == ("__debug__" : Str)) = false := by decide)
    (he : starEach (a :: es) X.env = (false, eval a X.env) :: starEach es X.env := by rfl) (hpl : (backTo pos (starEach es X.env)).any (·.1) = false := by rfl) : VE X W (.Call (.Name x p) (a :: es) [] pos) (callM fs g) :=
  PE.imp (pe_callTy hc hg hm hv ha hn hdb he hpl) fun σ H Q h => call_imp h
theorem vf_callT (hc : CallF X W (.type T) g) (hm : X.mg x = none) (ha : VO X W (a :: es) fs) (hv : bootBuiltins x = some (.type T) := by rfl) (hg : Gl X x := by rfl) (hn : x ≠ "__name__" := by decide) (hdb : (x == ("__debug__" : Str)) = false := by decide)
    (he : starEach (a :: es) X.env = (false, eval a X.env) :: starEach es X.env := by rfl) (hpl : (backTo pos (starEach es X.env)).any (·.1) = false := by rfl) : VF X W (.Call (.Name x p) (a :: es) [] pos) (callM fs g) :=
  PE.imp (pe_callTy hc hg hm hv ha hn hdb he hpl) fun σ H Q h => callF_imp h
/-! ### builtins -/
theorem Lks.one {K : PySem.W.Frag} {mg : Str → Option Value} {w : Wd} {vs : List V} {d : D} (h : Lks K mg w vs [d]) : ∃ v, vs = [v] ∧ Look K mg w v d := by
  cases h with
  | cons h1 h2 => cases h2; exact ⟨_, rfl, h1⟩
theorem Lks.two {K : PySem.W.Frag} {mg : Str → Option Value} {w : Wd} {vs : List V} {d d' : D} (h : Lks K mg w vs [d, d']) : ∃ v v', vs = [v, v'] ∧ Look K mg w v d ∧ Look K mg w v' d' := by
  cases h with
  | cons h1 h2 =>
    obtain ⟨v', rfl, h3⟩ := h2.one
    exact ⟨_, v', rfl, h1, h3⟩
def lenD : List D → M D
  | [.lst xs] => ret (.int xs.length)
  | [.frl xs] => ret (.int xs.length)
  | [.tup xs] => ret (.int xs.length)
  | [.ktu xs] => ret (.int xs.length)
  | [.str z] => chk (decide (z.length ≤ line)) (ret (.int z.length))
  | [.dk ks] => ret (.int ks.length)
  | _ => nope
theorem cv_len : CallV X W (.builtin "len") lenD := by
  intro pins s σ H xs us Q I r h
  obtain ⟨w, e, σ', ds, rfl, rel, l, g⟩ := h
  unfold lenD at g
  split at g
  · obtain ⟨v, rfl, l1⟩ := l.one
    obtain ⟨p, ys, rfl, h1, h2⟩ := l1.lst
    exact call_len_seq pins s σ _ _ us Q I r ⟨p, ys, rfl, .inl (SqL.of h1), by rw [h2.length]; exact Goes.ok g rel (.int _)⟩
  · obtain ⟨v, rfl, l1⟩ := l.one
    obtain ⟨p, ys, rfl, h1, h2⟩ := l1.frl
    exact call_len_seq pins s σ _ _ us Q I r ⟨p, ys, rfl, .inl (.inl h1), by rw [h2.length]; exact Goes.ok g rel (.int _)⟩
  · obtain ⟨v, rfl, l1⟩ := l.one
    obtain ⟨p, ys, rfl, h1, h2⟩ := l1.tup
    exact call_len_seq pins s σ _ _ us Q I r ⟨p, ys, rfl, .inr h1.sq, by rw [h2.length]; exact Goes.ok g rel (.int _)⟩
  · obtain ⟨v, rfl, l1⟩ := l.one
    obtain ⟨p, ys, rfl, h1, h2⟩ := l1.ktu
    exact call_len_seq pins s σ _ _ us Q I r ⟨p, ys, rfl, .inr h1.sq, by rw [h2.length]; exact Goes.ok g rel (.int _)⟩
  · obtain ⟨v, rfl, l1⟩ := l.one
    obtain ⟨hc, g⟩ := chk_of g
    obtain rfl := l1.str
    exact call_len_str pins s σ _ _ us Q I r ⟨_, rfl, by rw [line_eq]; exact of_decide_eq_true hc, Goes.ok g rel (.int _)⟩
  · obtain ⟨v, rfl, l1⟩ := l.one
    obtain ⟨p, kvs, rfl, h1, h2, h3⟩ := l1.dk
    rw [Vals.ref1 r]
    refine d_len I h1 fun t s' I' => ⟨.int kvs.length, w.H, I', ⟨t, rfl⟩, ?_⟩
    rw [len_of_keys h2]
    exact Goes.ok g rel (.int _)
  · exact g.elim
def absD : List D → M D
  | [.int i] => ret (.int (if i < 0 then -i else i))
  | _ => nope
theorem cv_abs : CallV X W (.builtin "abs") absD := by
  intro pins s σ H xs us Q I r h
  obtain ⟨w, e, σ', ds, rfl, rel, l, g⟩ := h
  unfold absD at g
  split at g
  · obtain ⟨v, rfl, l1⟩ := l.one
    obtain rfl := l1.int
    exact call_abs pins s σ _ _ us Q I r ⟨_, rfl, Goes.ok g rel (.int _)⟩
  · exact g.elim
def intD : List D → M D
  | [.int i] => ret (.int i)
  | [.bl b] => ret (.int (if b then 1 else 0))
  | _ => nope
theorem cv_int : CallV X W (.type "int") intD := by
  intro pins s σ H xs us Q I r h
  obtain ⟨w, e, σ', ds, rfl, rel, l, g⟩ := h
  unfold intD at g
  split at g
  · obtain ⟨v, rfl, l1⟩ := l.one
    obtain rfl := l1.int
    exact call_int1 pins s σ _ _ us Q I r (.inl ⟨_, rfl, Goes.ok g rel (.int _)⟩)
  · obtain ⟨v, rfl, l1⟩ := l.one
    obtain rfl := l1.bl
    exact call_int1 pins s σ _ _ us Q I r (.inr ⟨_, rfl, Goes.ok g rel (.int _)⟩)
  · exact g.elim
def strD : List D → M D
  | [.int i] => chk (decide (i.natAbs.log2 < 1920)) (ret (.str (toString i)))
  | _ => nope
theorem cv_str : CallV X W (.type "str") strD := by
  intro pins s σ H xs us Q I r h
  obtain ⟨w, e, σ', ds, rfl, rel, l, g⟩ := h
  unfold strD at g
  split at g
  · obtain ⟨v, rfl, l1⟩ := l.one
    obtain ⟨hc, g⟩ := chk_of g
    obtain rfl := l1.int
    exact call_str_int pins s σ _ _ us Q I r ⟨_, rfl, of_decide_eq_true hc, Goes.ok g rel (.str _)⟩
  · exact g.elim
def maxI : List Int → Option Int
  | [] => none
  | i :: r => some (r.foldl max i)
def minI : List Int → Option Int
  | [] => none
  | i :: r => some (r.foldl min i)
theorem foldl_max_spec : ∀ (r : List Int) (i : Int), (r.foldl max i) ∈ i :: r ∧ ∀ y ∈ i :: r, y ≤ r.foldl max i
  | [], i => ⟨List.mem_cons_self, fun y hy => by simp at hy; subst hy; exact Int.le_refl _⟩
  | j :: r, i => by
    obtain ⟨h1, h2⟩ := foldl_max_spec r (max i j)
    rw [List.foldl_cons]
    refine ⟨?_, fun y hy => ?_⟩
    · rcases List.mem_cons.mp h1 with h | h
      · rw [h]
        rcases Int.le_total i j with z | z
        · rw [Int.max_eq_right z]; simp
        · rw [Int.max_eq_left z]; simp
      · exact List.mem_cons_of_mem _ (List.mem_cons_of_mem _ h)
    · have h3 := h2 (max i j) List.mem_cons_self
      rcases List.mem_cons.mp hy with rfl | hy
      · exact Int.le_trans (Int.le_max_left _ _) h3
      · rcases List.mem_cons.mp hy with rfl | hy
        · exact Int.le_trans (Int.le_max_right _ _) h3
        · exact h2 y (List.mem_cons_of_mem _ hy)
theorem foldl_min_spec : ∀ (r : List Int) (i : Int), (r.foldl min i) ∈ i :: r ∧ ∀ y ∈ i :: r, r.foldl min i ≤ y
  | [], i => ⟨List.mem_cons_self, fun y hy => by simp at hy; subst hy; exact Int.le_refl _⟩
  | j :: r, i => by
    obtain ⟨h1, h2⟩ := foldl_min_spec r (min i j)
    rw [List.foldl_cons]
    refine ⟨?_, fun y hy => ?_⟩
    · rcases List.mem_cons.mp h1 with h | h
      · rw [h]
        rcases Int.le_total i j with z | z
        · rw [Int.min_eq_left z]; simp
        · rw [Int.min_eq_right z]; simp
      · exact List.mem_cons_of_mem _ (List.mem_cons_of_mem _ h)
    · have h3 := h2 (min i j) List.mem_cons_self
      rcases List.mem_cons.mp hy with rfl | hy
      · exact Int.le_trans h3 (Int.min_le_left _ _)
      · rcases List.mem_cons.mp hy with rfl | hy
        · exact Int.le_trans h3 (Int.min_le_right _ _)
        · exact h2 y (List.mem_cons_of_mem _ hy)
/-- the ints, the texts, the bools of a list -/
def toI : List D → Option (List Int)
  | [] => some []
  | .int i :: r => (toI r).map (i :: ·)
  | _ => none
def toS : List D → Option (List Str)
  | [] => some []
  | .str i :: r => (toS r).map (i :: ·)
  | _ => none
def toB : List D → Option (List Bool)
  | [] => some []
  | .bl i :: r => (toB r).map (i :: ·)
  | _ => none
theorem toI_den {K : PySem.W.Frag} {mg : Str → Option Value} {w : Wd} : ∀ {vs : List V} {ds : List D} {ns : List Int}, Dens K mg w vs ds → toI ds = some ns → vs = ns.map V.int
  | _, _, _, .nil, h => by cases h; rfl
  | _, _, ns, .cons (d := d) q qs, h => by
    cases d <;> first | (cases h; done) | skip
    obtain ⟨r, h1, rfl⟩ := Option.map_eq_some_iff.mp h
    cases q
    rw [toI_den qs h1]
    rfl
theorem toS_den {K : PySem.W.Frag} {mg : Str → Option Value} {w : Wd} : ∀ {vs : List V} {ds : List D} {ns : List Str}, Dens K mg w vs ds → toS ds = some ns → vs = ns.map V.str
  | _, _, _, .nil, h => by cases h; rfl
  | _, _, ns, .cons (d := d) q qs, h => by
    cases d <;> first | (cases h; done) | skip
    obtain ⟨r, h1, rfl⟩ := Option.map_eq_some_iff.mp h
    cases q
    rw [toS_den qs h1]
    rfl
theorem toB_den {K : PySem.W.Frag} {mg : Str → Option Value} {w : Wd} : ∀ {vs : List V} {ds : List D} {ns : List Bool}, Dens K mg w vs ds → toB ds = some ns → vs = ns.map V.bl
  | _, _, _, .nil, h => by cases h; rfl
  | _, _, ns, .cons (d := d) q qs, h => by
    cases d <;> first | (cases h; done) | skip
    obtain ⟨r, h1, rfl⟩ := Option.map_eq_some_iff.mp h
    cases q
    rw [toB_den qs h1]
    rfl
theorem strs_den {K : PySem.W.Frag} {mg : Str → Option Value} {w : Wd} : ∀ xs : List Str, Dens K mg w (xs.map V.str) (xs.map D.str)
  | [] => .nil
  | x :: r => .cons (.str x) (strs_den r)
theorem ints_den {K : PySem.W.Frag} {mg : Str → Option Value} {w : Wd} : ∀ xs : List Int, Dens K mg w (xs.map V.int) (xs.map D.int)
  | [] => .nil
  | x :: r => .cons (.int x) (ints_den r)
theorem max_uniq {ns : List Int} {m m' : Int} (h1 : m ∈ ns) (h2 : ∀ y ∈ ns, y ≤ m) (h3 : m' ∈ ns) (h4 : ∀ y ∈ ns, y ≤ m') : m = m' := Int.le_antisymm (h4 _ h1) (h2 _ h3)
theorem min_uniq {ns : List Int} {m m' : Int} (h1 : m ∈ ns) (h2 : ∀ y ∈ ns, m ≤ y) (h3 : m' ∈ ns) (h4 : ∀ y ∈ ns, m' ≤ y) : m = m' := Int.le_antisymm (h2 _ h3) (h4 _ h1)
def maxD : List D → M D
  | [.int i, .int j] => ret (.int (if j > i then j else i))
  | [.lst ds] => lift ((toI ds).bind fun ns => (maxI ns).map .int)
  | _ => nope
def minD : List D → M D
  | [.int i, .int j] => ret (.int (if j < i then j else i))
  | [.lst ds] => lift ((toI ds).bind fun ns => (minI ns).map .int)
  | _ => nope
theorem cv_max (hc : X.calm = true) : CallV X W (.builtin "max") maxD := by
  intro pins s σ H xs us Q I r h
  obtain ⟨w, e, σ', ds, rfl, rel, l, g⟩ := h
  unfold maxD at g
  split at g
  · obtain ⟨v, v', rfl, l1, l2⟩ := l.two
    obtain rfl := l1.int
    obtain rfl := l2.int
    exact call_max2 hc pins s σ _ _ us Q I r ⟨_, _, rfl, Goes.ok g rel (.int _)⟩
  · obtain ⟨z, hz, g⟩ := lift_of g
    obtain ⟨v, rfl, l1⟩ := l.one
    obtain ⟨p, ys, rfl, h1, h2⟩ := l1.lst
    obtain ⟨ns, h3, h4⟩ := Option.bind_eq_some_iff.mp hz
    obtain ⟨m, h5, rfl⟩ := Option.map_eq_some_iff.mp h4
    obtain rfl := toI_den h2 h3
    cases ns with
    | nil => cases h5
    | cons i r' =>
      cases h5
      obtain ⟨k1, k2⟩ := foldl_max_spec r' i
      refine cr_max hc pins s σ _ _ us Q I r ⟨p, _, rfl, SqL.of h1, Nat.succ_pos _, fun m h6 h7 => ?_⟩
      obtain rfl := max_uniq h6 h7 k1 k2
      exact Goes.ok g rel (.int _)
  · exact g.elim
theorem cv_min (hc : X.calm = true) : CallV X W (.builtin "min") minD := by
  intro pins s σ H xs us Q I r h
  obtain ⟨w, e, σ', ds, rfl, rel, l, g⟩ := h
  unfold minD at g
  split at g
  · obtain ⟨v, v', rfl, l1, l2⟩ := l.two
    obtain rfl := l1.int
    obtain rfl := l2.int
    exact call_min2 hc pins s σ _ _ us Q I r ⟨_, _, rfl, Goes.ok g rel (.int _)⟩
  · obtain ⟨z, hz, g⟩ := lift_of g
    obtain ⟨v, rfl, l1⟩ := l.one
    obtain ⟨p, ys, rfl, h1, h2⟩ := l1.lst
    obtain ⟨ns, h3, h4⟩ := Option.bind_eq_some_iff.mp hz
    obtain ⟨m, h5, rfl⟩ := Option.map_eq_some_iff.mp h4
    obtain rfl := toI_den h2 h3
    cases ns with
    | nil => cases h5
    | cons i r' =>
      cases h5
      obtain ⟨k1, k2⟩ := foldl_min_spec r' i
      refine cr_min hc pins s σ _ _ us Q I r ⟨p, _, rfl, SqL.of h1, Nat.succ_pos _, fun m h6 h7 => ?_⟩
      obtain rfl := min_uniq h6 h7 k1 k2
      exact Goes.ok g rel (.int _)
  · exact g.elim
def sumD : List D → M D
  | [.lst ds] => lift ((toI ds).map fun ns => .int ns.sum)
  | _ => nope
theorem cv_sum (hc : X.calm = true) : CallV X W (.builtin "sum") sumD := by
  intro pins s σ H xs us Q I r h
  obtain ⟨w, e, σ', ds, rfl, rel, l, g⟩ := h
  unfold sumD at g
  split at g
  · obtain ⟨z, hz, g⟩ := lift_of g
    obtain ⟨v, rfl, l1⟩ := l.one
    obtain ⟨p, ys, rfl, h1, h2⟩ := l1.lst
    obtain ⟨ns, h3, rfl⟩ := Option.map_eq_some_iff.mp hz
    obtain rfl := toI_den h2 h3
    exact cr_sum hc pins s σ _ _ us Q I r ⟨p, ns, rfl, SqL.of h1, Goes.ok g rel (.int _)⟩
  · exact g.elim
def allD : List D → M D
  | [.lst ds] => lift ((toB ds).map fun ns => .bl (ns.all _root_.id))
  | _ => nope
def anyD : List D → M D
  | [.lst ds] => lift ((toB ds).map fun ns => .bl (ns.any _root_.id))
  | _ => nope
theorem cv_all (hc : X.calm = true) : CallV X W (.builtin "all") allD := by
  intro pins s σ H xs us Q I r h
  obtain ⟨w, e, σ', ds, rfl, rel, l, g⟩ := h
  unfold allD at g
  split at g
  · obtain ⟨z, hz, g⟩ := lift_of g
    obtain ⟨v, rfl, l1⟩ := l.one
    obtain ⟨p, ys, rfl, h1, h2⟩ := l1.lst
    obtain ⟨ns, h3, rfl⟩ := Option.map_eq_some_iff.mp hz
    obtain rfl := toB_den h2 h3
    exact cr_all hc pins s σ _ _ us Q I r ⟨p, ns, rfl, SqL.of h1, Goes.ok g rel (.bl _)⟩
  · exact g.elim
theorem cv_any (hc : X.calm = true) : CallV X W (.builtin "any") anyD := by
  intro pins s σ H xs us Q I r h
  obtain ⟨w, e, σ', ds, rfl, rel, l, g⟩ := h
  unfold anyD at g
  split at g
  · obtain ⟨z, hz, g⟩ := lift_of g
    obtain ⟨v, rfl, l1⟩ := l.one
    obtain ⟨p, ys, rfl, h1, h2⟩ := l1.lst
    obtain ⟨ns, h3, rfl⟩ := Option.map_eq_some_iff.mp hz
    obtain rfl := toB_den h2 h3
    exact cr_any hc pins s σ _ _ us Q I r ⟨p, ns, rfl, SqL.of h1, Goes.ok g rel (.bl _)⟩
  · exact g.elim
end
end VL
namespace VL
open PySem PySem.Spec PyProof.Rows L2
variable [Tb]
/-! ### defs -/
inductive FR where
  | ok (d : D) (outs : List D) | okF (d : D) (outs : List D) | ex (x : Xn) (outs : List D) | no
abbrev Fm := List D → FR
/-- the frame at the entry; true: the parameter is owned -/
def frame : List Bool → List D → Nat → En
  | true :: ms, d :: ds, n => .ow d :: frame ms ds n
  | false :: ms, d :: ds, n => .fz d :: frame ms ds n
  | _, _, n => List.replicate n .un
def outsOf : List Bool → En → Option (List D)
  | [], _ => some []
  | true :: ms, .ow d :: e => (outsOf ms e).map (d :: ·)
  | false :: ms, _ :: e => outsOf ms e
  | _, _ => none
def finF (os : List D) : Fl → FR
  | .nx => .ok .non os
  | .rt d => .ok d os
  | .rf d => .okF d os
  | _ => .no
def endF (ms : List Bool) : R Fl → FR
  | .ok fl e => match outsOf ms e with
    | none => .no
    | some os => finF os fl
  | .ex x e => match outsOf ms e with
    | none => .no
    | some os => .ex x os
  | .no => .no
def runF (ms : List Bool) (n : Nat) (gb : M Fl) : Fm := fun ds => endF ms (gb (frame ms ds n))
section
variable {K : PySem.W.Frag} {mg : Str → Option Value} {w w' : Wd} {e : En} {σ : St}
inductive Ag (K : PySem.W.Frag) (mg : Str → Option Value) (w : Wd) : List Bool → List V → List D → List Addr → Prop
  | nil : Ag K mg w [] [] [] []
  | fz {ms : List Bool} {v : V} {vs : List V} {d : D} {ds : List D} {as : List Addr} : Den K mg w v d → Ag K mg w ms vs ds as → Ag K mg w (false :: ms) (v :: vs) (d :: ds) as
  | ow {ms : List Bool} {a : Addr} {vs : List V} {d : D} {ds : List D} {as : List Addr} : w.O a → Top K mg w a d → a ∉ as → Ag K mg w ms vs ds as → Ag K mg w (true :: ms) (.ref a :: vs) (d :: ds) (a :: as)
inductive Ot (K : PySem.W.Frag) (mg : Str → Option Value) (w : Wd) : List Addr → List D → Prop
  | nil : Ot K mg w [] []
  | cons {a : Addr} {d : D} {as : List Addr} {ds : List D} : w.O a → Top K mg w a d → Ot K mg w as ds → Ot K mg w (a :: as) (d :: ds)
theorem Ag.len {ms : List Bool} {vs : List V} {ds : List D} {as : List Addr} (h : Ag K mg w ms vs ds as) : vs.length = ms.length := by
  induction h with
  | nil => rfl
  | fz _ _ ih => rw [List.length_cons, List.length_cons, ih]
  | ow _ _ _ _ ih => rw [List.length_cons, List.length_cons, ih]
def spV (K : PySem.W.Frag) (mg : Str → Option Value) (ms : List Bool) (f : Fm) : Sp := fun vs H Q E => ∃ w ds as, w.H = H ∧ Wf w ∧ Ag K mg w ms vs ds as ∧ (∀ b, w.O b → b ∈ as) ∧
  match f ds with
  | .ok d os => ∀ w' v, Step w w' → Wf w' → Ot K mg w' as os → Den K mg w' v d → Q v w'.H
  | .okF d os => ∀ w' a, Step w w' → Wf w' → Ot K mg w' as os → w.H a = none → ¬ w'.U a → Top K mg w' a d → Q (.ref a) w'.H
  | .ex x os => ∀ w' c p, Step w w' → Wf w' → Ot K mg w' as os → XDen K mg w' x c p → E c p w'.H
  | .no => False
/-! the entry -/
theorem rep_un (n i : Nat) {x : Sl} (hx : x ≠ .un) : (List.replicate n Sl.un)[i]? ≠ some x := fun h => by
  rw [List.getElem?_replicate] at h
  split at h
  · cases h; exact hx rfl
  · cases h
theorem start_len {ms : List Bool} {vs : List V} {ds : List D} {as : List Addr} (n : Nat) (h : Ag K mg w ms vs ds as) : (vs.map some ++ List.replicate n none : St).length = (frame ms ds n).length := by
  induction h with
  | nil => show (List.replicate n none : St).length = (List.replicate n Sl.un).length; rw [List.length_replicate, List.length_replicate]
  | fz _ _ ih => exact congrArg (· + 1) ih
  | ow _ _ _ _ ih => exact congrArg (· + 1) ih
theorem start_fz {ms : List Bool} {vs : List V} {ds : List D} {as : List Addr} (n : Nat) (h : Ag K mg w ms vs ds as) : ∀ (i : Nat) d, (frame ms ds n)[i]? = some (Sl.fz d) → ∃ v, (vs.map some ++ List.replicate n none : St)[i]? = some (some v) ∧ Den K mg w v d := by
  induction h with
  | nil => exact fun i d q => absurd q (rep_un n i fun z => by cases z)
  | @fz ms v vs d' ds as q0 _ ih =>
    intro i d q
    cases i with
    | zero => cases q; exact ⟨v, rfl, q0⟩
    | succ i => exact ih i d q
  | ow _ _ _ _ ih =>
    intro i d q
    cases i with
    | zero => cases q
    | succ i => exact ih i d q
theorem start_ow {ms : List Bool} {vs : List V} {ds : List D} {as : List Addr} (n : Nat) (h : Ag K mg w ms vs ds as) : ∀ (i : Nat) d, (frame ms ds n)[i]? = some (Sl.ow d) → ∃ a, (vs.map some ++ List.replicate n none : St)[i]? = some (some (V.ref a)) ∧ w.O a ∧ Top K mg w a d ∧ a ∈ as := by
  induction h with
  | nil => exact fun i d q => absurd q (rep_un n i fun z => by cases z)
  | fz _ _ ih =>
    intro i d q
    cases i with
    | zero => cases q
    | succ i => exact ih i d q
  | @ow ms a vs d' ds as q1 q2 _ _ ih =>
    intro i d q
    cases i with
    | zero => cases q; exact ⟨a, rfl, q1, q2, List.mem_cons_self⟩
    | succ i =>
      obtain ⟨b, h1, h2, h3, h4⟩ := ih i d q
      exact ⟨b, h1, h2, h3, List.mem_cons_of_mem _ h4⟩
theorem start_ap {ms : List Bool} {vs : List V} {ds : List D} {as : List Addr} (n : Nat) (h : Ag K mg w ms vs ds as) : ∀ (i j : Nat) d d' a, (frame ms ds n)[i]? = some (Sl.ow d) → (frame ms ds n)[j]? = some (Sl.ow d') → (vs.map some ++ List.replicate n none : St)[i]? = some (some (V.ref a)) → (vs.map some ++ List.replicate n none : St)[j]? = some (some (V.ref a)) → i = j := by
  induction h with
  | nil => exact fun i j d d' a q => absurd q (rep_un n i fun z => by cases z)
  | fz _ _ ih =>
    intro i j d d' a q q' s s'
    cases i with
    | zero => cases q
    | succ i =>
      cases j with
      | zero => cases q'
      | succ j => exact congrArg (· + 1) (ih i j d d' a q q' s s')
  | @ow ms b vs d0 ds as q1 q2 hn hA ih =>
    intro i j d d' a q q' s s'
    cases i with
    | zero =>
      cases j with
      | zero => rfl
      | succ j =>
        have s : some (some (V.ref b)) = some (some (V.ref a)) := s
        cases s
        obtain ⟨c, h1, _, _, h4⟩ := start_ow n hA j d' q'
        have s' : (vs.map some ++ List.replicate n none : St)[j]? = some (some (V.ref b)) := s'
        rw [h1] at s'
        cases s'
        exact absurd h4 hn
    | succ i =>
      cases j with
      | zero =>
        have s' : some (some (V.ref b)) = some (some (V.ref a)) := s'
        cases s'
        obtain ⟨c, h1, _, _, h4⟩ := start_ow n hA i d q
        have s : (vs.map some ++ List.replicate n none : St)[i]? = some (some (V.ref b)) := s
        rw [h1] at s
        cases s
        exact absurd h4 hn
      | succ j => exact congrArg (· + 1) (ih i j d d' a q q' s s')
theorem rel_start {ms : List Bool} {vs : List V} {ds : List D} {as : List Addr} (n : Nat) (f : Wf w) (h : Ag K mg w ms vs ds as) : Rel K mg w (frame ms ds n) (vs.map some ++ List.replicate n none) :=
  ⟨f, start_len n h, start_fz n h, fun i d q => let ⟨a, h1, h2, h3, _⟩ := start_ow n h i d q; ⟨a, h1, h2, h3⟩, start_ap n h⟩
/-! the end -/
def own (ms : List Bool) : Nat → Bool := fun i => ms.getD i false
theorem outs_ot {ms : List Bool} {vs : List V} {ds : List D} {as : List Addr} (h : Ag K mg w ms vs ds as) : ∀ {e : En} {os : List D} (g : Nat → Option (Option V)), (∀ i d, e[i]? = some (Sl.ow d) → ∃ a, g i = some (some (V.ref a)) ∧ w'.O a ∧ Top K mg w' a d) →
    (∀ i, own ms i = true → g i = (vs.map some)[i]?) → outsOf ms e = some os → Ot K mg w' as os ∧ ∀ a ∈ as, ∃ i d, e[i]? = some (Sl.ow d) ∧ g i = some (some (V.ref a)) := by
  induction h with
  | nil =>
    intro e os g h1 h2 h3
    cases h3
    exact ⟨.nil, fun a ha => by cases ha⟩
  | fz _ _ ih =>
    intro e os g h1 h2 h3
    cases e with
    | nil => cases h3
    | cons x e =>
      obtain ⟨q1, q2⟩ := ih (e := e) (fun i => g (i + 1)) (fun i d q => h1 (i + 1) d q) (fun i q => h2 (i + 1) q) h3
      exact ⟨q1, fun a ha => let ⟨i, d, z⟩ := q2 a ha; ⟨i + 1, d, z⟩⟩
  | @ow ms b vs d0 ds as q1 q2 hn hA ih =>
    intro e os g h1 h2 h3
    cases e with
    | nil => cases h3
    | cons x e =>
      cases x with
      | un => cases h3
      | fz _ => cases h3
      | ow d =>
        obtain ⟨os', h4, rfl⟩ := Option.map_eq_some_iff.mp h3
        obtain ⟨q3, q4⟩ := ih (e := e) (fun i => g (i + 1)) (fun i d q => h1 (i + 1) d q) (fun i q => h2 (i + 1) q) h4
        obtain ⟨a, e1, e2, e3⟩ := h1 0 d rfl
        have e0 : g 0 = some (some (V.ref b)) := h2 0 rfl
        rw [e0] at e1
        cases e1
        refine ⟨.cons e2 e3 q3, fun a ha => ?_⟩
        rcases List.mem_cons.mp ha with rfl | ha
        · exact ⟨0, d, rfl, e0⟩
        · obtain ⟨i, d, z⟩ := q4 a ha
          exact ⟨i + 1, d, z⟩
theorem own_lt {ms : List Bool} {i : Nat} (h : own ms i = true) : i < ms.length := by
  unfold own at h
  rw [List.getD_eq_getElem?_getD] at h
  by_cases hi : i < ms.length
  · exact hi
  · rw [List.getElem?_eq_none (by omega)] at h
    cases h
variable {P : Program} {W0 : World} {base : Heap}
theorem okXc {x qual : Str} {st : Stmt} {f : Addr} {fd : FuncData} {N ps : List Str} {k : Nat} {sp : Sp} (F : Fun K x qual st f fd) (S : FnScope N ps (defScope st)) (len : ∀ vs H Q E, sp vs H Q E → vs.length = ps.length)
    (hbody : ∀ (cdv : Value) (A : Around) (outer : List Env) (s : Shared) (H : Hp) (vs : List V) (Q : VK) (E : XK), fd.code = cdv → Room k (A.deeper (envOfC qual (defScope st) s.heap.objs.size f cdv)) → sp vs H Q E →
      ∃ t, PSs (cxOf (L2.CX P W0) P W0 K mg base N qual (defScope st) f cdv A outer s H E) (defBody st) t ∧ t { nx := fun _ H' => Q .non H', rt := Q } (L2.start N vs) H) : FnOk P W0 K mg base (L2.CX P W0) (k + 1) f fd ps sp := by
  obtain ⟨oc, od, kV, doc, pm, an, cdv, ct, osl, rfl, lk, hcd⟩ := F.ex
  exact fn_of lk hcd S len fun A outer s H vs Q E hr hsp => hbody cdv A outer s H vs Q E rfl hr hsp
theorem fn_v {x qual : Str} {st : Stmt} {f : Addr} {fd : FuncData} {N ps : List Str} {k n : Nat} {ms : List Bool} {gb : M Fl} (F : Fun K x qual st f fd) (S : FnScope N ps (defScope st)) (hm : ms.length = ps.length) (hn : N.length = ms.length + n)
    (hbody : ∀ (cdv : Value) (A : Around) (outer : List Env) (s : Shared) (H : Hp) (E : XK), fd.code = cdv → Room k (A.deeper (envOfC qual (defScope st) s.heap.objs.size f cdv)) →
      VSs (cxOf (L2.CX P W0) P W0 K mg base N qual (defScope st) f cdv A outer s H E) (fun c p _ H => E c p H) (own ms) (defBody st) gb) :
    FnOk P W0 K mg base (L2.CX P W0) (k + 1) f fd ps (spV K mg ms (runF ms n gb)) := by
  refine okXc F S (fun vs H Q E ⟨w, ds, as, _, _, ag, _⟩ => by rw [ag.len, hm]) fun cdv A outer s H vs Q E hcd hr h => ?_
  obtain ⟨w, ds, as, rfl, wf, ag, ho, res⟩ := h
  refine ⟨_, hbody cdv A outer s w.H E hcd hr, w, frame ms ds n, rfl, ?_, ?_⟩
  · have e1 : L2.start N vs = vs.map some ++ List.replicate n none := by
      unfold L2.start
      rw [hn, ag.len, Nat.add_sub_cancel_left]
    rw [e1]
    exact rel_start n wf ag
  · have e1 : L2.start N vs = vs.map some ++ List.replicate n none := by
      unfold L2.start
      rw [hn, ag.len, Nat.add_sub_cancel_left]
    rw [e1]
    have ot : ∀ {w' : Wd} {e : En} {σ' : St} {os : List D}, Rel K mg w' e σ' → Fix (own ms) (vs.map some ++ List.replicate n none) σ' → outsOf ms e = some os → Ot K mg w' as os ∧ ∀ a ∈ as, ∃ i d, e[i]? = some (Sl.ow d) ∧ σ'[i]? = some (some (V.ref a)) := fun {w' e σ' os} r fx h => by
      refine outs_ot ag (fun i => σ'[i]?) (fun i d q => r.ow i d q) (fun i q => ?_) h
      have hl : i < (vs.map some : List (Option V)).length := by rw [List.length_map, ag.len]; exact own_lt q
      show σ'[i]? = _
      rw [fx i q, List.getElem?_append_left hl]
    unfold runF at res
    cases hg : gb (frame ms ds n) with
    | no => rw [hg] at res; exact res
    | ex x e =>
      rw [hg] at res
      intro w' σ' c p s r fx xd
      cases ho' : outsOf ms e with
      | none =>
        have res : (match endF ms (.ex x e) with | .ok d os => ∀ w' v, Step w w' → Wf w' → Ot K mg w' as os → Den K mg w' v d → Q v w'.H | .okF d os => ∀ w' a, Step w w' → Wf w' → Ot K mg w' as os → w.H a = none → ¬ w'.U a → Top K mg w' a d → Q (.ref a) w'.H | .ex x os => ∀ w' c p, Step w w' → Wf w' → Ot K mg w' as os → XDen K mg w' x c p → E c p w'.H | .no => False) := res
        unfold endF at res
        dsimp only at res
        rw [ho'] at res
        exact res.elim
      | some os =>
        have res : (match endF ms (.ex x e) with | .ok d os => ∀ w' v, Step w w' → Wf w' → Ot K mg w' as os → Den K mg w' v d → Q v w'.H | .okF d os => ∀ w' a, Step w w' → Wf w' → Ot K mg w' as os → w.H a = none → ¬ w'.U a → Top K mg w' a d → Q (.ref a) w'.H | .ex x os => ∀ w' c p, Step w w' → Wf w' → Ot K mg w' as os → XDen K mg w' x c p → E c p w'.H | .no => False) := res
        unfold endF at res
        dsimp only at res
        rw [ho'] at res
        exact res w' c p s r.wf (ot r fx ho').1 xd
    | ok fl e =>
      rw [hg] at res
      intro w' σ' s r fx
      have res : (match endF ms (.ok fl e) with | .ok d os => ∀ w' v, Step w w' → Wf w' → Ot K mg w' as os → Den K mg w' v d → Q v w'.H | .okF d os => ∀ w' a, Step w w' → Wf w' → Ot K mg w' as os → w.H a = none → ¬ w'.U a → Top K mg w' a d → Q (.ref a) w'.H | .ex x os => ∀ w' c p, Step w w' → Wf w' → Ot K mg w' as os → XDen K mg w' x c p → E c p w'.H | .no => False) := res
      unfold endF at res
      dsimp only at res
      cases ho' : outsOf ms e with
      | none => rw [ho'] at res; exact res.elim
      | some os =>
        rw [ho'] at res
        obtain ⟨o1, o2⟩ := ot r fx ho'
        cases fl with
        | nx => exact res w' .non s r.wf o1 .non
        | rt d => exact fun v q => res w' v s r.wf o1 q
        | rf d =>
          intro a t hU hor hnn
          refine res w' a s r.wf o1 ?_ hU t
          rcases hor with z | z
          · exact z
          · obtain ⟨i, d', h1, h2⟩ := o2 a (ho a z)
            exact absurd h2 (hnn i d' h1)
        | bk => exact res.elim
        | ct => exact res.elim
end
end VL
namespace VL
open PySem PySem.Spec PyProof.Rows L2
variable [Tb]
/-! ### calls of defs -/
inductive Ar where
  | val (d : D) | own (i : Nat)
inductive Ars (K : PySem.W.Frag) (mg : Str → Option Value) (σ : St) (w : Wd) : List V → List Ar → Prop
  | nil : Ars K mg σ w [] []
  | val {v : V} {d : D} {vs : List V} {as : List Ar} : Den K mg w v d → Ars K mg σ w vs as → Ars K mg σ w (v :: vs) (.val d :: as)
  | own {v : V} {i : Nat} {vs : List V} {as : List Ar} : σ[i]? = some (some v) → Ars K mg σ w vs as → Ars K mg σ w (v :: vs) (.own i :: as)
def rAr (K : PySem.W.Frag) (mg : Str → Option Value) : St → Wd → Wd → En → List V → List Ar → Prop := fun σ _ w _ vs as => Ars K mg σ w vs as
instance {K : PySem.W.Frag} {mg : Str → Option Value} {σ : St} : Stb (rAr K mg σ) := ⟨fun _ _ _ _ _ _ _ h => h⟩
abbrev VR (X : Cx) (W : WX) (es : List Expr) (f : M (List Ar)) : Prop := PA X es (tR X.K X.mg W (rAr X.K X.mg) f)
def arV (f : M D) (r : M (List Ar)) : M (List Ar) := bnd f fun d => bnd r fun as => ret (.val d :: as)
def arO (i : Nat) (r : M (List Ar)) : M (List Ar) := bnd (peekO i) fun _ => bnd r fun as => ret (.own i :: as)
section
variable {X : Cx} {W : WX} {a : Expr} {es : List Expr} {fa : M D} {fs : M (List Ar)}
theorem vr_nil : VR X W [] (ret []) := PA.imp pa_nil fun σ H Q ⟨w, e, hw, rel, g⟩ => by
  subst hw
  exact Goes.ok g rel .nil
theorem vr_val (ha : VE X W a fa) (hr : VR X W es fs) (hs : starEach (a :: es) X.env = (false, eval a X.env) :: starEach es X.env := by rfl) : VR X W (a :: es) (arV fa fs) :=
  PA.imp (pa_cons ha hr hs) fun σ H Q ⟨w, e, hw, rel, g⟩ => by
    subst hw
    refine tR_mono (goes_bind (ρ1 := rD X.K X.mg) rel g) fun v H1 ⟨w1, e1, d, h1, s, r1, q, g1⟩ => ?_
    subst h1
    refine tR_mono (goes_bind (ρ1 := rAr X.K X.mg) r1 g1) fun v2 H2 ⟨w2, e2, ds, h2, s2, r2, q2, g2⟩ => ?_
    subst h2
    exact Goes.ok g2 r2 (.val (q.step s2 r1.wf) q2)
theorem vr_own (i : Nat) {x : Str} {p : Pos} (hr : VR X W es fs) (hN : X.N[i]? = some x := by rfl) (hx : Vis X.env.scope x := by first | exact Or.inl rfl | exact Or.inr (Or.inl rfl) | exact Or.inr (Or.inr rfl)) (hd : (x == ("__debug__" : Str)) = false := by decide)
    (hcd : (x == ("__classdict__" : Str)) = false := by decide) (hs : starEach (.Name x p :: es) X.env = (false, eval (.Name x p) X.env) :: starEach es X.env := by rfl) : VR X W (.Name x p :: es) (arO i fs) :=
  PA.imp (pa_cons (pe_var hN hx hd hcd) hr hs) fun σ H Q ⟨w, e, hw, rel, g⟩ => by
    subst hw
    obtain ⟨b, d, hi, es0, hO, t, g2⟩ := peekG_of rel g
    refine ⟨_, es0, ?_⟩
    refine tR_mono (goes_bind (ρ1 := rAr X.K X.mg) rel g2) fun v2 H2 ⟨w2, e2, ds, h2, s2, r2, q2, g2⟩ => ?_
    subst h2
    exact Goes.ok g2 r2 (.own es0 q2)
def readA : List Ar → En → Option (List D)
  | [], _ => some []
  | .val d :: as, e => (readA as e).map (d :: ·)
  | .own i :: as, e => match e[i]? with
    | some (.ow d) => (readA as e).map (d :: ·)
    | _ => none
def ownA : List Ar → List Nat
  | [] => []
  | .val _ :: as => ownA as
  | .own i :: as => i :: ownA as
def modesA : List Ar → List Bool
  | [] => []
  | .val _ :: as => false :: modesA as
  | .own _ :: as => true :: modesA as
def putA (e : En) : List Nat → List D → En
  | i :: is, d :: ds => (putA e is ds).set i (.ow d)
  | _, _ => e
def retA (fr : Bool) (e : En) (is : List Nat) : FR → R D
  | .ok d os => if fr = false ∧ os.length = is.length then .ok d (putA e is os) else .no
  | .okF d os => if fr = true ∧ os.length = is.length then .ok d (putA e is os) else .no
  | .ex x os => if os.length = is.length then .ex x (putA e is os) else .no
  | .no => .no
def doCall (fr : Bool) (ms : List Bool) (f : Fm) (as : List Ar) : M D := fun e =>
  if modesA as = ms ∧ (ownA as).Nodup then match readA as e with
    | some ds => retA fr e (ownA as) (f ds)
    | none => .no
  else .no
def callE (ms : List Bool) (ga : M (List Ar)) (f : Fm) : M D := bnd ga (doCall false ms f)
def callFr (ms : List Bool) (ga : M (List Ar)) (f : Fm) : M D := bnd ga (doCall true ms f)
inductive Sg (σ : St) : List Nat → List Addr → Prop
  | nil : Sg σ [] []
  | cons {i : Nat} {a : Addr} {is : List Nat} {as : List Addr} : σ[i]? = some (some (.ref a)) → Sg σ is as → Sg σ (i :: is) (a :: as)
section
variable {K : PySem.W.Frag} {mg : Str → Option Value} {σ : St} {w w' : Wd} {e : En}
def Wd.only (w : Wd) (as : List Addr) : Wd := ⟨w.U, fun b => b ∈ as, w.H⟩
theorem top_same {U O O' : Addr → Prop} {H : Hp} {a : Addr} {d : D} (t : Top K mg ⟨U, O, H⟩ a d) : Top K mg ⟨U, O', H⟩ a d := Top.step (w := ⟨U, O, H⟩) (w' := ⟨U, O', H⟩) ⟨fun _ _ _ h _ => h, fun _ _ h => h, fun _ _ h _ => h, fun _ _ _ _ h _ => h, fun _ h => h⟩ rfl t
theorem stays_same {U O O' : Addr → Prop} {H : Hp} : Stays ⟨U, O, H⟩ ⟨U, O', H⟩ := ⟨fun _ _ _ h _ => h, fun _ _ h => h, fun _ _ h _ => h, fun _ _ _ _ h _ => h, fun _ h => h⟩
theorem Sg.mem {is : List Nat} {as : List Addr} (h : Sg σ is as) {a : Addr} (ha : a ∈ as) : ∃ i ∈ is, σ[i]? = some (some (.ref a)) := by
  induction h with
  | nil => cases ha
  | @cons i b is as q _ ih =>
    rcases List.mem_cons.mp ha with rfl | ha
    · exact ⟨i, List.mem_cons_self, q⟩
    · obtain ⟨j, h1, h2⟩ := ih ha
      exact ⟨j, List.mem_cons_of_mem _ h1, h2⟩
theorem ag_of (rel : Rel K mg w e σ) : ∀ {vs : List V} {as : List Ar} {ds : List D}, Ars K mg σ w vs as → (ownA as).Nodup → readA as e = some ds → ∃ bs, Sg σ (ownA as) bs ∧ (∀ O', (∀ b ∈ bs, O' b) → Ag K mg ⟨w.U, O', w.H⟩ (modesA as) vs ds bs) ∧ (∀ b ∈ bs, w.O b) ∧ ∀ i ∈ ownA as, ∃ d, e[i]? = some (Sl.ow d)
  | _, _, _, .nil, _, h => by cases h; exact ⟨[], .nil, fun _ _ => .nil, fun _ z => (by cases z), fun _ z => (by cases z)⟩
  | _, _, _, .val (d := d) (as := as) q qs, hn, h => by
    obtain ⟨ds', h1, rfl⟩ := Option.map_eq_some_iff.mp h
    obtain ⟨bs, q1, q2, q3, q4⟩ := ag_of rel qs hn h1
    exact ⟨bs, q1, fun O' hO => .fz (q.stays stays_same) (q2 O' hO), q3, q4⟩
  | _, _, _, .own (i := i) (as := as) q qs, hn, h => by
    have hn' := List.nodup_cons.mp (show (i :: ownA as).Nodup from hn)
    unfold readA at h
    rcases sl_cases e i with z | ⟨d, z⟩ | ⟨d, z⟩
    · rcases z with z | z <;> (rw [z] at h; cases h)
    · rw [z] at h; cases h
    · rw [z] at h
      obtain ⟨ds', h1, rfl⟩ := Option.map_eq_some_iff.mp h
      obtain ⟨bs, q1, q2, q3, q4⟩ := ag_of rel qs hn'.2 h1
      obtain ⟨b, e1, hO, t⟩ := rel.ow i d z
      rw [q] at e1
      cases e1
      refine ⟨b :: bs, .cons q q1, fun O' hO' => .ow (hO' b List.mem_cons_self) (top_same t) (fun hb => ?_) (q2 O' fun c hc => hO' c (List.mem_cons_of_mem _ hc)), fun c hc => ?_, fun j hj => ?_⟩
      · obtain ⟨j, hj, ej⟩ := q1.mem hb
        obtain ⟨d2, hd2⟩ := q4 j hj
        have := rel.ap i j _ _ b z hd2 q ej
        subst this
        exact hn'.1 hj
      · rcases List.mem_cons.mp hc with rfl | hc
        · exact hO
        · exact q3 c hc
      · rcases List.mem_cons.mp (show j ∈ i :: ownA as from hj) with rfl | hj
        · exact ⟨d, z⟩
        · exact q4 j hj
theorem putA_len (e : En) : ∀ (is : List Nat) (os : List D), (putA e is os).length = e.length
  | [], _ => rfl
  | _ :: _, [] => rfl
  | i :: is, d :: os => by unfold putA; rw [List.length_set]; exact putA_len e is os
theorem putA_fz {j : Nat} {d : D} : ∀ {is : List Nat} {os : List D}, is.length = os.length → (putA e is os)[j]? = some (Sl.fz d) → j ∉ is ∧ e[j]? = some (Sl.fz d)
  | [], _, _, h => ⟨by simp, h⟩
  | i :: is, [], hl, h => by cases hl
  | i :: is, d' :: os, hl, h => by
    rcases set_get_some (show ((putA e is os).set i (.ow d'))[j]? = some (Sl.fz d) from h) with ⟨_, _, z⟩ | ⟨n, z⟩
    · cases z
    · obtain ⟨h1, h2⟩ := putA_fz (Nat.succ.inj hl) z
      exact ⟨by simp only [List.mem_cons, not_or]; exact ⟨n, h1⟩, h2⟩
theorem putA_ow {j : Nat} {d : D} {as : List Addr} {is : List Nat} (hs : Sg σ is as) : ∀ {os : List D}, Ot K mg w as os → (putA e is os)[j]? = some (Sl.ow d) → (j ∈ is ∧ ∃ a, σ[j]? = some (some (.ref a)) ∧ w.O a ∧ Top K mg w a d) ∨ (j ∉ is ∧ e[j]? = some (Sl.ow d)) := by
  induction hs with
  | nil => intro os ho h; cases ho; exact .inr ⟨by simp, h⟩
  | @cons i a is as q qs ih =>
    intro os ho h
    cases ho with
    | @cons _ d' _ os' h1 h2 h3 =>
      rcases set_get_some (show ((putA e is os').set i (.ow d'))[j]? = some (Sl.ow d) from h) with ⟨rfl, _, z⟩ | ⟨n, z⟩
      · cases z
        exact .inl ⟨List.mem_cons_self, a, q, h1, h2⟩
      · rcases ih h3 z with ⟨k1, k2⟩ | ⟨k1, k2⟩
        · exact .inl ⟨List.mem_cons_of_mem _ k1, k2⟩
        · exact .inr ⟨by simp only [List.mem_cons, not_or]; exact ⟨n, k1⟩, k2⟩
theorem Ot.len {as : List Addr} {os : List D} (h : Ot K mg w as os) : os.length = as.length := by
  induction h with
  | nil => rfl
  | cons _ _ _ ih => rw [List.length_cons, List.length_cons, ih]
theorem Sg.len {is : List Nat} {as : List Addr} (h : Sg σ is as) : is.length = as.length := by
  induction h with
  | nil => rfl
  | cons _ _ ih => rw [List.length_cons, List.length_cons, ih]
theorem Ot.mem {as : List Addr} {os : List D} (h : Ot K mg w as os) {a : Addr} (ha : a ∈ as) : w.O a := by
  induction h with
  | nil => cases ha
  | cons q _ _ ih =>
    rcases List.mem_cons.mp ha with rfl | ha
    · exact q
    · exact ih ha
theorem wf_only (f : Wf w) {bs : List Addr} (h : ∀ b ∈ bs, w.O b) : Wf (w.only bs) := ⟨fun b u z => f.dis b u (h b z), f.trU, fun b z => f.obO b (h b z), f.tab⟩
/-- behind a call: the caller's world -/
def Wd.back (w w' : Wd) : Wd := ⟨w'.U, w.O, w'.H⟩
theorem back_step {bs : List Addr} (h : ∀ b ∈ bs, w.O b) (s : Step (w.only bs) w') : Step w (w.back w') :=
  ⟨fun b o e n t => s.keep b o e (fun z => n (h b z)) t, fun _ _ n => n, s.up, fun b e u => (s.back b e u).imp _root_.id (h b), s.tr⟩
theorem back_wf {bs : List Addr} {os : List D} (f : Wf w) (h : ∀ b ∈ bs, w.O b) (s : Step (w.only bs) w') (f' : Wf w') (ot : Ot K mg w' bs os) : Wf (w.back w') := by
  refine ⟨fun b u z => ?_, f'.trU, fun b z => ?_, f'.tab⟩
  · rcases s.back b (f.trO b z) u with k | k
    · exact f.dis b k z
    · exact f'.dis b u (ot.mem k)
  · by_cases hb : b ∈ bs
    · exact f'.obO b (ot.mem hb)
    · obtain ⟨o, e1, h1⟩ := f.obO b z
      exact ⟨o, s.keep b o e1 hb h1.nt, h1⟩
theorem back_rel {bs : List Addr} {is : List Nat} {os : List D} (rel : Rel K mg w e σ) (h : ∀ b ∈ bs, w.O b) (s : Step (w.only bs) w') (f' : Wf w') (ot : Ot K mg w' bs os) (sg : Sg σ is bs) (hi : ∀ i ∈ is, ∃ d, e[i]? = some (Sl.ow d)) : Rel K mg (w.back w') (putA e is os) σ := by
  have st := back_step h s
  have sy := st.stays rel.wf
  have hl : is.length = os.length := by rw [sg.len, ot.len]
  have low : ∀ {j : Nat} {d : D}, (putA e is os)[j]? = some (Sl.ow d) → ∃ d', e[j]? = some (Sl.ow d') := fun {j d} q => by
    rcases putA_ow sg ot q with ⟨h1, _⟩ | ⟨_, h2⟩
    · exact hi j h1
    · exact ⟨d, h2⟩
  refine ⟨back_wf rel.wf h s f' ot, by rw [putA_len]; exact rel.len, fun j d q => ?_, fun j d q => ?_, fun j k d d' a q q' e1 e2 => ?_⟩
  · obtain ⟨_, h2⟩ := putA_fz hl q
    obtain ⟨v, e1, q1⟩ := rel.fz j d h2
    exact ⟨v, e1, q1.stays sy⟩
  · rcases putA_ow sg ot q with ⟨h1, a, e1, hO, t⟩ | ⟨h1, h2⟩
    · have hO' : w.O a := by
        obtain ⟨d', hd'⟩ := hi j h1
        obtain ⟨b, e3, h3, _⟩ := rel.ow j d' hd'
        rw [e1] at e3; cases e3
        exact h3
      exact ⟨a, e1, hO', top_same t⟩
    · obtain ⟨b, e1, hO, t⟩ := rel.ow j d h2
      have hb : b ∉ bs := fun hb => by
        obtain ⟨i, hi1, hi2⟩ := sg.mem hb
        obtain ⟨d', hd'⟩ := hi i hi1
        have := rel.ap j i _ _ b h2 hd' e1 hi2
        subst this
        exact h1 hi1
      obtain ⟨o, ho, hob⟩ := t.ob
      exact ⟨b, e1, hO, t.step sy ((s.keep b o ho hb hob.nt).trans ho.symm)⟩
  · obtain ⟨d1, h1⟩ := low q
    obtain ⟨d2, h2⟩ := low q'
    exact rel.ap j k _ _ a h1 h2 e1 e2
theorem retA_cases (fr : Bool) (e : En) (is : List Nat) (r : FR) : retA fr e is r = .no ∨ (∃ d os, r = .ok d os ∧ fr = false ∧ retA fr e is r = .ok d (putA e is os)) ∨ (∃ d os, r = .okF d os ∧ fr = true ∧ retA fr e is r = .ok d (putA e is os)) ∨ ∃ x os, r = .ex x os ∧ retA fr e is r = .ex x (putA e is os) := by
  cases r with
  | ok d os =>
    by_cases h : fr = false ∧ os.length = is.length
    · exact .inr (.inl ⟨d, os, rfl, h.1, if_pos h⟩)
    · exact .inl (if_neg h)
  | okF d os =>
    by_cases h : fr = true ∧ os.length = is.length
    · exact .inr (.inr (.inl ⟨d, os, rfl, h.1, if_pos h⟩))
    · exact .inl (if_neg h)
  | ex x os =>
    by_cases h : os.length = is.length
    · exact .inr (.inr (.inr ⟨x, os, rfl, if_pos h⟩))
    · exact .inl (if_neg h)
  | no => exact .inl rfl
end
section
variable {K : PySem.W.Frag} {mg : Str → Option Value} {σ : St} {w : Wd} {e : En}
theorem call_end {fr : Bool} {ms : List Bool} {f : Fm} {as : List Ar} {vs : List V} {Q : VK} {ρ : Wd → Wd → En → V → D → Prop} (rel : Rel K mg w e σ) (q : Ars K mg σ w vs as) (g : Goes K mg W σ ρ w (doCall fr ms f as e) Q)
    (h0 : fr = false → ∀ w' e v d, Den K mg w' v d → ρ w w' e v d) (h1 : fr = true → ∀ w' e a d, w.H a = none → ¬ w'.U a → ¬ w'.O a → Top K mg w' a d → ρ w w' e (.ref a) d) : spV K mg ms f vs w.H Q (WE W σ) := by
  unfold doCall at g
  by_cases hc : modesA as = ms ∧ (ownA as).Nodup
  · rw [if_pos hc] at g
    obtain ⟨rfl, hn⟩ := hc
    cases hr : readA as e with
    | none => rw [hr] at g; exact g.elim
    | some ds =>
      rw [hr] at g
      obtain ⟨bs, sg, ag, hO, hi⟩ := ag_of rel q hn hr
      refine ⟨w.only bs, ds, bs, rfl, wf_only rel.wf hO, ag _ fun _ h => h, fun _ h => h, ?_⟩
      have g : Goes K mg W σ ρ w (retA fr e (ownA as) (f ds)) Q := g
      rcases retA_cases fr e (ownA as) (f ds) with z | ⟨d, os, e1, e2, z⟩ | ⟨d, os, e1, e2, z⟩ | ⟨x, os, e1, z⟩
      · rw [z] at g; exact g.elim
      · rw [z] at g
        rw [e1]
        exact fun w' v s f' ot qv => g (w.back w') v (back_step hO s) (back_rel rel hO s f' ot sg hi) (h0 e2 _ _ _ _ (qv.stays stays_same))
      · rw [z] at g
        rw [e1]
        refine fun w' a s f' ot hn hU t => g (w.back w') (.ref a) (back_step hO s) (back_rel rel hO s f' ot sg hi) (h1 e2 _ _ _ _ hn hU (fun k => rel.wf.trO a k hn) (top_same t))
      · rw [z] at g
        rw [e1]
        refine fun w' c p s f' ot xd => g (w.back w') c p (back_step hO s) (back_rel rel hO s f' ot sg hi) ⟨xd.1, ?_⟩
        rcases xd.2 with h | ⟨dx, vs, k1, k2, k3, k4⟩
        · exact .inl h
        · exact .inr ⟨dx, vs, k1, k2, k3, k4.stays stays_same⟩
  · rw [if_neg hc] at g
    exact g.elim
end
variable {k : Nat} {f : Addr} {fd : FuncData} {ps : List Str} {ms : List Bool} {fm : Fm} {x : Str} {p pos : Pos} {e1 : Expr}
/-- f(..): a value -/
theorem ve_call (F : FnOk X.prog X.w X.K X.mg X.base (L2.CX X.prog X.w) k f fd ps (spV X.K X.mg ms fm)) (hr : Room k X.A) (hm : X.mg x = some (.ref f)) (hk : PySem.W.keepIn X.K (.ref f) = true) (hb : Binds X.K fd ps []) (tk : Takes X W)
    (ha : VR X W (e1 :: es) fs) (hg : Gl X x := by rfl) (hdb : (x == ("__debug__" : Str)) = false := by decide) (he : starEach (e1 :: es) X.env = (false, eval e1 X.env) :: starEach es X.env := by rfl) (hpl : (backTo pos (starEach es X.env)).any (·.1) = false := by rfl) :
    VE X W (.Call (.Name x p) (e1 :: es) [] pos) (callE ms fs fm) :=
  PE.imp (pe_callS F hr hg hm hk hb (passAt tk) ha hdb he hpl) fun σ H Q ⟨w, e, hw, rel, g⟩ => by
    subst hw
    refine tR_mono (goes_bind (ρ1 := rAr X.K X.mg) rel g) fun v2 H2 ⟨w2, e2, ds, h2, s2, r2, q2, g2⟩ => ?_
    subst h2
    exact call_end r2 q2 g2 (fun _ _ _ _ _ h => h) fun z => by cases z
/-- f(..): a new object -/
theorem vf_call (F : FnOk X.prog X.w X.K X.mg X.base (L2.CX X.prog X.w) k f fd ps (spV X.K X.mg ms fm)) (hr : Room k X.A) (hm : X.mg x = some (.ref f)) (hk : PySem.W.keepIn X.K (.ref f) = true) (hb : Binds X.K fd ps []) (tk : Takes X W)
    (ha : VR X W (e1 :: es) fs) (hg : Gl X x := by rfl) (hdb : (x == ("__debug__" : Str)) = false := by decide) (he : starEach (e1 :: es) X.env = (false, eval e1 X.env) :: starEach es X.env := by rfl) (hpl : (backTo pos (starEach es X.env)).any (·.1) = false := by rfl) :
    VF X W (.Call (.Name x p) (e1 :: es) [] pos) (callFr ms fs fm) :=
  PE.imp (pe_callS F hr hg hm hk hb (passAt tk) ha hdb he hpl) fun σ H Q ⟨w, e, hw, rel, g⟩ => by
    subst hw
    refine tR_mono (goes_bind (ρ1 := rAr X.K X.mg) rel g) fun v2 H2 ⟨w2, e2, ds, h2, s2, r2, q2, g2⟩ => ?_
    subst h2
    exact call_end r2 q2 g2 (fun z => by cases z) fun _ _ _ a _ h1 h2 h3 h4 => ⟨a, rfl, h1, h2, h3, h4⟩
end
end VL
namespace VL
open PySem PySem.Spec PyProof.Rows L2
variable [Tb]
/-! ### texts in order -/
def leS (x y : Str) : Prop := ltCps y.cps.toList x.cps.toList = false
instance (x y : Str) : Decidable (leS x y) := inferInstanceAs (Decidable (_ = _))
theorem leS_iff (x y : Str) : leS x y ↔ ¬ y.cps.toList < x.cps.toList := by
  unfold leS
  rw [PyProof.Rows.ltCps_eq]
  exact decide_eq_false_iff_not
theorem leS_le (x y : Str) : leS x y ↔ x.cps.toList ≤ y.cps.toList := by
  rw [leS_iff]
  exact List.not_lt
theorem leS_refl (x : Str) : leS x x := (leS_le x x).mpr (List.le_refl _)
theorem leS_trans {x y z : Str} (h1 : leS x y) (h2 : leS y z) : leS x z := (leS_le x z).mpr (List.le_trans ((leS_le x y).mp h1) ((leS_le y z).mp h2))
theorem leS_total (x y : Str) : leS x y ∨ leS y x := by
  rw [leS_le, leS_le]
  exact List.le_total _ _
theorem leS_anti {x y : Str} (h1 : leS x y) (h2 : leS y x) : x = y := by
  have e := List.le_antisymm ((leS_le x y).mp h1) ((leS_le y x).mp h2)
  obtain ⟨a⟩ := x
  obtain ⟨b⟩ := y
  have e : a.toList = b.toList := e
  rw [Array.toList_inj.mp e]
def insS (x : Str) : List Str → List Str
  | [] => [x]
  | y :: r => if leS x y then x :: y :: r else y :: insS x r
def sortS : List Str → List Str
  | [] => []
  | x :: r => insS x (sortS r)
theorem insS_perm (x : Str) : ∀ l : List Str, (insS x l).Perm (x :: l)
  | [] => List.Perm.refl _
  | y :: r => by
    unfold insS
    split
    · exact List.Perm.refl _
    · exact ((insS_perm x r).cons y).trans (List.Perm.swap x y r)
theorem sortS_perm : ∀ l : List Str, (sortS l).Perm l
  | [] => List.Perm.refl _
  | x :: r => (insS_perm x _).trans ((sortS_perm r).cons x)
theorem insS_sorted (x : Str) : ∀ l : List Str, l.Pairwise leS → (insS x l).Pairwise leS
  | [], _ => List.pairwise_cons.mpr ⟨fun _ h => (by cases h), .nil⟩
  | y :: r, h => by
    obtain ⟨h1, h2⟩ := List.pairwise_cons.mp h
    unfold insS
    split
    · rename_i hxy
      exact List.pairwise_cons.mpr ⟨fun z hz => by
        rcases List.mem_cons.mp hz with rfl | hz
        · exact hxy
        · exact leS_trans hxy (h1 z hz), h⟩
    · rename_i hxy
      refine List.pairwise_cons.mpr ⟨fun z hz => ?_, insS_sorted x r h2⟩
      rcases List.mem_cons.mp ((insS_perm x r).mem_iff.mp hz) with rfl | hz
      · exact (leS_total z y).resolve_left hxy
      · exact h1 z hz
theorem sortS_sorted : ∀ l : List Str, (sortS l).Pairwise leS
  | [] => .nil
  | x :: r => insS_sorted x _ (sortS_sorted r)
theorem rising_pair : ∀ (r : List Str) (p : Str), risingS p r = true → (p :: r).Pairwise leS
  | [], p, _ => List.pairwise_cons.mpr ⟨fun _ h => (by cases h), .nil⟩
  | x :: r, p, h => by
    unfold risingS at h
    obtain ⟨h1, h2⟩ := Bool.and_eq_true_iff.mp h
    have ih := rising_pair r x h2
    have hpx : leS p x := by
      unfold leS
      rw [Bool.not_eq_true'] at h1
      exact h1
    refine List.pairwise_cons.mpr ⟨fun z hz => ?_, ih⟩
    rcases List.mem_cons.mp hz with rfl | hz
    · exact hpx
    · exact leS_trans hpx ((List.pairwise_cons.mp ih).1 z hz)
theorem sortedS_pair {l : List Str} (h : sortedS l = true) : l.Pairwise leS := by
  cases l with
  | nil => exact .nil
  | cons x r => exact rising_pair r x h
theorem sortS_uniq {l ys : List Str} (h1 : ys.Perm l) (h2 : sortedS ys = true) : ys = sortS l :=
  List.Perm.eq_of_pairwise (le := leS) (fun _ _ _ _ a b => leS_anti a b) (sortedS_pair h2) (sortS_sorted l) (h1.trans (sortS_perm l).symm)
/-! ### lists, tuples, dicts made of what is there -/
def keysS : List (Key × D) → Option (List Str)
  | [] => some []
  | (.inr x, _) :: r => (keysS r).map (x :: ·)
  | _ => none
theorem keysS_of : ∀ {ks : List (Key × D)} {xs : List Str}, keysS ks = some xs → ks.map (·.1) = xs.map Sum.inr
  | [], _, h => by cases h; rfl
  | (.inr x, _) :: r, _, h => by
    obtain ⟨q, h1, rfl⟩ := Option.map_eq_some_iff.mp h
    rw [List.map_cons, List.map_cons, keysS_of h1]
  | (.inl _, _) :: _, _, h => by cases h
def sortedD : List D → M D
  | [.lst ds] => lift ((toS ds).bind fun xs => if xs.length < 64 then some (.lst ((sortS xs).map .str)) else none)
  | [.dk ks] => lift ((keysS ks).bind fun xs => if xs.length < 64 then some (.lst ((sortS xs).map .str)) else none)
  | _ => nope
def listD : List D → M D
  | [.lst ds] => ret (.lst ds)
  | [.tup ds] => ret (.lst ds)
  | [.ktu ds] => ret (.lst ds)
  | [.dk ks] => ret (.lst (ks.map fun p => keyV p.1))
  | _ => nope
def tupleD : List D → M D
  | [.lst ds] => ret (.tup ds)
  | [.tup ds] => ret (.tup ds)
  | [.ktu ds] => ret (.ktu ds)
  | _ => nope
def pairD : D → Option (Key × D)
  | .tup [k, v] => (keyD k).map fun k => (k, v)
  | .ktu [k, v] => (keyD k).map fun k => (k, v)
  | _ => none
def pairsD : List D → Option (List (Key × D))
  | [] => some []
  | d :: r => match pairD d, pairsD r with
    | some p, some q => some (p :: q)
    | _, _ => none
def mergeD (kvs more : List (Key × D)) : List (Key × D) := more.foldl (fun acc kv => putD acc kv.1 kv.2) kvs
def dictD : List D → M D
  | [.lst ds] => lift ((pairsD ds).map fun ps => .dk (mergeD [] ps))
  | [.dk ks] => ret (.dk ks)
  | _ => nope
section
variable {X : Cx} {W : WX}
theorem cf_sorted (hc : X.calm = true) : CallF X W (.builtin "sorted") sortedD := by
  intro pins s σ H xs us Q I r h
  obtain ⟨w, e, σ', ds, rfl, rel, l, g⟩ := h
  unfold sortedD at g
  split at g
  · obtain ⟨z, hz, g⟩ := lift_of g
    obtain ⟨v, rfl, l1⟩ := l.one
    obtain ⟨p, ys, rfl, h1, h2⟩ := l1.lst
    obtain ⟨ns, h3, h4⟩ := Option.bind_eq_some_iff.mp hz
    split at h4
    · rename_i h64
      cases h4
      obtain rfl := toS_den h2 h3
      refine cr_sortedS pins s σ _ _ us Q I r ⟨p, ns, rfl, SqL.of h1, h64, fun ys q hp hs hq => ?_⟩
      obtain rfl := sortS_uniq hp hs
      exact goes_newF rel g hq (new_lstF rel.wf hq (strs_den _))
    · cases h4
  · obtain ⟨z, hz, g⟩ := lift_of g
    obtain ⟨v, rfl, l1⟩ := l.one
    obtain ⟨p, kvs, rfl, h1, h2, h3⟩ := l1.dk
    obtain ⟨ns, h5, h4⟩ := Option.bind_eq_some_iff.mp hz
    split at h4
    · rename_i h64
      cases h4
      refine call_sortedD hc pins s σ _ _ us Q I r ⟨p, kvs, ns, rfl, h1, h2.trans (keysS_of h5), h64, fun ys q hp hs hq => ?_⟩
      obtain rfl := sortS_uniq hp hs
      exact goes_newF rel g hq (new_lstF rel.wf hq (strs_den _))
    · cases h4
  · exact g.elim
theorem call_list_rdK (hc : X.calm = true) : CallR X (.type "list") (fun xs H Q => ∃ p kvs, xs = [.ref p] ∧ Rd H p (.dK kvs) ∧ ∀ q, H q = none → Q (.ref q) (upd H q (.lst (kvs.map fun kv => kV kv.1)))) := by
  intro pins s σ H xs us Q I r h
  obtain ⟨p, kvs, rfl, hk, q⟩ := h
  obtain ⟨u, rfl, rx⟩ := vals1 r
  cases rx
  obtain ⟨z, lo, vs, rk, hd⟩ := dk_rd I.hok hk
  obtain ⟨ep, hat⟩ := hd.dictAt
  have hl : kvs.length = vs.length := Paired.length rk
  refine PySem.W.kdl_call (PySem.W.kdl_dict (knd := mixKind X.prog X.w) (kvs := vs) (ep := ep) lo) (I.ok.hd hc) hat (by rw [← hl]; exact z) fun h' tk acc' c' hkeep hS hacc => ?_
  refine ⟨.ref s.heap.objs.size, _, I.laid hkeep (Nat.le_refl _) (show ObjOk X.prog X.w _ _ _ (.lst (kvs.map fun kv => kV kv.1)) from ⟨by rw [List.length_map]; exact z, acc'.toList, c', ?_, by rw [Array.toArray_toList]; exact hS⟩), rfl, q _ (I.hok.fresh (Nat.le_refl _))⟩
  have el : acc'.toList.length = acc'.size := by simp
  refine vals_of_at (by rw [List.length_map, el, hacc.1, hl]) fun j x w' h1 h2 => ?_
  obtain ⟨k, y, hky, hi⟩ := hacc.2 j w' (by rw [← Array.getElem?_toList]; exact h2)
  have e1 : (kvs.map (·.1))[j]? = some k := by
    rw [KV.keys rk, List.getElem?_map, hky]; rfl
  have e3 : (kvs.map fun kv => kV kv.1) = (kvs.map (·.1)).map kV := by rw [List.map_map]; rfl
  rw [e3, List.getElem?_map, e1] at h1
  cases h1
  exact keyIs_rel hi
theorem keys_of_map {K : PySem.W.Frag} {mg : Str → Option Value} {w : Wd} {kvs : List (Key × V)} {ks : List (Key × D)} (h : kvs.map (·.1) = ks.map (·.1)) : Dens K mg w (kvs.map fun kv => kV kv.1) (ks.map fun p => keyV p.1) := by
  have e1 : (kvs.map fun kv => kV kv.1) = (kvs.map (·.1)).map kV := by rw [List.map_map]; rfl
  have e2 : (ks.map fun p => keyV p.1) = (ks.map (·.1)).map keyV := by rw [List.map_map]; rfl
  rw [e1, e2, h]
  exact keysV_den _
theorem cf_list (hc : X.calm = true) : CallF X W (.type "list") listD := by
  intro pins s σ H xs us Q I r h
  obtain ⟨w, e, σ', ds, rfl, rel, l, g⟩ := h
  unfold listD at g
  split at g
  · obtain ⟨v, rfl, l1⟩ := l.one
    obtain ⟨p, ys, rfl, h1, h2⟩ := l1.lst
    exact call_list_of pins s σ _ _ us Q I r ⟨p, ys, rfl, .inl (SqL.of h1), fun q hq => goes_newF rel g hq (new_lstF rel.wf hq h2)⟩
  · obtain ⟨v, rfl, l1⟩ := l.one
    obtain ⟨p, ys, rfl, h1, h2⟩ := l1.tup
    exact call_list_of pins s σ _ _ us Q I r ⟨p, ys, rfl, .inr h1.sq, fun q hq => goes_newF rel g hq (new_lstF rel.wf hq h2)⟩
  · obtain ⟨v, rfl, l1⟩ := l.one
    obtain ⟨p, ys, rfl, h1, h2⟩ := l1.ktu
    exact call_list_of pins s σ _ _ us Q I r ⟨p, ys, rfl, .inr h1.sq, fun q hq => goes_newF rel g hq (new_lstF rel.wf hq h2)⟩
  · obtain ⟨v, rfl, l1⟩ := l.one
    obtain ⟨p, kvs, rfl, h1, h2, h3⟩ := l1.dk
    exact call_list_rdK hc pins s σ _ _ us Q I r ⟨p, kvs, rfl, h1, fun q hq => goes_newF rel g hq (new_lstF rel.wf hq (keys_of_map h2))⟩
  · exact g.elim
/-- tuple(x), the operand frozen -/
def tupM1 (f : M D) : M D := bnd f fun d => tupleD [d]
theorem ve_tuple {a : Expr} {fa : M D} {p pos : Pos} (hm : X.mg "tuple" = none) (ha : VE X W a fa) (hv : bootBuiltins "tuple" = some (.type "tuple") := by rfl) (hg : Gl X "tuple" := by rfl) (hn : ("tuple" : Str) ≠ "__name__" := by decide) (hdb : (("tuple" : Str) == ("__debug__" : Str)) = false := by decide)
    (he : starEach [a] X.env = (false, eval a X.env) :: starEach [] X.env := by rfl) (hpl : (backTo pos (starEach [] X.env)).any (·.1) = false := by rfl) : VE X W (.Call (.Name "tuple" p) [a] [] pos) (tupM1 fa) :=
  PE.imp (pe_callTy call_tuple_of hg hm hv (pa_cons ha pa_nil he) hn hdb he hpl) fun σ H Q ⟨w, e, hw, rel, g⟩ => by
    subst hw
    refine tR_mono (goes_bind (ρ1 := rD X.K X.mg) rel g) fun v H1 ⟨w1, e1, d, h1, s, r1, q, g1⟩ => ?_
    subst h1
    cases q <;> first | (exact g1.elim) | skip
    · rename_i h1 h2 _
      exact ⟨_, _, rfl, .inr ⟨h1.sq, Goes.ok g1 r1 (.tup h1 h2)⟩⟩
    · rename_i h1 h2 _
      exact ⟨_, _, rfl, .inr ⟨h1.sq, Goes.ok g1 r1 (.ktu h1 h2)⟩⟩
    · rename_i h1 h2 _
      exact ⟨_, _, rfl, .inl ⟨h1.sq, fun p hp => goes_new r1 g1 hp (new_tup r1.wf hp h2)⟩⟩
section
variable {K : PySem.W.Frag} {mg : Str → Option Value} {w : Wd}
theorem merge_dk : ∀ {more : List (Key × V)} {ms : List (Key × D)} {kvs : List (Key × V)} {ks : List (Key × D)}, DK K mg w more ms → DK K mg w kvs ks → DK K mg w (mergeK kvs more) (mergeD ks ms) := by
  intro more ms kvs ks h
  induction h generalizing kvs ks with
  | nil => exact fun q => q
  | @cons k v d more ms q _ ih => exact fun q2 => ih (q2.put k q)
theorem pairsD_den : ∀ {vs : List V} {ds : List D} {ps : List (Key × D)}, Dens K mg w vs ds → pairsD ds = some ps → ∃ (as : List Addr) (kvs : List (Key × V)), vs = as.map V.ref ∧ Paired (fun p kv => SqT K w.H p [kV kv.1, kv.2]) as kvs ∧ DK K mg w kvs ps
  | _, _, _, .nil, h => by cases h; exact ⟨[], [], rfl, .nil, .nil⟩
  | _, _, _, .cons (d := d) (ds := ds) q qs, h => by
    unfold pairsD at h
    cases hp : pairD d with
    | none => rw [hp] at h; cases h
    | some p =>
      cases hq : pairsD ds with
      | none => rw [hp, hq] at h; cases h
      | some ps =>
        rw [hp, hq] at h
        cases h
        obtain ⟨as, kvs, rfl, h2, h3⟩ := pairsD_den qs hq
        unfold pairD at hp
        split at hp
        · obtain ⟨k, hk, rfl⟩ := Option.map_eq_some_iff.mp hp
          cases q with
          | @tup a xs _ t1 t2 =>
            cases t2 with
            | cons c1 c2 =>
              cases c2 with
              | @cons y _ _ _ c3 c4 =>
                cases c4
                have e1 := keyD_den c1 hk
                subst e1
                exact ⟨a :: as, (k, y) :: kvs, rfl, .cons t1.sq h2, .cons c3 h3⟩
        · obtain ⟨k, hk, rfl⟩ := Option.map_eq_some_iff.mp hp
          cases q with
          | @ktu a xs _ t1 t2 =>
            cases t2 with
            | cons c1 c2 =>
              cases c2 with
              | @cons y _ _ _ c3 c4 =>
                cases c4
                have e1 := keyD_den c1 hk
                subst e1
                exact ⟨a :: as, (k, y) :: kvs, rfl, .cons t1.sq h2, .cons c3 h3⟩
        · cases hp
end
theorem cf_dict (hc : X.calm = true) : CallF X W (.type "dict") dictD := by
  intro pins s σ H xs us Q I r h
  obtain ⟨w, e, σ', ds, rfl, rel, l, g⟩ := h
  unfold dictD at g
  split at g
  · obtain ⟨z, hz, g⟩ := lift_of g
    obtain ⟨v, rfl, l1⟩ := l.one
    obtain ⟨p, ys, rfl, h1, h2⟩ := l1.lst
    obtain ⟨ps, h3, rfl⟩ := Option.map_eq_some_iff.mp hz
    obtain ⟨as, kvs, rfl, h4, h5⟩ := pairsD_den h2 h3
    refine call_dictP hc pins s σ _ _ us Q I r ⟨p, as, kvs, rfl, SqL.of h1, h4, fun q hq => ?_⟩
    have d1 := (merge_dk h5 .nil).stays ((step_an (o := .dK (mergeK [] kvs)) rel.wf hq).stays rel.wf)
    exact goes_newF rel g hq ⟨_, upd_same, d1.keys, d1.dens⟩
  · obtain ⟨v, rfl, l1⟩ := l.one
    obtain ⟨p, kvs, rfl, h1, h2, h3⟩ := l1.dk
    rw [Vals.ref1 r]
    refine d_copyOf I h1 fun q s' hq I' => ⟨.ref q, _, I', rfl, ?_⟩
    have d1 := (DK.of h2 h3).stays ((step_an (o := .dK kvs) rel.wf hq).stays rel.wf)
    exact goes_newF rel g hq ⟨_, upd_same, d1.keys, d1.dens⟩
  · exact g.elim
/-! ### d.get(k), d.get(k, x) -/
def getM2 (fo : M Op) (fk fx : M D) : M D := bnd fo fun o => bnd (getO o) fun c0 => chk (isDkt c0) (bnd fk fun k => bnd fx fun x => bnd (getO o) fun c => lift ((dgetD c k).map fun r => r.getD x))
def getM1 (fo : M Op) (fk : M D) : M D := bnd fo fun o => bnd (getO o) fun c0 => chk (isDkt c0) (bnd fk fun k => bnd (getO o) fun c => lift ((dgetD c k).map fun r => r.getD .non))
theorem isD_look {K : PySem.W.Frag} {mg : Str → Option Value} {w : Wd} {v : V} {d : D} (l : Look K mg w v d) (h : isDkt d = true) : ∃ a, v = .ref a ∧ IsD w.H a := by
  cases d with
  | dk ks => obtain ⟨a, kvs, e, h1, _⟩ := l.dk; exact ⟨a, e, .inl ⟨kvs, h1⟩⟩
  | dt ks => obtain ⟨a, kvs, e, h1, _⟩ := l.dt; exact ⟨a, e, .inr ⟨kvs, h1⟩⟩
  | _ => cases h
variable {o ek ex : Expr} {apos cpos : Pos} {fo : M Op} {fk fx : M D}
theorem dget_end {K : PySem.W.Frag} {mg : Str → Option Value} {σ : St} {w : Wd} {e : En} {x y z : V} {c k dx : D} {Q : VK} (rel : Rel K mg w e σ) (lc : Look K mg w x c) (lk : Look K mg w y k) (qz : Den K mg w z dx)
    (g : Goes K mg W σ (rD K mg σ) w (lift ((dgetD c k).map fun r => r.getD dx) e) Q) : ∃ a o, x = .ref a ∧ DGet w.H a y o ∧ Q (o.getD z) w.H := by
  obtain ⟨r0, hz, g⟩ := lift_of g
  obtain ⟨r, h1, rfl⟩ := Option.map_eq_some_iff.mp hz
  obtain ⟨a, o, rfl, hg, ho, _⟩ := dget_look lc lk h1
  refine ⟨a, o, rfl, hg, ?_⟩
  rcases ho with ⟨rfl, rfl⟩ | ⟨z', v', rfl, rfl, q⟩
  · exact Goes.ok g rel qz
  · exact Goes.ok g rel q
theorem ve_get2 (hu : X.A.units + 100 < cLine) (ho : VB X W o fo) (hk : VE X W ek fk) (hx : VE X W ex fx) (m : M2 X o "get" apos ek ex cpos) : VE X W (.Call (.Attribute o "get" apos) [ek, ex] [] cpos) (getM2 fo fk fx) :=
  PE.imp (pe_dget2 (by omega) ho hk hx m) fun σ H Q ⟨w, e, hw, rel, g⟩ => by
    subst hw
    refine tR_mono (goes_bind (ρ1 := rB X.K X.mg) rel g) fun v H1 ⟨w1, e1, o1, h1, s, r1, q, g1⟩ => ?_
    subst h1
    obtain ⟨c0, l0, g1⟩ := look_of (Step.refl w1) r1.wf r1 q g1
    obtain ⟨hc, g1⟩ := chk_of g1
    obtain ⟨a, rfl, hd⟩ := isD_look l0 hc
    refine ⟨a, rfl, hd, ?_⟩
    refine tR_mono (goes_bind (ρ1 := rD X.K X.mg) r1 g1) fun y H2 ⟨w2, e2, dk, h2, s2, r2, q2, g2⟩ => ?_
    subst h2
    refine tR_mono (goes_bind (ρ1 := rD X.K X.mg) r2 g2) fun z H3 ⟨w3, e3, dx, h3, s3, r3, q3, g3⟩ => ?_
    subst h3
    obtain ⟨c, lc, g4⟩ := look_of (s2.trans s3) r1.wf r3 q g3
    obtain ⟨a', o', e', hg, qq⟩ := dget_end r3 lc (.inl (q2.step s3 r2.wf)) q3 g4
    cases e'
    exact ⟨o', hg, qq⟩
theorem ve_get1 (hu : X.A.units + 100 < cLine) (ho : VB X W o fo) (hk : VE X W ek fk) (m : M1 X o "get" apos ek cpos) : VE X W (.Call (.Attribute o "get" apos) [ek] [] cpos) (getM1 fo fk) :=
  PE.imp (pe_dget1 (by omega) ho hk m) fun σ H Q ⟨w, e, hw, rel, g⟩ => by
    subst hw
    refine tR_mono (goes_bind (ρ1 := rB X.K X.mg) rel g) fun v H1 ⟨w1, e1, o1, h1, s, r1, q, g1⟩ => ?_
    subst h1
    obtain ⟨c0, l0, g1⟩ := look_of (Step.refl w1) r1.wf r1 q g1
    obtain ⟨hc, g1⟩ := chk_of g1
    obtain ⟨a, rfl, hd⟩ := isD_look l0 hc
    refine ⟨a, rfl, hd, ?_⟩
    refine tR_mono (goes_bind (ρ1 := rD X.K X.mg) r1 g1) fun y H2 ⟨w2, e2, dk, h2, s2, r2, q2, g2⟩ => ?_
    subst h2
    obtain ⟨c, lc, g4⟩ := look_of s2 r1.wf r2 q g2
    obtain ⟨a', o', e', hg, qq⟩ := dget_end r2 lc (.inl q2) .non g4
    cases e'
    exact ⟨o', hg, qq⟩
/-! ### isinstance -/
def tyName : D → Option String
  | .non => some "NoneType"
  | .bl _ => some "bool"
  | .int _ => some "int"
  | .str _ => some "str"
  | .tup _ => some "tuple"
  | .ktu _ => some "tuple"
  | .lst _ => some "list"
  | .frl _ => some "list"
  | .dk _ => some "dict"
  | .dt _ => none
  | .ob _ _ => none
def isT (T t : String) : Bool := t == T || (t == "bool" && T == "int")
def isiD (T : String) (d : D) : M D := lift ((tyName d).map fun t => .bl (isT T t))
def IsiOk (T : String) : Prop := ∀ t, t ∈ ["NoneType", "bool", "int", "str", "tuple", "list", "dict"] → kitB t T = some (isT T t)
theorem isi_int : IsiOk "int" := by unfold IsiOk; decide +kernel
theorem isi_bool : IsiOk "bool" := by unfold IsiOk; decide +kernel
theorem isi_str : IsiOk "str" := by unfold IsiOk; decide +kernel
theorem isi_tuple : IsiOk "tuple" := by unfold IsiOk; decide +kernel
theorem isi_list : IsiOk "list" := by unfold IsiOk; decide +kernel
theorem isi_dict : IsiOk "dict" := by unfold IsiOk; decide +kernel
theorem tyx_of {K : PySem.W.Frag} {mg : Str → Option Value} {w : Wd} {v : V} {d : D} {t : String} (l : Look K mg w v d) (h : tyName d = some t) : TyX K w.H v (.type t) ∧ t ∈ ["NoneType", "bool", "int", "str", "tuple", "list", "dict"] := by
  cases d with
  | non => cases h; obtain rfl := l.non; exact ⟨.base .non, by decide⟩
  | bl b => cases h; obtain rfl := l.bl; exact ⟨.base (.bl _), by decide⟩
  | int i => cases h; obtain rfl := l.int; exact ⟨.base (.int _), by decide⟩
  | str z => cases h; obtain rfl := l.str; exact ⟨.base (.str _), by decide⟩
  | tup ds => cases h; obtain ⟨a, xs, rfl, h1, _⟩ := l.tup; exact ⟨.base (.tup h1), by decide⟩
  | ktu ds => cases h; obtain ⟨a, xs, rfl, ⟨o, _, _, h1, h2, _⟩, _⟩ := l.ktu; exact ⟨.kTuple h1 h2, by decide⟩
  | lst ds => cases h; obtain ⟨a, xs, rfl, h1, _⟩ := l.lst; exact ⟨.base (.lst h1), by decide⟩
  | frl ds =>
    cases h
    obtain ⟨a, xs, rfl, h1, _⟩ := l.frl
    rcases h1 with h1 | ⟨o, h1⟩
    · exact ⟨.base (.lst h1), by decide⟩
    · exact ⟨.base (.frz h1), by decide⟩
  | dk ds =>
    cases h
    obtain ⟨a, xs, rfl, h1, _⟩ := l.dk
    rcases h1 with h1 | ⟨o, h1⟩
    · exact ⟨.base (.dK h1), by decide⟩
    · exact ⟨.fDict h1, by decide⟩
  | dt ds => cases h
  | ob c fs => cases h
def rIsiV (X : Cx) (W : WX) (T : String) : V → Hp → VK → Prop := fun x H Q => ∃ w e σ d, w.H = H ∧ Rel X.K X.mg w e σ ∧ Look X.K X.mg w x d ∧ Goes X.K X.mg W σ (rD X.K X.mg σ) w (isiD T d e) Q
/-- isinstance(x, T), T a built-in type -/
theorem ve_isi {T : String} {tn : Str} {a : Expr} {fa : M Op} {p p2 pos : Pos} (hT : IsiOk T) (hm : X.mg "isinstance" = none) (hm2 : X.mg tn = none) (ha : VB X W a fa) (hv2 : bootBuiltins tn = some (.type T) := by rfl) (hg : Gl X "isinstance" := by rfl) (hg2 : Gl X tn := by rfl)
    (hv : bootBuiltins "isinstance" = some (.builtin "isinstance") := by rfl) (hn : ("isinstance" : Str) ≠ "__name__" := by decide) (hdb : (("isinstance" : Str) == ("__debug__" : Str)) = false := by decide) (hn2 : tn ≠ "__name__" := by decide) (hdb2 : (tn == ("__debug__" : Str)) = false := by decide)
    (he : starEach [a, .Name tn p2] X.env = (false, eval a X.env) :: starEach [.Name tn p2] X.env := by rfl) (he2 : starEach [.Name tn p2] X.env = (false, eval (.Name tn p2) X.env) :: starEach [] X.env := by rfl) (hpl : (backTo pos (starEach [.Name tn p2] X.env)).any (·.1) = false := by rfl) :
    VE X W (.Call (.Name "isinstance" p) [a, .Name tn p2] [] pos) (op1 fa (isiD T)) :=
  PE.imp (pe_callB call_isi hg hm hv (pa_cons ha (pa_cons (pe_bltn (v := .ty T) hg2 hm2 hv2 rfl hn2 hdb2) pa_nil he2) he) hn hdb he hpl) fun σ H Q h => by
    have q := imp1 (r := rIsiV X W T) (fun w e σ x d Q r l g => ⟨w, e, σ, d, rfl, r, l, g⟩) h
    refine tR_mono q fun x H1 ⟨w, e, σ', d, h1, rel, l, g⟩ => ?_
    subst h1
    obtain ⟨z, hz, g⟩ := lift_of g
    obtain ⟨t, ht, rfl⟩ := Option.map_eq_some_iff.mp hz
    obtain ⟨k1, k2⟩ := tyx_of l ht
    exact ⟨x, .ty T, .type t, .type T, isT T t, rfl, .ty T, k1, kit_ty (hT t k2), Goes.ok g rel (.bl _)⟩
end
end VL
namespace VL
open PySem PySem.Spec PyProof.Rows L2
variable [Tb]
/-! ### dict displays -/
def prsM : List (M D × M D) → M (List (D × D))
  | [] => ret []
  | (fk, fv) :: r => bnd fk fun k => bnd fv fun v => bnd (prsM r) fun ps => ret ((k, v) :: ps)
def keyPs : List (D × D) → Option (List (Key × D))
  | [] => some []
  | (k, v) :: r => match keyD k, keyPs r with
    | some k, some q => some ((k, v) :: q)
    | _, _ => none
def dispM (ms : List (M D × M D)) : M D := bnd (prsM ms) fun ps => lift ((keyPs ps).map fun ks => .dk (mergeD [] ks))
section
variable {X : Cx} {W : WX}
def trsOf (X : Cx) (W : WX) (ms : List (M D × M D)) : List (TE × TE) := ms.map fun m => (tR X.K X.mg W (rD X.K X.mg) m.1, tR X.K X.mg W (rD X.K X.mg) m.2)
abbrev VPs (X : Cx) (W : WX) (pos : Pos) (keys : List (Option Expr)) (values : List Expr) (ms : List (M D × M D)) : Prop := PPs X pos keys values (trsOf X W ms)
theorem vps_nil {pos : Pos} : VPs X W pos [] [] [] := pps_nil
theorem vps_cons {pos : Pos} {k v : Expr} {ks : List (Option Expr)} {vs : List Expr} {fk fv : M D} {ms : List (M D × M D)} (hk : VE X W k fk) (hv : VE X W v fv) (hr : VPs X W pos ks vs ms) : VPs X W pos (some k :: ks) (v :: vs) ((fk, fv) :: ms) := pps_cons hk hv hr
inductive DPs (K : PySem.W.Frag) (mg : Str → Option Value) (w : Wd) : List (V × V) → List (D × D) → Prop
  | nil : DPs K mg w [] []
  | cons {k v : V} {dk dv : D} {ps : List (V × V)} {ds : List (D × D)} : Den K mg w k dk → Den K mg w v dv → DPs K mg w ps ds → DPs K mg w ((k, v) :: ps) ((dk, dv) :: ds)
theorem prs_imp {σ : St} : ∀ {ms : List (M D × M D)} {w : Wd} {e : En} {β γ : Type} {ρ : Wd → Wd → En → γ → β → Prop} [hS : Stb ρ] {k : List (D × D) → M β} {Q : γ → Hp → Prop}, Rel X.K X.mg w e σ → Goes X.K X.mg W σ ρ w (bnd (prsM ms) k e) Q →
    tPairs (trsOf X W ms) σ w.H fun ps H2 => ∃ w' e' ds, w'.H = H2 ∧ Step w w' ∧ Rel X.K X.mg w' e' σ ∧ DPs X.K X.mg w' ps ds ∧ Goes X.K X.mg W σ ρ w' (k ds e') Q
  | [], w, e, β, γ, ρ, hS, k, Q, rel, g => ⟨w, e, [], rfl, Step.refl w, rel, .nil, g⟩
  | (fk, fv) :: r, w, e, β, γ, ρ, hS, k, Q, rel, g => by
    have g : Goes X.K X.mg W σ ρ w (((fk e).bind fun k => bnd fv fun v => bnd (prsM r) fun ps => ret ((k, v) :: ps)).bind k) Q := g
    rw [R.bind_assoc] at g
    refine tR_mono (goes_bind (ρ1 := rD X.K X.mg) (f := fk) (g := fun k' e => (bnd fv (fun v => bnd (prsM r) fun ps => ret ((k', v) :: ps)) e).bind k) rel g) fun x H1 ⟨w1, e1, dk, h1, s1, r1, q1, g1⟩ => ?_
    subst h1
    have g1 : Goes X.K X.mg W σ ρ w1 (((fv e1).bind fun v => bnd (prsM r) fun ps => ret ((dk, v) :: ps)).bind k) Q := g1
    rw [R.bind_assoc] at g1
    refine tR_mono (goes_bind (ρ1 := rD X.K X.mg) (f := fv) (g := fun v' e => (bnd (prsM r) (fun ps => ret ((dk, v') :: ps)) e).bind k) r1 g1) fun y H2 ⟨w2, e2, dv, h2, s2, r2, q2, g2⟩ => ?_
    subst h2
    have g2 : Goes X.K X.mg W σ ρ w2 (((prsM r e2).bind fun ps => ret ((dk, dv) :: ps)).bind k) Q := g2
    rw [R.bind_assoc] at g2
    have ih := prs_imp (ms := r) (k := fun ps => k ((dk, dv) :: ps)) r2 g2
    exact tPairs_mono ih fun ps H3 ⟨w3, e3, ds, h3, s3, r3, q3, g3⟩ => ⟨w3, e3, (dk, dv) :: ds, h3, (s1.trans s2).trans s3, r3, .cons ((q1.step s2 r1.wf).step s3 r2.wf) (q2.step s3 r2.wf) q3, g3⟩
where
  tPairs_mono {σ : St} : ∀ {ms : List (M D × M D)} {H : Hp} {Q Q' : List (V × V) → Hp → Prop}, tPairs (trsOf X W ms) σ H Q → (∀ ps H, Q ps H → Q' ps H) → tPairs (trsOf X W ms) σ H Q'
  | [], H, Q, Q', h, hQ => hQ _ _ h
  | (fk, fv) :: r, H, Q, Q', h, hQ => tR_mono h fun x H1 h1 => tR_mono h1 fun y H2 h2 => tPairs_mono h2 fun ps H3 h3 => hQ _ _ h3
theorem keyPs_den {K : PySem.W.Frag} {mg : Str → Option Value} {w : Wd} : ∀ {ps : List (V × V)} {ds : List (D × D)} {ks : List (Key × D)}, DPs K mg w ps ds → keyPs ds = some ks → ∃ kvs : List (Key × V), ps = kvs.map (fun kv => (kV kv.1, kv.2)) ∧ DK K mg w kvs ks
  | _, _, _, .nil, h => by cases h; exact ⟨[], rfl, .nil⟩
  | _, _, _, .cons (dk := dk) (dv := dv) (ds := ds) (v := v) q1 q2 q3, h => by
    unfold keyPs at h
    cases hk : keyD dk with
    | none => rw [hk] at h; cases h
    | some k =>
      cases hr : keyPs ds with
      | none => rw [hk, hr] at h; cases h
      | some r =>
        rw [hk, hr] at h
        cases h
        obtain ⟨kvs, rfl, h2⟩ := keyPs_den q3 hr
        have e1 := keyD_den q1 hk
        subst e1
        exact ⟨(k, v) :: kvs, rfl, .cons q2 h2⟩
theorem keyPs_keys : ∀ {ds : List (D × D)} {ks : List (Key × D)}, keyPs ds = some ks → ks.map (·.2) = ds.map (·.2)
  | [], _, h => by cases h; rfl
  | (dk, dv) :: ds, _, h => by
    unfold keyPs at h
    cases hk : keyD dk with
    | none => rw [hk] at h; cases h
    | some k =>
      cases hr : keyPs ds with
      | none => rw [hk, hr] at h; cases h
      | some r =>
        rw [hk, hr] at h
        cases h
        rw [List.map_cons, List.map_cons, keyPs_keys hr]
theorem prsM_len {ms : List (M D × M D)} : ∀ {e e' : En} {ps : List (D × D)}, prsM ms e = .ok ps e' → ps.length = ms.length := by
  induction ms with
  | nil => intro e e' ps h; cases h; rfl
  | cons m r ih =>
    intro e e' ps h
    obtain ⟨fk, fv⟩ := m
    have h : (fk e).bind (fun k => bnd fv fun v => bnd (prsM r) fun ps => ret ((k, v) :: ps)) = .ok ps e' := h
    cases h1 : fk e with
    | no => rw [h1] at h; cases h
    | ex x e1 => rw [h1] at h; cases h
    | ok k e1 =>
      rw [h1] at h
      have h : (fv e1).bind (fun v => bnd (prsM r) fun ps => ret ((k, v) :: ps)) = .ok ps e' := h
      cases h2 : fv e1 with
      | no => rw [h2] at h; cases h
      | ex x e1 => rw [h2] at h; cases h
      | ok v e2 =>
        rw [h2] at h
        have h : (prsM r e2).bind (fun ps => ret ((k, v) :: ps)) = .ok ps e' := h
        cases h3 : prsM r e2 with
        | no => rw [h3] at h; cases h
        | ex x e1 => rw [h3] at h; cases h
        | ok qs e3 =>
          rw [h3] at h
          cases h
          rw [List.length_cons, List.length_cons, ih h3]
theorem vf_disp {pos : Pos} {keys : List (Option Expr)} {values : List Expr} {ms : List (M D × M D)} (h : VPs X W pos keys values ms) (hall : keys.all (·.isSome) = true := by rfl) (hl : keys.length = values.length := by rfl) (h0 : keys ≠ [] := by simp)
    (h15 : keys.length ≤ 15 := by decide) (hms : ms.length ≤ 15 := by decide) : VF X W (.Dict keys values pos) (dispM ms) :=
  PE.imp (pe_disp h hall hl h0 h15) fun σ H Q ⟨w, e, hw, rel, g⟩ p hp => by
    subst hw
    have hU := newU rel.wf hp
    have hO := newO rel.wf hp
    have s0 := step_an (o := .dK []) rel.wf hp
    have r0 := rel.an (o := .dK []) hp
    have hp0 : (w.an p (.dK [])).H p = some (.dK []) := upd_same
    have key := prs_imp (X := X) (W := W) (ms := ms) (ρ := fun w0 w' e' (ps : List (V × V)) (d : List (D × D)) => DPs X.K X.mg w' ps d) (hS := ⟨fun _ _ _ _ _ _ _ h => h⟩) (k := fun ps => ret ps)
      (Q := fun ps H2 => H2 p = some (.dK []) ∧ ∃ kvs : List (Key × V), ps = kvs.map (fun kv => (kV kv.1, kv.2)) ∧ kvs.length ≤ 15 ∧ Q (.ref p) (upd H2 p (.dK (mergeK [] kvs)))) r0 ?_
    · refine prs_imp.tPairs_mono key fun ps H2 ⟨w', e', ds', h', s, r, q, g'⟩ => ?_
      subst h'
      exact Goes.ok g' r q
    · unfold dispM bnd at g
      show Goes X.K X.mg W σ _ _ ((prsM ms e).bind ret) _
      cases hf : prsM ms e with
      | no => rw [hf] at g; exact g
      | ex x e1 => rw [hf] at g; exact fun w' c p s => g w' c p (s0.trans s)
      | ok ds e1 =>
        rw [hf] at g
        intro w' ps s r q
        have g : Goes X.K X.mg W σ (rF X.K X.mg σ) w (lift ((keyPs ds).map fun ks => .dk (mergeD [] ks)) e1) Q := g
        obtain ⟨z, hz, g⟩ := lift_of g
        obtain ⟨ks, hk, rfl⟩ := Option.map_eq_some_iff.mp hz
        obtain ⟨kvs, rfl, dk⟩ := keyPs_den q hk
        have hp' : w'.H p = some (.dK []) := s.keep p _ hp0 hO trivial
        have hU' : ¬ w'.U p := fun z => (s.back p (none_of hp0) z).elim hU hO
        have hO' : ¬ w'.O p := s.own p (none_of hp0) hO
        have hT : Plain (w'.H p) := by rw [hp']; trivial
        refine ⟨hp', kvs, rfl, ?_, ?_⟩
        · have h1 := prsM_len hf
          have h2 := congrArg List.length (keyPs_keys hk)
          rw [List.length_map, List.length_map] at h2
          rw [dk.len, h2, h1]
          exact hms
        · have d1 := (merge_dk dk .nil).stays (stays_hid (o := .dK (mergeK [] kvs)) hU' hT)
          exact g (w'.an p (.dK (mergeK [] kvs))) (.ref p) (step_hid (s0.trans s) hp) (r.hid hU' hO' hT) ⟨p, rfl, hp, hU', hO', _, upd_same, d1.keys, d1.dens⟩
/-! ### dict comprehensions -/
def dcL (sm : D → En → Option En) (ft : M Bool) (fk fv : M D) (vs : List Nat) : List D → List (Key × D) → M (List (Key × D))
  | [], acc => fun e => .ok acc (wipeE e vs)
  | d :: ds, acc => fun e => stP (sm d (wipeE e vs)) (bnd (noX ft) fun b => ifM b (bnd (noX fk) fun y => bnd (noX fv) fun z => bnd (lift (keyD y)) fun k => chk (decide (acc.length < line)) (dcL sm ft fk fv vs ds (putD acc k z))) (dcL sm ft fk fv vs ds acc))
def dcM (fi : M (List D)) (sm : D → En → Option En) (ft : M Bool) (fk fv : M D) (vs : List Nat) : M D := bnd fi fun ds => bnd (dcL sm ft fk fv vs ds []) fun ks => ret (.dk ks)
theorem dc_imp {kx vx tg iter : Expr} {ifs : List Expr} {scope : Scope} {own : List (Str × Nat)} {fi : M (List D)} {sm : D → En → Option En} {ft : M Bool} {fk fv : M D} (hl : LenP sm) {σ : St} {H : Hp} {Q : VK} (h : tR X.K X.mg W (rF X.K X.mg) (dcM fi sm ft fk fv (own.map (·.2))) σ H Q) :
    tDc (tI X W fi) (tG X.K X.mg (cpl (own.map (·.2))) sm) (tR X.K X.mg W0 rT ft) (tR X.K X.mg W0 (rD X.K X.mg) fk) (tR X.K X.mg W0 (rD X.K X.mg) fv) (own.map (·.2)) σ H (fun v H1 => unl (α := Unit) X H1 (Q v)) := by
  obtain ⟨w, e, hw, rel, g⟩ := h
  subst hw
  generalize own.map (·.2) = vs at g ⊢
  refine ⟨w, e, rfl, rel, ?_⟩
  unfold dcM bnd at g
  cases hf : fi e with
  | no => rw [hf] at g; exact g
  | ex x e1 => rw [hf] at g; exact g
  | ok ds e1 =>
    rw [hf] at g
    intro w' w1 J s r l y Dp hD
    have r1 := r.lk l
    have hU : ¬ w1.U Dp := newU r1.wf hD
    have hO : ¬ w1.O Dp := newO r1.wf hD
    have hDw : w.H Dp = none := s.old (l.old hD)
    have g : Goes X.K X.mg W σ (rF X.K X.mg σ) w (bnd (dcL sm ft fk fv vs ds []) (fun ks => ret (.dk ks)) e1) Q := g
    refine ⟨fun i m H => m = ds.length - i ∧ i ≤ ds.length ∧ ∃ w2 e2 acc dacc, w2.H = H ∧ Step w1 w2 ∧ ¬ w2.U Dp ∧ ¬ w2.O Dp ∧ w2.H Dp = some (.dK acc) ∧ DK X.K X.mg w2 acc dacc ∧ Rel X.K X.mg w2 (wipeE e2 vs) (wipe σ vs) ∧
      Goes X.K X.mg W σ (rF X.K X.mg σ) w (bnd (dcL sm ft fk fv vs (ds.drop i) dacc) (fun ks => ret (.dk ks)) e2) Q, ⟨ds.length, rfl, Nat.zero_le _, w1.an Dp (.dK []), e1, [], [], rfl, step_an r1.wf hD, hU, hO, upd_same, .nil, (r1.an hD).wipe vs, g⟩, ?_⟩
    rintro i m H ⟨hm, hi, w2, e2, acc, dacc, rfl, s2, hU2, hO2, hD2, q2, r2, g2⟩
    by_cases hlt : i < ds.length
    · refine .inr ⟨((y i w2 s2 r2.wf).1 hlt).1, fun H' => ∃ w3 e3 acc' dacc', w3.H = H' ∧ Step w1 w3 ∧ ¬ w3.U Dp ∧ ¬ w3.O Dp ∧ w3.H Dp = some (.dK acc') ∧ DK X.K X.mg w3 acc' dacc' ∧ Rel X.K X.mg w3 (wipeE e3 vs) (wipe σ vs) ∧
        Goes X.K X.mg W σ (rF X.K X.mg σ) w (bnd (dcL sm ft fk fv vs (ds.drop (i + 1)) dacc') (fun ks => ret (.dk ks)) e3) Q, fun H' h => ⟨ds.length - (i + 1), by omega, rfl, by omega, h⟩, fun x H' yl => ?_⟩
      obtain ⟨w3, d, e3, s3, r3, hd, q3⟩ := ((y i w2 s2 r2.wf).1 hlt).2 x H' yl
      subst e3
      have hdr : ds.drop i = d :: ds.drop (i + 1) := by
        rw [List.drop_eq_getElem_cons hlt]
        rw [List.getElem?_eq_getElem hlt] at hd
        rw [Option.some.inj hd]
      rw [hdr] at g2
      generalize ds.drop (i + 1) = rest at g2 ⊢
      have g2 : Goes X.K X.mg W σ (rF X.K X.mg σ) w ((stP (sm d (wipeE e2 vs)) (bnd (noX ft) fun b => ifM b (bnd (noX fk) fun y => bnd (noX fv) fun z => bnd (lift (keyD y)) fun k => chk (decide (dacc.length < line)) (dcL sm ft fk fv vs rest (putD dacc k z))) (dcL sm ft fk fv vs rest dacc))).bind (fun ks => ret (.dk ks))) Q := g2
      cases hs : sm d (wipeE e2 vs) with
      | none => rw [hs] at g2; exact g2.elim
      | some e4 =>
        rw [hs] at g2
        have g2 : Goes X.K X.mg W σ (rF X.K X.mg σ) w (((noX ft e4).bind fun b => ifM b (bnd (noX fk) fun y => bnd (noX fv) fun z => bnd (lift (keyD y)) fun k => chk (decide (dacc.length < line)) (dcL sm ft fk fv vs rest (putD dacc k z))) (dcL sm ft fk fv vs rest dacc)).bind (fun ks => ret (.dk ks))) Q := g2
        rw [R.bind_assoc] at g2
        obtain ⟨b, e5, hb, g2⟩ := noX_of (ρ := fun _ _ _ (_ : Unit) _ => True) g2
        refine ⟨w3, wipeE e2 vs, d, e4, rfl, r3 _ _ r2, q3, hs, fun w4 σ4 s4 r4 f4 => ?_⟩
        have hlen : σ4.length = (wipe σ vs).length := by rw [r4.len, hl _ _ _ hs, ← r2.len]
        have hw4 : wipe σ4 vs = wipe σ vs := (wipe_fix hlen f4).trans (wipe_wipe σ vs)
        refine ⟨hw4, w4, e4, rfl, r4, ?_⟩
        rw [hb]
        rintro w5 b' s5 r5 rfl
        have st : Step w2 w5 := (s3.trans s4).trans s5
        have hid : ∀ {w6 : Wd}, Step w2 w6 → ¬ w6.U Dp ∧ ¬ w6.O Dp ∧ w6.H Dp = some (.dK acc) := fun {w6} s6 =>
          ⟨fun z => (s6.back Dp (none_of hD2) z).elim hU2 hO2, s6.own Dp (none_of hD2) hO2, s6.keep Dp _ hD2 hO2 trivial⟩
        cases b' with
        | false =>
          refine iteF ⟨w5, e5, acc, dacc, rfl, s2.trans st, (hid st).1, (hid st).2.1, (hid st).2.2, q2.stays (st.stays r2.wf), ?_, g2⟩
          rw [← hw4]
          exact r5.wipe vs
        | true =>
          have g2 : Goes X.K X.mg W σ (rF X.K X.mg σ) w (((noX fk e5).bind fun y => bnd (noX fv) fun z => bnd (lift (keyD y)) fun k => chk (decide (dacc.length < line)) (dcL sm ft fk fv vs rest (putD dacc k z))).bind (fun ks => ret (.dk ks))) Q := g2
          rw [R.bind_assoc] at g2
          obtain ⟨dy, e6, hy, g2⟩ := noX_of (ρ := fun _ _ _ (_ : Unit) _ => True) g2
          have g2 : Goes X.K X.mg W σ (rF X.K X.mg σ) w (((noX fv e6).bind fun z => bnd (lift (keyD dy)) fun k => chk (decide (dacc.length < line)) (dcL sm ft fk fv vs rest (putD dacc k z))).bind (fun ks => ret (.dk ks))) Q := g2
          rw [R.bind_assoc] at g2
          obtain ⟨dz, e7, hz, g2⟩ := noX_of (ρ := fun _ _ _ (_ : Unit) _ => True) g2
          have g2 : Goes X.K X.mg W σ (rF X.K X.mg σ) w (((lift (keyD dy) e7).bind fun k => chk (decide (dacc.length < line)) (dcL sm ft fk fv vs rest (putD dacc k dz))).bind (fun ks => ret (.dk ks))) Q := g2
          rw [R.bind_assoc] at g2
          cases hk : keyD dy with
          | none => rw [hk] at g2; exact g2.elim
          | some k =>
            rw [hk] at g2
            have g2 : Goes X.K X.mg W σ (rF X.K X.mg σ) w ((chk (decide (dacc.length < line)) (dcL sm ft fk fv vs rest (putD dacc k dz)) e7).bind (fun ks => ret (.dk ks))) Q := g2
            cases hc : decide (dacc.length < line) with
            | false => rw [hc] at g2; exact g2.elim
            | true =>
              rw [hc] at g2
              refine iteT ⟨w5, e5, rfl, r5, ?_⟩
              rw [hy]
              intro w6 v s6 r6 q6
              refine ⟨w6, e6, rfl, r6, ?_⟩
              rw [hz]
              intro w7 z' s7 r7 q7
              have st7 := (st.trans s6).trans s7
              obtain ⟨h1, h2, h3⟩ := hid st7
              have hT : Plain (w7.H Dp) := by rw [h3]; trivial
              have sy := stays_hid (o := .dK (putK acc k z')) h1 hT
              have e8 := keyD_den q6 hk
              refine ⟨acc, k, e8, h3, by rw [line_eq, q2.len]; exact of_decide_eq_true hc, w7.an Dp (.dK (putK acc k z')), e7, putK acc k z', putD dacc k dz, rfl, step_hid (s2.trans st7) hD, h1, h2, upd_same, ((q2.stays (st7.stays r2.wf)).put k q7).stays sy, ?_, g2⟩
              rw [← hw4]
              exact (r7.hid h1 h2 hT).wipe vs
    · have hi2 : ds.length ≤ i := by omega
      rw [List.drop_of_length_le hi2] at g2
      have g2 : Goes X.K X.mg W σ (rF X.K X.mg σ) w (ret (.dk dacc) (wipeE e2 vs)) Q := g2
      refine .inl ⟨(y i w2 s2 r2.wf).2 hi2, ?_⟩
      obtain ⟨w3, b⟩ := lk_back (K := X.K) (mg := X.mg) l r1.wf s2
      exact b.ul _ (g2 w3 _ (s.trans b.step) (b.rel _ _ r2.unwipe) ⟨Dp, rfl, hDw, by rw [b.U]; exact hU2, by rw [b.O]; exact hO2, b.top _ _ ⟨acc, hD2, q2.keys, q2.dens⟩⟩)
theorem vf_dc {kx vx tg iter : Expr} {ifs : List Expr} {scope : Scope} {own : List (Str × Nat)} {pos : Pos} {fi : M (List D)} {sm : D → En → Option En} {ft : M Bool} {fk fv : M D} (hN : X.N.Nodup) (hi : VI X W tg iter fi) (ok : BlkOk X.N X.env.scope scope own) (hl : LenP sm)
    (hg : ∀ (s : Shared) (H : Hp) (C : Addr) (cl : List (Str × Addr)) (fp : List Addr), VG (Cx.in' X s H scope C cl fp) (cpl (own.map (·.2))) tg sm)
    (ht : ∀ (s : Shared) (H : Hp) (C : Addr) (cl : List (Str × Addr)) (fp : List Addr), VTs (Cx.in' X s H scope C cl fp) W0 ifs ft)
    (hk : ∀ (s : Shared) (H : Hp) (C : Addr) (cl : List (Str × Addr)) (fp : List Addr), VE (Cx.in' X s H scope C cl fp) W0 kx fk)
    (he : ∀ (s : Shared) (H : Hp) (C : Addr) (cl : List (Str × Addr)) (fp : List Addr), VE (Cx.in' X s H scope C cl fp) W0 vx fv)
    (hc : X.calm = true := by rfl) (hs : ∀ x, foldedSetIterable iter X.env x = pure x := by intro _; rfl) : VF X W (.DictComp kx vx [⟨tg, iter, ifs, 0⟩] scope pos) (dcM fi sm ft fk fv (own.map (·.2))) :=
  PE.imp (pe_unl (pe_dc hc hN hi ok hg ht hk he hs)) fun σ H Q h => dc_imp (kx := kx) (vx := vx) (tg := tg) (iter := iter) (ifs := ifs) (scope := scope) hl h
/-! ### a if c else b, new objects -/
theorem vf_if {c a b : Expr} {fc : M Bool} {ga gb : M D} {pos : Pos} (hc : VT X W c fc) (ha : VF X W a ga) (hb : VF X W b gb) : VF X W (.IfExp c a b pos) (ifE fc ga gb) :=
  PE.imp (pe_ifExp hc ha hb) fun σ H Q ⟨w, e, hw, rel, g⟩ => by
    subst hw
    refine tR_mono (goes_bind (ρ1 := rT) rel g) fun v H1 ⟨w1, e1, d, h1, s, r1, q, g1⟩ => ?_
    subst h1
    have q : v = d := q
    subst q
    cases v with
    | true => exact iteT ⟨w1, e1, rfl, r1, g1⟩
    | false => exact iteF ⟨w1, e1, rfl, r1, g1⟩
/-! ### zip, enumerate -/
def zipD (xs ys : List D) : List D := (xs.zip ys).map fun p => .tup [p.1, p.2]
def zipM (fs : M (List D)) : M (List D) := bnd fs fun ds => match ds with
  | [.lst xs, .lst ys] => ret (zipD xs ys)
  | [.tup xs, .tup ys] => ret (zipD xs ys)
  | _ => nope
theorem zipD_at {xs ys : List D} {i : Nat} {x y : D} (h1 : xs[i]? = some x) (h2 : ys[i]? = some y) : (zipD xs ys)[i]? = some (.tup [x, y]) := by
  unfold zipD
  rw [List.getElem?_map, show (xs.zip ys)[i]? = some (x, y) from List.getElem?_zip_eq_some.mpr ⟨h1, h2⟩]
  rfl
theorem zipD_len (xs ys : List D) : (zipD xs ys).length = min xs.length ys.length := by unfold zipD; rw [List.length_map, List.length_zip]
theorem yields_zip {K : PySem.W.Frag} {mg : Str → Option Value} {w0 : Wd} {a b : Addr} {xs ys : List V} {ds es : List D} (f0 : Wf w0) (q1 : Dens K mg w0 xs ds) (q2 : Dens K mg w0 ys es) (h1 : ∀ w, Step w0 w → SqL K w.H a xs) (h2 : ∀ w, Step w0 w → SqL K w.H b ys) : Yields K mg w0 (Itz K a b) (zipD ds es) := fun i w s f => by
  have l1 := q1.length
  have l2 := q2.length
  rw [zipD_len]
  refine ⟨fun hi => ?_, fun hi => ⟨xs, ys, h1 w s, h2 w s, by omega⟩⟩
  obtain ⟨d1, hd1⟩ := get_some (l := ds) (i := i) (by omega)
  obtain ⟨d2, hd2⟩ := get_some (l := es) (i := i) (by omega)
  obtain ⟨v1, hv1, k1⟩ := q1.get' hd1
  obtain ⟨v2, hv2, k2⟩ := q2.get' hd2
  refine ⟨⟨xs, ys, v1, v2, h1 w s, h2 w s, hv1, hv2⟩, fun x H' ⟨T, x1, x2, ex, hT, eH, f1, f2⟩ => ?_⟩
  subst ex
  subst eH
  have e1 := f1 xs (h1 w s)
  have e2 := f2 ys (h2 w s)
  rw [hv1] at e1
  rw [hv2] at e2
  cases e1
  cases e2
  have sT := step_an (o := .tup [v1, v2]) f hT
  exact ⟨w.an T _, .tup [d1, d2], rfl, sT, fun _ _ r => r.an hT, zipD_at hd1 hd2, .tup upd_same (.cons ((k1.step s f0).step sT f) (.cons ((k2.step s f0).step sT f) .nil))⟩
theorem yields_zipT {K : PySem.W.Frag} {mg : Str → Option Value} {w0 : Wd} {a b : Addr} {xs ys : List V} {ds es : List D} (f0 : Wf w0) (q1 : Dens K mg w0 xs ds) (q2 : Dens K mg w0 ys es) (h1 : ∀ w, Step w0 w → SqT K w.H a xs) (h2 : ∀ w, Step w0 w → SqT K w.H b ys) : Yields K mg w0 (RZ.ItzT K a b) (zipD ds es) := fun i w s f => by
  have l1 := q1.length
  have l2 := q2.length
  rw [zipD_len]
  refine ⟨fun hi => ?_, fun hi => ⟨xs, ys, h1 w s, h2 w s, by omega⟩⟩
  obtain ⟨d1, hd1⟩ := get_some (l := ds) (i := i) (by omega)
  obtain ⟨d2, hd2⟩ := get_some (l := es) (i := i) (by omega)
  obtain ⟨v1, hv1, k1⟩ := q1.get' hd1
  obtain ⟨v2, hv2, k2⟩ := q2.get' hd2
  refine ⟨⟨xs, ys, v1, v2, h1 w s, h2 w s, hv1, hv2⟩, fun x H' ⟨T, x1, x2, ex, hT, eH, f1, f2⟩ => ?_⟩
  subst ex
  subst eH
  have e1 := f1 xs (h1 w s)
  have e2 := f2 ys (h2 w s)
  rw [hv1] at e1
  rw [hv2] at e2
  cases e1
  cases e2
  have sT := step_an (o := .tup [v1, v2]) f hT
  exact ⟨w.an T _, .tup [d1, d2], rfl, sT, fun _ _ r => r.an hT, zipD_at hd1 hd2, .tup upd_same (.cons ((k1.step s f0).step sT f) (.cons ((k2.step s f0).step sT f) .nil))⟩
theorem vi_zip {elts : List Expr} {kk : Nat} {tpos p pos : Pos} {a b : Expr} {fs : M (List D)} (hm : X.mg "zip" = none) (ha : VA X W [a, b] fs) (hg : Gl X "zip" := by rfl) (hs : starEach [a, b] X.env = (false, eval a X.env) :: starEach [b] X.env := by rfl) (hpl : (backTo pos (starEach [b] X.env)).any (·.1) = false := by rfl) :
    VI X W (.Tuple elts kk tpos) (.Call (.Name "zip" p) [a, b] [] pos) (zipM fs) :=
  PI.imp (RZ.pi_zipA hg hm ha hs hpl) fun σ H R ⟨w, e0, hw, rel, g⟩ => by
    subst hw
    refine ⟨w, e0, rfl, rel, ?_⟩
    unfold zipM bnd at g
    cases hf : fs e0 with
    | no => rw [hf] at g; exact g
    | ex x e1 => rw [hf] at g; exact g
    | ok ds e1 =>
      rw [hf] at g
      intro w' vs s r q
      match ds, g, q with
      | [.lst xs, .lst ys], g, .cons (.lst h1 h2) (.cons (.lst h3 h4) .nil) =>
        exact ⟨_, _, _, _, rfl, .inl ⟨h1.sq, h3.sq, g w' w' _ s r (.no _) (yields_zip r.wf h2 h4 (fun w2 s2 => (h1.step s2 r.wf).sq) fun w2 s2 => (h3.step s2 r.wf).sq)⟩⟩
      | [.tup xs, .tup ys], g, .cons (.tup h1 h2) (.cons (.tup h3 h4) .nil) =>
        exact ⟨_, _, _, _, rfl, .inr ⟨h1.sq, h3.sq, g w' w' _ s r (.no _) (yields_zipT r.wf h2 h4 (fun w2 s2 => TAt.sq (s2.keep _ _ h1 (r.wf.tpO h1) trivial)) fun w2 s2 => TAt.sq (s2.keep _ _ h3 (r.wf.tpO h3) trivial))⟩⟩
def enumD (xs : List D) : List D := (List.range xs.length).map fun i => .tup [.int (i : Nat), xs.getD i .non]
/-! ### d.pop(k, x) -/
def popK (i : Nat) (fk fx : M D) : M D := bnd (peekK isDkt i) fun _ => bnd fk fun k => bnd fx fun x => bnd (modS i fun c => match c with
  | .dk ks => (keyD k).map fun kk => (.dk (dropD ks kk), (valD ks kk).getD x)
  | _ => none) ret
theorem valK_none_drop {κ : Type} [DecidableEq κ] {α : Type} : ∀ {kvs : List (κ × α)} {k : κ}, (kvs.find? fun p => decide (p.1 = k)) = none → (kvs.filter fun p => decide (p.1 ≠ k)) = kvs
  | [], _, _ => rfl
  | p :: r, k, h => by
    rw [List.find?_cons] at h
    by_cases e : p.1 = k
    · rw [decide_eq_true e] at h; cases h
    · rw [decide_eq_false e] at h
      rw [List.filter_cons_of_pos (by simpa using e), valK_none_drop h]
theorem ve_popk (i : Nat) {x : Str} {p apos cpos : Pos} {ek ex : Expr} {fk fx : M D} (hk : VE X W ek fk) (hx : VE X W ex fx) (m : M2 X (.Name x p) "pop" apos ek ex cpos) (hN : X.N[i]? = some x := by rfl) (hv : Vis X.env.scope x := by first | exact Or.inl rfl | exact Or.inr (Or.inl rfl) | exact Or.inr (Or.inr rfl))
    (hd : (x == ("__debug__" : Str)) = false := by decide) (hcd : (x == ("__classdict__" : Str)) = false := by decide) : VE X W (.Call (.Attribute (.Name x p) "pop" apos) [ek, ex] [] cpos) (popK i fk fx) :=
  PE.imp (pe_dpop2 (pe_var hN hv hd hcd) hk hx m) fun σ H Q ⟨w, e, hw, rel, g⟩ => by
    subst hw
    obtain ⟨a, d, hi, hkd, es0, hO, t, g2⟩ := peekK_of rel g
    have hID : IsD w.H a := by
      cases d with
      | dk ks => obtain ⟨kvs, h1, _⟩ := t; exact .inl ⟨kvs, .inl h1⟩
      | dt ks => obtain ⟨kvs, h1, _⟩ := t; exact .inr ⟨kvs, .inl h1⟩
      | _ => cases hkd
    refine ⟨_, es0, a, rfl, hID, ?_⟩
    refine tR_mono (goes_bind (ρ1 := rD X.K X.mg) rel g2) fun y H2 ⟨w2, e2, dk, h2, s2, r2, q2, g3⟩ => ?_
    subst h2
    refine tR_mono (goes_bind (ρ1 := rD X.K X.mg) r2 g3) fun z H3 ⟨w3, e3, dx, h3, s3, r3, q3, g4⟩ => ?_
    subst h3
    obtain ⟨c, c', a', r, hi', hg, es, hO', t', k⟩ := modG_of r3 g4
    rw [es0] at es
    cases es
    cases c with
    | dk ks =>
      obtain ⟨kk, hkk, e5⟩ := Option.map_eq_some_iff.mp hg
      cases e5
      obtain ⟨kvs, h1, h4, h5⟩ := t'
      have ey := keyD_den (q2.step s3 r2.wf) hkk
      have dk0 := DK.of h4 h5
      refine ⟨kvs, kk, h1, ey, fun v hv' => ?_, fun hv' => ?_⟩
      · have d1 := (dk0.drop kk).stays (stays_own (o := .dK (dropK kvs kk)) r3.wf hO')
        obtain ⟨st, r4, g5⟩ := k (.dK (dropK kvs kk)) ⟨_, upd_same, d1.keys, d1.dens⟩
        rcases dk0.val kk with ⟨_, z2⟩ | ⟨d', v', z1, z2, qv⟩
        · rw [hv'] at z2; cases z2
        · rw [hv'] at z2
          cases z2
          rw [z1] at g5
          exact Goes.ok g5 r4 (qv.stays (stays_own r3.wf hO'))
      · rcases dk0.val kk with ⟨z1, _⟩ | ⟨d', v', z1, z2, qv⟩
        · have e6 : dropK kvs kk = kvs := valK_none_drop (show (kvs.find? fun p => decide (p.1 = kk)) = none by
            have : valV kvs kk = none := hv'
            unfold valV at this
            exact Option.map_eq_none_iff.mp this)
          have d1 := (dk0.drop kk).stays (stays_own (o := .dK (dropK kvs kk)) r3.wf hO')
          obtain ⟨st, r4, g5⟩ := k (.dK (dropK kvs kk)) ⟨_, upd_same, d1.keys, d1.dens⟩
          rw [z1, e6] at g5
          have e7 : (w3.mt a (.dK kvs)).H = w3.H := by
            funext b
            show upd w3.H a (.dK kvs) b = w3.H b
            by_cases hb : b = a
            · subst hb; rw [upd_same, h1]
            · rw [upd_ne hb]
          rw [e6] at r4
          have := Goes.ok g5 r4 (q3.stays (stays_own r3.wf hO'))
          rw [e7] at this
          exact this
        · rw [hv'] at z2; cases z2
    | _ => cases hg
end
end VL
namespace VL
open PySem PySem.Spec PyProof.Rows L2
variable [Tb]
/-! ### a set of texts, raw -/
def txtOf (e : Int × Value) : Str := match e.2 with
  | .str x _ => x
  | _ => Str.empty
/-- an entry of such a set -/
def TxE (P : Program) (w : World) (e : Int × Value) : Prop := ∃ x t, e.2 = Value.str x t ∧ e.1 = (PySem.strKind P w).hash x
structure SxIn (P : Program) (w : World) (ks : List Str) (es : Array (Int × Value)) (t : SetTable) : Prop where
  g : ∀ e ∈ es.toList, TxE P w e
  nd : (es.toList.map txtOf).Nodup
  m : ∀ k, k ∈ ks ↔ k ∈ es.toList.map txtOf
  n : es.size ≤ ks.length
  b : es.size < scanBound
  f : t.fits es.size = true
  r : Ris t.place.toList
  l : w.params.followText "set-order" = true ∨ t.led = true
/-- ks the texts that were put in -/
def SxAt (P : Program) (w : World) (h : Heap) (a : Addr) (ks : List Str) : Prop := ∃ o es ep t, h.get? a = some o ∧ o.ExactSet ∧ o.data = .set es ep t ∧ SxIn P w ks es t
section
variable {P : Program} {w : World} {h h' : Heap} {a : Addr} {ks : List Str}
theorem SxAt.keep (R : SxAt P w h a ks) (k : ∀ o, h.get? a = some o → h'.get? a = some o) : SxAt P w h' a ks :=
  let ⟨o, es, ep, t, ho, r⟩ := R
  ⟨o, es, ep, t, k o ho, r⟩
theorem tx_elems {l : List (Int × Value)} (g : ∀ e ∈ l, TxE P w e) : ElemsOf (PySem.strKind P w) l := fun e he => by
  obtain ⟨x, t, h1, h2⟩ := g e he
  refine ⟨⟨x, ?_, h2⟩, ?_⟩
  · rw [h1]; exact PySem.strKind_is P w x t
  · rw [h1]; rfl
theorem tx_is {e : Int × Value} (g : TxE P w e) (k : Str) : (PySem.strKind P w).is k e.2 = true ↔ txtOf e = k := by
  obtain ⟨x, t, h1, _⟩ := g
  unfold txtOf
  rw [h1]
  constructor
  · intro q
    obtain ⟨t', e'⟩ := Value.isStrOf_shape (x := k) (v := .str x t) q
    cases e'
    rfl
  · intro q
    have q : x = k := q
    subst q
    exact PySem.strKind_is P w x t
theorem tx_mem {l : List (Int × Value)} (g : ∀ e ∈ l, TxE P w e) (k : Str) : k ∈ l.map txtOf ↔ ∃ e ∈ l, (PySem.strKind P w).is k e.2 = true := by
  rw [List.mem_map]
  exact ⟨fun ⟨e, he, q⟩ => ⟨e, he, (tx_is (g e he) k).2 q⟩, fun ⟨e, he, q⟩ => ⟨e, he, (tx_is (g e he) k).1 q⟩⟩
end
section
variable {P : Program} {w : World} {A : Around} {E : Value → Shared → Prop} {s : Shared} {a : Addr} {ks : List Str}
theorem sx_put {h : Heap} {o : Obj} {es es' : Array (Int × Value)} {ep : Nat} {t t' : SetTable} (ho : h.get? a = some o) (hd : o.data = .set es ep t) : (h.update a (Obj.putSet es' t')).get? a = some { o with data := .set es' (ep + 1) t' } := by
  have q := Heap.get?_update_self (Obj.putSet es' t') ho (by rw [putSet_of es' t' hd]; rfl)
  rwa [putSet_of es' t' hd] at q
/-- the new entries are written, and once more where the table grows -/
theorem sx_tail {ks' : List Str} {g : Bool → Sem Unit} (hg : ∀ (b : Bool) (s₁ : Shared) (Q' : Unit → Shared → Prop), Q' () s₁ → wpAny (model P w) A (g b) Q' E s₁)
    {o : Obj} {es : Array (Int × Value)} {ep : Nat} {t : SetTable} (ho : s.heap.get? a = some o) (hex : o.ExactSet) (hd : o.data = .set es ep t)
    {es1 : Array (Int × Value)} {t2 : SetTable} (q : SxIn P w ks' es1 t2) {wd : Bool} {R : Option Bool → Shared → Prop}
    (hR : ∀ h', Heap.SameBut a s.heap h' → SxAt P w h' a ks' → R (some true) { s with heap := h' }) :
    wpAny (model P w) A (do
        storeSet a es1 t2
        if (!wd && t2.tooFull) = true then do
            g (relayAll t2 es1 (SetTable.grown es1.size)).2.2
            storeSet a (relayAll t2 es1 (SetTable.grown es1.size)).1 (relayAll t2 es1 (SetTable.grown es1.size)).2.1
            pure (some true)
          else pure (some true)) R E s := by
  refine wpAny_bind (wpAny_storeSet_of ho hd ?_ (fits_of_scanBound q.b))
  have ho1 := sx_put (es' := es1) (t' := t2) ho hd
  have sb1 := Heap.SameBut.update s.heap a (Obj.putSet es1 t2)
  split
  · have p1 := relayAll_perm t2 es1 (SetTable.grown es1.size)
    have p2 := relayAll_fits t2 es1 (SetTable.grown es1.size)
    have p3 := relayAll_ris t2 es1 (SetTable.grown es1.size)
    have p4 := relayAll_led t2 es1 (SetTable.grown es1.size)
    generalize relayAll t2 es1 (SetTable.grown es1.size) = Z at p1 p2 p3 p4 ⊢
    obtain ⟨es2, t3, gave⟩ := Z
    dsimp only at p1 p2 p3 p4 ⊢
    have hsz : es2.size = es1.size := by rw [← Array.length_toList, p1.length_eq, Array.length_toList]
    have hb2 : es2.size < scanBound := by rw [hsz]; exact q.b
    refine wpAny_bind (hg _ _ _ (wpAny_bind (wpAny_storeSet_of ho1 rfl ?_ (fits_of_scanBound hb2))))
    have ho2 := sx_put (es' := es2) (t' := t3) ho1 rfl
    exact wpAny_pure (hR _ (sb1.trans (Heap.SameBut.update _ a _)) ⟨_, es2, _, t3, ho2, hex, rfl, fun e he => q.g e (p1.mem_iff.mp he), (p1.map txtOf).nodup_iff.mpr q.nd, fun k => (q.m k).trans (p1.map txtOf).mem_iff.symm, by rw [hsz]; exact q.n, hb2, p2, p3, q.l.imp _root_.id fun z => by rw [p4]; exact z⟩)
  · exact wpAny_pure (hR _ sb1 ⟨_, es1, _, t2, ho1, hex, rfl, q⟩)
theorem sx_add {x : Str} {tk : Tok} {Q : Bool → Shared → Prop} (R : SxAt P w s.heap a ks) (room : ks.length + 1 < scanBound)
    (hQ : ∀ b h', Heap.SameBut a s.heap h' → SxAt P w h' a (ks ++ [x]) → Q b { s with heap := h' }) : wpAny (model P w) A (setAddHashed a (.str x tk) ((PySem.strKind P w).hash x)) Q E s := by
  obtain ⟨o, es, ep, t, ho, hex, hd, q⟩ := R
  have hkey : (PySem.strKind P w).is x (.str x tk) = true := PySem.strKind_is P w x tk
  have hsc : (Value.str x tk).scannable = true := rfl
  have hel : ElemsOf (PySem.strKind P w) es.toList := tx_elems q.g
  unfold setAddHashed setAddHashedIn
  refine wpAny_holding (wpAny_bind (wpAny_setState_of ho hd q.f ?_))
  dsimp only
  rw [byScan_of hsc q.b hel]
  simp only [↓reduceIte]
  unfold setAddByScan
  refine wpAny_bind (wpAny_bind (wpAny_rule (wpAny_bind (wpAny_setScan_of hkey ho hd q.f hel ?_))))
  cases hfi : List.findIdx? (fun e => (PySem.strKind P w).is x e.2) es.toList with
  | some j =>
    dsimp only
    obtain ⟨hj, pj, _⟩ := List.findIdx?_eq_some_iff_getElem.mp hfi
    have hx : x ∈ es.toList.map txtOf := (tx_mem q.g x).2 ⟨es.toList[j], List.getElem_mem hj, pj⟩
    refine wpAny_pure (wpAny_pure (hQ _ s.heap (Heap.SameBut.refl a s.heap) ⟨o, es, ep, t, ho, hex, hd, q.g, q.nd, fun k => ?_, by rw [List.length_append]; exact Nat.le_trans q.n (Nat.le_add_right _ _), q.b, q.f, q.r, q.l⟩))
    rw [List.mem_append, List.mem_singleton, q.m k]
    exact ⟨fun z => z.elim _root_.id (fun e => e ▸ hx), .inl⟩
  | none =>
    dsimp only
    have hnx : x ∉ es.toList.map txtOf := fun z => by
      obtain ⟨e, he, q1⟩ := (tx_mem q.g x).1 z
      have c := List.findIdx?_eq_none_iff.mp hfi e he
      rw [q1] at c
      cases c
    have hgw : ∀ (b : Bool) {s₁ : Shared} {Q' : Unit → Shared → Prop}, Q' () s₁ → wpAny (model P w) A (match b with | true => rule "set.scan.the-table-gave-way" | false => pure ()) Q' E s₁ := fun b s₁ Q' q' => by
      cases b
      · exact wpAny_pure q'
      · exact wpAny_rule q'
    have p1 := layNew_perm t es ((PySem.strKind P w).hash x) (.str x tk)
    have p2 := layNew_fits t es ((PySem.strKind P w).hash x) (.str x tk)
    have p3 := layNew_ris t es ((PySem.strKind P w).hash x) (.str x tk) q.r
    have p4 := layNew_led t es ((PySem.strKind P w).hash x) (.str x tk)
    generalize layNew t es ((PySem.strKind P w).hash x) (.str x tk) = Z at p1 p2 p3 p4 ⊢
    obtain ⟨es1, t1, wd, gave⟩ := Z
    dsimp only at p1 p2 p3 p4 ⊢
    rw [Array.toList_push] at p1
    have pc : es1.toList.Perm (((PySem.strKind P w).hash x, Value.str x tk) :: es.toList) := p1.trans (List.perm_append_singleton _ _)
    have pk : (es1.toList.map txtOf).Perm (x :: es.toList.map txtOf) := pc.map txtOf
    have hsz : es1.size = es.size + 1 := by rw [← Array.length_toList, pc.length_eq, List.length_cons, Array.length_toList]
    have q1 : SxIn P w (ks ++ [x]) es1 t1 := {
      g := fun e he => by
        rcases List.mem_cons.mp (pc.mem_iff.mp he) with z | z
        · rw [z]; exact ⟨x, tk, rfl, rfl⟩
        · exact q.g e z
      nd := pk.nodup_iff.mpr (List.nodup_cons.mpr ⟨hnx, q.nd⟩)
      m := fun k => by
        rw [pk.mem_iff, List.mem_cons, List.mem_append, List.mem_singleton, q.m k]
        exact Or.comm
      n := by rw [hsz, List.length_append]; exact Nat.succ_le_succ q.n
      b := by have := q.n; omega
      f := p2
      r := p3
      l := q.l.imp _root_.id fun z => by rw [p4]; exact z }
    refine wpAny_bind (hgw _ ?_)
    split
    · refine wpAny_bind ?_
      rw [hashByValue_scannable 8 hsc]
      refine wpAny_pure ?_
      refine sx_tail (ks' := ks ++ [x]) ?_ ho hex hd ?_ ?_
      · intro b s₁ Q' q'; cases b <;> first | exact wpAny_pure q' | exact wpAny_rule q'
      · refine ⟨q1.g, q1.nd, q1.m, q1.n, q1.b, ?_, ?_, ?_⟩
        · first | (split <;> first | exact p2 | exact SetTable.fits_plain_off p2) | exact p2
        · first | (split <;> exact p3) | exact p3
        · first | (split <;> exact q1.l) | exact q1.l
      · intro h' sb r; dsimp only; exact wpAny_pure (hQ _ h' sb r)
    · refine wpAny_bind (wpAny_pure ?_)
      simp only [↓reduceIte]
      refine sx_tail (ks' := ks ++ [x]) ?_ ho hex hd q1 ?_
      · intro b s₁ Q' q'; cases b <;> first | exact wpAny_pure q' | exact wpAny_rule q'
      · intro h' sb r; dsimp only; exact wpAny_pure (hQ _ h' sb r)
/-- the loop of set(..) -/
theorem sx_loop {I : Addr} {fp wr : List Addr} {G : Array GenState → Array GenState → Prop} {n : Nat} {Pv : Nat → Value → Prop} {St : Nat → Shared → Prop} {R : Result → Shared → Prop} (W : WalksS P w A.in1 I fp wr G n Pv St) (S : Addr) (hSf : S ∉ fp) (xs : List Str) (hn : n = xs.length)
    (hfew : xs.length + 1 < scanBound) (hval : ∀ i v, Pv i v → ∃ x t, xs[i]? = some x ∧ v = .str x t) : ∀ (k i : Nat) (s : Shared), n - i = k → i ≤ n → St i s → SxAt P w s.heap S (xs.take i) →
      (∀ s', Moved (S :: wr) G s s' → SxAt P w s'.heap S xs → R (.ok (.ret .none)) s') → codeAny (model P w) A (.builtin "set.update.loop" ⟨[.ref S, .ref I], []⟩) R s := by
  have hSw : S ∉ wr := fun h => hSf (W.sub _ h)
  have hsub : ∀ b ∈ wr, b ∈ S :: wr := fun b hb => List.mem_cons_of_mem _ hb
  intro k
  induction k with
  | zero =>
    intro i s hk hi hst hS hR
    have hin : i = n := by omega
    refine codeAny_builtin F.entry_set_update_loop ?_
    rw [Around.under_plainId F.plain_set_update_loop _]
    show wpAny _ A.in1 (pyNext (.ref I) >>= _) _ _ s
    rw [hin] at hst
    refine wpAny_bind (W.done s _ _ hst fun s' hm => ?_)
    rw [hin, hn, List.take_length] at hS
    show wpAny _ A.in1 (PySem.ret Value.none) _ _ s'
    exact wpAny_pure (hR s' (hm.mono hsub) (hS.keep fun o e => hm.heap S o hSw e))
  | succ k ih =>
    intro i s hk hi hst hS hR
    have hlt : i < n := by omega
    refine codeAny_builtin F.entry_set_update_loop ?_
    rw [Around.under_plainId F.plain_set_update_loop _]
    show wpAny _ A.in1 (pyNext (.ref I) >>= _) _ _ s
    refine wpAny_bind (W.item i s _ _ hlt hst fun v s' hP hst' hm => ?_)
    obtain ⟨x, t, hx, rfl⟩ := hval i v hP
    have hS' : SxAt P w s'.heap S (xs.take i) := hS.keep fun o e => hm.heap S o hSw e
    show wpAny _ A.in1 (holding [Value.str x t] (setAdd S (.str x t)) >>= _) _ _ s'
    refine wpAny_bind (wpAny_holding ?_)
    unfold setAdd
    refine wpAny_holding (wpAny_bind ((PySem.strKind P w).pyHash (k := x) (PySem.strKind_is _ _ _ _) ?_))
    refine sx_add (s := { s' with toks := s'.toks + 1 }) hS' (by rw [List.length_take]; omega) fun b h' hsb hS2 => ?_
    have e1 : xs.take i ++ [x] = xs.take (i + 1) := by rw [List.take_succ, hx]; rfl
    rw [e1] at hS2
    refine wpAny_pure ⟨plainId_quiet F.plain_set_update_loop _, ih (i + 1) _ (by omega) hlt (W.frame _ s' _ _ hst' (Nat.le_succ _) fun b hb o e => ?_) hS2 fun s'' hm'' hS'' => hR s'' (Moved.trans W.gtrans ((hm.mono hsub).then_heap (Nat.le_succ _) fun b o hb e => ?_) hm'') hS''⟩
    · rw [hsb.2 b (fun h : b = S => hSf (by rw [← h]; exact hb))]; exact e
    · rw [hsb.2 b (fun h : b = S => hb (by rw [h]; exact List.mem_cons_self))]; exact e
theorem sx_fresh {h : Heap} (ho : h.get? a = some { cls := .type "set", dict := none, data := .set #[] 0 (.fresh 0 0 (!w.params.followText "set-order")) }) : SxAt P w h a [] :=
  ⟨_, #[], 0, _, ho, ⟨rfl, rfl, rfl⟩, rfl, fun e he => (by simp at he), by simp, fun k => by simp, by decide, by decide, by rfl, List.Pairwise.nil, by
    show _ ∨ (!w.params.followText "set-order") = true
    cases w.params.followText "set-order"
    · exact .inr rfl
    · exact .inl rfl⟩
end
theorem strs_get : ∀ {us : List Value} {xs : List Str}, Vals (xs.map V.str) us → ∀ (i : Nat) (v : Value), us[i]? = some v → ∃ x t, xs[i]? = some x ∧ v = .str x t
  | _, [], .nil, i, v, h => by simp at h
  | _, x :: xs, .cons r q, 0, v, h => by
    simp at h
    subst h
    obtain ⟨t, e⟩ := r
    exact ⟨x, t, rfl, e⟩
  | _, x :: xs, .cons r q, i + 1, v, h => by
    obtain ⟨y, t, h1, h2⟩ := strs_get q i v (by simpa using h)
    exact ⟨y, t, by simpa using h1, h2⟩
section
variable {P : Program} {w : World} {A : Around} {E : Value → Shared → Prop} {s : Shared}
abbrev newSet (w : World) : Obj := { cls := .type "set", dict := none, data := .set #[] 0 (.fresh 0 0 (!w.params.followText "set-order")) }
/-- set(xs), xs a list of texts -/
theorem sx_call {l : Addr} {items : Array Value} {xs : List Str} {Q : Value → Shared → Prop} (hh : A.handled = none) (hl : s.heap.IsList l items) (hit : Vals (xs.map V.str) items.toList) (hfew : xs.length + 1 < scanBound)
    (h : ∀ (h' : Heap) (tk : Nat), SxAt P w h' s.heap.objs.size xs → (∀ b o, s.heap.get? b = some o → h'.get? b = some o) → Q (.ref s.heap.objs.size) { s with heap := h', toks := tk }) : wpAny (model P w) A (call (.type "set") [.ref l]) Q E s := by
  have hisz : items.size = xs.length := by
    have q := hit.length
    rw [List.length_map, Array.length_toList] at q
    exact q.symm
  obtain ⟨c, tl, hmro⟩ := F.called_set.mro
  have hmade := F.called_set.made
  have hsub := F.called_set.sub
  refine wpAny_call (codeAny_of_tree ?_)
  show wpAny _ _ (callAny (.type "set") _) _ _ _
  refine wpAny_pure ⟨Code.quiet_builtin _ (by decide +kernel), codeAny_builtin F.entry_type_call ?_⟩
  rw [Around.under_plain (weight_type_call_type "set" [.ref l] []) rfl]
  have h1 := F.called_set.notType
  have h2 := F.called_set.canCreate
  have hct := F.typeCall_set_1 (.ref l)
  repeat (any_goals (first | assumption | wp_step))
  refine codeAny_mono (code_set_led1 (.ref l) (E := E) (Q₁ := fun obj s₁ => obj = .ref s.heap.objs.size ∧ s₁ = { s with heap := s.heap.push (newSet w) }) ⟨rfl, rfl⟩) fun r s₁ hr => ?_
  cases r with
  | error e => exact hr
  | ok fl =>
    cases fl with
    | ret obj =>
      obtain ⟨rfl, rfl⟩ := hr
      have hS : (s.heap.push (newSet w)).get? s.heap.objs.size = some (newSet w) := Heap.get?_push_size _ rfl
      have hT : Shared.TypeIs { s with heap := s.heap.push (newSet w) } (.ref s.heap.objs.size) "set" := ⟨_, hS, rfl⟩
      have hli := F.called_set.init.lookup
      have hbi := F.called_set.init.bind (.ref s.heap.objs.size)
      repeat (any_goals (first | assumption | wp_step))
      refine codeAny_mono (codeAny_call_builtin (R := wants (fun r s₂ => r = .none ∧ ∃ h' tk, s₂ = { s with heap := h', toks := tk } ∧ SxAt P w h' s.heap.objs.size xs ∧ (∀ b o, s.heap.get? b = some o → h'.get? b = some o)) E) F.called_set.init.plain F.entry_set_init (check_set_init_1 hT ?_)) fun r₂ s₂ hr₂ => ?_
      · obtain ⟨⟨ocls, odict, odata, oslots⟩, hol, hcl, nl, hdl⟩ := hl
        simp only at hcl hdl
        subst hcl; subst hdl
        have hol' : (s.heap.push (newSet w)).get? l = some { cls := .type "list", dict := odict, data := .seq items nl, slots := oslots } := Heap.get?_push_of_some _ hol
        have hsls := F.sub_list_set
        have hslf := F.sub_list_frozenset
        have hne : (Value.type "list" == Value.type "dict") = false := by decide
        have hl1 : (s.heap.push (newSet w)).IsList l items := ⟨_, hol', rfl, nl, rfl⟩
        unfold Builtin.«set.__init__» noKeywords Builtin.Frozenset.updateFrom
        generalize hPI : pyIter = PI
        wp_walk
        subst hPI
        refine wpAny_pyIter_list hl1 (wpAny_bind (wpAny_runValue ?_))
        have hlS : l < s.heap.objs.size := Heap.lt_size hol
        have hh3 : A.in1.in1.in1.handled = none := by simp [hh]
        have hz1 : (s.heap.push (newSet w)).objs.size = s.heap.objs.size + 1 := Heap.size_push ..
        have hneI : l ≠ (s.heap.push (newSet w)).objs.size := by rw [hz1]; exact Nat.ne_of_lt (Nat.lt_succ_of_lt hlS)
        have hSf : s.heap.objs.size ∉ [(s.heap.push (newSet w)).objs.size, l] := by
          rw [hz1]; simp only [List.mem_cons, List.not_mem_nil, or_false, not_or]
          exact ⟨Nat.ne_of_lt (Nat.lt_succ_self _), Nat.ne_of_gt hlS⟩
        refine sx_loop ((Walks.list hh3 _ l hneI items).toS) s.heap.objs.size hSf xs hisz hfew (fun i v hv => strs_get hit i v (by rw [Array.getElem?_toList]; exact hv)) (items.size - 0) 0 _ (by omega) (Nat.zero_le _)
          ⟨⟨_, Heap.get?_push_size _ rfl, rfl, rfl⟩, (hl1.push _)⟩ ?hS0 ?hR
        case hS0 => exact sx_fresh (Heap.get?_push_of_some _ hS)
        case hR =>
          intro s' hm hS'
          obtain ⟨h', g2, d', tk', os'⟩ := s'
          have eg : g2 = s.gens := hm.gens
          have ed : d' = s.drawn := hm.drawn
          have eo : os' = s.os := hm.os
          subst eg; subst ed; subst eo
          show wpAny _ _ _ _ _ _
          refine wpAny_pure ?_
          show wpAny _ _ (PySem.ret Value.none) _ _ _
          refine wpAny_pure ⟨rfl, h', tk', rfl, hS', fun b o e => ?_⟩
          have hb : b < s.heap.objs.size := Heap.lt_size e
          exact hm.heap b o (by rw [hz1]; simp only [List.mem_cons, List.not_mem_nil, or_false, not_or]; exact ⟨Nat.ne_of_lt hb, Nat.ne_of_lt (Nat.lt_succ_of_lt hb)⟩) (Heap.get?_push_of_some _ (Heap.get?_push_of_some _ e))
      · cases r₂ with
        | error e => exact hr₂
        | ok fl₂ =>
          cases fl₂ with
          | ret r =>
            obtain ⟨rfl, h', tk, rfl, hS', hk'⟩ := hr₂
            repeat (any_goals (first | assumption | wp_step))
            exact h _ _ hS' hk'
          | _ => exact hr₂.elim
    | _ => exact hr.elim
/-- sorted(s) of a set of texts -/
theorem sx_sorted {a : Addr} {ks : List Str} {Q : Value → Shared → Prop} (R : SxAt P w s.heap a ks) (hh : A.handled = none) (h64 : ks.length < 64)
    (hQ : ∀ s' p (out : Array Value) (c : Nat) (ys : List Str), (∀ b o, s.heap.get? b = some o → s'.heap.get? b = some o) → s'.gens = s.gens → s'.os = s.os → s.heap.objs.size ≤ p → s'.heap.get? p = some (seqObj "list" out c) →
      Vals (ys.map V.str) out.toList → sortedS ys = true → ys.Nodup → (∀ k, k ∈ ys ↔ k ∈ ks) → ys.length < 64 → Q (.ref p) s') : wpAny (model P w) A (call (.builtin "sorted") [.ref a]) Q E s := by
  obtain ⟨o, es, ep, t, ho, hex, hd, q⟩ := R
  refine Calls.call_function_entry kind_sorted plain_sorted entry_sorted (args_sorted1 _) ?_
  unfold Builtin.«sorted»
  refine wpAny_bind (m := checkCount "sorted" 1 1 _) (wpAny_pure ?_)
  refine wpAny_bind (collect_set (A := A.in1) hh ⟨o, ho, hex.1, hd⟩ q.f q.b q.r q.l fun s1 vs k1 hz g1 o1 pm => ?_)
  have hvl : vs.length = es.size := by rw [pm.length_eq, List.length_map, Array.length_toList]
  have hn := q.n
  have hS : ∃ zs, StrsAre vs zs ∧ zs.Perm (es.toList.map txtOf) := by
    have all : ∀ l : List Value, (∀ v ∈ l, ∃ e ∈ es.toList, v = e.2) → ∃ zs, StrsAre l zs ∧ zs = l.map fun v => txtOf (0, v) := by
      intro l
      induction l with
      | nil => intro _; exact ⟨[], .nil, rfl⟩
      | cons v l ih =>
        intro h
        obtain ⟨zs, h1, h2⟩ := ih fun u hu => h u (List.mem_cons_of_mem _ hu)
        obtain ⟨e, he, rfl⟩ := h v List.mem_cons_self
        obtain ⟨x, t, h3, _⟩ := q.g e he
        refine ⟨x :: zs, ?_, ?_⟩
        · rw [h3]; exact .cons x t h1
        · rw [List.map_cons, ← h2, h3]; rfl
    obtain ⟨zs, h1, h2⟩ := all vs fun v hv => by
      obtain ⟨e, he, q'⟩ := List.mem_map.mp (pm.mem_iff.mp hv)
      exact ⟨e, he, q'.symm⟩
    refine ⟨zs, h1, ?_⟩
    have pz := pm.map fun v => txtOf (0, v)
    rw [List.map_map] at pz
    rw [h2]
    exact pz
  obtain ⟨zs, hS, pz⟩ := hS
  refine wpAny_bind (wpAny_newList ?_ (by rw [hvl, sizeLine_eq]; omega))
  have hoL : (s1.heap.push (seqObj "list" vs.toArray 0)).get? s1.heap.objs.size = some (seqObj "list" vs.toArray 0) := Heap.get?_push_size _ rfl
  refine wpAny_bind (wpAny_holding (wpAny_call_entry PyProof.Rows.slot_list_sort ⟨_, hoL, rfl⟩ PyProof.Rows.entry_list_sort
    (list_sort_treeK strKind_oneLt (s := { s1 with heap := s1.heap.push (seqObj "list" vs.toArray 0) }) hoL hS.keysOf (fun v₁ v₂ rest e => keyKind_strs (by rw [← e]; exact hS)) (by rw [hvl]; omega) fun st' hp hs => ⟨_, rfl, ?_⟩)
    (PyProof.Rows.args_list_sort _)))
  obtain ⟨ys, y1, y2, y3⟩ := sorted_out_str hS hp hs
  obtain ⟨c, hc⟩ := PyProof.Rows.sortedHeap_at (vs := vs) (out := (arrOf st').map (·.2)) hoL
  have py : ys.Perm (es.toList.map txtOf) := y2.trans pz
  refine wpAny_pure ⟨_, rfl, hQ _ s1.heap.objs.size ((arrOf st').map (·.2)) c ys (fun b u e => ?_) g1 o1 hz hc (vals_of_strs y1) y3 (py.nodup_iff.mpr q.nd) (fun k => by rw [py.mem_iff, ← q.m k]) ?_⟩
  · have q' := k1 b u e
    have hlt := Heap.lt_size q'
    show (PyProof.Rows.sortedHeap (s1.heap.push (seqObj "list" vs.toArray 0)) s1.heap.objs.size vs ((arrOf st').map (·.2))).get? b = some u
    rw [PyProof.Rows.sortedHeap_old (Nat.ne_of_lt hlt) (by rw [size_push']; exact Nat.lt_succ_of_lt hlt)]
    exact Heap.get?_push_of_some _ q'
  · rw [py.length_eq, List.length_map, Array.length_toList]; omega
end
end VL
namespace VL
open PySem PySem.Spec PyProof.Rows L2
variable [Tb]
/-! ### sorted(set(xs)) -/
def SxO (P : Program) (w : World) (a : Addr) (ks : List Str) : HO := .ext fun h => SxAt P w h a ks
theorem sxO_new {P : Program} {w : World} {H : Hp} {h : Heap} {a : Addr} {ks : List Str} (R : SxAt P w h a ks) : ObjOk P w H h a (SxO P w a ks) := by
  have ⟨o, _, _, _, ho, _⟩ := R
  exact ⟨R, ⟨o, ho⟩, fun h1 h2 p k => SxAt.keep p k⟩
/-- without what stood ahead already -/
def dedup : List Str → List Str
  | [] => []
  | x :: r => if x ∈ r then dedup r else x :: dedup r
theorem dedup_mem : ∀ (l : List Str) (k : Str), k ∈ dedup l ↔ k ∈ l
  | [], k => Iff.rfl
  | x :: r, k => by
    unfold dedup
    split
    · rename_i h
      rw [dedup_mem r k, List.mem_cons]
      exact ⟨.inr, fun z => z.elim (fun e => e ▸ h) _root_.id⟩
    · rw [List.mem_cons, List.mem_cons, dedup_mem r k]
theorem dedup_nd : ∀ l : List Str, (dedup l).Nodup
  | [] => List.nodup_nil
  | x :: r => by
    unfold dedup
    split
    · exact dedup_nd r
    · rename_i h
      exact List.nodup_cons.mpr ⟨fun z => h ((dedup_mem r x).mp z), dedup_nd r⟩
def setSortD : List D → M D
  | [.lst ds] => lift ((toS ds).bind fun xs => if xs.length < 64 then some (.lst ((sortS (dedup xs)).map .str)) else none)
  | _ => nope
section
variable {X : Cx} {W : WX}
theorem cr_setS (hc : X.calm = true) : CallR X (.type "set") (fun xs H Q => ∃ (l : Addr) (ks : List Str), xs = [V.ref l] ∧ SqL X.K H l (ks.map V.str) ∧ ks.length < 64 ∧ ∀ a, H a = none → Q (.ref a) (upd H a (SxO X.prog X.w a ks))) := by
  intro pins s σ H xs us Q I r h
  obtain ⟨l, ks, rfl, hl, h64, q⟩ := h
  rw [Vals.ref1 r]
  obtain ⟨its, rv, pl, hz⟩ := I.list hl
  refine sx_call (P := X.prog) (w := X.w) (xs := ks) (I.ok.hd hc) pl.isList (by simpa using rv) (by unfold scanBound; omega) fun h' tk R k => ?_
  exact ⟨.ref s.heap.objs.size, _, I.laid (t' := tk) k (Nat.le_refl _) (sxO_new R), rfl, q _ (I.hok.fresh (Nat.le_refl _))⟩
theorem cr_sortSx (hc : X.calm = true) : CallR X (.builtin "sorted") (fun xs H Q => ∃ (a : Addr) (ks : List Str), xs = [V.ref a] ∧ H a = some (SxO X.prog X.w a ks) ∧ ks.length < 64 ∧
    ∀ (ys : List Str) (p : Addr), sortedS ys = true → ys.Nodup → (∀ k, k ∈ ys ↔ k ∈ ks) → H p = none → Q (.ref p) (upd H p (.lst (ys.map V.str)))) := by
  intro pins s σ H xs us Q I r h
  obtain ⟨a, ks, rfl, ha, h64, q⟩ := h
  rw [Vals.ref1 r]
  have R : SxAt X.prog X.w s.heap a ks := (I.hok a _ ha).1
  refine sx_sorted R (I.ok.hd hc) h64 fun s' p out c ys k g o hp hg hv hs hn hm hl => ?_
  have hnone : H p = none := I.hok.fresh hp
  have J : Inv X pins σ (upd H p (.lst (ys.map V.str))) { s with heap := s'.heap, gens := s'.gens, drawn := s'.drawn, toks := s'.toks } :=
    I.call (ch := []) (Un.laid k hp hnone) (I.hok.laid k hp ⟨by rw [List.length_map, sizeLine_eq]; omega, out.toList, c, hv, by rw [Array.toArray_toList]; exact hg⟩) (by rw [g]; exact I.bare) (fun _ z => nomatch z)
  have e : s' = { s with heap := s'.heap, gens := s'.gens, drawn := s'.drawn, toks := s'.toks } := by
    cases s'; cases s; cases o; rfl
  rw [e]
  exact ⟨.ref p, _, J, rfl, q ys p hs hn hm hnone⟩
theorem vf_setSorted {a : Expr} {fs : M (List Op)} {p1 p2 pos pos2 : Pos} (hc : X.calm = true) (hm1 : X.mg "sorted" = none) (hm2 : X.mg "set" = none) (ha : VO X W [a] fs) (hv1 : bootBuiltins "sorted" = some (.builtin "sorted") := by rfl) (hv2 : bootBuiltins "set" = some (.type "set") := by rfl)
    (hg1 : Gl X "sorted" := by rfl) (hg2 : Gl X "set" := by rfl) (hn1 : ("sorted" : Str) ≠ "__name__" := by decide) (hn2 : ("set" : Str) ≠ "__name__" := by decide) (hd1 : (("sorted" : Str) == ("__debug__" : Str)) = false := by decide) (hd2 : (("set" : Str) == ("__debug__" : Str)) = false := by decide)
    (he : starEach [a] X.env = (false, eval a X.env) :: starEach [] X.env := by rfl) (hpl : (backTo pos2 (starEach [] X.env)).any (·.1) = false := by rfl)
    (he2 : starEach [.Call (.Name "set" p2) [a] [] pos2] X.env = (false, eval (.Call (.Name "set" p2) [a] [] pos2) X.env) :: starEach [] X.env := by rfl) (hpl2 : (backTo pos (starEach [] X.env)).any (·.1) = false := by rfl) :
    VF X W (.Call (.Name "sorted" p1) [.Call (.Name "set" p2) [a] [] pos2] [] pos) (callM fs setSortD) :=
  PE.imp (pe_callB (cr_sortSx hc) hg1 hm1 hv1 (pa_cons (pe_callTy (cr_setS hc) hg2 hm2 hv2 ha hn2 hd2 he hpl) pa_nil he2) hn1 hd1 he2 hpl2) fun σ H Q h => by
    have q := callF_imp h
    refine tR_mono q fun vs H1 ⟨w, e, σ', ds, h1, rel, l, g⟩ => ?_
    subst h1
    unfold setSortD at g
    split at g
    · obtain ⟨z, hz, g⟩ := lift_of g
      obtain ⟨v, rfl, l1⟩ := l.one
      obtain ⟨pl, ys, rfl, h1, h2⟩ := l1.lst
      obtain ⟨ns, h3, h4⟩ := Option.bind_eq_some_iff.mp hz
      split at h4
      · rename_i h64
        cases h4
        obtain rfl := toS_den h2 h3
        refine ⟨pl, ns, rfl, SqL.of h1, h64, fun a ha => ⟨a, ns, rfl, upd_same, h64, fun ys q hs hn hm hq => ?_⟩⟩
        have hqa : q ≠ a := fun z => by subst z; rw [upd_same] at hq; cases hq
        have hq0 : w.H q = none := by rw [upd_ne hqa] at hq; exact hq
        have e1 : ys = sortS (dedup ns) := by
          have pm : ys.Perm (dedup ns) := (List.perm_ext_iff_of_nodup hn (dedup_nd ns)).mpr fun k => by rw [hm k, dedup_mem]
          exact sortS_uniq pm hs
        subst e1
        have sa := step_an (o := SxO X.prog X.w a ns) rel.wf ha
        have ra := rel.an (o := SxO X.prog X.w a ns) ha
        have sb := step_an (o := .lst ((sortS (dedup ns)).map V.str)) ra.wf hq
        have rb := ra.an (o := .lst ((sortS (dedup ns)).map V.str)) hq
        have hU := newU ra.wf hq
        have hO := newO ra.wf hq
        exact g ((w.an a (SxO X.prog X.w a ns)).an q (.lst ((sortS (dedup ns)).map V.str))) _ (sa.trans sb) rb ⟨q, rfl, hq0, hU, hO, _, upd_same, strs_den _⟩
      · cases h4
    · exact g.elim
end
end VL
namespace VL
open PySem PySem.Spec PyProof.Rows L2
variable [Tb]
/-! ### sorted(d, key=lambda x: (d[x], x)) -/
/-- the lambda's names: x its parameter, all else captured or global -/
structure LamK (sc scope : Scope) (d x : Str) : Prop where
  kind : scope.kind = .function
  co : scope.isCoroutine = false
  gen : scope.isGenerator = false
  nc : ∀ y ∈ scope.names, y.2 ≠ .cell
  lx : scope.names.lookup x = some .local
  ld : scope.names.lookup d = some .free
  free : ∀ y ∈ scope.names, y.2 = .free → sc.names.lookup y.1 = some .cell ∨ sc.names.lookup y.1 = some .free
def lamKB (sc scope : Scope) (d x : Str) : Bool :=
  decide (scope.kind = .function) && !scope.isCoroutine && !scope.isGenerator && decide (scope.names.lookup x = some .local) && decide (scope.names.lookup d = some .free) &&
    scope.names.all fun y => !decide (y.2 = .cell) && (!decide (y.2 = .free) || decide (sc.names.lookup y.1 = some .cell) || decide (sc.names.lookup y.1 = some .free))
theorem lamK_by {sc scope : Scope} {d x : Str} (h : lamKB sc scope d x = true) : LamK sc scope d x := by
  unfold lamKB at h
  simp only [Bool.and_eq_true, Bool.or_eq_true, Bool.not_eq_true', decide_eq_true_eq, decide_eq_false_iff_not, List.all_eq_true] at h
  obtain ⟨⟨⟨⟨⟨h1, h2⟩, h3⟩, h4⟩, h5⟩, h6⟩ := h
  refine ⟨h1, h2, h3, fun y hy => (h6 y hy).1, h4, h5, fun y hy e => ?_⟩
  rcases (h6 y hy).2 with (z | z) | z
  · exact absurd e z
  · exact .inl z
  · exact .inr z
section
variable {prog : Program} {w : World} {A : Around} {s : Shared}
open PySem.W in
theorem lam_key {f c' cd Da : Addr} {q d x : Str} {params : Arguments} {p1 p2 p3 p4 p5 : Pos} {kk : Nat} {sc scope : Scope} {cl : List (Str × Addr)} {pm ctv v : Value} {vs : List (Key × Value)} {k : Str} {i : Int} {ti tk : Tok} (L : LamK sc scope d x) (hroom : A.depth < recursionLimit) (hlim : s.heap.NoLimit)
    (hf : s.heap.get? f = some (kla_obj "<lambda>" q params (.Tuple [.Subscript (.Name d p1) (.Name x p2) p3, .Name x p4] kk p5) scope cl pm c' ctv)) (hc : ∃ (oc : Obj) (us : Array Value) (t : Tok), s.heap.get? c' = some oc ∧ oc.data = .fields us ∧ us[1]? = some (.str q t))
    (hbind : bindArgs (kla_fn "<lambda>" q params (.Tuple [.Subscript (.Name d p1) (.Name x p2) p3, .Name x p4] kk p5) scope cl pm (.ref c') ctv) ⟨[v], []⟩ = pure [(x, v)])
    (hcl : cl.lookup d = some cd) (hcell : s.heap.IsCell cd (some (.ref Da))) (hd : s.heap.DictOf (mixKind prog w) Da vs) (hv : v = .str k tk) (hval : valueAt vs (.inr k) = some (.int i ti))
    (hdb1 : (d == ("__debug__" : Str)) = false) (hdb2 : (x == ("__debug__" : Str)) = false) (hcd : (d == ("__classdict__" : Str)) = false)
    (htr : ∀ env, backTo p5 (starEach [.Subscript (.Name d p1) (.Name x p2) p3, .Name x p4] env) = [(false, eval (.Subscript (.Name d p1) (.Name x p2) p3) env), (false, eval (.Name x p4) env)]) (hsub : ∀ o i, subscripted (.Name x p2) false o i = operate [o, i] (getItem o i)) :
    wpAny (model prog w) A (call (.ref f) [v]) (KeyPure (.tuple [.int i, .str k]) s) (fun _ _ => False) s := by
  subst hv
  obtain ⟨oc, us, t, hoc, hdc, hvc⟩ := hc
  refine wpAny_call (kla_callFunE hroom hf rfl L.co L.gen rfl ⟨c', oc, us, t, rfl, hoc, hdc, hvc⟩ ?_)
  rw [hbind]
  refine wpAny_pure (wpAny_newFunctionEnv L.nc (fun y hy => ?_) (fun h₁ hns hsb => ⟨hlim.fresh _ hsb, ?_⟩) L.kind)
  · rw [List.mem_singleton.mp hy]; exact L.lx
  show codeAny _ _ (.expr _ (envX q scope s.heap.objs.size f (.ref c') cl)) _ _
  have kp : ∀ b o, s.heap.get? b = some o → h₁.get? b = some o := fun b o e => hsb.extBut b o (Nat.ne_of_lt (Heap.lt_size e)) (Heap.get?_push_of_some _ e)
  have hcell1 : h₁.IsCell cd (some (.ref Da)) := let ⟨o, ho, hd⟩ := hcell; ⟨o, kp _ _ ho, hd⟩
  have hd1 : h₁.DictOf (mixKind prog w) Da vs := let ⟨o, es, ep, ho, r⟩ := hd; ⟨o, es, ep, kp _ _ ho, r⟩
  refine kla_codeExpr (wpAny_Tuple_spliced ?_)
  rw [htr]
  have nx : ∀ {E : Value → Shared → Prop} {pp : Pos} {A' : Around} {s' : Shared} {Q : Value → Shared → Prop}, s'.heap.Ns s.heap.objs.size (fun y => ([(x, Value.str k tk)] : List (Str × Value)).reverse.lookup y) → Q (.str k tk) s' → wpAny (model prog w) A' (eval (.Name x pp) (envX q scope s.heap.objs.size f (.ref c') cl)) Q E s' := fun {E pp A' s' Q} hn hq => by
    refine wpAny_Name (wpAny_loadName_local L.kind L.lx hn ?_ hq) hdb2
    show ([(x, Value.str k tk)] : List (Str × Value)).lookup x = _
    rw [List.lookup_cons, beq_self_eq_true]
  refine Calls.spliced_cons (Subscript_ (wpAny_Name (wpAny_loadName_free L.kind L.ld hcl hcell1 ?_ hcd) hdb1))
  refine nx hns ?_
  refine tail_any (T := "dict") hd1.typeIs PySem.F.slot_dict_getitem.lookup ?_ (hsub _ _)
  refine wpAny_getItem_of (k := (.inr k : Key)) (kV_is (k := (.inr k : Key)) ⟨tk, rfl⟩) hd1.mapOf hval ?_
  refine Calls.spliced_cons (nx hns ?_)
  refine Calls.spliced_nil ⟨by rw [sizeLine_eq]; show 2 ≤ 16777216; decide, ?_⟩
  refine ⟨_, _, rfl, fun b o e => Heap.get?_push_of_some _ (kp b o e), ?_⟩
  exact Reads.tuple (Heap.get?_push_size _ rfl) rfl rfl (ReadsAll.cons (Reads.int _ _) (ReadsAll.cons (Reads.str _ _) ReadsAll.nil))
end
/-! ### the lambda is made -/
def LamH (H H1 : Hp) : Prop := H1 = H ∨ ∃ (P c : Addr) (ps more : Array Value) (q : Str), H P = some (.tbl ps) ∧ H c = none ∧ H1 = upd (upd H P (.tbl (ps ++ more))) c (LamX.CodeO c q)
theorem LamH.keep {H H1 : Hp} (h : LamH H H1) {b : Addr} {o : HO} (e : H b = some o) (n : NT o) : H1 b = some o := by
  rcases h with rfl | ⟨P, c, ps, more, q, h1, h2, rfl⟩
  · exact e
  · rw [upd_ne (ne_of_none e h2), upd_ne (fun z => by subst z; rw [h1] at e; cases e; exact n)]
    exact e
theorem LamH.tr {H H1 : Hp} (h : LamH H H1) {b : Addr} (e : H b ≠ none) : H1 b ≠ none := by
  rcases h with rfl | ⟨P, c, ps, more, q, h1, h2, rfl⟩
  · exact e
  · exact upd_tr (upd_tr e)
section
variable {X : Cx} {pins : List (Addr × Obj)} {σ : St} {H : Hp} {s : Shared}
theorem lam_mk {T : List (Addr × Str)} {c P : Addr} {params : Arguments} {body : Expr} {scope : Scope} {pos : Pos} {E : Value → Shared → Prop} {Q : Value → Shared → Prop} (I : Inv X pins σ H s) (TB : LamX.TabB X.base X.mg c P) (hcode : X.env.code = .ref c)
    (hm : (P, X.env.qual ++ "<lambda>") ∈ T) (hu : ∀ p ∈ T, p.1 = P → p.2 = X.env.qual ++ "<lambda>") (hT : LamX.Tabs T H) (hdef : defaultsOf params X.env = ([], [])) (hfree : ∀ y ∈ scope.names, y.2 = .free → ∃ c, X.env.cells.lookup y.1 = some c)
    (h : ∀ (f c' : Addr) (pm ctv : Value) (H1 : Hp) (s' : Shared), Inv X pins σ H1 s' → LamH H H1 → LamX.Tabs T H1 → s'.heap.get? f = some (PySem.W.kla_obj "<lambda>" (X.env.qual ++ "<lambda>") params body scope (cloFrom X.env.cells scope.names []) pm c' ctv) →
      (∃ (oc : Obj) (us : Array Value) (t : Tok), s'.heap.get? c' = some oc ∧ oc.data = .fields us ∧ us[1]? = some (.str (X.env.qual ++ "<lambda>") t)) → (∀ b o, s.heap.get? b = some o → b ≠ P → s'.heap.get? b = some o) → Q (.ref f) s') : wpAny (model X.prog X.w) X.A (eval (.Lambda params body scope pos) X.env) Q E s := by
  obtain ⟨ps, hP, ht, ha⟩ := hT _ hm
  have bP : s.heap.BuiltinsAt X.mg P := TB.bm.keeps I.bk
  have hP' : s.heap.get? P = some { cls := .none, data := .fields ps } := I.hok P _ hP
  refine PySem.W.kla_eval hdef ?_
  cases hc : codeAmong pos ps.toList with
  | some cv =>
    obtain ⟨c', rfl, hco⟩ := ha pos cv hc
    refine PySem.W.kla_makeFunctionHit (mg := X.mg) (c := c) (P := P) (ps := ps) (closure_ok hfree) I.ok.glob (I.mod.glob.keeps I.bk) hcode (TB.code.keeps I.bk) hP' ht hc bP fun ctv h' tk hx hsz => ?_
    have I1 : Inv X pins σ H { s with heap := h'.push (PySem.W.kla_obj "<lambda>" (X.env.qual ++ "<lambda>") params body scope (cloFrom X.env.cells scope.names []) ((X.mg "__name__").getD .none) c' ctv), toks := tk } := I.kept fun b o e => Heap.get?_push_of_some _ (hx b o e)
    refine h h'.objs.size c' ((X.mg "__name__").getD .none) ctv H _ I1 (.inl rfl) hT (Heap.get?_push_size _ rfl) ?_ fun b o e _ => Heap.get?_push_of_some _ (hx b o e)
    obtain ⟨⟨oc, us, t, e1, e2, e3⟩, _, _⟩ := I1.hok c' _ hco
    exact ⟨oc, us, t, e1, e2, e3⟩
  | none =>
    refine PySem.W.kla_makeFunction (mg := X.mg) (c := c) (P := P) (ps := ps) (closure_ok hfree) I.ok.glob (I.mod.glob.keeps I.bk) hcode (TB.code.keeps I.bk) hP' ht hc TB.gP bP fun c' ctv h' tk hx hge hlt hrec htb => ?_
    obtain ⟨c2, oc, us, t, e2, hoc, hd, hv⟩ := hrec
    cases e2
    have nC : H c' = none := I.hok.fresh hge
    have hoc' : (h'.push (PySem.W.kla_obj "<lambda>" (X.env.qual ++ "<lambda>") params body scope (cloFrom X.env.cells scope.names []) ((X.mg "__name__").getD .none) c' ctv)).get? c' = some oc := Heap.get?_push_of_some _ hoc
    have I1 := LamX.inv_table (t' := tk) (more := #[rawInt pos.line, rawInt pos.col, .ref c']) (h' := h'.push (PySem.W.kla_obj "<lambda>" (X.env.qual ++ "<lambda>") params body scope (cloFrom X.env.cells scope.names []) ((X.mg "__name__").getD .none) c' ctv)) I hP
      (fun b o hb e => Heap.get?_push_of_some _ (hx b o hb e)) (Heap.get?_push_of_some _ htb) hge ⟨oc, us, t, hoc', hd, hv⟩
    have hLH : LamH H (upd (upd H P (.tbl (ps ++ #[rawInt pos.line, rawInt pos.col, .ref c']))) c' (LamX.CodeO c' (X.env.qual ++ "<lambda>"))) := .inr ⟨P, c', ps, _, _, hP, nC, rfl⟩
    have eL : (ps ++ #[rawInt pos.line, rawInt pos.col, .ref c']).toList = ps.toList ++ [rawInt pos.line, rawInt pos.col, .ref c'] := by simp
    refine h h'.objs.size c' ((X.mg "__name__").getD .none) ctv _ _ I1 hLH (fun p hp => ?_) (Heap.get?_push_size _ rfl) ⟨oc, us, t, hoc', hd, hv⟩ fun b o e hb => Heap.get?_push_of_some _ (hx b o hb e)
    by_cases hb : p.1 = P
    · rw [hu p hp hb, hb]
      refine ⟨_, by rw [upd_ne (ne_of_none hP nC), upd_same], by rw [eL]; exact PySem.TriplesOk_snoc _ _ _ _ ht, fun p' cv hcv => ?_⟩
      rw [eL] at hcv
      rcases LamX.among_app _ ht hcv with z | z
      · obtain ⟨c0, e1, e2⟩ := ha p' cv z
        exact ⟨c0, e1, hLH.keep e2 trivial⟩
      · exact ⟨c', z, upd_same⟩
    · obtain ⟨ps', a1, a2, a3⟩ := hT p hp
      refine ⟨ps', by rw [upd_ne (ne_of_none a1 nC), upd_ne hb]; exact a1, a2, fun p' cv hcv => ?_⟩
      obtain ⟨c0, e1, e2⟩ := a3 p' cv hcv
      exact ⟨c0, e1, hLH.keep e2 trivial⟩
end
/-! ### the sort -/
def keyT (p : Str × Int) : PyData := .tuple [.int p.2, .str p.1]
/-- the keys by their values, then by themselves -/
def bySnd (ps : List (Str × Int)) : List (Str × Int) := ps.mergeSort (PySem.W.dataLe false keyT)
def toSI : List (Key × D) → Option (List (Str × Int))
  | [] => some []
  | (.inr x, .int i) :: r => (toSI r).map ((x, i) :: ·)
  | _ => none
theorem toSI_of {K : PySem.W.Frag} {mg : Str → Option Value} {w : Wd} : ∀ {kvs : List (Key × V)} {ks : List (Key × D)} {ps : List (Str × Int)}, DK K mg w kvs ks → toSI ks = some ps → kvs = ps.map fun p => (Sum.inr p.1, V.int p.2)
  | _, _, _, .nil, h => by cases h; rfl
  | _, _, _, .cons (k := k) (d := d) q qs, h => by
    cases k with
    | inl _ => cases h
    | inr x =>
      cases d <;> first | (cases h; done) | skip
      obtain ⟨r, h1, rfl⟩ := Option.map_eq_some_iff.mp h
      cases q
      rw [toSI_of qs h1]
      rfl
def RStr (v : Value) (p : Str × Int) : Prop := ∃ t, v = .str p.1 t
theorem each_of : ∀ {us : List Value} {ps : List (Str × Int)}, us.length = ps.length → (∀ (j : Nat) (u : Value) (p : Str × Int), us[j]? = some u → ps[j]? = some p → RStr u p) → PySem.W.EachIs RStr us ps
  | [], [], _, _ => .nil
  | [], _ :: _, h, _ => by simp at h
  | _ :: _, [], h, _ => by simp at h
  | u :: us, p :: ps, h, f => .cons (f 0 u p rfl rfl) (each_of (by simpa using h) fun j v q h1 h2 => f (j + 1) v q (by simpa using h1) (by simpa using h2))
theorem each_vals : ∀ {us : List Value} {ps : List (Str × Int)}, PySem.W.EachIs RStr us ps → Vals (ps.map fun p => V.str p.1) us
  | _, _, .nil => .nil
  | _, _, .cons h t => .cons h (each_vals t)
theorem keyT_alike (p q : Str × Int) : PySem.W.alike (keyT p) (keyT q) = true := by
  simp [keyT, PySem.W.alike, PySem.W.alikeAll]
end VL
namespace VL
open PySem PySem.Spec PyProof.Rows L2
variable [Tb]
section
variable {X : Cx} {W : WX} {pins : List (Addr × Obj)} {σ : St} {H : Hp} {s : Shared}
open PySem.W in
/-- sorted(D, key=f) -/
theorem lam_sorted {Da f : Addr} {ps : List (Str × Int)} {Q : VK} (hc : X.calm = true) (hu : X.A.units + 100 < cLine) (I : Inv X pins σ H s) (hD : Rd H Da (.dK (ps.map fun p => (Sum.inr p.1, V.int p.2)))) (h24 : ps.length ≤ line)
    (turn : ∀ (v : Value) (p : Str × Int), RStr v p → p ∈ ps → ∀ (h : Heap) (tk : Nat), (∀ b o, s.heap.get? b = some o → h.get? b = some o) → wpAny (model X.prog X.w) X.A.in1.in1 (call (.ref f) [v]) (KeyPure (keyT p) { s with heap := h, toks := tk }) (fun _ _ => False) { s with heap := h, toks := tk })
    (q : ∀ p, H p = none → Q (.ref p) (upd H p (.lst ((bySnd ps).map fun p => V.str p.1)))) : wpAny (model X.prog X.w) X.A (call (.builtin "sorted") [.ref Da] [(Str.ofString "key", .ref f)]) (EP X pins σ Q) X.xe s := by
  obtain ⟨z, lo, vs, rel, dd⟩ := dk_rd I.hok hD
  obtain ⟨ep, hat⟩ := dd.dictAt
  have hkeys : vs.map (·.1) = ps.map fun p => (Sum.inr p.1 : Key) := by rw [← rel.keys, List.map_map]; rfl
  have hl : vs.length = ps.length := by
    have e := congrArg List.length hkeys
    rw [List.length_map, List.length_map] at e
    exact e
  have h16 : vs.length ≤ sizeLine := by rw [hl, line_eq]; exact h24
  refine call_function_entry_kw PyProof.Rows.kind_sorted PyProof.Rows.plain_sorted PyProof.Rows.entry_sorted (PyProof.Rows.ksk_s1 _ _) ?_
  unfold Builtin.«sorted»
  refine wpAny_bind (m := checkCount "sorted" 1 1 _) (wpAny_pure ?_)
  refine wpAny_bind (PySem.W.kdu_collect (A := X.A.in1) (PySem.W.kdl_dict (knd := mixKind X.prog X.w) (kvs := vs) (ep := ep) lo) (I.ok.hd hc) hat h16 fun h' tk acc hk hacc => ?_)
  have hal : acc.toList.length = ps.length := by rw [Array.length_toList, hacc.1, hl]
  have hE : EachIs RStr acc.toList ps := each_of hal fun j u p hu' hp => by
    obtain ⟨k, x, e1, e2⟩ := hacc.2 j u (by rw [← Array.getElem?_toList]; exact hu')
    have e3 : (vs.map (·.1))[j]? = some k := by rw [List.getElem?_map, e1]; rfl
    rw [hkeys, List.getElem?_map, hp] at e3
    have e5 : Sum.inr p.1 = k := Option.some.inj e3
    subst e5
    obtain ⟨t, ev⟩ := Value.isStrOf_shape (x := p.1) (v := u) e2
    exact ⟨t, ev⟩
  have I1 : Inv X pins σ H { s with heap := h', toks := tk } := I.kept hk
  refine wpAny_bind (wpAny_newList ?_ (by rw [hal, line_eq]; exact h24))
  have hoL : (h'.push (seqObj "list" acc.toList.toArray 0)).get? h'.objs.size = some (seqObj "list" acc.toList.toArray 0) := Heap.get?_push_size _ rfl
  show wpAny _ _ _ _ _ { s with heap := h'.push (seqObj "list" acc.toList.toArray 0), toks := tk }
  have un : X.A.in1.units = X.A.units + 1 := rfl
  refine wpAny_bind (wpAny_holding (list_sort_key_data (A := X.A.in1) (s := { s with heap := h'.push (seqObj "list" acc.toList.toArray 0), toks := tk }) (f := .ref f) (b := false) (vs := acc.toList) keyT hoL hE (fun d hd d' hd' => ?_) (.inl fun d hd => ?_) (by rw [line_eq]; exact h24)
    (fun x hx => ?_) (PyProof.Rows.ksk_l1 _ _) (PyProof.Rows.ksk_t1 _ _) (fun v p hR hp h tk' kp => ?_) fun out c h2 tk2 kp hg hlen hout => ?_))
  · obtain ⟨p, _, rfl⟩ := List.mem_map.mp hd
    obtain ⟨p', _, rfl⟩ := List.mem_map.mp hd'
    exact keyT_alike _ _
  · obtain ⟨p, _, rfl⟩ := List.mem_map.mp hd
    exact ⟨_, _, rfl⟩
  · have : (keyT x).depth ≤ 2 := by simp [keyT, PyData.depth, PyData.depthAll]
    rw [un]
    omega
  · refine turn v p hR hp h tk' fun b o e => kp b o ?_ (Heap.get?_push_of_some _ (hk b o e))
    exact Nat.ne_of_lt (Heap.lt_size (hk b o e))
  · have hperm : (bySnd ps).Perm ps := List.mergeSort_perm ps _
    have hz : ((bySnd ps).map fun p => V.str p.1).length ≤ sizeLine := by rw [List.length_map, hperm.length_eq, line_eq]; exact h24
    have I2 : Inv X pins σ (upd H h'.objs.size (.lst ((bySnd ps).map fun p => V.str p.1))) { s with heap := h2, toks := tk2 } :=
      I1.laid (t' := tk2) (fun b o e => kp b o (Nat.ne_of_lt (Heap.lt_size e)) (Heap.get?_push_of_some _ e)) (Nat.le_refl _) (show ObjOk X.prog X.w _ _ _ (.lst _) from ⟨hz, out, c, each_vals hout, hg⟩)
    exact wpAny_pure ⟨_, rfl, .ref h'.objs.size, _, I2, rfl, q _ (I1.hok.fresh (Nat.le_refl _))⟩
def sortLam (i : Nat) : M D := bnd (getS i) fun c => match c with
  | .dk ks => lift ((toSI ks).bind fun ps => if ps.length ≤ line ∧ (ps.map (·.1)).Nodup then some (.lst ((bySnd ps).map fun p => .str p.1)) else none)
  | _ => nope
theorem valueAt_of : ∀ {ps : List (Str × Int)} {vs : List (Key × Value)} {p : Str × Int}, (ps.map (·.1)).Nodup → KV (ps.map fun p => (Sum.inr p.1, V.int p.2)) vs → p ∈ ps → ∃ t, valueAt vs (Sum.inr p.1) = some (.int p.2 t) := by
  intro ps vs p hn r hp
  have h1 : valV (ps.map fun p => ((Sum.inr p.1 : Key), V.int p.2)) (Sum.inr p.1) = some (.int p.2) := by
    clear r
    induction ps with
    | nil => cases hp
    | cons p0 ps ih =>
      obtain ⟨n1, n2⟩ := List.nodup_cons.mp hn
      unfold valV
      rw [List.map_cons, List.find?_cons]
      rcases List.mem_cons.mp hp with rfl | hp
      · rw [decide_eq_true rfl]; rfl
      · have hne : (Sum.inr p0.1 : Key) ≠ Sum.inr p.1 := fun z => by
          have : p0.1 = p.1 := Sum.inr.inj z
          refine n1 ?_
          show p0.1 ∈ ps.map (·.1)
          rw [this]
          exact List.mem_map_of_mem (f := fun q : Str × Int => q.1) hp
        rw [decide_eq_false hne]
        exact ih n2 hp
  obtain ⟨w', hw, t, e⟩ := RelO.some_of (v := V.int p.2) (o := valueAt vs (Sum.inr p.1)) (by rw [← h1]; exact r.val _)
  exact ⟨t, by rw [hw, e]⟩
theorem clo_at {cells : List (Str × Addr)} {scope : Scope} {d : Str} {cd : Addr} (hd : scope.names.lookup d = some .free) (hc : cells.lookup d = some cd) (hf : ∀ y ∈ scope.names, y.2 = .free → ∃ c, cells.lookup y.1 = some c) : (cloFrom cells scope.names []).lookup d = some cd := by
  obtain ⟨c, e⟩ := mem_lookup (cloFrom_has (cells := cells) (acc := []) (PySem.mem_of_lookup hd))
  rcases cloFrom_mem (PySem.mem_of_lookup e) with hm | ⟨h1, h2⟩
  · cases hm
  · obtain ⟨c1, hc1⟩ := hf _ h1 rfl
    have hc1 : cells.lookup d = some c1 := hc1
    rw [hc] at hc1
    cases hc1
    have e2 : c = cd := by rw [h2, hc]; rfl
    rw [← e2]
    exact e
theorem rel_lam {K : PySem.W.Frag} {mg : Str → Option Value} {w : Wd} {e : En} {H1 : Hp} (rel : Rel K mg w e σ) (h : LamH w.H H1) (hT : LamX.Tabs Tb.T H1) : Step w ⟨w.U, w.O, H1⟩ ∧ Rel K mg ⟨w.U, w.O, H1⟩ e σ := by
  have st : Step w ⟨w.U, w.O, H1⟩ := ⟨fun b o q _ n => h.keep q n, fun _ _ n => n, fun _ u => u, fun _ _ u => .inl u, fun b q => h.tr q⟩
  refine ⟨st, rel.move (st.stays rel.wf) ⟨rel.wf.dis, fun b u => h.tr (rel.wf.trU b u), fun b u => ?_, hT⟩ fun i d a q s => ?_⟩
  · obtain ⟨o, e1, h1⟩ := rel.wf.obO b u
    exact ⟨o, h.keep e1 h1.nt, h1⟩
  · obtain ⟨a', e1, q1, q2⟩ := rel.ow i d q
    rw [s] at e1; cases e1
    obtain ⟨o, ho, hob⟩ := q2.ob
    exact ⟨q1, (h.keep ho hob.nt).trans ho.symm⟩
theorem vf_sortLam (i : Nat) {d x : Str} {c P : Addr} {params : Arguments} {p1 p2 p3 p4 p5 pd pn kpos lpos pos : Pos} {kk : Nat} {scope : Scope} (hc : X.calm = true) (hu : X.A.units + 100 < cLine) (hroom : X.A.in1.in1.depth < recursionLimit) (hm : X.mg "sorted" = none)
    (TB : LamX.TabB X.base X.mg c P) (hcode : X.env.code = .ref c) (hT : (P, X.env.qual ++ "<lambda>") ∈ Tb.T) (hq : ∀ p ∈ Tb.T, p.1 = P → p.2 = X.env.qual ++ "<lambda>") (L : LamK X.env.scope scope d x) (hdef : defaultsOf params X.env = ([], []) := by rfl)
    (hbind : ∀ (q : Str) (cl : List (Str × Addr)) (pm cv ctv u : Value), bindArgs (PySem.W.kla_fn "<lambda>" q params (.Tuple [.Subscript (.Name d p1) (.Name x p2) p3, .Name x p4] kk p5) scope cl pm cv ctv) ⟨[u], []⟩ = pure [(x, u)] := by intros; rfl)
    (hN : X.N[i]? = some d := by rfl) (hcl : X.env.scope.names.lookup d = some .cell ∨ X.env.scope.names.lookup d = some .free := by first | exact .inl rfl | exact .inr rfl) (hg : Gl X "sorted" := by rfl) (hv : bootBuiltins "sorted" = some (.builtin "sorted") := by rfl)
    (hdb1 : (d == ("__debug__" : Str)) = false := by decide) (hdb2 : (x == ("__debug__" : Str)) = false := by decide) (hcd : (d == ("__classdict__" : Str)) = false := by decide) (hn : ("sorted" : Str) ≠ "__name__" := by decide) (hdb : (("sorted" : Str) == ("__debug__" : Str)) = false := by decide)
    (htr : ∀ env, backTo p5 (starEach [.Subscript (.Name d p1) (.Name x p2) p3, .Name x p4] env) = [(false, eval (.Subscript (.Name d p1) (.Name x p2) p3) env), (false, eval (.Name x p4) env)] := by intro _; rfl) (hsub : ∀ o i, subscripted (.Name x p2) false o i = operate [o, i] (getItem o i) := by intros; rfl)
    (hs : starEach [.Name d pd] X.env = (false, eval (.Name d pd) X.env) :: starEach [] X.env := by rfl) (he : backTo pos (starEach [.Name d pd] X.env) = (false, eval (.Name d pd) X.env) :: backTo pos (starEach [] X.env) := by rfl) (hpl : (backTo pos (starEach [.Name d pd] X.env)).any (·.1) = false := by rfl) :
    VF X W (.Call (.Name "sorted" pn) [.Name d pd] [⟨some "key", .Lambda params (.Tuple [.Subscript (.Name d p1) (.Name x p2) p3, .Name x p4] kk p5) scope lpos, kpos⟩] pos) (sortLam i) := by
  refine ⟨fun pins s σ H Q I ⟨w, e, hw, rel, g⟩ => ?_⟩
  subst hw
  have g : Goes X.K X.mg W σ (rF X.K X.mg σ) w ((getS i e).bind fun c => match c with
    | .dk ks => lift ((toSI ks).bind fun ps => if ps.length ≤ line ∧ (ps.map (·.1)).Nodup then some (.lst ((bySnd ps).map fun p => .str p.1)) else none)
    | _ => nope) Q := g
  have hcell : Vis X.env.scope d := hcl.elim (fun z => .inr (.inl z)) fun z => .inr (.inr z)
  obtain ⟨u0, c0, es0, lk, eg⟩ : ∃ u0 c0, σ[i]? = some (some u0) ∧ Look X.K X.mg w u0 c0 ∧ getS i e = .ok c0 e := by
    rcases getS_cases e i with z | ⟨d0, hi, z⟩ | ⟨d0, hi, z⟩
    · rw [z] at g; exact g.elim
    · obtain ⟨v, e1, q⟩ := rel.fz i d0 hi
      exact ⟨v, d0, e1, .inl q, z⟩
    · obtain ⟨a, e1, q1, q2⟩ := rel.ow i d0 hi
      exact ⟨_, d0, e1, .inr ⟨a, rfl, q1, q2⟩, z⟩
  rw [eg] at g
  cases c0 with
  | dk ks =>
    have g : Goes X.K X.mg W σ (rF X.K X.mg σ) w (lift ((toSI ks).bind fun ps => if ps.length ≤ line ∧ (ps.map (·.1)).Nodup then some (.lst ((bySnd ps).map fun p => .str p.1)) else none) e) Q := g
    obtain ⟨z, hz, g⟩ := lift_of g
    obtain ⟨ps, hps, hz⟩ := Option.bind_eq_some_iff.mp hz
    split at hz
    · rename_i hcond
      cases hz
      obtain ⟨Da, kvs, rfl, hRd, hk1, hk2⟩ := lk.dk
      have ek := toSI_of (DK.of hk1 hk2) hps
      subst ek
      refine wpAny_Call_Name_kw (ld_blt I hg hm hv ?_ hn hdb)
      have hA := (pa_cons (pe_var (pos := pd) hN hcell hdb1 hcd) pa_nil hs).run pos pins s σ w.H (fun vs H1 => vs = [V.ref Da] ∧ H1 = w.H) I ⟨_, es0, rfl, rfl⟩
      refine PyProof.Rows.callWith_kw (thn hA fun us s1 ⟨vs, H1, I1, r1, e1, e2⟩ => ?_) he hpl rfl rfl
      subst e1
      rw [e2] at I1
      rw [Vals.ref1 r1]
      show wpAny _ _ (evalAll ((do let v ← eval (.Lambda params (.Tuple [.Subscript (.Name d p1) (.Name x p2) p3, .Name x p4] kk p5) scope lpos) X.env; standAt pos; pure v) :: (backToKw pos (keywordEach [] X.env)).map (·.2))) _ _ s1
      have hfree : ∀ y ∈ scope.names, y.2 = .free → ∃ c, X.env.cells.lookup y.1 = some c := fun y hy e => I.ok.has _ (L.free y hy e)
      refine wpAny_evalAll_cons (wpAny_bind (lam_mk I1 TB hcode hT hq rel.wf.tab hdef hfree fun f c' pm ctv H1 s2 I2 hL hT2 hf hrec hkp => wpAny_bind (wpAny_standAt (wpAny_pure (wpAny_evalAll_nil ?_)))))
      show wpAny _ _ (call (.builtin "sorted") [Value.ref Da] [(Str.ofString "key", Value.ref f)]) _ _ s2
      obtain ⟨st, rel2⟩ := rel_lam rel hL hT2
      have hRd2 : Rd H1 Da (.dK (ps.map fun p => (Sum.inr p.1, V.int p.2))) := by
        rcases hRd with h | ⟨o, h⟩
        · exact .inl (hL.keep h trivial)
        · exact .inr ⟨o, hL.keep h trivial⟩
      refine lam_sorted hc hu I2 hRd2 hcond.1 (fun v p hR hp h tk hk => ?_) fun p hp => ?_
      · obtain ⟨_, lo, vs2, rel3, dd⟩ := dk_rd I2.hok hRd2
        obtain ⟨m, hn3, hl3⟩ := I2.loc
        obtain ⟨w', rw', lk3⟩ := hl3 i d _ hN es0 hcell
        cases rw'
        obtain ⟨t, rfl⟩ := hR
        obtain ⟨ti, hval⟩ := valueAt_of hcond.2 rel3 hp
        rcases lk3 with ⟨hk', _⟩ | ⟨_, cd, hc1, hc2⟩
        · have hk' : X.env.scope.names.lookup d = some .local := hk'
          rcases hcl with z | z <;> rw [z] at hk' <;> cases hk'
        · obtain ⟨oc, us, tq, r1, r2, r3⟩ := hrec
          obtain ⟨oc2, hoc2, hdc2⟩ := hc2
          obtain ⟨od, es, ep, ho, hr⟩ := dd
          exact lam_key (s := { s2 with heap := h, toks := tk }) (sc := X.env.scope) (cd := cd) (Da := Da) (vs := vs2) (k := p.1) (i := p.2) (ti := ti) (tk := t) L hroom (I2.nolimit.keeps hk) (hk _ _ hf) ⟨oc, us, tq, hk _ _ r1, r2, r3⟩ (hbind _ _ _ _ _ _) (clo_at L.ld hc1 hfree) ⟨oc2, hk _ _ hoc2, hdc2⟩ ⟨od, es, ep, hk _ _ ho, hr⟩ rfl hval hdb1 hdb2 hcd htr hsub
      · have sp := step_an (o := .lst ((bySnd ps).map fun p => V.str p.1)) rel2.wf hp
        have rp := rel2.an (o := .lst ((bySnd ps).map fun p => V.str p.1)) hp
        have hU := newU rel2.wf hp
        have hO := newO rel2.wf hp
        have hp0 : w.H p = none := st.old hp
        refine g (Wd.an ⟨w.U, w.O, H1⟩ p (.lst ((bySnd ps).map fun p => V.str p.1))) _ (st.trans sp) rp ⟨p, rfl, hp0, hU, hO, _, upd_same, ?_⟩
        have e1 : ((bySnd ps).map fun p => V.str p.1) = ((bySnd ps).map (·.1)).map V.str := by rw [List.map_map]; rfl
        have e2 : ((bySnd ps).map fun p => D.str p.1) = ((bySnd ps).map (·.1)).map D.str := by rw [List.map_map]; rfl
        rw [e1, e2]
        exact strs_den _
    · cases hz
  | _ => exact g.elim
end
end VL
namespace VL
open PySem PySem.Spec PyProof.Rows L2
variable [Tb]
/-! ### max(xs, default=d) -/
section
variable {prog : Program} {w : World} {A : Around} {R : Result → Shared → Prop} {I : Addr} {fp wr : List Addr} {n : Nat} {P : Nat → Value → Prop} {St : Nat → Heap → Prop}
/-- what the loop has got behind j items -/
def MxGot (P : Nat → Value → Prop) (bt : Nat → Nat → Bool) (j : Nat) (old : Array Value) : Prop := (j = 0 ∧ old = #[]) ∨ ∃ vb, 0 < j ∧ P (argBest bt (j - 1)) vb ∧ old = #[vb, vb]
theorem mx_loop (W : Walks prog w A.in1 I fp wr n P St) (bt : Nat → Nat → Bool) (hcmp : CmpOf prog w A.in1 .Gt P bt) (S : Addr) (hSf : S ∉ fp) (d : Value) : ∀ (k j : Nat) (s : Shared) (old : Array Value) (c : Nat), n - j = k → j ≤ n → St j s.heap → MxGot P bt j old →
    s.heap.get? S = some { cls := .type "list", dict := none, data := .seq old c, slots := #[] } →
    (∀ v h' tk, ((n = 0 ∧ v = d) ∨ (0 < n ∧ P (argBest bt (n - 1)) v)) → (∀ b o, b ∉ wr → b ≠ S → s.heap.get? b = some o → h'.get? b = some o) → R (.ok (.ret v)) { s with heap := h', toks := tk }) →
    codeAny (model prog w) A (.builtin "max.loop" ⟨[.ref I, .none, .ref S], [(Str.ofString "default", d)]⟩) R s := by
  have hSw : S ∉ wr := fun h => hSf (W.sub _ h)
  have hname : (toString "max" ++ toString ".loop" : String) = "max.loop" := by decide
  intro k
  induction k with
  | zero =>
    intro j s old c hk hj hst hg hS hR
    have hin : j = n := by omega
    subst hin
    refine codeAny_builtin PySem.F.entry_max_loop ?_
    rw [Around.under_plainId PySem.F.plain_max_loop _]
    show wpAny _ A.in1 (seqItems? (.ref S) >>= _) _ _ s
    refine wpAny_bind (wpAny_seqItems hS rfl ?_)
    rcases hg with ⟨h0, rfl⟩ | ⟨vb, h0, hP, rfl⟩
    · show wpAny _ A.in1 (tryCatch (pyNext (.ref I)) _ >>= _) _ _ s
      refine wpAny_bind (wpAny_tryCatch (W.done s _ _ hst fun h' tk hk' => ?_))
      refine wpAny_bind (wpAny_rule (wpAny_pure ?_))
      exact hR d h' tk (.inl ⟨h0, rfl⟩) fun b o hbw _ e => hk' b o hbw e
    · show wpAny _ A.in1 (tryCatch (pyNext (.ref I)) _ >>= _) _ _ s
      refine wpAny_bind (wpAny_tryCatch (W.done s _ _ hst fun h' tk hk' => ?_))
      have hS' := hk' S _ hSw hS
      show wpAny _ A.in1 (updateSeq S (fun _ => #[]) >>= _) _ _ _
      refine wpAny_bind (wpAny_updateSeq hS' rfl (wpAny_bind (wpAny_letGo (wpAny_pure ?_))))
      exact hR vb _ tk (.inr ⟨h0, hP⟩) fun b o hbw hbS e => (Heap.get?_update_other _ _ (Ne.symm hbS)).trans (hk' b o hbw e)
  | succ k ih =>
    intro j s old c hk hj hst hg hS hR
    have hlt : j < n := by omega
    refine codeAny_builtin PySem.F.entry_max_loop ?_
    rw [Around.under_plainId PySem.F.plain_max_loop _]
    show wpAny _ A.in1 (seqItems? (.ref S) >>= _) _ _ s
    refine wpAny_bind (wpAny_seqItems hS rfl ?_)
    rcases hg with ⟨h0, rfl⟩ | ⟨vb, h0, hPb, rfl⟩
    · subst h0
      show wpAny _ A.in1 (tryCatch (pyNext (.ref I)) _ >>= _) _ _ s
      refine wpAny_bind (wpAny_tryCatch (W.item 0 s _ _ hlt hst fun v h' tk hP hst' hk' => ?_))
      have hS' := hk' S _ hSw hS
      show wpAny _ A.in1 (updateSeq S (fun _ => #[v, v]) >>= _) _ _ _
      refine wpAny_bind (wpAny_updateSeq hS' rfl ?_)
      rw [hname]
      refine wpAny_pure ⟨plainId_quiet PySem.F.plain_max_loop _, ih 1 _ #[v, v] _ (by omega) hlt (W.frame _ _ _ hst' fun b hbf o e => ?_) (.inr ⟨v, Nat.succ_pos 0, hP, rfl⟩) (Heap.get?_update_self _ hS' rfl) fun v' h'' tk'' hv' hk'' => ?_⟩
      · exact (Heap.get?_update_other _ _ (fun h : S = b => hSf (by rw [h]; exact hbf))).trans e
      · exact hR v' h'' tk'' hv' fun b o hbw hbS e => hk'' b o hbw hbS ((Heap.get?_update_other _ _ (Ne.symm hbS)).trans (hk' b o hbw e))
    · obtain ⟨j, rfl⟩ : ∃ i, j = i + 1 := ⟨j - 1, by omega⟩
      rw [Nat.add_sub_cancel] at hPb
      show wpAny _ A.in1 (tryCatch (pyNext (.ref I)) _ >>= _) _ _ s
      refine wpAny_bind (wpAny_tryCatch (W.item (j + 1) s _ _ hlt hst fun v h' tk hP hst' hk' => ?_))
      have hS' := hk' S _ hSw hS
      show wpAny _ A.in1 (tryCatch (holding [v, v] (richCompare .Gt v vb >>= _)) _ >>= _) _ _ _
      refine wpAny_bind (wpAny_tryCatch (wpAny_holding (wpAny_bind (hcmp (j + 1) (argBest bt j) v vb _ _ _ hP hPb ?_))))
      refine wpAny_bind (wpAny_holding (wpAny_truthy_bool (wpAny_bind (wpAny_letGo (wpAny_pure ?_)))))
      cases hb : bt (j + 1) (argBest bt j) with
      | true =>
        simp only [if_true]
        refine wpAny_bind (wpAny_updateSeq hS' rfl (wpAny_bind (wpAny_letGo ?_)))
        rw [hname]
        refine wpAny_pure ⟨plainId_quiet PySem.F.plain_max_loop _, ih (j + 2) _ #[v, v] _ (by omega) hlt (W.frame _ _ _ hst' fun b hbf o e => ?_) (.inr ⟨v, Nat.succ_pos _, by show P (argBest bt (j + 1)) v; simp only [argBest, hb, if_true]; exact hP, rfl⟩) (Heap.get?_update_self _ hS' rfl) fun v' h'' tk'' hv' hk'' => ?_⟩
        · exact (Heap.get?_update_other _ _ (fun h : S = b => hSf (by rw [h]; exact hbf))).trans e
        · exact hR v' h'' tk'' hv' fun b o hbw hbS e => hk'' b o hbw hbS ((Heap.get?_update_other _ _ (Ne.symm hbS)).trans (hk' b o hbw e))
      | false =>
        simp only [Bool.false_eq_true, if_false]
        refine wpAny_bind (wpAny_letGo ?_)
        rw [hname]
        refine wpAny_pure ⟨plainId_quiet PySem.F.plain_max_loop _, ih (j + 2) _ #[vb, vb] c (by omega) hlt hst' (.inr ⟨vb, Nat.succ_pos _, by show P (argBest bt (j + 1)) vb; simp only [argBest, hb, Bool.false_eq_true, if_false]; exact hPb, rfl⟩) hS' fun v' h'' tk'' hv' hk'' => ?_⟩
        exact hR v' h'' tk'' hv' fun b o hbw hbS e => hk'' b o hbw hbS (hk' b o hbw e)
end
section
variable {prog : Program} {w : World} {A : Around} {E : Value → Shared → Prop} {s : Shared}
theorem args_max_dflt (a d : Value) : argsOk "max" ⟨[a], [(Str.ofString "default", d)]⟩ := by unfold argsOk; kernel_rfl
theorem call_function_treeK {id : String} {b : Builtin} {args : List Value} {kw : List (Str × Value)} {Q : Value → Shared → Prop} (hk : builtinKind id = none) (hp : plainId id = true) (hb : entryFor table id = some b) (ha : argsOk id ⟨args, kw⟩)
    (hc : wpAny (model prog w) A.in1 (b ⟨args, kw⟩) (fun fin s' => match fin with
      | .done f => (match (Except.ok f : Result) with | .ok (.ret v) => Q v s' | .ok _ => False | .error e => E e s')
      | .again c' => c'.quiet = true ∧ codeAny (model prog w) A c' (fun r s' => match r with | .ok (.ret v) => Q v s' | .ok _ => False | .error e => E e s') s') E s) : wpAny (model prog w) A (call (.builtin id) args kw) Q E s := by
  refine wpAny_call (codeAny_call_builtin hp hb ?_)
  simp only [checkBuiltinCall, hk]
  cases hsig : Manifest.signature? id with
  | none => exact wpAny_pure hc
  | some sig =>
    have h2 : Bind.checkArgs id sig ⟨args, kw⟩ = pure () := by simpa only [argsOk, hsig] using ha
    simp only [h2]
    exact wpAny_pure hc
theorem max_dflt {l : Addr} {its : List Value} {ns : List Int} {d : Value} {Q : Value → Shared → Prop} (hh : A.handled = none) (hl : s.heap.IsList l its.toArray) (hi : IntsAre its ns)
    (h : ∀ v h' tk, ((ns = [] ∧ v = d) ∨ ∃ m t, maxI ns = some m ∧ v = .int m t) → (∀ b o, s.heap.get? b = some o → h'.get? b = some o) → Q v { s with heap := h', toks := tk }) : wpAny (model prog w) A (call (.builtin "max") [.ref l] [(Str.ofString "default", d)]) Q E s := by
  have hname : (toString "max" ++ toString ".loop" : String) = "max.loop" := by decide
  obtain ⟨xs, e⟩ := hi.allInts.items
  have hn : numsOf (intItems xs).toList = ns := by rw [← e]; exact hi.numsOf
  rw [nums_intItems] at hn
  rw [e] at hl
  refine call_function_treeK PySem.F.kind_max PySem.F.plain_max PySem.F.entry_max (args_max_dflt _ _) ?_
  show wpAny _ A.in1 (Builtin.Builtins.bindParams "max" ["key", "default"] 0 ⟨[], [(Str.ofString "default", d)]⟩ >>= _) _ _ s
  refine wpAny_bind (wpAny_of_eq (show Builtin.Builtins.bindParams "max" ["key", "default"] 0 ⟨[], [(Str.ofString "default", d)]⟩ = pure [none, some d] from rfl) ?_)
  refine wpAny_bind (wpAny_pure ?_)
  refine wpAny_bind (iter_intList hl fun s₂ e2 st hfp hlI => ?_)
  subst e2
  refine wpAny_bind (wpAny_newObj_type ?_)
  have W := Walks.list (prog := prog) (w := w) (A := A.in1) hh s.heap.objs.size l hlI (intItems xs)
  generalize hS2 : (s.heap.push { cls := .type "list_iterator", data := .fields #[.ref l, .int 0 0] }) = hp at st hfp ⊢
  have hSf : hp.objs.size ∉ [s.heap.objs.size, l] := fun hm => Nat.lt_irrefl _ (hfp _ hm)
  rw [hname]
  refine wpAny_pure ⟨plainId_quiet PySem.F.plain_max_loop _, mx_loop W (fun i j => decide (numAt xs i > numAt xs j)) (CmpOf.ints_gt (numAt xs) (fun _ _ => intItems_at)) hp.objs.size hSf d _ 0 _ #[] 0 rfl (Nat.zero_le _) (W.frame _ _ _ st fun b _ o e => Heap.get?_push_of_some _ e) (.inl ⟨rfl, rfl⟩) (Heap.get?_push_size _ rfl) fun v h' tk hv hk => ?_⟩
  have hsz : (intItems xs).size = xs.size := by simp [intItems]
  refine h v h' tk ?_ fun b o eb => hk b o (fun hm => ?_) ?_ (Heap.get?_push_of_some _ (by rw [← hS2]; exact Heap.get?_push_of_some _ eb))
  · rw [hsz] at hv
    rcases hv with ⟨h0, rfl⟩ | ⟨h0, hP⟩
    · left
      refine ⟨?_, rfl⟩
      rw [← hn]
      have : xs = #[] := Array.eq_empty_of_size_eq_zero h0
      rw [this]; rfl
    · right
      obtain ⟨t, rfl⟩ := intItems_at hP
      obtain ⟨h1, h2⟩ := argBest_gt (numAt xs) (xs.size - 1)
      have hm : numAt xs (argBest (fun i j => decide (numAt xs i > numAt xs j)) (xs.size - 1)) ∈ ns := by
        rw [← hn, numAt_eq]; exact PySem.getD_mem (by rw [List.length_map, Array.length_toList]; omega)
      have hle : ∀ y ∈ ns, y ≤ numAt xs (argBest (fun i j => decide (numAt xs i > numAt xs j)) (xs.size - 1)) := fun y hy => by
        rw [← hn] at hy
        obtain ⟨j, hj, rfl⟩ := mem_getD hy
        rw [List.length_map, Array.length_toList] at hj
        rw [← numAt_eq]; exact h2 j (by omega)
      cases ns with
      | nil => cases hm
      | cons i r =>
        obtain ⟨k1, k2⟩ := foldl_max_spec r i
        exact ⟨_, t, by show some (r.foldl max i) = _; rw [max_uniq k1 k2 hm hle], rfl⟩
  · rw [List.mem_singleton.mp hm] at eb
    exact absurd (Heap.lt_size eb) (Nat.lt_irrefl _)
  · have := Heap.lt_size eb
    refine Nat.ne_of_lt ?_
    rw [← hS2, Heap.size_push]
    exact Nat.lt_succ_of_lt this
end
def maxDflt (dv : D) : List D → M D
  | [.lst ds] => lift ((toI ds).map fun ns => match maxI ns with
    | some m => .int m
    | none => dv)
  | _ => nope
def kwM (fo : M (List Op)) (fd : M D) (g : D → List D → M D) : M D := bnd fo fun os => bnd fd fun d => bnd (getOs os) (g d)
section
variable {X : Cx} {W : WX}
theorem maxI_none {ns : List Int} : maxI ns = none ↔ ns = [] := by
  cases ns with
  | nil => exact ⟨fun _ => rfl, fun _ => rfl⟩
  | cons i r => exact ⟨fun z => (by cases z), fun z => (by cases z)⟩
theorem bs_step {K : PySem.W.Frag} {mg : Str → Option Value} {σ : St} {w w' : Wd} (s : Step w w') (f : Wf w) : ∀ {vs : List V} {os : List Op}, Bs K mg σ w vs os → Bs K mg σ w' vs os
  | _, _, .nil => .nil
  | _, _, .cons q qs => .cons (rB_step (e := []) (e' := []) (w0 := w) s f q) (bs_step s f qs)
theorem ve_maxDflt {a ed : Expr} {fo : M (List Op)} {fd : M D} {p pos kp : Pos} (hc : X.calm = true) (hm : X.mg "max" = none) (ha : VO X W [a] fo) (hd : VE X W ed fd) (hv : bootBuiltins "max" = some (.builtin "max") := by rfl) (hg : Gl X "max" := by rfl) (hn : ("max" : Str) ≠ "__name__" := by decide) (hdb : (("max" : Str) == ("__debug__" : Str)) = false := by decide)
    (he : backTo pos (starEach [a] X.env) = (false, eval a X.env) :: backTo pos (starEach [] X.env) := by rfl) (hpl : (backTo pos (starEach [a] X.env)).any (·.1) = false := by rfl) (hks : (backToKw pos (keywordEach [⟨some "default", ed, kp⟩] X.env)).filterMap (·.1) = [Str.ofString "default"] := by rfl) :
    VE X W (.Call (.Name "max" p) [a] [⟨some "default", ed, kp⟩] pos) (kwM fo fd maxDflt) := by
  have hr : CallRK X (.builtin "max") [Str.ofString "default"] (fun vs zs H Q => ∃ (l : Addr) (ns : List Int) (dv : V), vs = [V.ref l] ∧ zs = [dv] ∧ SqL X.K H l (ns.map V.int) ∧ (maxI ns = none → Q dv H) ∧ ∀ m, maxI ns = some m → Q (.int m) H) := by
    intro pins s σ H vs zs us ws Q I r rz h
    obtain ⟨l, ns, dv, rfl, rfl, hl, q1, q2⟩ := h
    obtain rfl := Vals.ref1 r
    obtain ⟨w1, rfl, e1⟩ := vals1 rz
    obtain ⟨its, rv, pl, _⟩ := I.list hl
    refine max_dflt (I.ok.hd hc) pl.isList rv.ints fun v h' tk hv hk => ?_
    rcases hv with ⟨h0, rfl⟩ | ⟨m, t, h1, rfl⟩
    · exact ⟨dv, H, I.kept hk, e1, q1 (maxI_none.mpr h0)⟩
    · exact ⟨.int m, H, I.kept hk, ⟨t, rfl⟩, q2 m h1⟩
  exact PE.imp (pe_callBK hr hg hm hv ha (pk_cons hd pk_nil) hn hdb he hpl rfl rfl hks) fun σ H Q ⟨w, e, hw, rel, g⟩ => by
    subst hw
    refine tR_mono (goes_bind (ρ1 := rBs X.K X.mg) rel g) fun vs H1 ⟨w1, e1, os, h1, s, r1, q, g1⟩ => ?_
    subst h1
    refine tR_mono (goes_bind (ρ1 := rD X.K X.mg) r1 g1) fun dv H2 ⟨w2, e2, dd, h2, s2, r2, q2, g2⟩ => ?_
    subst h2
    obtain ⟨ds, l, g3⟩ := looks_of r2 (bs_step s2 r1.wf q) g2
    unfold maxDflt at g3
    split at g3
    · obtain ⟨z, hz, g3⟩ := lift_of g3
      obtain ⟨v, rfl, l1⟩ := l.one
      obtain ⟨pp, ys, rfl, h1, h2⟩ := l1.lst
      obtain ⟨ns, h3, rfl⟩ := Option.map_eq_some_iff.mp hz
      obtain rfl := toI_den h2 h3
      refine ⟨pp, ns, dv, rfl, rfl, SqL.of h1, fun h0 => ?_, fun m h0 => ?_⟩
      · rw [h0] at g3; exact Goes.ok g3 r2 q2
      · rw [h0] at g3; exact Goes.ok g3 r2 (.int m)
    · exact g3.elim
end
/-! ### xs.extend(d), d a dict -/
section
variable {prog : Program} {w : World} {A : Around} {s : Shared} {R : Result → Shared → Prop}
/-- the loop that puts what is walked behind what is there -/
theorem ex_loop {I : Addr} {fp wr : List Addr} {n : Nat} {P : Nat → Value → Prop} {St : Nat → Heap → Prop} (W : Walks prog w A.in1 I fp wr n P St) (S : Addr) (hSf : S ∉ fp) (res : Value) (pre : List Value) (hz : pre.length + n ≤ sizeLine) :
    ∀ (k i : Nat) (s : Shared) (acc : List Value) (c : Nat), n - i = k → i ≤ n → St i s.heap → s.heap.get? S = some { cls := .type "list", dict := none, data := .seq (pre ++ acc).toArray c, slots := #[] } → ItemsOf P acc.toArray i →
    (∀ h' tk acc' c', (∀ b o, b ∉ wr → b ≠ S → s.heap.get? b = some o → h'.get? b = some o) → h'.get? S = some { cls := .type "list", dict := none, data := .seq (pre ++ acc').toArray c', slots := #[] } → ItemsOf P acc'.toArray n → R (.ok (.ret res)) { s with heap := h', toks := tk }) →
    codeAny (model prog w) A (.builtin "list.extend.loop" ⟨[.ref S, .ref I, res], []⟩) R s := by
  have hSw : S ∉ wr := fun h => hSf (W.sub _ h)
  intro k
  induction k with
  | zero =>
    intro i s acc c hk hi hst hS hacc hR
    have hin : i = n := by omega
    subst hin
    refine codeAny_builtin PySem.F.entry_extend_loop ?_
    rw [Around.under_plainId PySem.F.plain_extend_loop _]
    show wpAny _ A.in1 (pyNext (.ref I) >>= _) _ _ s
    refine wpAny_bind (W.done s _ _ hst fun h' tk hm => ?_)
    exact wpAny_pure (hR h' tk acc c (fun b o hb _ e => hm b o hb e) (hm S _ hSw hS) hacc)
  | succ k ih =>
    intro i s acc c hk hi hst hS hacc hR
    have hlt : i < n := by omega
    have hai : acc.length = i := by have := hacc.1; rwa [List.size_toArray] at this
    refine codeAny_builtin PySem.F.entry_extend_loop ?_
    rw [Around.under_plainId PySem.F.plain_extend_loop _]
    show wpAny _ A.in1 (pyNext (.ref I) >>= _) _ _ s
    refine wpAny_bind (W.item i s _ _ hlt hst fun v h' tk hP hst' hm => ?_)
    have hS' := hm S _ hSw hS
    show wpAny _ A.in1 (updateSeq S (·.push v) >>= _) _ _ _
    have e1 : (pre ++ acc).toArray.push v = (pre ++ (acc ++ [v])).toArray := by simp
    obtain ⟨c2, hc2⟩ : ∃ c2, (h'.update S (Obj.mapSeq (·.push v))).get? S = some { cls := .type "list", dict := none, data := .seq (pre ++ (acc ++ [v])).toArray c2, slots := #[] } := ⟨_, by rw [← e1]; exact Heap.get?_update_self _ hS' rfl⟩
    refine wpAny_bind (wpAny_updateSeq hS' rfl (wpAny_pure ⟨plainId_quiet PySem.F.plain_extend_loop _, ih (i + 1) _ (acc ++ [v]) c2 (by omega) hlt (W.frame _ _ _ hst' fun b hb o e => ?_) hc2 ?_ fun h2 tk2 acc' c' hm2 hS2 hacc' => ?_⟩) ?_ ?_)
    · exact (Heap.get?_update_other _ _ (fun h : S = b => hSf (by rw [h]; exact hb))).trans e
    · have := hacc.push hP
      rwa [show acc.toArray.push v = (acc ++ [v]).toArray by simp] at this
    · exact hR h2 tk2 acc' c' (fun b o hb hbS e => hm2 b o hb hbS ((Heap.get?_update_other _ _ (Ne.symm hbS)).trans (hm b o hb e))) hS2 hacc'
    · rw [List.size_toArray, List.length_append]; omega
    · show ((pre ++ acc).toArray.push v).size ≤ sizeLine + 1
      rw [Array.size_push, List.size_toArray, List.length_append]; omega
open PySem.W in
theorem ex_dict {T : String} {r d : Addr} {n : Nat} {P : Nat → Value → Prop} {OK : Heap → Prop} {E : Value → Shared → Prop} {Q : Value → Shared → Prop} (K : KdlSrc prog w T r d n P OK) (hh : A.handled = none) (hok : OK s.heap) (S : Addr) (hSr : S ≠ r) (hSd : S ≠ d) {pre : List Value} {c₀ : Nat}
    (hS : s.heap.get? S = some { cls := .type "list", data := .seq pre.toArray c₀ }) (hz : pre.length + n ≤ sizeLine) (hz1 : pre.length < sizeLine)
    (hQ : ∀ h' tk acc c', (∀ b o, b ≠ S → s.heap.get? b = some o → h'.get? b = some o) → h'.get? S = some { cls := .type "list", dict := none, data := .seq (pre ++ acc).toArray c', slots := #[] } → ItemsOf P acc.toArray n → Q .none { s with heap := h', toks := tk }) :
    wpAny (model prog w) A (call (.builtin "list.extend") [.ref S, .ref r]) Q E s := by
  refine wpAny_call (codeAny_call_builtin PySem.F.slot_list_extend.plain PySem.F.entry_list_extend (PySem.F.slot_list_extend.check _ _ _ _ _ _ _ _ ⟨_, hS, rfl⟩ (PySem.F.args_list_extend_2 _ _) ?_))
  have hSI : S ≠ s.heap.objs.size := Nat.ne_of_lt (Heap.lt_size hS)
  have hSf : S ∉ [s.heap.objs.size, d] := by simp only [List.mem_cons, List.not_mem_nil, or_false, not_or]; exact ⟨hSI, hSd⟩
  obtain ⟨oI, St, hit, W, st⟩ := K.iter A.in1 s hh hok
  have key : ∀ (h : Heap) (c₁ tk : Nat), St 0 h → (∀ b o, b ≠ S → s.heap.get? b = some o → h.get? b = some o) → h.get? S = some { cls := .type "list", data := .seq pre.toArray c₁ } →
      codeAny (model prog w) A (.builtin "list.extend.loop" ⟨[.ref S, .ref s.heap.objs.size, .none], []⟩) (wants Q E) { s with heap := h, toks := tk } := fun h c₁ tk hst hk hS₁ => by
    refine ex_loop W S hSf .none pre hz n 0 _ [] c₁ rfl (Nat.zero_le _) hst (by rw [List.append_nil]; exact hS₁) (ItemsOf.nil _) fun h' tk' acc' c' hm hS' hacc => ?_
    refine hQ h' tk' acc' c' (fun b o hb e => hm b o (fun hmem => ?_) hb (hk b o hb e)) hS' hacc
    exact absurd (Heap.lt_size e) (by rw [List.mem_singleton.mp hmem]; exact Nat.lt_irrefl _)
  show wpAny _ A.in1 (Builtin.List.listExtendWith (.ref S) (.ref r) .none) _ _ _
  unfold Builtin.List.listExtendWith
  refine wpAny_bind (wpAny_typeOf (T := T) (K.type s hok) ?_)
  have h1 : Builtin.List.listSameRef (.ref S) (.ref r) = false := by simp [Builtin.List.listSameRef, hSr]
  simp only [h1, K.notList, K.notTuple, Bool.or_false, Bool.false_eq_true, if_false]
  refine wpAny_bind (hit _ _ ?_)
  have hS₁ := Heap.get?_push_of_some oI hS
  refine wpAny_bind (wpAny_holding (K.hint _ _ _ _ (K.keep _ _ hok fun b _ o e => Heap.get?_push_of_some _ e) ?_))
  refine wpAny_ite_split (fun _ => ?_) (fun _ => wpAny_pure ⟨plainId_quiet PySem.F.plain_extend_loop _, key _ c₀ _ st (fun b o _ e => Heap.get?_push_of_some _ e) hS₁⟩)
  refine wpAny_bind (wpAny_rule (wpAny_bind ?_))
  have hpl : pre.toArray.size ≤ sizeLine := by rw [List.size_toArray]; omega
  show wpAny _ _ (updateSeq S (·.push .none) >>= fun _ => updateSeq S (·.pop)) _ _ _
  refine wpAny_bind (wpAny_updateSeq hS₁ rfl ?_ hpl (by rw [Array.size_push]; omega))
  have hS₂ := Heap.get?_update_self (Obj.mapSeq (·.push Value.none)) hS₁ rfl
  refine wpAny_updateSeq hS₂ rfl ?_ ?_ ?_
  · have hS₃ := Heap.get?_update_self (Obj.mapSeq (·.pop)) hS₂ rfl
    have epop : (pre.toArray.push Value.none).pop = pre.toArray := by simp
    obtain ⟨c3, hc3⟩ : ∃ c3, (((s.heap.push oI).update S (Obj.mapSeq (·.push Value.none))).update S (Obj.mapSeq (·.pop))).get? S = some { cls := .type "list", data := .seq pre.toArray c3 } := ⟨_, by rw [← epop]; exact hS₃⟩
    refine wpAny_pure ⟨plainId_quiet PySem.F.plain_extend_loop _, key _ c3 _ ?_ (fun b o hb e => ?_) hc3⟩
    · refine W.frame 0 _ _ st fun b hb o e => ?_
      have hbS : b ≠ S := fun h => hSf (h ▸ hb)
      exact (Heap.get?_update_other _ _ (Ne.symm hbS)).trans ((Heap.get?_update_other _ _ (Ne.symm hbS)).trans e)
    · exact (Heap.get?_update_other _ _ (Ne.symm hb)).trans ((Heap.get?_update_other _ _ (Ne.symm hb)).trans (Heap.get?_push_of_some _ e))
  · show (pre.toArray.push Value.none).size ≤ _
    rw [Array.size_push, List.size_toArray]; omega
  · show ((pre.toArray.push Value.none).pop).size ≤ _
    rw [Array.size_pop, Array.size_push, List.size_toArray]; omega
/-- list.extend, by a list or by a dict's keys -/
def extKD : D → List D → Option (D × D)
  | .lst ds, [.lst es] => if ds.length + es.length ≤ line then some (.lst (ds ++ es), .non) else none
  | .lst ds, [.dk ks] => if ds.length + ks.length ≤ line ∧ ds.length < line then some (.lst (ds ++ ks.map fun p => keyV p.1), .non) else none
  | _, _ => none
end
section
variable {X : Cx}
theorem mv_extend (hc : X.calm = true) : MtR X "list.extend" (rMut X.K X.mg extKD) := by
  intro pins s σ H x xs v us Q I rx rxs h
  obtain ⟨a, c, ds, c', r, w, rfl, rfl, f, hO, t, q, hg, k⟩ := h
  unfold extKD at hg
  split at hg
  · rename_i ds' es'
    split at hg
    · rename_i hl
      cases hg
      obtain ⟨ys, h1, h2⟩ := t
      cases q with
      | cons q1 q2 =>
        cases q2
        cases q1 with
        | @lst b zs _ l1 l2 =>
          have s1 := stays_own (o := .lst (ys ++ zs)) f hO
          exact mt_extend pins s σ _ _ _ v us Q I rx rxs ⟨a, b, ys, zs, rfl, rfl, h1, l1.1, by rw [line_eq, h2.length, l2.length]; exact hl, k _ _ ⟨_, upd_same, (h2.append l2).stays s1⟩ .non⟩
    · cases hg
  · rename_i ds' ks'
    split at hg
    · rename_i hl
      cases hg
      obtain ⟨ys, h1, h2⟩ := t
      cases q with
      | cons q1 q2 =>
        cases q2
        cases q1 with
        | @dk b kvs _ l1 l2 l3 l4 =>
          cases rx
          obtain ⟨u, rfl, ru⟩ := rxs.one
          cases ru
          have hab : a ≠ b := fun z => by subst z; exact f.dis _ l2 hO
          obtain ⟨z, its, n, rv, hlen, e⟩ := I.lstM h1
          obtain ⟨z2, lo, vs, rk, hd⟩ := dk_rd I.hok l1
          obtain ⟨ep, hat⟩ := hd.dictAt
          have hkl : kvs.length = vs.length := Paired.length rk
          have hkl2 : kvs.length = ks'.length := len_of_keys l3
          have hyl : ys.length = ds'.length := h2.length
          refine ex_dict (A := X.A) (PySem.W.kdl_dict (knd := mixKind X.prog X.w) (kvs := vs) (ep := ep) lo) (I.ok.hd hc) hat a hab hab e (by rw [line_eq]; omega) (by rw [line_eq]; omega) fun h' tk acc c'' hk hS hacc => ?_
          have al : acc.length = kvs.length := by have := hacc.1; rw [List.size_toArray] at this; omega
          have vk : Vals (kvs.map fun kv => kV kv.1) acc := by
            refine vals_of_at (by rw [List.length_map, al]) fun j x w' e1 e2 => ?_
            obtain ⟨kk, y, hky, hi⟩ := hacc.2 j w' (by rw [← Array.getElem?_toList]; simpa using e2)
            have e4 : (kvs.map (·.1))[j]? = some kk := by rw [KV.keys rk, List.getElem?_map, hky]; rfl
            have e3 : (kvs.map fun kv => kV kv.1) = (kvs.map (·.1)).map kV := by rw [List.map_map]; rfl
            rw [e3, List.getElem?_map, e4] at e1
            cases e1
            exact keyIs_rel hi
          have hnew : (ys ++ kvs.map fun kv => kV kv.1).length ≤ sizeLine := by rw [List.length_append, List.length_map, line_eq]; omega
          have I2 : Inv X pins σ (upd w.H a (.lst (ys ++ kvs.map fun kv => kV kv.1))) { s with heap := h', toks := tk } := by
            refine I.write (x := a) (e := a) (by rw [h1]; trivial) (.inl rfl) (fun b' u hb hu => hk b' u hb hu) ⟨_, hS⟩ ?_
            exact ⟨hnew, its ++ acc, c'', rv.append vk, hS⟩
          have s1 := stays_own (o := .lst (ys ++ kvs.map fun kv => kV kv.1)) f hO
          exact ⟨.non, _, I2, rfl, k _ _ ⟨_, upd_same, (h2.append (keys_of_map l3)).stays s1⟩ .non⟩
    · cases hg
  · cases hg
end
end VL
namespace VL
open PySem PySem.Spec PyProof.Rows L2
variable [Tb]
/-! ### list(d.items()) -/
theorem tabs_ext {T : List (Addr × Str)} {H H' : Hp} (t : LamX.Tabs T H) (e : ∀ b o, H b = some o → H' b = some o) : LamX.Tabs T H' := t.ext e
section
variable {K : PySem.W.Frag} {mg : Str → Option Value} {w : Wd} {e : En} {σ : St}
/-- more is tracked, nothing else turned -/
theorem rel_ext {H' : Hp} (rel : Rel K mg w e σ) (h : ∀ b o, w.H b = some o → H' b = some o) : Step w ⟨w.U, w.O, H'⟩ ∧ Rel K mg ⟨w.U, w.O, H'⟩ e σ := by
  have tr : ∀ b, w.H b ≠ none → H' b ≠ none := fun b q => by
    obtain ⟨o, ho⟩ := some_of q
    exact none_of (h b o ho)
  have st : Step w ⟨w.U, w.O, H'⟩ := ⟨fun b o q _ _ => h b o q, fun _ _ n => n, fun _ u => u, fun _ _ u => .inl u, tr⟩
  refine ⟨st, rel.move (st.stays rel.wf) ⟨rel.wf.dis, fun b u => tr b (rel.wf.trU b u), fun b u => ?_, tabs_ext rel.wf.tab h⟩ fun i d a q s => ?_⟩
  · obtain ⟨o, e1, h1⟩ := rel.wf.obO b u
    exact ⟨o, h b o e1, h1⟩
  · obtain ⟨a', e1, q1, q2⟩ := rel.ow i d q
    rw [s] at e1; cases e1
    obtain ⟨o, ho⟩ := some_of q2.tr
    exact ⟨q1, (h _ o ho).trans ho.symm⟩
end
section
variable {X : Cx} {W : WX} {e : Expr} {te : TE} {p apos cpos pos : Pos}
def rItemsR : V → Hp → VK → Prop := fun x H Q => ∃ (d : Addr) (kvs : List (Key × V)), x = .ref d ∧ Rd H d (.dK kvs) ∧
  ∀ (H' : Hp) (p : Addr) (ts : List Addr), (∀ b o, H b = some o → H' b = some o) → H p = none → H' p = some (.lst (ts.map V.ref)) → Paired (fun (t : Addr) (q : Key × V) => H' t = some (.tup [kV q.1, q.2])) ts kvs → Q (.ref p) H'
theorem pe_listItemsR (hc : X.calm = true) (he : PE X e te) (hm : X.mg "list" = none) (hg : Gl X "list" := by rfl) (hv : bootBuiltins "list" = some (.type "list") := by rfl) (hbase : attributeBase e "items" X.env (eval e X.env) = eval e X.env := by rfl) (hline : (apos.endLine == cpos.line) = true := by rfl)
    (hs : starEach [.Call (.Attribute e "items" apos) [] [] cpos] X.env = (false, eval (.Call (.Attribute e "items" apos) [] [] cpos) X.env) :: starEach [] X.env := by rfl) :
    PE X (.Call (.Name "list" p) [.Call (.Attribute e "items" apos) [] [] cpos] [] pos) (fun σ H Q => te σ H fun x H1 => rItemsR x H1 Q) := by
  refine ⟨fun pins s σ H Q I hq => ?_⟩
  refine wpAny_Call_Name_kw (ld_blt I hg hm hv (PyProof.Rows.callWith_type1 ?_ hs rfl))
  rw [hs]
  show wpAny _ _ (spliced ((false, eval (.Call (.Attribute e "items" apos) [] [] cpos) X.env) :: backTo pos (starEach [] X.env))) _ _ s
  refine Calls.spliced_cons (wpAny_Call_method (T := "dict") (id := "dict.items") hbase rfl hline PySem.F.plainAttrs_dict PySem.F.slot_dict_items PySem.F.type_dict_items (thn (he.run pins s σ H _ I hq) fun u s1 ⟨x, H1, I1, rx, d, kvs, ex, hd, q⟩ => ?_))
  subst ex
  obtain rfl : u = Value.ref d := rx
  obtain ⟨hz, hs0, vs, kv, hdo⟩ := dk_rd I1.hok hd
  obtain ⟨ep, hat⟩ := hdo.dictAt
  have lk : kvs.length = vs.length := Paired.length kv
  have I2 : Inv X pins σ H1 { s1 with heap := s1.heap.push { cls := .type "dict_items", data := .fields #[.ref d] } } := I1.kept (t' := s1.toks) fun b ob q => Heap.get?_push_of_some _ q
  refine ⟨hdo.typeIs, hdo.mapOf.noDict, ?_⟩
  show wpAny _ _ (callWith cpos (.builtin "dict.items") [.ref d] [] []) _ X.xe s1
  refine method_meetsIn PySem.F.slot_dict_items PySem.F.entry_dict_items rfl (PySem.evalArgs_none ⟨rfl, hdo.typeIs, PySem.F.args_dict_items_1 _, _, meets_dict_items (mixKind X.prog X.w) d hs0, ⟨vs, hdo⟩, Calls.spliced_nil ?_⟩)
  refine PySem.W.kdx_call (knd := mixKind X.prog X.w) (kvs := vs) (ep := ep) (I1.ok.hd hc) ⟨_, Heap.get?_push_size _ rfl, rfl, rfl⟩ (hat.push _) (by omega) fun h' tk acc c as hk hS hl hG hacc => ?_
  obtain ⟨H', k1, k2, k3, k4, k5, k6, J⟩ := LiI.items_laid (tk := tk) I2 hz kv hk hS hl hG hacc
  exact ⟨.ref _, H', J, rfl, q H' _ as k1 k2 k5 k6⟩
def itemL (d : D) : M D := match d with
  | .dk ks => ret (.lst (ks.map fun p => .tup [keyV p.1, p.2]))
  | _ => nope
theorem pairs_den {K : PySem.W.Frag} {mg : Str → Option Value} {w : Wd} : ∀ {ts : List Addr} {kvs : List (Key × V)} {ks : List (Key × D)}, Paired (fun (t : Addr) (q : Key × V) => w.H t = some (.tup [kV q.1, q.2])) ts kvs → DK K mg w kvs ks → Dens K mg w (ts.map V.ref) (ks.map fun p => .tup [keyV p.1, p.2])
  | _, _, _, .nil, .nil => .nil
  | _, _, _, .cons h t, .cons q qs => .cons (.tup h (.cons (keyV_den _) (.cons q .nil))) (pairs_den t qs)
theorem vf_listItems {fo : M Op} (hc : X.calm = true) (ho : VB X W e fo) (hm : X.mg "list" = none) (hg : Gl X "list" := by rfl) (hv : bootBuiltins "list" = some (.type "list") := by rfl) (hbase : attributeBase e "items" X.env (eval e X.env) = eval e X.env := by rfl) (hline : (apos.endLine == cpos.line) = true := by rfl)
    (hs : starEach [.Call (.Attribute e "items" apos) [] [] cpos] X.env = (false, eval (.Call (.Attribute e "items" apos) [] [] cpos) X.env) :: starEach [] X.env := by rfl) :
    VF X W (.Call (.Name "list" p) [.Call (.Attribute e "items" apos) [] [] cpos] [] pos) (op1 fo itemL) :=
  PE.imp (pe_listItemsR hc ho hm hg hv hbase hline hs) fun σ H Q h => by
    have q := imp1 (W := W) (ρ := rF X.K X.mg) (r := fun x H1 Q => ∃ w e σ d, w.H = H1 ∧ Rel X.K X.mg w e σ ∧ Look X.K X.mg w x d ∧ Goes X.K X.mg W σ (rF X.K X.mg σ) w (itemL d e) Q) (fun w e σ x d Q r l g => ⟨w, e, σ, d, rfl, r, l, g⟩) h
    refine tR_mono q fun x H1 ⟨w, e, σ', d, h1, rel, l, g⟩ => ?_
    subst h1
    cases d with
    | dk ks =>
      obtain ⟨a, kvs, rfl, h1, h2, h3⟩ := l.dk
      refine ⟨a, kvs, rfl, h1, fun H' pp ts hx hn hl hp => ?_⟩
      obtain ⟨st, rel2⟩ := rel_ext rel hx
      have g : Goes X.K X.mg W σ' (rF X.K X.mg σ') w (.ok (.lst (ks.map fun p => .tup [keyV p.1, p.2])) e) Q := g
      have dk := (DK.of h2 h3).stays (st.stays rel.wf)
      have hU := newU rel.wf hn
      have hO := newO rel.wf hn
      exact g ⟨w.U, w.O, H'⟩ _ st rel2 ⟨pp, rfl, hn, hU, hO, _, hl, pairs_den (w := ⟨w.U, w.O, H'⟩) hp dk⟩
    | _ => exact g.elim
/-! ### sorted(d.items()), texts and ints -/
def encP (p : Str × Int) : PyData := .tuple [.str p.1, .int p.2]
def byKey (ps : List (Str × Int)) : List (Str × Int) := ps.mergeSort (PySem.W.dataLe false encP)
theorem encP_alike (p q : Str × Int) : PySem.W.alike (encP p) (encP q) = true := by
  simp [encP, PySem.W.alike, PySem.W.alikeAll]
abbrev encZ (z : Addr × Str × Int) : PyData := encP z.2
theorem zip_sort (as : List Addr) (ps : List (Str × Int)) (h : as.length = ps.length) : ((as.zip ps).mergeSort (PySem.W.dataLe false encZ)).map (·.2) = byKey ps := by
  unfold byKey
  have e1 := List.map_mergeSort (r := PySem.W.dataLe false encZ) (s := PySem.W.dataLe false encP) (f := fun z : Addr × Str × Int => z.2) (l := as.zip ps) (fun a _ b _ => rfl)
  have e2 : (as.zip ps).map (fun z => z.2) = ps := List.map_snd_zip (by omega)
  rw [e2] at e1
  exact e1
theorem each_idx {α : Type} : ∀ {us : List Value} {zs : List α} {R : Value → α → Prop}, us.length = zs.length → (∀ (j : Nat) (u : Value) (z : α), us[j]? = some u → zs[j]? = some z → R u z) → PySem.W.EachIs R us zs
  | [], [], _, _, _ => .nil
  | [], _ :: _, _, h, _ => by simp at h
  | _ :: _, [], _, h, _ => by simp at h
  | u :: us, p :: ps, _, h, f => .cons (f 0 u p rfl rfl) (each_idx (by simpa using h) fun j v q h1 h2 => f (j + 1) v q (by simpa using h1) (by simpa using h2))
theorem each_refs : ∀ {us : List Value} {zs : List (Addr × Str × Int)}, PySem.W.EachIs (fun v z => v = Value.ref z.1) us zs → Vals (zs.map fun z => V.ref z.1) us
  | _, _, .nil => .nil
  | _, _, .cons h t => by subst h; exact .cons rfl (each_refs t)
theorem pe_sortItems (hc : X.calm = true) (hu : X.A.units + 100 < cLine) (he : PE X e te) (hm : X.mg "sorted" = none) (hg : Gl X "sorted" := by rfl) (hv : bootBuiltins "sorted" = some (.builtin "sorted") := by rfl) (hbase : attributeBase e "items" X.env (eval e X.env) = eval e X.env := by rfl) (hline : (apos.endLine == cpos.line) = true := by rfl)
    (hs : starEach [.Call (.Attribute e "items" apos) [] [] cpos] X.env = (false, eval (.Call (.Attribute e "items" apos) [] [] cpos) X.env) :: starEach [] X.env := by rfl) (hpl : (backTo pos (starEach [] X.env)).any (·.1) = false := by rfl) (hn : ("sorted" : Str) ≠ "__name__" := by decide) (hdb : (("sorted" : Str) == ("__debug__" : Str)) = false := by decide) :
    PE X (.Call (.Name "sorted" p) [.Call (.Attribute e "items" apos) [] [] cpos] [] pos) (fun σ H Q => te σ H fun x H1 => ∃ (d : Addr) (ps : List (Str × Int)), x = .ref d ∧ Rd H1 d (.dK (ps.map fun p => (Sum.inr p.1, V.int p.2))) ∧ ps.length ≤ line ∧
      ∀ (H' : Hp) (q : Addr) (ts : List Addr), (∀ b o, H1 b = some o → H' b = some o) → H1 q = none → H' q = some (.lst (ts.map V.ref)) → Paired (fun (t : Addr) (p : Str × Int) => H' t = some (.tup [.str p.1, .int p.2])) ts (byKey ps) → Q (.ref q) H') := by
  refine ⟨fun pins s σ H Q I hq => ?_⟩
  refine wpAny_Call_Name_kw (ld_blt I hg hm hv ?_ hn hdb)
  refine PyProof.Rows.callWith_builtin1 ?_ hs hpl
  rw [hs]
  show wpAny _ _ (spliced ((false, eval (.Call (.Attribute e "items" apos) [] [] cpos) X.env) :: backTo pos (starEach [] X.env))) _ _ s
  refine Calls.spliced_cons (wpAny_Call_method (T := "dict") (id := "dict.items") hbase rfl hline PySem.F.plainAttrs_dict PySem.F.slot_dict_items PySem.F.type_dict_items (thn (he.run pins s σ H _ I hq) fun u s1 ⟨x, H1, I1, rx, d, ps, ex, hd, h24, q⟩ => ?_))
  subst ex
  obtain rfl : u = Value.ref d := rx
  obtain ⟨hz, hs0, vs, kv, hdo⟩ := dk_rd I1.hok hd
  obtain ⟨ep, hat⟩ := hdo.dictAt
  have lk : (ps.map fun p => ((Sum.inr p.1 : Key), V.int p.2)).length = vs.length := Paired.length kv
  rw [List.length_map] at lk
  have I2 : Inv X pins σ H1 { s1 with heap := s1.heap.push { cls := .type "dict_items", data := .fields #[.ref d] } } := I1.kept (t' := s1.toks) fun b ob q => Heap.get?_push_of_some _ q
  refine ⟨hdo.typeIs, hdo.mapOf.noDict, ?_⟩
  show wpAny _ _ (callWith cpos (.builtin "dict.items") [.ref d] [] []) _ X.xe s1
  refine method_meetsIn PySem.F.slot_dict_items PySem.F.entry_dict_items rfl (PySem.evalArgs_none ⟨rfl, hdo.typeIs, PySem.F.args_dict_items_1 _, _, meets_dict_items (mixKind X.prog X.w) d hs0, ⟨vs, hdo⟩, Calls.spliced_nil ?_⟩)
  have hview : (s1.heap.push { cls := .type "dict_items", data := .fields #[.ref d] }).IsItemsView s1.heap.objs.size d := ⟨_, Heap.get?_push_size _ rfl, rfl, rfl⟩
  have hat2 := hat.push { cls := .type "dict_items", data := .fields #[.ref d] }
  generalize hS2 : s1.heap.push { cls := .type "dict_items", data := .fields #[.ref d] } = h2 at I2 hview hat2 ⊢
  refine Calls.call_function_entry kind_sorted plain_sorted entry_sorted (args_sorted1 _) ?_
  unfold Builtin.«sorted»
  refine wpAny_bind (m := checkCount "sorted" 1 1 _) (wpAny_pure ?_)
  refine wpAny_bind (PySem.W.kdx_collect (knd := mixKind X.prog X.w) (A := X.A.in1) (s := { s1 with heap := h2 }) (kvs := vs) (ep := ep) (I1.ok.hd hc) hview hat2 (by rw [line_eq]; omega) fun h' tk as hk hl hG => ?_)
  have hk : ∀ b o, h2.get? b = some o → h'.get? b = some o := hk
  have lap : as.length = ps.length := by omega
  refine wpAny_bind (wpAny_newList ?_ (by rw [List.length_map, lap, line_eq]; exact h24))
  have hoL : (h'.push (seqObj "list" (as.map Value.ref).toArray 0)).get? h'.objs.size = some (seqObj "list" (as.map Value.ref).toArray 0) := Heap.get?_push_size _ rfl
  -- what stands at the pairs
  have pr : ∀ (j : Nat) (b : Addr) (p : Str × Int), as[j]? = some b → ps[j]? = some p → ∃ t t', h'.get? b = some { cls := .type "tuple", data := .seq #[.str p.1 t, .int p.2 t'] } := fun j b p hj hp => by
    obtain ⟨key, k, x, e1, e2, e3⟩ := hG.pairs j b hj
    have e4 : (ps.map fun p => ((Sum.inr p.1 : Key), V.int p.2))[j]? = some (Sum.inr p.1, V.int p.2) := by rw [List.getElem?_map, hp]; rfl
    obtain ⟨y, g1, g2, g3⟩ := LiI.paired_get kv e4
    rw [e1] at g1
    cases g1
    have g2 : (Sum.inr p.1 : Key) = k := g2
    subst g2
    obtain ⟨t', rfl⟩ := g3
    obtain ⟨t, rfl⟩ := Value.isStrOf_shape (x := p.1) (v := key) e2
    exact ⟨t, t', e3⟩
  have hE : PySem.W.EachIs (fun v z => v = Value.ref z.1 ∧ z ∈ as.zip ps) (as.map Value.ref) (as.zip ps) := each_idx (by rw [List.length_map, List.length_zip]; omega) fun j u z h1 h2 => by
    obtain ⟨a1, a2⟩ := List.getElem?_zip_eq_some.mp h2
    rw [List.getElem?_map, a1] at h1
    cases h1
    exact ⟨rfl, List.mem_of_getElem? h2⟩
  have at_ : ∀ z ∈ as.zip ps, ∃ t t', h'.get? z.1 = some { cls := .type "tuple", data := .seq #[.str z.2.1 t, .int z.2.2 t'] } := fun z hz => by
    obtain ⟨j, hj⟩ := List.mem_iff_getElem?.mp hz
    obtain ⟨a1, a2⟩ := List.getElem?_zip_eq_some.mp hj
    exact pr j _ _ a1 a2
  have hR : PySem.W.EachIs (fun v z => ∃ bs, Reads (h'.push (seqObj "list" (as.map Value.ref).toArray 0)) v (encZ z) bs ∧ h'.objs.size ∉ bs) (as.map Value.ref) (as.zip ps) := hE.mono fun v z ⟨e1, e2⟩ => by
    subst e1
    obtain ⟨t, t', e3⟩ := at_ z e2
    exact ⟨_, Reads.tuple (Heap.get?_push_of_some _ e3) rfl rfl (ReadsAll.cons (Reads.str _ _) (ReadsAll.cons (Reads.int _ _) ReadsAll.nil)), by simp⟩
  have un : X.A.in1.units = X.A.units + 1 := rfl
  have lz : (as.zip ps).length = ps.length := by rw [List.length_zip]; omega
  refine wpAny_bind (wpAny_holding (PySem.W.list_sort_data (A := X.A.in1) (s := { s1 with heap := h'.push (seqObj "list" (as.map Value.ref).toArray 0), toks := tk }) (R := fun v z => v = Value.ref z.1 ∧ z ∈ as.zip ps) (enc := encZ) hoL hE hR (fun d hd d' hd' => ?_) (.inl fun d hd => ?_) (by rw [lz, line_eq]; exact h24) (fun z hz => ?_) fun out hlen hout => ?_))
  · obtain ⟨p, _, rfl⟩ := List.mem_map.mp hd
    obtain ⟨p', _, rfl⟩ := List.mem_map.mp hd'
    exact encP_alike _ _
  · obtain ⟨p, _, rfl⟩ := List.mem_map.mp hd
    exact ⟨_, _, rfl⟩
  · have : (encZ z).depth ≤ 2 := by simp [encZ, encP, PyData.depth, PyData.depthAll]
    rw [un]
    omega
  · obtain ⟨e', he'⟩ := PyProof.Rows.sortedHeap_at (vs := as.map Value.ref) (out := out.toArray) hoL
    have hperm : ((as.zip ps).mergeSort (PySem.W.dataLe false encZ)).Perm (as.zip ps) := List.mergeSort_perm _ _
    generalize hZ : (as.zip ps).mergeSort (PySem.W.dataLe false encZ) = zs at hout hperm
    have hzl : zs.length = ps.length := by rw [hperm.length_eq, lz]
    have hby : zs.map (·.2) = byKey ps := by rw [← hZ]; exact zip_sort as ps lap
    have nd : (zs.map (·.1)).Nodup := by
      have p1 := hperm.map (·.1)
      have e1 : (as.zip ps).map (·.1) = as := List.map_fst_zip (by omega)
      rw [e1] at p1
      exact p1.nodup_iff.mpr (List.Pairwise.imp (fun {a b} (h : a < b) => Nat.ne_of_lt h) hG.rise)
    have abv : ∀ t ∈ zs.map (·.1), h2.objs.size ≤ t ∧ t < h'.objs.size := fun t ht => by
      obtain ⟨z, hz1, rfl⟩ := List.mem_map.mp ht
      have hz2 := hperm.mem_iff.mp hz1
      obtain ⟨t1, t2, e3⟩ := at_ z hz2
      have hza : z.1 ∈ as := (List.of_mem_zip (show (z.1, z.2) ∈ as.zip ps from hz2)).1
      exact ⟨Nat.le_of_lt (hG.above _ hza), Heap.lt_size e3⟩
    have kF : ∀ b o, h2.get? b = some o → (PyProof.Rows.sortedHeap (h'.push (seqObj "list" (as.map Value.ref).toArray 0)) h'.objs.size (as.map Value.ref) out.toArray).get? b = some o := fun b o eb => by
      have hb := Heap.lt_size (hk b o eb)
      rw [PyProof.Rows.sortedHeap_old (Nat.ne_of_lt hb) (by rw [size_push']; exact Nat.lt_succ_of_lt hb)]
      exact Heap.get?_push_of_some _ (hk b o eb)
    have kT : ∀ b o, h'.get? b = some o → (PyProof.Rows.sortedHeap (h'.push (seqObj "list" (as.map Value.ref).toArray 0)) h'.objs.size (as.map Value.ref) out.toArray).get? b = some o := fun b o eb => by
      have hb := Heap.lt_size eb
      rw [PyProof.Rows.sortedHeap_old (Nat.ne_of_lt hb) (by rw [size_push']; exact Nat.lt_succ_of_lt hb)]
      exact Heap.get?_push_of_some _ eb
    have hsz : h2.objs.size ≤ h'.objs.size := by
      have e1 : h2.get? s1.heap.objs.size = some { cls := .type "dict_items", data := .fields #[.ref d] } := by rw [← hS2]; exact Heap.get?_push_size _ rfl
      have e2 := Heap.lt_size (hk _ _ e1)
      have e3 : h2.objs.size = s1.heap.objs.size + 1 := by rw [← hS2, Heap.size_push]
      rw [e3]
      exact e2
    generalize PyProof.Rows.sortedHeap (h'.push (seqObj "list" (as.map Value.ref).toArray 0)) h'.objs.size (as.map Value.ref) out.toArray = hf at he' kF kT ⊢
    have hv2 : Vals (zs.map fun z => V.ref z.1) out := each_refs (hout.mono fun _ _ z => z.1)
    have hll : (zs.map fun z => V.ref z.1).length ≤ sizeLine := by rw [List.length_map, hzl, line_eq]; exact h24
    have I3 : Inv X pins σ (upd H1 h'.objs.size (.lst (zs.map fun z => V.ref z.1))) { s1 with heap := hf, toks := tk } :=
      I2.laid (t' := tk) kF hsz (show ObjOk X.prog X.w _ _ _ (.lst _) from ⟨hll, out, e', hv2, by simpa using he'⟩)
    obtain ⟨H2, I4, hx, hP⟩ := L2.DX.takeT (P := fun b us => ∃ z ∈ zs, z.1 = b ∧ us = [V.str z.2.1, V.int z.2.2]) I2 (zs.map (·.1)) _ I3 nd fun b hb => by
      obtain ⟨b1, b2⟩ := abv b hb
      obtain ⟨z, hz1, rfl⟩ := List.mem_map.mp hb
      obtain ⟨t1, t2, e3⟩ := at_ z (hperm.mem_iff.mp hz1)
      exact ⟨b1, by rw [upd_ne (Nat.ne_of_lt b2)]; exact I2.hok.fresh b1, _, ⟨z, hz1, rfl, rfl⟩, fun H2 => ⟨by show 2 ≤ sizeLine; decide, [.str z.2.1 t1, .int z.2.2 t2], .cons ⟨t1, rfl⟩ (.cons ⟨t2, rfl⟩ .nil), ⟨_, kT _ _ e3, rfl, _, rfl⟩⟩⟩
    have hn0 : H1 h'.objs.size = none := I2.hok.fresh hsz
    refine wpAny_pure ⟨_, rfl, .ref h'.objs.size, H2, I4, rfl, q H2 h'.objs.size (zs.map (·.1)) (fun b o eb => hx b o (by rw [upd_ne (ne_of_none eb hn0)]; exact eb)) hn0 ?_ ?_⟩
    · rw [List.map_map]; exact hx _ _ upd_same
    · rw [← hby]
      have uniq : ∀ z ∈ zs, ∀ z' ∈ zs, z.1 = z'.1 → z = z' := fun z hz z' hz' e => by
        obtain ⟨j, hj⟩ := List.mem_iff_getElem?.mp hz
        obtain ⟨j', hj'⟩ := List.mem_iff_getElem?.mp hz'
        have m1 : (zs.map (·.1))[j]? = some z.1 := by rw [List.getElem?_map, hj]; rfl
        have m2 : (zs.map (·.1))[j']? = some z.1 := by rw [List.getElem?_map, hj', e]; rfl
        have hjl := (List.getElem?_eq_some_iff.mp m1).1
        have : j = j' := (List.getElem?_inj hjl nd).mp (m1.trans m2.symm)
        subst this
        rw [hj] at hj'
        exact Option.some.inj hj'
      have all : ∀ z ∈ zs, H2 z.1 = some (.tup [V.str z.2.1, V.int z.2.2]) := fun z hz => by
        obtain ⟨us, ⟨z', hz', e1, rfl⟩, h2⟩ := hP z.1 (List.mem_map_of_mem (f := fun z : Addr × Str × Int => z.1) hz)
        have := uniq z' hz' z hz e1
        subst this
        exact h2
      clear hP hby uniq nd abv hv2 hll I3 hzl hperm hout hZ hx I4
      induction zs with
      | nil => exact .nil
      | cons z zs ih => exact .cons (all z List.mem_cons_self) (ih fun z' hz' => all z' (List.mem_cons_of_mem _ hz'))
def sortItD (d : D) : M D := match d with
  | .dk ks => lift ((toSI ks).bind fun ps => if ps.length ≤ line then some (.lst ((byKey ps).map fun p => .tup [.str p.1, .int p.2])) else none)
  | _ => nope
theorem sp_den {K : PySem.W.Frag} {mg : Str → Option Value} {w : Wd} : ∀ {ts : List Addr} {ps : List (Str × Int)}, Paired (fun (t : Addr) (p : Str × Int) => w.H t = some (.tup [.str p.1, .int p.2])) ts ps → Dens K mg w (ts.map V.ref) (ps.map fun p => .tup [.str p.1, .int p.2])
  | _, _, .nil => .nil
  | _, _, .cons h t => .cons (.tup h (.cons (.str _) (.cons (.int _) .nil))) (sp_den t)
theorem vf_sortItems {fo : M Op} (hc : X.calm = true) (hu : X.A.units + 100 < cLine) (ho : VB X W e fo) (hm : X.mg "sorted" = none) (hg : Gl X "sorted" := by rfl) (hv : bootBuiltins "sorted" = some (.builtin "sorted") := by rfl) (hbase : attributeBase e "items" X.env (eval e X.env) = eval e X.env := by rfl) (hline : (apos.endLine == cpos.line) = true := by rfl)
    (hs : starEach [.Call (.Attribute e "items" apos) [] [] cpos] X.env = (false, eval (.Call (.Attribute e "items" apos) [] [] cpos) X.env) :: starEach [] X.env := by rfl) (hpl : (backTo pos (starEach [] X.env)).any (·.1) = false := by rfl) (hn : ("sorted" : Str) ≠ "__name__" := by decide) (hdb : (("sorted" : Str) == ("__debug__" : Str)) = false := by decide) :
    VF X W (.Call (.Name "sorted" p) [.Call (.Attribute e "items" apos) [] [] cpos] [] pos) (op1 fo sortItD) :=
  PE.imp (pe_sortItems hc hu ho hm hg hv hbase hline hs hpl hn hdb) fun σ H Q h => by
    have q := imp1 (W := W) (ρ := rF X.K X.mg) (r := fun x H1 Q => ∃ w e σ d, w.H = H1 ∧ Rel X.K X.mg w e σ ∧ Look X.K X.mg w x d ∧ Goes X.K X.mg W σ (rF X.K X.mg σ) w (sortItD d e) Q) (fun w e σ x d Q r l g => ⟨w, e, σ, d, rfl, r, l, g⟩) h
    refine tR_mono q fun x H1 ⟨w, e, σ', d, h1, rel, l, g⟩ => ?_
    subst h1
    cases d with
    | dk ks =>
      obtain ⟨z, hz, g⟩ := lift_of g
      obtain ⟨ps, hps, hz⟩ := Option.bind_eq_some_iff.mp hz
      split at hz
      · rename_i h24
        cases hz
        obtain ⟨a, kvs, rfl, h1, h2, h3⟩ := l.dk
        have ek := toSI_of (DK.of h2 h3) hps
        subst ek
        refine ⟨a, ps, rfl, h1, h24, fun H' pp ts hx hn hl hp => ?_⟩
        obtain ⟨st, rel2⟩ := rel_ext rel hx
        have hU := newU rel.wf hn
        have hO := newO rel.wf hn
        exact g ⟨w.U, w.O, H'⟩ _ st rel2 ⟨pp, rfl, hn, hU, hO, _, hl, sp_den (w := ⟨w.U, w.O, H'⟩) hp⟩
      · cases hz
    | _ => exact g.elim
end
end VL
namespace VL
open PySem PySem.Spec PyProof.Rows L2
variable [Tb]
theorem hu100 {A : Around} {k : Nat} (hr : Room k A) : A.units + 100 < cLine := by have := hr.un; omega
/-- a def of the module, as the top has made it -/
structure FnE (K : PySem.W.Frag) (mg : Str → Option Value) (x : Str) (st : Stmt) (ps : List Str) where
  a : Addr
  fd : FuncData
  fn : Fun K x x st a fd
  mg : mg x = some (.ref a)
  bd : Binds K fd ps []
/-- name = {.. for ..} on one line, the name a local -/
theorem ps_setDc {X : Cx} {i : Nat} {y : Str} {py : Pos} {kx vx tg iter : Expr} {ifs : List Expr} {scope : Scope} {own : List (Str × Nat)} {pos spos : Pos} {wi : TI} {g : TG} {tt : TT} {tk tv : TE} (hc : X.calm = true) (hN : X.N.Nodup) (hy : X.N[i]? = some y) (hyl : X.env.scope.names.lookup y = some .local)
    (hsw : swapsWith (.DictComp kx vx [⟨tg, iter, ifs, 0⟩] scope pos) (some (.Name y py)) spos.line X.env = pure true) (hi : PI X tg iter wi) (ok : BlkOk X.N X.env.scope scope own)
    (hg : ∀ (s : Shared) (H : Hp) (C : Addr) (cl : List (Str × Addr)) (fp : List Addr), PG (X.blk s H scope (compEnvC scope cl C X.env) fp) tg g) (ht : ∀ (s : Shared) (H : Hp) (C : Addr) (cl : List (Str × Addr)) (fp : List Addr), PTs (X.blk s H scope (compEnvC scope cl C X.env) fp) ifs tt)
    (hk : ∀ (s : Shared) (H : Hp) (C : Addr) (cl : List (Str × Addr)) (fp : List Addr), PE (X.blk s H scope (compEnvC scope cl C X.env) fp) kx tk)
    (he : ∀ (s : Shared) (H : Hp) (C : Addr) (cl : List (Str × Addr)) (fp : List Addr), PE (X.blk s H scope (compEnvC scope cl C X.env) fp) vx tv) (hs : ∀ x, foldedSetIterable iter X.env x = pure x := by intro _; rfl) :
    PS X (.Assign [.Name y py] (.DictComp kx vx [⟨tg, iter, ifs, 0⟩] scope pos) spos) (tAsg (tDc wi g tt tk tv (own.map (·.2))) (gName i)) := by
  refine ⟨fun pins s σ H D I h => ?_⟩
  rw [exec_Assign_Name_used _ _ _ _ hsw]
  refine wpAny_bind (wpAny_standAt (wpAny_bind ?_))
  show wpAny _ X.A (do let _ ← comprehension (.DictComp kx vx [⟨tg, iter, ifs, 0⟩] scope pos) scope X.env (firstIterPos [⟨tg, iter, ifs, 0⟩] pos) newDict false (eval iter X.env) (some (assign (.Name y py) X.env))) _ _ s
  have h : tDc wi g tt tk tv (own.map (·.2)) σ H (fun x H1 => gName i x σ H1 D.nx) := h
  refine wpAny_bind (thn (dc_core (Qf := fun _ s' => SP X pins D .next s') hc hN I hi ok hg ht hk he hs h fun L C s' m H' I' q hn f => ?_) fun _ s' hq => wpAny_pure (wpAny_pure hq))
  show wpAny _ _ (assign (.Name y py) X.env (.ref L)) _ _ _
  refine wpAny_assign_Name (store_ok2 (v := V.ref L) I' hN hy (.inl hyl) rfl (fun s2 I2 ⟨a, sb, ha⟩ => ?_) (.inr hyl))
  obtain ⟨f0, f1, f2, f3, f4, f5⟩ := f
  have haC : C ≠ a := by
    rcases ha with z | z
    · rw [z]; exact f1
    · exact fun e => f4 y a z e.symm
  refine ⟨m, hn.sameBut sb haC, fun h3 sb3 => ?_⟩
  exact ⟨_, H', I2.turned (t' := s2.toks) (fun b o hb e => (sb3.2 b hb).trans e) f0 f1 f3 f4 f5, q⟩
section
variable {X : Cx} {W : WX}
theorem vs_setDc {C : Nat → Bool} (i : Nat) {y : Str} {py : Pos} {kx vx tg iter : Expr} {ifs : List Expr} {scope : Scope} {own : List (Str × Nat)} {pos spos : Pos} {fi : M (List D)} {sm : D → En → Option En} {ft : M Bool} {fk fv : M D} (hN : X.N.Nodup) (hi : VI X W tg iter fi) (ok : BlkOk X.N X.env.scope scope own) (hl : LenP sm)
    (hg : ∀ (s : Shared) (H : Hp) (C : Addr) (cl : List (Str × Addr)) (fp : List Addr), VG (Cx.in' X s H scope C cl fp) (cpl (own.map (·.2))) tg sm)
    (ht : ∀ (s : Shared) (H : Hp) (C : Addr) (cl : List (Str × Addr)) (fp : List Addr), VTs (Cx.in' X s H scope C cl fp) W0 ifs ft)
    (hk : ∀ (s : Shared) (H : Hp) (C : Addr) (cl : List (Str × Addr)) (fp : List Addr), VE (Cx.in' X s H scope C cl fp) W0 kx fk)
    (he : ∀ (s : Shared) (H : Hp) (C : Addr) (cl : List (Str × Addr)) (fp : List Addr), VE (Cx.in' X s H scope C cl fp) W0 vx fv)
    (hsw : swapsWith (.DictComp kx vx [⟨tg, iter, ifs, 0⟩] scope pos) (some (.Name y py)) spos.line X.env = pure true := by rfl)
    (hy : X.N[i]? = some y := by rfl) (hyl : X.env.scope.names.lookup y = some .local := by rfl) (hC : C i = false := by rfl) (hc : X.calm = true := by rfl) (hs : ∀ x, foldedSetIterable iter X.env x = pure x := by intro _; rfl) :
    VS X W C (.Assign [.Name y py] (.DictComp kx vx [⟨tg, iter, ifs, 0⟩] scope pos) spos) (setM i (dcM fi sm ft fk fv (own.map (·.2)))) :=
  PS.imp (ps_unl (ps_setDc hc hN hy hyl hsw hi ok hg ht hk he hs)) fun E σ H ⟨w, e, hw, rel, g⟩ => by
    subst hw
    exact dc_imp (kx := kx) (vx := vx) (tg := tg) (iter := iter) (ifs := ifs) (scope := scope) hl (goesS_newF rel hC g)
theorem vs_setDcO {C : Nat → Bool} (i : Nat) {y : Str} {py : Pos} {kx vx tg iter : Expr} {ifs : List Expr} {scope : Scope} {own : List (Str × Nat)} {pos spos : Pos} {fi : M (List D)} {sm : D → En → Option En} {ft : M Bool} {fk fv : M D} (hN : X.N.Nodup) (hi : VI X W tg iter fi) (ok : BlkOk X.N X.env.scope scope own) (hl : LenP sm)
    (hg : ∀ (s : Shared) (H : Hp) (C : Addr) (cl : List (Str × Addr)) (fp : List Addr), VG (Cx.in' X s H scope C cl fp) (cpl (own.map (·.2))) tg sm)
    (ht : ∀ (s : Shared) (H : Hp) (C : Addr) (cl : List (Str × Addr)) (fp : List Addr), VTs (Cx.in' X s H scope C cl fp) W0 ifs ft)
    (hk : ∀ (s : Shared) (H : Hp) (C : Addr) (cl : List (Str × Addr)) (fp : List Addr), VE (Cx.in' X s H scope C cl fp) W0 kx fk)
    (he : ∀ (s : Shared) (H : Hp) (C : Addr) (cl : List (Str × Addr)) (fp : List Addr), VE (Cx.in' X s H scope C cl fp) W0 vx fv)
    (hsw : swapsWith (.DictComp kx vx [⟨tg, iter, ifs, 0⟩] scope pos) (some (.Name y py)) spos.line X.env = pure true := by rfl)
    (hy : X.N[i]? = some y := by rfl) (hyl : X.env.scope.names.lookup y = some .local := by rfl) (hC : C i = false := by rfl) (hc : X.calm = true := by rfl) (hs : ∀ x, foldedSetIterable iter X.env x = pure x := by intro _; rfl) :
    VS X W C (.Assign [.Name y py] (.DictComp kx vx [⟨tg, iter, ifs, 0⟩] scope pos) spos) (setO i (dcM fi sm ft fk fv (own.map (·.2)))) :=
  PS.imp (ps_unl (ps_setDc hc hN hy hyl hsw hi ok hg ht hk he hs)) fun E σ H ⟨w, e, hw, rel, g⟩ => by
    subst hw
    exact dc_imp (kx := kx) (vx := vx) (tg := tg) (iter := iter) (ifs := ifs) (scope := scope) hl (goesS_new rel hC g)
end
end VL
namespace VL
open PySem PySem.Spec PyProof.Rows L2
variable [Tb]
/-! ### max(d.values()) -/
section
variable {X : Cx} {W : WX}
def tMaxVals (td : TE) : TE := fun σ H Q => td σ H fun x H1 => ∃ a kvs is, x = V.ref a ∧ Rd H1 a (.dK kvs) ∧ kvs.map (·.2) = is.map V.int ∧ is ≠ [] ∧ ∀ m, m ∈ is → (∀ j ∈ is, j ≤ m) → Q (.int m) H1
variable {o : Expr} {p pos apos mpos : Pos} {td : TE}
theorem pe_maxVals (hc : X.calm = true) (hg : Gl X "max") (hm : X.mg "max" = none) (hd : PE X o td) (hbase : attributeBase o "values" X.env (eval o X.env) = eval o X.env := by rfl) (hline : (apos.endLine == mpos.line) = true := by rfl)
    (hse : starEach [Expr.Call (.Attribute o "values" apos) [] [] mpos] X.env = [(false, eval (Expr.Call (.Attribute o "values" apos) [] [] mpos) X.env)] := by rfl) :
    PE X (.Call (.Name "max" p) [.Call (.Attribute o "values" apos) [] [] mpos] [] pos) (tMaxVals td) := by
  refine ⟨fun pins s σ H Q I h => ?_⟩
  refine wpAny_Call_Name_kw (ld_blt I hg hm (u := .builtin "max") (by first | rfl | decide +kernel) ?_ (by first | decide +kernel | decide) (by first | decide +kernel | decide))
  rw [hse]
  refine PySem.callWith_builtin1 (wpAny_Call_method0_late hbase hline (thn (hd.run pins s σ H _ I h) fun v s1 ⟨x, H1, I1, r1, a, kvs, is, ex, ha, hv, hne, q⟩ => ?_))
  subst ex
  obtain rfl : v = Value.ref a := r1
  obtain ⟨_, hsys, vs, rel, dof⟩ := dk_rd I1.hok ha
  obtain ⟨ep, dat⟩ := dof.dictAt
  have dat' := dat
  obtain ⟨ob, es, ho, ex, hdat, hko, hpr, hnd⟩ := dat'
  refine ⟨"dict", "dict.values", F.plainAttrs_dict, F.slot_dict_values, F.type_dict_values, ⟨ob, ho, ex.1⟩, fun b e => ?_, Calls.callWith_builtin rfl (PySem.evalArgs_none ?_)⟩
  · cases e
    exact ⟨ob, ho, ex.2.1⟩
  refine call_meetsIn F.slot_dict_values ⟨ob, ho, ex.1⟩ F.entry_dict_values (F.args_dict_values_1 _) (meets_dict_values (mixKind X.prog X.w) a hsys) ⟨⟨vs, dof⟩, ?_⟩
  have k1 : ∀ b u, s1.heap.get? b = some u → (s1.heap.push { cls := .type "dict_values", data := .fields #[.ref a] }).get? b = some u := fun b u e => Heap.get?_push_of_some _ e
  have dat1 : (s1.heap.push { cls := .type "dict_values", data := .fields #[.ref a] }).DictAt (mixKind X.prog X.w) a vs ep := dat.keep k1
  have hlv : vs.length = is.length := by
    have e1 := congrArg List.length hv
    rw [List.length_map, List.length_map] at e1
    rw [← e1]
    exact (KV.length rel).symm
  have hlen : 0 < vs.length := by
    rw [hlv]
    exact List.length_pos_iff.mpr hne
  have hval : ∀ (i : Nat) (v : Value), (∃ k, vs[i]? = some (k, v)) → ∃ t, v = Value.int (is.getD i 0) t := fun i v ⟨k, hk⟩ => by
    obtain ⟨x, h1, h2⟩ := KV.at' rel hk
    have e1 : (kvs.map (·.2))[i]? = some x := by rw [List.getElem?_map, h1] <;> rfl
    rw [hv, List.getElem?_map] at e1
    obtain ⟨j, hj, e2⟩ := Option.map_eq_some_iff.mp e1
    subst e2
    obtain ⟨t, e3⟩ := h2
    refine ⟨t, ?_⟩
    rw [e3, List.getD_eq_getElem?_getD, hj] <;> rfl
  refine call_max_walk (wpAny_pyIter_values (v := s1.heap.objs.size) (d := a) ⟨_, Heap.get?_push_size _ rfl, rfl, rfl⟩ dat1 ?_)
  have hlt : a < s1.heap.objs.size := Heap.lt_size ho
  have hsz : (s1.heap.push { cls := .type "dict_values", data := .fields #[.ref a] }).objs.size = s1.heap.objs.size + 1 := Heap.size_push _ _
  refine ⟨_, _, _, _, _, _, _, rfl, Walks.dictValues (knd := mixKind X.prog X.w) (A := X.A.in1) (I.ok.hd hc) (s1.heap.push { cls := .type "dict_values", data := .fields #[.ref a] }).objs.size a (by rw [hsz]; exact Nat.ne_of_lt (Nat.lt_succ_of_lt hlt)) vs ep,
    ⟨⟨_, Heap.get?_push_size _ rfl, rfl, rfl⟩, dat1.keep fun b u e => Heap.get?_push_of_some _ e⟩, fun b hb => ?_, hlen, CmpOf.ints_gt (fun i => is.getD i 0) hval, fun v h' tk hP hk => ?_⟩
  · show b < ((s1.heap.push _).push _).objs.size
    rw [Heap.size_push, Heap.size_push]
    rw [hsz] at hb
    rcases List.mem_cons.mp hb with e | hb
    · rw [e]
      exact Nat.lt_succ_self _
    · have e : b = a := List.mem_singleton.mp hb
      rw [e]
      exact Nat.lt_succ_of_lt (Nat.lt_succ_of_lt hlt)
  · obtain ⟨t, rfl⟩ := hval _ v hP
    obtain ⟨b1, b2⟩ := argBest_gt (fun i => is.getD i 0) (vs.length - 1)
    refine ⟨.int _, H1, I1.kept (t' := tk) fun b u e => hk b u (fun hmem => ?_) (Heap.get?_push_of_some _ (k1 b u e)), ⟨t, rfl⟩, q _ ?_ fun j hj => ?_⟩
    · have e1 : b = (s1.heap.push { cls := .type "dict_values", data := .fields #[.ref a] }).objs.size := List.mem_singleton.mp hmem
      have e2 := Heap.lt_size e
      rw [hsz] at e1
      rw [e1] at e2
      exact absurd e2 (Nat.not_lt.mpr (Nat.le_succ _))
    · have hb : argBest (fun i j => decide (is.getD i 0 > is.getD j 0)) (vs.length - 1) < is.length := by omega
      rw [List.getD_eq_getElem?_getD, List.getElem?_eq_getElem hb]
      exact List.getElem_mem hb
    · obtain ⟨i, hi, e⟩ := List.mem_iff_getElem.mp hj
      have e2 : is.getD i 0 = j := by rw [List.getD_eq_getElem?_getD, List.getElem?_eq_getElem hi, ← e] <;> rfl
      rw [← e2]
      exact b2 i (by omega)
def maxVD (d : D) : M D := match d with
  | .dk ks => lift ((toI (ks.map (·.2))).bind fun ns => (maxI ns).map .int)
  | _ => nope
theorem ve_maxVals {fo : M Op} (hc : X.calm = true) (hm : X.mg "max" = none) (ho : VB X W o fo) (hg : Gl X "max" := by rfl) (hbase : attributeBase o "values" X.env (eval o X.env) = eval o X.env := by rfl) (hline : (apos.endLine == mpos.line) = true := by rfl)
    (hse : starEach [Expr.Call (.Attribute o "values" apos) [] [] mpos] X.env = [(false, eval (Expr.Call (.Attribute o "values" apos) [] [] mpos) X.env)] := by rfl) :
    VE X W (.Call (.Name "max" p) [.Call (.Attribute o "values" apos) [] [] mpos] [] pos) (op1 fo maxVD) :=
  PE.imp (pe_maxVals hc hg hm ho hbase hline hse) fun σ H Q h => by
    have q := imp1 (W := W) (ρ := rD X.K X.mg) (r := fun x H1 Q => ∃ w e σ d, w.H = H1 ∧ Rel X.K X.mg w e σ ∧ Look X.K X.mg w x d ∧ Goes X.K X.mg W σ (rD X.K X.mg σ) w (maxVD d e) Q) (fun w e σ x d Q r l g => ⟨w, e, σ, d, rfl, r, l, g⟩) h
    refine tR_mono q fun x H1 ⟨w, e, σ', d, h1, rel, l, g⟩ => ?_
    subst h1
    cases d with
    | dk ks =>
      obtain ⟨z, hz, g⟩ := lift_of g
      obtain ⟨ns, h3, h4⟩ := Option.bind_eq_some_iff.mp hz
      obtain ⟨m, h5, rfl⟩ := Option.map_eq_some_iff.mp h4
      obtain ⟨a, kvs, rfl, h1, h2, h6⟩ := l.dk
      cases ns with
      | nil => cases h5
      | cons i r' =>
        cases h5
        obtain ⟨k1, k2⟩ := foldl_max_spec r' i
        refine ⟨a, kvs, i :: r', rfl, h1, toI_den h6 h3, by simp, fun m h6 h7 => ?_⟩
        obtain rfl := max_uniq h6 h7 k1 k2
        exact Goes.ok g rel (.int _)
    | _ => exact g.elim
end
end VL
namespace VL
open PySem PySem.Spec PyProof.Rows L2
variable [Tb]
theorem ve_gint {X : Cx} {W : WX} {x : Str} {n : Int} {pos : Pos} (h : ∃ t, X.mg x = some (.int n t)) (hg : Gl X x := by rfl) (hb : (x == ("__debug__" : Str)) = false := by decide) : VE X W (.Name x pos) (ret (.int n)) := by
  obtain ⟨t, h⟩ := h
  exact ve_glob (v := V.int n) h ⟨t, rfl⟩ (fun _ => .int n) hg hb
theorem ve_gstr {X : Cx} {W : WX} {x z : Str} {pos : Pos} (h : ∃ t, X.mg x = some (.str z t)) (hg : Gl X x := by rfl) (hb : (x == ("__debug__" : Str)) = false := by decide) : VE X W (.Name x pos) (ret (.str z)) := by
  obtain ⟨t, h⟩ := h
  exact ve_glob (v := V.str z) h ⟨t, rfl⟩ (fun _ => .str z) hg hb
theorem dep2 {A : Around} {k : Nat} (h : Room (k + 2) A) : A.in1.in1.depth < recursionLimit := (Room.in1 (Room.in1 h)).depth
/-! ### a block's names, by a test -/
def blkB (N : List Str) (sc scope : Scope) (own : List (Str × Nat)) : Bool :=
  decide (scope.kind = .function) && scope.names.all (fun y => decide (scope.names.lookup y.1 = some y.2)) && own.all (fun p => decide (N[p.2]? = some p.1)) &&
    scope.names.all (fun y => !decide (y.2 = .free) || decide (sc.names.lookup y.1 = some .cell) || decide (sc.names.lookup y.1 = some .free)) &&
      scope.names.all fun y => (!decide (y.2 = .local) && !decide (y.2 = .cell)) || decide (y.1 ∈ own.map (·.1)) || decide (y.1 ∉ N)
theorem blk_by {N : List Str} {sc scope : Scope} {own : List (Str × Nat)} (h : blkB N sc scope own = true) : BlkOk N sc scope own := by
  unfold blkB at h
  simp only [Bool.and_eq_true, Bool.or_eq_true, Bool.not_eq_true', decide_eq_true_eq, decide_eq_false_iff_not, List.all_eq_true] at h
  obtain ⟨⟨⟨⟨h1, h2⟩, h3⟩, h4⟩, h5⟩ := h
  refine ⟨h1, h2, h3, fun y hy e => ?_, fun y hy e => ?_⟩
  · rcases h4 y hy with (z | z) | z
    · exact absurd e z
    · exact .inl z
    · exact .inr z
  · rcases h5 y hy with (z | z) | z
    · rcases e with e | e
      · exact absurd e z.1
      · exact absurd e z.2
    · exact .inl z
    · exact .inr z
/-! ### l.index(x), texts -/
def indexD : D → List D → M D
  | .lst ds, [.str x] => lift ((toS ds).bind fun xs => if x ∈ xs then some (.int (xs.idxOf x : Nat)) else none)
  | _, _ => nope
def indexM (fo : M Op) (fs : M (List D)) : M D := bnd fo fun o => bnd (getO o) fun c => chk (isLst c) (bnd fs fun ds => bnd (getO o) fun d => indexD d ds)
section
variable {X : Cx} {W : WX}
theorem ve_index {o e1 : Expr} {apos cpos : Pos} {fo : M Op} {fs : M (List D)} (ho : VB X W o fo) (ha : VA X W [e1] fs)
    (hbase : attributeBase o "index" X.env (eval o X.env) = eval o X.env := by rfl)
    (hfew : ((backTo cpos (starEach [e1] X.env)).all (fun x => !x.1) && (backToKw cpos (keywordEach [] X.env)).all (fun x => x.1.isSome)
      && decide (([e1] : List Expr).length + ([] : List Keyword).length + (if ([] : List Keyword).isEmpty then 0 else 1) < 30)) = true := by rfl)
    (hline : (apos.endLine == cpos.line) = true := by rfl) (hs : starEach [e1] X.env = (false, eval e1 X.env) :: starEach [] X.env := by rfl) (hplain : (backTo cpos (starEach [] X.env)).any (·.1) = false := by rfl) :
    VE X W (.Call (.Attribute o "index" apos) [e1] [] cpos) (indexM fo fs) :=
  PE.imp (pe_bm PySem.F.plainAttrs_list PySem.F.slot_list_index PySem.F.type_list_index mt_index ho ha hbase hfew hline hs hplain) fun σ H Q ⟨w, e, hw, rel, g⟩ => by
    subst hw
    refine tR_mono (goes_bind (ρ1 := rB X.K X.mg) rel g) fun v H1 ⟨w1, e1, o1, h1, s, r1, q, g1⟩ => ?_
    subst h1
    obtain ⟨c0, l0, g1⟩ := look_of (Step.refl w1) r1.wf r1 q g1
    obtain ⟨hc, g1⟩ := chk_of g1
    cases c0 with
    | lst ds0 =>
      obtain ⟨a0, ys0, rfl, k1, k2⟩ := l0.lst
      refine ⟨.inl ⟨rfl, ys0, SqL.of k1⟩, ?_⟩
      refine tR_mono (goes_bind (ρ1 := rL X.K X.mg) r1 g1) fun vs H2 ⟨w2, e2, ds, h2, s2, r2, q2, g2⟩ => ?_
      subst h2
      obtain ⟨c, lc, g4⟩ := look_of s2 r1.wf r2 q g2
      unfold indexD at g4
      split at g4
      · rename_i ds' x
        obtain ⟨z, hz, g5⟩ := lift_of g4
        obtain ⟨xs, h3, h4⟩ := Option.bind_eq_some_iff.mp hz
        split at h4
        · rename_i hx
          cases h4
          obtain ⟨a, ys, ea, k3, k4⟩ := lc.lst
          obtain rfl := toS_den k4 h3
          cases q2 with
          | cons q3 q4 =>
            cases q4
            cases q3
            have hlt := List.idxOf_lt_length_of_mem hx
            refine ⟨a, xs.map V.str, .str x, xs.idxOf x, .str x, ea, rfl, SqL.of k3, rfl, ?_, ?_, ?_, fun m z' hm hz' => ?_, Goes.ok g5 r2 (.int _)⟩
            · rw [List.all_eq_true]
              intro y hy
              obtain ⟨t, _, rfl⟩ := List.mem_map.mp hy
              rfl
            · rw [List.getElem?_map, List.getElem?_eq_getElem hlt, List.getElem_idxOf hlt]
              rfl
            · simp [eqV]
            · rw [List.getElem?_map] at hz'
              obtain ⟨t, ht, rfl⟩ := Option.map_eq_some_iff.mp hz'
              have hne : t ≠ x := fun e => by
                subst e
                obtain ⟨hml, e2⟩ := List.getElem?_eq_some_iff.mp ht
                have := List.not_of_lt_findIdx (p := (· == t)) (xs := xs) (i := m) hm
                simp [e2] at this
              simp [eqV, hne]
        · cases h4
      · exact g4.elim
    | _ => cases hc
end
end VL
namespace VL
open PySem PySem.Spec PyProof.Rows L2
variable [Tb]
/-! ### sorted(a list of plain data) -/
def pOf (d : D) : PyData := (toP d).getD .none
def sortP (ds : List D) : List D := ds.mergeSort (PySem.W.dataLe false pOf)
def isTup' : PyData → Bool
  | .tuple (_ :: _) => true
  | _ => false
def okSort (ds : List D) : Bool := decide (ds.length ≤ line) && ds.all (fun d => (toP d).isSome && isTup' (pOf d) && decide ((pOf d).depth ≤ 64)) && ds.all fun a => ds.all fun b => PySem.W.alike (pOf a) (pOf b)
def sortTD : List D → M D
  | [.lst ds] => chk (okSort ds) (ret (.lst (sortP ds)))
  | _ => nope
/-- a value, what it is in the machine, its data -/
structure Tri where
  v : V
  u : Value
  d : D
abbrev Tri.p (z : Tri) : PyData := pOf z.d
def tris : List V → List Value → List D → List Tri
  | v :: vs, u :: us, d :: ds => ⟨v, u, d⟩ :: tris vs us ds
  | _, _, _ => []
section
variable {X : Cx} {W : WX}
theorem tris_len : ∀ {vs : List V} {us : List Value} {ds : List D}, vs.length = us.length → us.length = ds.length → (tris vs us ds).length = ds.length
  | [], [], [], _, _ => rfl
  | v :: vs, u :: us, d :: ds, h1, h2 => congrArg (· + 1) (tris_len (Nat.succ.inj h1) (Nat.succ.inj h2))
theorem tris_d : ∀ {vs : List V} {us : List Value} {ds : List D}, vs.length = us.length → us.length = ds.length → (tris vs us ds).map Tri.d = ds
  | [], [], [], _, _ => rfl
  | v :: vs, u :: us, d :: ds, h1, h2 => congrArg (d :: ·) (tris_d (Nat.succ.inj h1) (Nat.succ.inj h2))
theorem tris_all {K : PySem.W.Frag} {mg : Str → Option Value} {w : Wd} : ∀ {vs : List V} {us : List Value} {ds : List D}, Dens K mg w vs ds → Vals vs us → ∀ z ∈ tris vs us ds, RelV z.v z.u ∧ Den K mg w z.v z.d ∧ z.d ∈ ds
  | _, _, _, .nil, .nil, z, h => by cases h
  | _, _, _, .cons q qs, .cons r rs, z, h => by
    rcases List.mem_cons.mp h with rfl | h
    · exact ⟨r, q, List.mem_cons_self⟩
    · obtain ⟨h1, h2, h3⟩ := tris_all qs rs z h
      exact ⟨h1, h2, List.mem_cons_of_mem _ h3⟩
theorem tris_each : ∀ {vs : List V} {us : List Value} {ds : List D}, vs.length = us.length → us.length = ds.length → PySem.W.EachIs (fun v z => v = Tri.u z) us (tris vs us ds)
  | [], [], [], _, _ => .nil
  | v :: vs, u :: us, d :: ds, h1, h2 => .cons rfl (tris_each (Nat.succ.inj h1) (Nat.succ.inj h2))
theorem each_memT {R : Value → Tri → Prop} : ∀ {us : List Value} {zs : List Tri}, PySem.W.EachIs R us zs → PySem.W.EachIs (fun v z => R v z ∧ z ∈ zs) us zs
  | _, _, .nil => .nil
  | _, _, .cons h t => .cons ⟨h, List.mem_cons_self⟩ ((each_memT t).mono fun v z q => ⟨q.1, List.mem_cons_of_mem _ q.2⟩)
theorem tri_vals : ∀ {us : List Value} {zs : List Tri}, PySem.W.EachIs (fun v z => v = z.u ∧ RelV z.v z.u) us zs → Vals (zs.map Tri.v) us
  | _, _, .nil => .nil
  | _, _, .cons h t => by
    obtain ⟨rfl, r⟩ := h
    exact .cons r (tri_vals t)
theorem sort_tri (zs : List Tri) : (zs.mergeSort (PySem.W.dataLe false Tri.p)).map Tri.d = sortP (zs.map Tri.d) := by
  unfold sortP
  exact List.map_mergeSort (r := PySem.W.dataLe false Tri.p) (s := PySem.W.dataLe false pOf) (f := Tri.d) (l := zs) (fun a _ b _ => rfl)
theorem cf_sortT (hc : X.calm = true) (hu : X.A.units + 100 < cLine) : CallF X W (.builtin "sorted") sortTD := by
  intro pins s σ H xs us Q I r h
  obtain ⟨w, e, σ', ds, rfl, rel, l, g⟩ := h
  unfold sortTD at g
  split at g
  · rename_i ds'
    obtain ⟨hk, g⟩ := chk_of g
    obtain ⟨v, rfl, l1⟩ := l.one
    obtain ⟨a, ys, rfl, h1, h2⟩ := l1.lst
    obtain ⟨u, rfl, ru⟩ := vals1 r
    obtain rfl : u = Value.ref a := ru
    obtain ⟨its, rv, hl, hz⟩ := I.list (SqL.of h1)
    unfold okSort at hk
    rw [Bool.and_eq_true, Bool.and_eq_true] at hk
    obtain ⟨⟨k1, k2⟩, k3⟩ := hk
    have k1 : ds'.length ≤ line := of_decide_eq_true k1
    have k2 : ∀ d ∈ ds', ((toP d).isSome = true ∧ isTup' (pOf d) = true) ∧ (pOf d).depth ≤ 64 := fun d hd => by
      have := List.all_eq_true.mp k2 d hd
      rw [Bool.and_eq_true, Bool.and_eq_true] at this
      exact ⟨this.1, of_decide_eq_true this.2⟩
    have k3 : ∀ a ∈ ds', ∀ b ∈ ds', PySem.W.alike (pOf a) (pOf b) = true := fun a ha b hb => List.all_eq_true.mp (List.all_eq_true.mp k3 a ha) b hb
    have e1 : ys.length = its.length := rv.length
    have e2 : ys.length = ds'.length := h2.length
    have hall := tris_all h2 rv
    have tl := tris_len (vs := ys) (us := its) (ds := ds') e1 (by omega)
    have td := tris_d (vs := ys) (us := its) (ds := ds') e1 (by omega)
    have te := tris_each (vs := ys) (us := its) (ds := ds') e1 (by omega)
    generalize tris ys its ds' = zs at hall tl td te
    have hE : PySem.W.EachIs (fun v z => (v = Tri.u z ∧ RelV z.v z.u) ∧ z ∈ zs) its zs := (each_memT te).mono fun v z q => ⟨⟨q.1, (hall z q.2).1⟩, q.2⟩
    refine PySem.W.sorted_data (R := fun v z => (v = Tri.u z ∧ RelV z.v z.u) ∧ z ∈ zs) (enc := Tri.p) (vs := its) (bs := zs) hl.isList hE (hE.mono fun v z q => ?_) (fun d hd d' hd' => ?_) (.inl fun d hd => ?_) (by rw [tl, line_eq]; exact k1) (fun z hz => ?_) fun out hlen hout => ?_
    · obtain ⟨⟨rfl, rz⟩, hz⟩ := q
      obtain ⟨_, q2, q3⟩ := hall z hz
      obtain ⟨p, hp⟩ := Option.isSome_iff_exists.mp (k2 z.d q3).1.1
      have : Tri.p z = p := by show pOf z.d = p; unfold pOf; rw [hp]; rfl
      rw [this]
      exact Dp.reads I p z.v z.u (q2.dp hp) rz
    · obtain ⟨z, hz, rfl⟩ := List.mem_map.mp hd
      obtain ⟨z', hz', rfl⟩ := List.mem_map.mp hd'
      exact k3 _ (hall z hz).2.2 _ (hall z' hz').2.2
    · obtain ⟨z, hz, rfl⟩ := List.mem_map.mp hd
      have := (k2 _ (hall z hz).2.2).1.2
      unfold isTup' at this
      split at this
      · rename_i x r e
        exact ⟨x, r, e⟩
      · cases this
    · have := (k2 _ (hall z hz).2.2).2
      show X.A.units + 2 + (pOf z.d).depth < cLine
      omega
    · obtain ⟨c, hc'⟩ := PyProof.Rows.sortedAll_at s.heap its out.toArray
      have hperm : (zs.mergeSort (PySem.W.dataLe false Tri.p)).Perm zs := List.mergeSort_perm _ _
      have hv := tri_vals (hout.mono fun _ _ q => q.1)
      have hn : w.H (s.heap.objs.size + 1) = none := I.hok.fresh (Nat.le_succ _)
      have hd : Dens X.K X.mg w ((zs.mergeSort (PySem.W.dataLe false Tri.p)).map Tri.v) (sortP ds') := by
        rw [← td, ← sort_tri]
        have : ∀ zz : List Tri, (∀ z ∈ zz, z ∈ zs) → Dens X.K X.mg w (zz.map Tri.v) (zz.map Tri.d) := by
          intro zz
          induction zz with
          | nil => intro _; exact .nil
          | cons z zz ih => intro h; exact .cons (hall z (h z List.mem_cons_self)).2.1 (ih fun q hq => h q (List.mem_cons_of_mem _ hq))
        exact this _ fun z hz => hperm.mem_iff.mp hz
      refine ⟨.ref (s.heap.objs.size + 1), _, I.laid (t' := s.toks) (o := .lst ((zs.mergeSort (PySem.W.dataLe false Tri.p)).map Tri.v)) (fun _ _ => PyProof.Rows.sortedAll_old) (Nat.le_succ _) ⟨?_, out, _, hv, hc'⟩, rfl, ?_⟩
      · rw [List.length_map, hperm.length_eq, tl, line_eq]; exact k1
      · exact goes_newF rel g hn (new_lstF rel.wf hn hd)
  · exact g.elim
/-! ### repr(a bool, an int) -/
def reprD : List D → M D
  | [.bl b] => ret (.str (if b then "True" else "False"))
  | [.int i] => chk (decide (i.natAbs.log2 < 1920)) (ret (.str (toString i)))
  | _ => nope
theorem cv_repr : CallV X W (.builtin "repr") reprD := by
  intro pins s σ H xs us Q I r h
  obtain ⟨w, e, σ', ds, rfl, rel, l, g⟩ := h
  unfold reprD at g
  split at g
  · obtain ⟨v, rfl, l1⟩ := l.one
    obtain rfl := l1.bl
    obtain ⟨u, rfl, ru⟩ := vals1 r
    obtain rfl : u = Value.bool _ := ru
    exact PySem.P.repr_of_bool ⟨.str _, _, I.tok _, ⟨_, rfl⟩, Goes.ok g rel (.str _)⟩
  · obtain ⟨v, rfl, l1⟩ := l.one
    obtain ⟨hc, g⟩ := chk_of g
    obtain rfl := l1.int
    obtain ⟨u, rfl, t, rfl⟩ := vals1 r
    exact PySem.P.repr_of_int (of_decide_eq_true hc) ⟨.str _, _, I.tok _, ⟨_, rfl⟩, Goes.ok g rel (.str _)⟩
  · exact g.elim
end
end VL
namespace VL
open PySem PySem.Spec PyProof.Rows L2
variable [Tb]
/-! ### xs + ys: a new list -/
def addLD : D → D → M D
  | .lst xs, .lst ys => chk (decide (xs.length + ys.length ≤ line)) (ret (.lst (xs ++ ys)))
  | _, _ => nope
section
variable {X : Cx} {W : WX}
def rOpF (X : Cx) (W : WX) (g : D → D → M D) : R2 := fun x y H Q => ∃ w e σ d d', w.H = H ∧ Rel X.K X.mg w e σ ∧ Look X.K X.mg w x d ∧ Look X.K X.mg w y d' ∧ Goes X.K X.mg W σ (rF X.K X.mg σ) w (g d d' e) Q
theorem of_addL : OpR X (binaryOp .Add) (rOpF X W addLD) := by
  intro pins s σ H x y v u Q I rx ry h
  obtain ⟨w, e, σ', d, d', rfl, rel, l, l', g⟩ := h
  unfold addLD at g
  split at g
  · obtain ⟨hc, g⟩ := chk_of g
    obtain ⟨a, xs, rfl, h1, h2⟩ := l.lst
    obtain ⟨b, ys, rfl, h3, h4⟩ := l'.lst
    refine op_cat pins s σ _ _ _ v u Q I rx ry ⟨_, _, xs, ys, rfl, rfl, h1, h3, by rw [line_eq, h2.length, h4.length]; exact of_decide_eq_true hc, fun p hp => ?_⟩
    exact goes_newF rel g hp (new_lstF rel.wf hp (h2.append h4))
  · exact g.elim
theorem vf_add {a b : Expr} {fa fb : M Op} {pos : Pos} (ha : VB X W a fa) (hb : VB X W b fb) : VF X W (.BinOp a .Add b pos) (op2 fa fb addLD) :=
  PE.imp (pe_op of_addL ha hb) fun σ H Q h => imp2 (r := rOpF X W addLD) (fun w e σ x y d d' Q r l l' g => ⟨w, e, σ, d, d', rfl, r, l, l', g⟩) h
end
end VL
namespace VL
open PySem PySem.Spec PyProof.Rows L2
/-! ### lists of pairs, keys texts -/
abbrev Ls := List (Str × Int)
abbrev LL := List (Str × Ls)
section
variable {α β : Type}
def lkp (l : List (Str × α)) (x : Str) : Option α := (l.find? fun p => decide (p.1 = x)).map (·.2)
def put (l : List (Str × α)) (k : Str) (v : α) : List (Str × α) := if (l.any fun p => decide (p.1 = k)) = true then l.map fun p => if p.1 = k then (p.1, v) else p else l ++ [(k, v)]
def drp (l : List (Str × α)) (k : Str) : List (Str × α) := l.filter fun p => decide (p.1 ≠ k)
abbrev ks (l : List (Str × α)) : List Str := l.map (·.1)
theorem ks_cons (p : Str × α) (l : List (Str × α)) : ks (p :: l) = p.1 :: ks l := rfl
theorem ks_mem {l : List (Str × α)} {p : Str × α} (h : p ∈ l) : p.1 ∈ ks l := List.mem_map_of_mem (f := fun p : Str × α => p.1) h
theorem lkp_nil (x : Str) : lkp ([] : List (Str × α)) x = none := rfl
theorem lkp_cons (p : Str × α) (l : List (Str × α)) (x : Str) : lkp (p :: l) x = if p.1 = x then some p.2 else lkp l x := by
  unfold lkp
  by_cases h : p.1 = x
  · rw [List.find?_cons_of_pos (by simpa using h), if_pos h]; rfl
  · rw [List.find?_cons_of_neg (by simpa using h), if_neg h]
theorem lkp_none {l : List (Str × α)} {x : Str} : lkp l x = none ↔ x ∉ ks l := by
  induction l with
  | nil => simp [lkp_nil]
  | cons p l ih =>
    rw [lkp_cons, ks_cons, List.mem_cons]
    by_cases h : p.1 = x
    · rw [if_pos h]; simp [h]
    · rw [if_neg h, ih]
      simp only [not_or]
      exact ⟨fun z => ⟨fun e => h e.symm, z⟩, fun z => z.2⟩
theorem lkp_mem {l : List (Str × α)} {x : Str} {v : α} (h : lkp l x = some v) : (x, v) ∈ l := by
  induction l with
  | nil => cases h
  | cons p l ih =>
    rw [lkp_cons] at h
    by_cases e : p.1 = x
    · rw [if_pos e] at h
      cases h
      subst e
      exact List.mem_cons_self
    · rw [if_neg e] at h
      exact List.mem_cons_of_mem _ (ih h)
theorem lkp_of {l : List (Str × α)} (hn : (ks l).Nodup) {x : Str} {v : α} (h : (x, v) ∈ l) : lkp l x = some v := by
  induction l with
  | nil => cases h
  | cons p l ih =>
    rw [lkp_cons]
    have hn' := List.nodup_cons.mp (show (p.1 :: ks l).Nodup from hn)
    rcases List.mem_cons.mp h with e | h
    · rw [← e, if_pos rfl]
    · have hx : x ∈ ks l := ks_mem h
      rw [if_neg fun e => hn'.1 (by rw [e]; exact hx)]
      exact ih hn'.2 h
theorem any_ks (l : List (Str × α)) (k : Str) : (l.any fun p => decide (p.1 = k)) = true ↔ k ∈ ks l := by
  rw [List.any_eq_true]
  constructor
  · rintro ⟨p, h1, h2⟩
    rw [← of_decide_eq_true h2]
    exact ks_mem h1
  · intro h
    obtain ⟨p, h1, rfl⟩ := List.mem_map.mp h
    exact ⟨p, h1, decide_eq_true rfl⟩
theorem put_old {l : List (Str × α)} {k : Str} {v : α} (h : k ∈ ks l) : put l k v = l.map fun p => if p.1 = k then (p.1, v) else p := if_pos ((any_ks l k).mpr h)
theorem put_new {l : List (Str × α)} {k : Str} {v : α} (h : k ∉ ks l) : put l k v = l ++ [(k, v)] := if_neg fun z => h ((any_ks l k).mp z)
theorem ks_put_old {l : List (Str × α)} {k : Str} {v : α} (h : k ∈ ks l) : ks (put l k v) = ks l := by
  rw [put_old h]
  show List.map _ (List.map _ l) = _
  rw [List.map_map]
  refine List.map_congr_left fun p _ => ?_
  show (if p.1 = k then (p.1, v) else p).1 = p.1
  split <;> rfl
theorem ks_put_new {l : List (Str × α)} {k : Str} {v : α} (h : k ∉ ks l) : ks (put l k v) = ks l ++ [k] := by rw [put_new h]; exact List.map_append
theorem ks_put_nd {l : List (Str × α)} {k : Str} {v : α} (hn : (ks l).Nodup) : (ks (put l k v)).Nodup := by
  by_cases h : k ∈ ks l
  · rw [ks_put_old h]; exact hn
  · rw [ks_put_new h]
    refine List.nodup_append.mpr ⟨hn, by simp, fun a ha b hb e => ?_⟩
    rw [List.mem_singleton] at hb
    subst hb e
    exact h ha
theorem mem_ks_put {l : List (Str × α)} {k x : Str} {v : α} : x ∈ ks (put l k v) ↔ x ∈ ks l ∨ x = k := by
  by_cases h : k ∈ ks l
  · rw [ks_put_old h]
    exact ⟨.inl, fun z => z.elim _root_.id fun e => e ▸ h⟩
  · rw [ks_put_new h, List.mem_append, List.mem_singleton]
theorem lkp_append (l m : List (Str × α)) (x : Str) : lkp (l ++ m) x = (lkp l x).or (lkp m x) := by
  induction l with
  | nil => rfl
  | cons p l ih =>
    rw [List.cons_append, lkp_cons, lkp_cons]
    by_cases e : p.1 = x
    · rw [if_pos e, if_pos e]; rfl
    · rw [if_neg e, if_neg e, ih]
theorem lkp_put (l : List (Str × α)) (k x : Str) (v : α) : lkp (put l k v) x = if x = k then some v else lkp l x := by
  by_cases h : k ∈ ks l
  · rw [put_old h]
    by_cases e : x = k
    · rw [if_pos e]
      subst e
      induction l with
      | nil => cases h
      | cons p l ih =>
        rw [List.map_cons, lkp_cons]
        by_cases e : p.1 = x
        · rw [if_pos e, if_pos e]
        · rw [if_neg e, if_neg e]
          exact ih ((List.mem_cons.mp h).resolve_left fun z => e z.symm)
    · rw [if_neg e]
      clear h
      induction l with
      | nil => rfl
      | cons p l ih =>
        rw [List.map_cons, lkp_cons, lkp_cons, ih]
        by_cases e2 : p.1 = k
        · rw [if_pos e2, if_neg (fun z => e (z.symm.trans e2)), if_neg (fun z => e (z.symm.trans e2))]
        · rw [if_neg e2]
  · rw [put_new h, lkp_append, lkp_cons, lkp_nil]
    by_cases e : x = k
    · rw [if_pos e, if_pos e.symm]
      subst e
      rw [lkp_none.mpr h]
      rfl
    · rw [if_neg e, if_neg fun z => e z.symm]
      cases lkp l x <;> rfl
end
/-! ### sums over such lists -/
def S (F : Ls) (w : Str → Int) : Int := (F.map fun p => p.2 * w p.1).sum
theorem S_nil (w : Str → Int) : S [] w = 0 := rfl
theorem S_cons (p : Str × Int) (F : Ls) (w : Str → Int) : S (p :: F) w = p.2 * w p.1 + S F w := by unfold S; rw [List.map_cons, List.sum_cons]
theorem S_append (F F' : Ls) (w : Str → Int) : S (F ++ F') w = S F w + S F' w := by unfold S; rw [List.map_append, List.sum_append]
theorem S_congr {F : Ls} {w w' : Str → Int} (h : ∀ p ∈ F, w p.1 = w' p.1) : S F w = S F w' := by
  induction F with
  | nil => rfl
  | cons p F ih => rw [S_cons, S_cons, h p List.mem_cons_self, ih fun q hq => h q (List.mem_cons_of_mem _ hq)]
theorem S_zero {F : Ls} {w : Str → Int} (h : ∀ p ∈ F, w p.1 = 0) : S F w = 0 := by
  induction F with
  | nil => rfl
  | cons p F ih => rw [S_cons, h p List.mem_cons_self, ih fun q hq => h q (List.mem_cons_of_mem _ hq)]; simp
theorem S_put {F : Ls} {w : Str → Int} {k : Str} {o v : Int} (hn : (ks F).Nodup) (h : lkp F k = some o) : S (put F k v) w = S F w + (v - o) * w k := by
  have hk : k ∈ ks F := by
    by_cases e : k ∈ ks F
    · exact e
    · rw [lkp_none.mpr e] at h; cases h
  rw [put_old hk]
  induction F with
  | nil => cases h
  | cons p F ih =>
    have hn' := List.nodup_cons.mp (show (p.1 :: ks F).Nodup from hn)
    rw [lkp_cons] at h
    rw [List.map_cons, S_cons, S_cons]
    by_cases e : p.1 = k
    · rw [if_pos e] at h
      cases h
      rw [if_pos e]
      have e2 : (F.map fun q => if q.1 = k then (q.1, v) else q) = F := by
        refine (List.map_congr_left fun q hq => ?_).trans (List.map_id F)
        have h2 := ks_mem hq
        exact if_neg fun z => hn'.1 (by rw [e, ← z]; exact h2)
      rw [e2]
      show v * w p.1 + S F w = _
      rw [e, Int.sub_mul]
      omega
    · rw [if_neg e] at h
      rw [if_neg e, ih hn'.2 h ((List.mem_cons.mp hk).resolve_left fun z => e z.symm)]
      omega
/-- found.get(k, 0) + a -/
def addTo (F : Ls) (k : Str) (a : Int) : Ls := put F k ((lkp F k).getD 0 + a)
theorem S_addTo {F : Ls} {w : Str → Int} {k : Str} {a : Int} (hn : (ks F).Nodup) : S (addTo F k a) w = S F w + a * w k := by
  unfold addTo
  cases h : lkp F k with
  | some o =>
    rw [S_put hn h]
    show S F w + (o + a - o) * w k = _
    rw [show o + a - o = a by omega]
  | none =>
    rw [put_new (lkp_none.mp h), S_append, S_cons, S_nil]
    show S F w + ((0 + a) * w k + 0) = _
    rw [Int.zero_add, Int.add_zero]
theorem S_drp {F : Ls} {w : Str → Int} {k : Str} (hn : (ks F).Nodup) : S (drp F k) w + (lkp F k).getD 0 * w k = S F w := by
  induction F with
  | nil => show (0 : Int) + 0 * _ = 0; omega
  | cons p F ih =>
    have hn' := List.nodup_cons.mp (show (p.1 :: ks F).Nodup from hn)
    rw [lkp_cons, S_cons]
    by_cases e : p.1 = k
    · rw [if_pos e]
      have e2 : drp (p :: F) k = F := by
        unfold drp
        rw [List.filter_cons_of_neg (by simpa using e)]
        exact List.filter_eq_self.mpr fun q hq => decide_eq_true fun (z : q.1 = k) => hn'.1 (by rw [e, ← z]; exact ks_mem hq)
      rw [e2, e]
      show S F w + p.2 * w k = _
      omega
    · rw [if_neg e]
      have e2 : drp (p :: F) k = p :: drp F k := List.filter_cons_of_pos (by simpa using e)
      rw [e2, S_cons]
      have := ih hn'.2
      omega
/-- all at once -/
def addAll (F : Ls) (ls : Ls) (a : Int) : Ls := ls.foldl (fun F p => addTo F p.1 (a * p.2)) F
theorem addTo_nd {F : Ls} {k : Str} {a : Int} (hn : (ks F).Nodup) : (ks (addTo F k a)).Nodup := ks_put_nd hn
theorem addAll_nd : ∀ {ls : Ls} {F : Ls} {a : Int}, (ks F).Nodup → (ks (addAll F ls a)).Nodup
  | [], _, _, h => h
  | p :: ls, F, a, h => addAll_nd (ls := ls) (F := addTo F p.1 (a * p.2)) (addTo_nd h)
theorem S_addAll {w : Str → Int} {a : Int} : ∀ {ls : Ls} {F : Ls}, (ks F).Nodup → S (addAll F ls a) w = S F w + a * S ls w
  | [], F, _ => by show S F w = S F w + a * 0; omega
  | p :: ls, F, h => by
    show S (addAll (addTo F p.1 (a * p.2)) ls a) w = _
    rw [S_addAll (addTo_nd h), S_addTo h, S_cons, Int.mul_add, Int.mul_assoc]
    omega
theorem S_unit {F : Ls} {z : Str} (hn : (ks F).Nodup) : S F (fun y => if y = z then 1 else 0) = (lkp F z).getD 0 := by
  induction F with
  | nil => rfl
  | cons p F ih =>
    have hn' := List.nodup_cons.mp (show (p.1 :: ks F).Nodup from hn)
    rw [S_cons, lkp_cons]
    by_cases e : p.1 = z
    · rw [if_pos e, if_pos e]
      rw [S_zero fun q hq => if_neg fun (e2 : q.1 = z) => hn'.1 (by rw [e, ← e2]; exact ks_mem hq)]
      show p.2 * 1 + 0 = p.2
      omega
    · rw [if_neg e, if_neg e, ih hn'.2]
      omega
/-! ### the weight of all ways from x to z -/
def G (L : LL) : Nat → Str → Str → Int
  | 0, _, _ => 0
  | n + 1, x, z => match lkp L x with
    | none => if x = z then 1 else 0
    | some ls => S ls fun y => G L n y z
/-- r falls along every line -/
def Rk (L : LL) (r : Str → Nat) : Prop := ∀ x ls, lkp L x = some ls → ∀ p ∈ ls, r p.1 < r x
theorem G_stab {L : LL} {r : Str → Nat} (h : Rk L r) (z : Str) : ∀ (n m : Nat) (x : Str), r x < n → r x < m → G L n x z = G L m x z
  | 0, _, _, h1, _ => by omega
  | _ + 1, 0, _, _, h2 => by omega
  | n + 1, m + 1, x, h1, h2 => by
    unfold G
    cases e : lkp L x with
    | none => rfl
    | some ls =>
      refine S_congr fun p hp => ?_
      have := h x ls e p hp
      exact G_stab h z n m p.1 (by omega) (by omega)
def gw (L : LL) (r : Str → Nat) (x z : Str) : Int := G L (r x + 1) x z
theorem G_raw {L : LL} {x z : Str} (h : lkp L x = none) (n : Nat) : G L (n + 1) x z = if x = z then 1 else 0 := by
  unfold G
  rw [h]
theorem G_ls {L : LL} {x z : Str} {ls : Ls} (h : lkp L x = some ls) (n : Nat) : G L (n + 1) x z = S ls fun y => G L n y z := by
  rw [G]
  rw [h]
theorem gw_raw {L : LL} {r : Str → Nat} {x z : Str} (h : lkp L x = none) : gw L r x z = if x = z then 1 else 0 := G_raw h _
theorem gw_list {L : LL} {r : Str → Nat} (hr : Rk L r) {x z : Str} {ls : Ls} (h : lkp L x = some ls) : gw L r x z = S ls fun y => gw L r y z := by
  refine (G_ls h _).trans (S_congr fun p hp => ?_)
  have := hr x ls h p hp
  exact G_stab hr z (r x) (r p.1 + 1) p.1 this (Nat.lt_succ_self _)
end VL
namespace VL
open PySem PySem.Spec PyProof.Rows L2
variable [Tb]
/-! ### the explosion in order -/
def val (F : Ls) (x : Str) : Int := (lkp F x).getD 0
theorem val_addTo (F : Ls) (k x : Str) (a : Int) : val (addTo F k a) x = if x = k then val F k + a else val F x := by
  unfold val addTo
  rw [lkp_put]
  by_cases e : x = k
  · rw [if_pos e, if_pos e]; rfl
  · rw [if_neg e, if_neg e]
theorem val_addAll {x : Str} {a : Int} : ∀ {ls F : Ls}, (∀ p ∈ ls, p.1 ≠ x) → val (addAll F ls a) x = val F x
  | [], _, _ => rfl
  | p :: ls, F, h => by
    show val (addAll (addTo F p.1 (a * p.2)) ls a) x = _
    rw [val_addAll fun q hq => h q (List.mem_cons_of_mem _ hq), val_addTo, if_neg fun e => h p List.mem_cons_self e.symm]
theorem ks_addTo {F : Ls} {k : Str} {a : Int} (h : k ∈ ks F) : ks (addTo F k a) = ks F := ks_put_old h
theorem ks_addAll {a : Int} : ∀ {ls F : Ls}, (∀ p ∈ ls, p.1 ∈ ks F) → ks (addAll F ls a) = ks F
  | [], _, _ => rfl
  | p :: ls, F, h => by
    have e := ks_addTo (a := a * p.2) (h p List.mem_cons_self)
    show ks (addAll (addTo F p.1 (a * p.2)) ls a) = _
    rw [ks_addAll fun q hq => by rw [e]; exact h q (List.mem_cons_of_mem _ hq), e]
theorem S_kill {F : Ls} {w : Str → Int} {k : Str} (hn : (ks F).Nodup) : S F (fun y => if y = k then 0 else w y) = S F w - val F k * w k := by
  have h1 := S_drp (w := w) (k := k) hn
  have h2 := S_drp (w := fun y => if y = k then 0 else w y) (k := k) hn
  have h3 : S (drp F k) (fun y => if y = k then 0 else w y) = S (drp F k) w := S_congr fun p hp => if_neg (of_decide_eq_true (List.mem_filter.mp hp).2)
  rw [h3, show (if k = k then (0 : Int) else w k) = 0 from if_pos rfl, Int.mul_zero] at h2
  unfold val
  omega
def step (L : LL) (F : Ls) (k : Str) : Ls := addAll F ((lkp L k).getD []) (val F k)
def run (L : LL) (o : List Str) (F : Ls) : Ls := o.foldl (step L) F
def Topo (L : LL) : List Str → List Str → Prop
  | _, [] => True
  | done, k :: o => k ∉ done ∧ (∀ ls, lkp L k = some ls → ∀ p ∈ ls, p.1 ∉ done ∧ p.1 ≠ k) ∧ Topo L (k :: done) o
/-- every line is known -/
def Cl (L : LL) (K : List Str) : Prop := ∀ x ls, lkp L x = some ls → ∀ p ∈ ls, p.1 ∈ K
theorem ks_step {L : LL} {F : Ls} {K : List Str} (h : Cl L K) (hk : ks F = K) (k : Str) : ks (step L F k) = K := by
  unfold step
  cases e : lkp L k with
  | none => exact hk
  | some ls => exact (ks_addAll fun p hp => by rw [hk]; exact h k ls e p hp).trans hk
theorem ks_run {L : LL} {K : List Str} (h : Cl L K) : ∀ {o : List Str} {F : Ls}, ks F = K → ks (run L o F) = K
  | [], _, hk => hk
  | k :: o, F, hk => ks_run (F := step L F k) (o := o) h (ks_step h hk k)
def wt (L : LL) (r : Str → Nat) (z : Str) (done : List Str) (y : Str) : Int := if y ∈ done ∧ lkp L y ≠ none then 0 else gw L r y z
theorem step_S {L : LL} {r : Str → Nat} {z k : Str} {done K : List Str} {F : Ls} (hr : Rk L r) (hc : Cl L K) (hk : ks F = K) (hn : K.Nodup) (h1 : k ∉ done) (h2 : ∀ ls, lkp L k = some ls → ∀ p ∈ ls, p.1 ∉ done ∧ p.1 ≠ k) :
    S (step L F k) (wt L r z (k :: done)) = S F (wt L r z done) := by
  have hn' : (ks F).Nodup := by rw [hk]; exact hn
  unfold step
  cases e : lkp L k with
  | none =>
    refine S_congr fun p _ => ?_
    unfold wt
    by_cases hp : p.1 = k
    · rw [if_neg fun z => z.2 (by rw [hp]; exact e), if_neg fun z => z.2 (by rw [hp]; exact e)]
    · simp only [List.mem_cons, hp, false_or]
  | some ls =>
    have hl := h2 ls e
    show S (addAll F ls (val F k)) _ = _
    have e1 : ∀ F' : Ls, S F' (wt L r z (k :: done)) = S F' (fun y => if y = k then 0 else wt L r z done y) := fun F' => S_congr fun p _ => by
      unfold wt
      by_cases hp : p.1 = k
      · rw [if_pos hp, if_pos ⟨List.mem_cons.mpr (.inl hp), by rw [hp, e]; simp⟩]
      · rw [if_neg hp]
        simp only [List.mem_cons, hp, false_or]
    have e2 : S ls (wt L r z done) = gw L r k z := by
      rw [gw_list hr e]
      exact S_congr fun p hp => if_neg fun y => (hl p hp).1 y.1
    have e3 : wt L r z done k = gw L r k z := if_neg fun y => h1 y.1
    rw [e1, S_kill (addAll_nd hn'), S_addAll hn', val_addAll fun p hp => (hl p hp).2, e2, e3]
    omega
theorem run_S {L : LL} {r : Str → Nat} {z : Str} {K : List Str} (hr : Rk L r) (hc : Cl L K) (hn : K.Nodup) : ∀ {o done : List Str} {F : Ls}, ks F = K → Topo L done o → S (run L o F) (wt L r z (o.reverse ++ done)) = S F (wt L r z done)
  | [], _, _, _, _ => rfl
  | k :: o, done, F, hk, ⟨h1, h2, h3⟩ => by
    rw [List.reverse_cons, List.append_assoc]
    show S (run L o (step L F k)) (wt L r z (o.reverse ++ (k :: done))) = _
    rw [run_S hr hc hn (ks_step hc hk k) h3]
    exact step_S hr hc hk hn h1 h2
/-- what stands at a raw name at the end -/
theorem run_raw {L : LL} {r : Str → Nat} {K o : List Str} {name z : Str} {many : Int} (hr : Rk L r) (hc : Cl L K) (hn : K.Nodup) (ht : Topo L [] o) (ho : ∀ x ls, lkp L x = some ls → x ∈ o) (hname : name ∈ K) (hz : lkp L z = none) :
    val (run L o (put (K.map fun y => (y, (0 : Int))) name many)) z = many * gw L r name z := by
  have k0 : ks (K.map fun y => (y, (0 : Int))) = K := by
    show List.map _ (List.map _ _) = _
    rw [List.map_map]
    exact List.map_id K
  have hin : name ∈ ks (K.map fun y => (y, (0 : Int))) := by rw [k0]; exact hname
  have k1 : ks (put (K.map fun y => (y, (0 : Int))) name many) = K := (ks_put_old hin).trans k0
  have e1 := run_S (r := r) (z := z) hr hc hn (F := put (K.map fun y => (y, (0 : Int))) name many) k1 ht
  have hl : lkp (K.map fun y => (y, (0 : Int))) name = some 0 := lkp_of (by rw [k0]; exact hn) (List.mem_map.mpr ⟨name, hname, rfl⟩)
  have e2 : S (put (K.map fun y => (y, (0 : Int))) name many) (wt L r z []) = many * gw L r name z := by
    rw [S_put (by rw [k0]; exact hn) hl]
    have e3 : S (K.map fun y => (y, (0 : Int))) (wt L r z []) = 0 := by
      clear hname hl e1 k1 hin k0 hn hc
      induction K with
      | nil => rfl
      | cons y K ih => rw [List.map_cons, S_cons, ih]; omega
    have e4 : wt L r z [] name = gw L r name z := if_neg fun y => by cases y.1
    rw [e3, e4, Int.sub_zero]
    omega
  rw [e2, List.append_nil] at e1
  rw [← e1]
  have k2 := ks_run hc (o := o) k1
  have e5 := S_unit (F := run L o (put (K.map fun y => (y, (0 : Int))) name many)) (z := z) (by rw [k2]; exact hn)
  show (lkp _ z).getD 0 = _
  rw [← e5]
  symm
  refine S_congr fun p _ => ?_
  unfold wt
  cases e : lkp L p.1 with
  | none =>
    rw [if_neg fun y => y.2 rfl, gw_raw e]
  | some ls =>
    rw [if_pos ⟨List.mem_reverse.mpr (ho _ _ e), by simp⟩, if_neg fun y => by rw [y, hz] at e; cases e]
/-- an order by levels goes along the lines -/
theorem topo_of {L : LL} {t : Str → Int} (ht : ∀ x ls, lkp L x = some ls → ∀ p ∈ ls, t x < t p.1) : ∀ {o done : List Str}, (∀ d ∈ done, ∀ x ∈ o, t d ≤ t x) → o.Pairwise (fun x y => t x ≤ t y) → (∀ x ∈ o, x ∉ done) → o.Nodup → Topo L done o
  | [], _, _, _, _, _ => trivial
  | k :: o, done, h1, h2, h3, h4 => by
    obtain ⟨h5, h6⟩ := List.pairwise_cons.mp h2
    obtain ⟨h7, h8⟩ := List.nodup_cons.mp h4
    refine ⟨h3 k List.mem_cons_self, fun ls e p hp => ?_, topo_of ht (fun d hd x hx => ?_) h6 (fun x hx => ?_) h8⟩
    · have hlt := ht k ls e p hp
      exact ⟨fun z => by have := h1 _ z k List.mem_cons_self; omega, fun z => by rw [z] at hlt; omega⟩
    · rcases List.mem_cons.mp hd with rfl | hd
      · exact h5 x hx
      · exact h1 d hd x (List.mem_cons_of_mem _ hx)
    · intro z
      rcases List.mem_cons.mp z with rfl | z
      · exact h7 hx
      · exact h3 x (List.mem_cons_of_mem _ hx) z
/-! ### lists in order -/
theorem sorted_eq {X Y : Ls} (h1 : X.Pairwise fun p q => leS p.1 q.1) (h2 : Y.Pairwise fun p q => leS p.1 q.1) (n1 : (ks X).Nodup) (n2 : (ks Y).Nodup) (h : ∀ p, p ∈ X ↔ p ∈ Y) : X = Y := by
  have nd : ∀ {Z : Ls}, (ks Z).Nodup → Z.Nodup := fun {Z} hz => by
    induction Z with
    | nil => exact List.nodup_nil
    | cons p Z ih =>
      obtain ⟨a, b⟩ := List.nodup_cons.mp (show (p.1 :: ks Z).Nodup from hz)
      exact List.nodup_cons.mpr ⟨fun hp => a (ks_mem hp), ih b⟩
  refine List.Perm.eq_of_pairwise (le := fun p q => leS p.1 q.1) (fun p q hp hq a b => ?_) h1 h2 ((List.perm_ext_iff_of_nodup (nd n1) (nd n2)).mpr h)
  have e := leS_anti a b
  have hq' := (h q).mpr hq
  have z1 := lkp_of n1 (show (p.1, p.2) ∈ X from hp)
  have z2 := lkp_of n1 (show (q.1, q.2) ∈ X from hq')
  rw [e, z2] at z1
  exact Prod.ext e (Option.some.inj z1).symm
end VL
namespace VL
open PySem PySem.Spec PyProof.Rows L2
variable [Tb]
/-! ### good lists -/
structure Good (nm : List Str) (r : Str → Nat) (L : LL) : Prop where
  nd : (ks L).Nodup
  kn : ∀ x ∈ ks L, x ∈ nm
  rk : Rk L r
  ne : ∀ x ls, lkp L x = some ls → ls ≠ []
  ln : ∀ x ls, lkp L x = some ls → (ks ls).Nodup
  li : ∀ x ls, lkp L x = some ls → ∀ p ∈ ls, p.1 ∈ nm ∧ 1 ≤ p.2
theorem mem_ks_addAll {a : Int} {x : Str} : ∀ {ls F : Ls}, x ∈ ks (addAll F ls a) ↔ x ∈ ks F ∨ x ∈ ks ls
  | [], F => by show x ∈ ks F ↔ _; simp
  | p :: ls, F => by
    show x ∈ ks (addAll (addTo F p.1 (a * p.2)) ls a) ↔ _
    rw [mem_ks_addAll, ks_cons, List.mem_cons]
    unfold addTo
    rw [mem_ks_put, or_assoc]
theorem mem_ks_of_lkp {α : Type} {l : List (Str × α)} {x : Str} {v : α} (h : lkp l x = some v) : x ∈ ks l := ks_mem (lkp_mem h)
theorem lkp_of_mem_ks {α : Type} {l : List (Str × α)} {x : Str} (h : x ∈ ks l) : ∃ v, lkp l x = some v := by
  cases e : lkp l x with
  | none => exact absurd h (lkp_none.mp e)
  | some v => exact ⟨v, rfl⟩
theorem val_of {F : Ls} (hn : (ks F).Nodup) {p : Str × Int} (hp : p ∈ F) : val F p.1 = p.2 := by
  unfold val
  rw [lkp_of hn (show (p.1, p.2) ∈ F from hp)]
  rfl
theorem val_none {F : Ls} {x : Str} (h : x ∉ ks F) : val F x = 0 := by
  unfold val
  rw [lkp_none.mpr h]
  rfl
theorem pos_put {F : Ls} {k : Str} {v : Int} (h : ∀ p ∈ F, 1 ≤ p.2) (hv : 1 ≤ v) : ∀ p ∈ put F k v, 1 ≤ p.2 := fun p hp => by
  by_cases e : k ∈ ks F
  · rw [put_old e] at hp
    obtain ⟨q, hq, rfl⟩ := List.mem_map.mp hp
    split
    · exact hv
    · exact h q hq
  · rw [put_new e] at hp
    rcases List.mem_append.mp hp with hp | hp
    · exact h p hp
    · rw [List.mem_singleton.mp hp]
      exact hv
theorem val_nn {F : Ls} (h : ∀ p ∈ F, 1 ≤ p.2) (x : Str) : 0 ≤ val F x := by
  unfold val
  cases e : lkp F x with
  | none => exact Int.le_refl _
  | some v =>
    have := h _ (lkp_mem e)
    show 0 ≤ v
    omega
theorem pos_addAll {a : Int} (ha : 1 ≤ a) : ∀ {ls F : Ls}, (∀ p ∈ F, 1 ≤ p.2) → (∀ p ∈ ls, 1 ≤ p.2) → ∀ p ∈ addAll F ls a, 1 ≤ p.2
  | [], _, h, _ => h
  | q :: ls, F, h, h2 => by
    refine pos_addAll (ls := ls) (F := addTo F q.1 (a * q.2)) ha (pos_put h ?_) fun p hp => h2 p (List.mem_cons_of_mem _ hp)
    have h3 := val_nn h q.1
    have h4 : 1 ≤ a * q.2 := by
      have := h2 q List.mem_cons_self
      have := Int.mul_le_mul ha this (by omega) (by omega)
      omega
    unfold val at h3
    omega
theorem val_addAll' {a : Int} {z : Str} : ∀ {T F : Ls}, (ks T).Nodup → val (addAll F T a) z = val F z + a * val T z
  | [], F, _ => by show val F z = val F z + a * 0; omega
  | p :: T, F, h => by
    obtain ⟨h1, h2⟩ := List.nodup_cons.mp (show (p.1 :: ks T).Nodup from h)
    show val (addAll (addTo F p.1 (a * p.2)) T a) z = _
    rw [val_addAll' h2, val_addTo]
    by_cases e : z = p.1
    · rw [if_pos e]
      have e1 : val T z = 0 := val_none (by rw [e]; exact h1)
      have e2 : val (p :: T) z = p.2 := by unfold val; rw [lkp_cons, if_pos e.symm]; rfl
      rw [e1, e2, e]
      omega
    · rw [if_neg e]
      have e2 : val (p :: T) z = val T z := by unfold val; rw [lkp_cons, if_neg fun y => e y.symm]
      rw [e2]
/-! ### without one list -/
def wo1 (L : LL) (key : Str) (ls : Ls) : Ls := if 0 < val ls key then addAll (drp ls key) ((lkp L key).getD []) (val ls key) else drp ls key
def wo (L : LL) (key : Str) : LL := (drp L key).map fun p => (p.1, wo1 L key p.2)
theorem lkp_drp {α : Type} {l : List (Str × α)} {k x : Str} : lkp (drp l k) x = if x = k then none else lkp l x := by
  induction l with
  | nil => rw [show drp ([] : List (Str × α)) k = [] from rfl, lkp_nil]; split <;> rfl
  | cons p l ih =>
    by_cases e : p.1 = k
    · rw [show drp (p :: l) k = drp l k from List.filter_cons_of_neg (by simpa using e), ih, lkp_cons]
      by_cases e2 : x = k
      · rw [if_pos e2, if_pos e2]
      · rw [if_neg e2, if_neg e2, if_neg fun z => e2 (z.symm.trans e)]
    · rw [show drp (p :: l) k = p :: drp l k from List.filter_cons_of_pos (by simpa using e), lkp_cons, lkp_cons, ih]
      by_cases e2 : p.1 = x
      · rw [if_pos e2, if_pos e2, if_neg fun z => e (e2.trans z)]
      · rw [if_neg e2, if_neg e2]
theorem lkp_map {α β : Type} {l : List (Str × α)} {f : α → β} {x : Str} : lkp (l.map fun p => (p.1, f p.2)) x = (lkp l x).map f := by
  induction l with
  | nil => rfl
  | cons p l ih =>
    rw [List.map_cons, lkp_cons, lkp_cons, ih]
    split <;> rfl
theorem lkp_wo (L : LL) (key x : Str) : lkp (wo L key) x = if x = key then none else (lkp L x).map (wo1 L key) := by
  unfold wo
  rw [lkp_map, lkp_drp]
  split <;> rfl
theorem ks_drp {α : Type} (l : List (Str × α)) (k : Str) : ks (drp l k) = (ks l).filter fun x => decide (x ≠ k) := by
  unfold drp
  show List.map _ _ = List.filter _ (List.map _ _)
  rw [List.filter_map]
  rfl
theorem ks_wo (L : LL) (key : Str) : ks (wo L key) = ks (drp L key) := by
  unfold wo
  show List.map _ (List.map _ _) = _
  rw [List.map_map]
  rfl
theorem drp_nd {α : Type} {l : List (Str × α)} (k : Str) (h : (ks l).Nodup) : (ks (drp l k)).Nodup := by
  rw [ks_drp]
  exact h.filter _
theorem mem_drp {α : Type} {l : List (Str × α)} {k : Str} {p : Str × α} : p ∈ drp l k ↔ p ∈ l ∧ p.1 ≠ k := by
  unfold drp
  rw [List.mem_filter, decide_eq_true_iff]
section
variable {nm : List Str} {r : Str → Nat} {L : LL} {key : Str}
theorem wo1_mem (g : Good nm r L) {ls : Ls} {x y : Str} (hx : lkp L x = some ls) (h : y ∈ ks (wo1 L key ls)) : y ≠ key ∧ r y < r x ∧ y ∈ nm := by
  have base : ∀ {y}, y ∈ ks (drp ls key) → y ≠ key ∧ r y < r x ∧ y ∈ nm := fun {y} h => by
    obtain ⟨p, hp, rfl⟩ := List.mem_map.mp h
    obtain ⟨h1, h2⟩ := mem_drp.mp hp
    exact ⟨h2, g.rk x ls hx p h1, (g.li x ls hx p h1).1⟩
  unfold wo1 at h
  split at h
  · rename_i hb
    rcases mem_ks_addAll.mp h with h | h
    · exact base h
    · have hk : key ∈ ks ls := by
        by_cases e : key ∈ ks ls
        · exact e
        · rw [val_none e] at hb; omega
      obtain ⟨q, hq, e⟩ := List.mem_map.mp hk
      have h1 : r key < r x := by rw [← e]; exact g.rk x ls hx q hq
      cases e : lkp L key with
      | none => rw [e] at h; cases h
      | some lk =>
        rw [e] at h
        obtain ⟨p, hp, rfl⟩ := List.mem_map.mp (show y ∈ ks lk from h)
        have h2 := g.rk key lk e p hp
        exact ⟨fun z => by rw [z] at h2; omega, by omega, (g.li key lk e p hp).1⟩
  · exact base h
theorem wo_good (g : Good nm r L) {lk0 : Ls} (hkey : lkp L key = some lk0) : Good nm r (wo L key) := by
  have un : ∀ {x ls}, lkp (wo L key) x = some ls → x ≠ key ∧ ∃ l0, lkp L x = some l0 ∧ ls = wo1 L key l0 := fun {x ls} h => by
    rw [lkp_wo] at h
    split at h
    · cases h
    · rename_i hne
      obtain ⟨l0, h1, h2⟩ := Option.map_eq_some_iff.mp h
      exact ⟨hne, l0, h1, h2.symm⟩
  have n1 : ∀ {x l0}, lkp L x = some l0 → (ks (drp l0 key)).Nodup := fun {x l0} h => drp_nd key (g.ln x l0 h)
  refine ⟨by rw [ks_wo]; exact drp_nd key g.nd, fun x hx => ?_, fun x ls h p hp => ?_, fun x ls h => ?_, fun x ls h => ?_, fun x ls h p hp => ?_⟩
  · rw [ks_wo, ks_drp] at hx
    exact g.kn x (List.mem_filter.mp hx).1
  · obtain ⟨_, l0, h1, rfl⟩ := un h
    exact (wo1_mem g h1 (ks_mem hp)).2.1
  · obtain ⟨_, l0, h1, rfl⟩ := un h
    intro z
    have hne := g.ne x l0 h1
    have no : ∀ y, y ∉ ks (wo1 L key l0) := fun y hy => by rw [z] at hy; cases hy
    have hall : ∀ p ∈ l0, p.1 = key := fun p hp => by
      by_cases e : p.1 = key
      · exact e
      · exfalso
        refine no p.1 ?_
        have h2 := ks_mem (mem_drp.mpr ⟨hp, e⟩)
        unfold wo1
        split
        · exact mem_ks_addAll.mpr (.inl h2)
        · exact h2
    obtain ⟨p, l1, rfl⟩ := List.exists_cons_of_ne_nil hne
    have hp := hall p List.mem_cons_self
    have h3 := (g.li x _ h1 p List.mem_cons_self).2
    have hv : val (p :: l1) key = p.2 := by rw [← hp]; exact val_of (g.ln x _ h1) List.mem_cons_self
    have hrk := g.rk x _ h1 p List.mem_cons_self
    cases e : lkp L key with
    | none => rw [hkey] at e; cases e
    | some lk =>
      have hlk := g.ne key lk e
      obtain ⟨q, l2, rfl⟩ := List.exists_cons_of_ne_nil hlk
      refine no q.1 ?_
      unfold wo1
      rw [if_pos (by rw [hv]; omega)]
      refine mem_ks_addAll.mpr (.inr ?_)
      rw [e]
      exact ks_mem (show q ∈ q :: l2 from List.mem_cons_self)
  · obtain ⟨_, l0, h1, rfl⟩ := un h
    unfold wo1
    split
    · exact addAll_nd (n1 h1)
    · exact n1 h1
  · obtain ⟨_, l0, h1, rfl⟩ := un h
    refine ⟨(wo1_mem g h1 (ks_mem hp)).2.2, ?_⟩
    have b : ∀ p ∈ drp l0 key, 1 ≤ p.2 := fun p hp => (g.li x l0 h1 p (mem_drp.mp hp).1).2
    unfold wo1 at hp
    split at hp
    · rename_i hb
      refine pos_addAll (by omega) b ?_ p hp
      cases e : lkp L key with
      | none => intro p hp; cases hp
      | some lk => exact fun p hp => (g.li key lk e p hp).2
    · exact b p hp
theorem gw_wo (g : Good nm r L) {lk0 : Ls} (hkey : lkp L key = some lk0) {z : Str} (hz : z ≠ key) : ∀ (n : Nat) (x : Str), r x < n → x ≠ key → gw (wo L key) r x z = gw L r x z
  | 0, _, h, _ => by omega
  | n + 1, x, h, hx => by
    have g' := wo_good g hkey
    have e1 := lkp_wo L key x
    rw [if_neg hx] at e1
    cases e : lkp L x with
    | none =>
      rw [e] at e1
      rw [gw_raw e1, gw_raw e]
    | some ls =>
      rw [e] at e1
      have e1 : lkp (wo L key) x = some (wo1 L key ls) := e1
      rw [gw_list g'.rk e1, gw_list g.rk e]
      have e2 : S (wo1 L key ls) (fun y => gw (wo L key) r y z) = S (wo1 L key ls) fun y => gw L r y z := S_congr fun p hp => by
        obtain ⟨h1, h2, _⟩ := wo1_mem g e (ks_mem hp)
        exact gw_wo g hkey hz n p.1 (by omega) h1
      rw [e2]
      have hd := S_drp (w := fun y => gw L r y z) (k := key) (g.ln x ls e)
      have hn := drp_nd key (g.ln x ls e)
      have hv := val_nn (fun p hp => (g.li x ls e p hp).2) key
      have hv' : (lkp ls key).getD 0 = val ls key := rfl
      rw [hv'] at hd
      have hk : gw L r key z = S lk0 fun y => gw L r y z := gw_list g.rk hkey
      unfold wo1
      split
      · rw [hkey, S_addAll hn]
        show S (drp ls key) _ + val ls key * S lk0 _ = _
        rw [← hk]
        exact hd
      · have : val ls key = 0 := by omega
        rw [this, Int.zero_mul, Int.add_zero] at hd
        exact hd
/-! ### what the recursion tells -/
structure ER (L : LL) (r : Str → Nat) (nm : List Str) (x : Str) (many : Int) (R : Ls) : Prop where
  nd : (ks R).Nodup
  pos : ∀ p ∈ R, 1 ≤ p.2
  raw : ∀ y ∈ ks R, lkp L y = none ∧ y ∈ nm
  val : ∀ z, lkp L z = none → val R z = many * gw L r x z
theorem er_raw {x : Str} {many : Int} (h : lkp L x = none) (hx : x ∈ nm) (hm : 0 ≤ many) : ER L r nm x many (if 0 < many then [(x, many)] else []) := by
  refine ⟨?_, ?_, ?_, ?_⟩
  · split
    · exact List.nodup_cons.mpr ⟨fun z => (by cases z), List.nodup_nil⟩
    · exact List.nodup_nil
  · intro p hp
    split at hp
    · rw [List.mem_singleton.mp hp]; show 1 ≤ many; omega
    · cases hp
  · intro y hy
    split at hy
    · rw [List.mem_singleton.mp hy]; exact ⟨h, hx⟩
    · cases hy
  · intro z _
    rw [gw_raw h]
    split
    · show (lkp [(x, many)] z).getD 0 = _
      rw [lkp_cons, lkp_nil]
      split
      · show many = many * 1; omega
      · show (0 : Int) = many * 0; omega
    · have : many = 0 := by omega
      rw [this, Int.zero_mul]
      rfl
/-- one line more -/
theorem er_add {F T : Ls} {y : Str} {a : Int} {f : Str → Int} (n : (ks F).Nodup) (pos : ∀ p ∈ F, 1 ≤ p.2) (raw : ∀ y ∈ ks F, lkp L y = none ∧ y ∈ nm) (hv : ∀ z, lkp L z = none → val F z = f z) (t : ER L r nm y a T) :
    (ks (addAll F T 1)).Nodup ∧ (∀ p ∈ addAll F T 1, 1 ≤ p.2) ∧ (∀ y ∈ ks (addAll F T 1), lkp L y = none ∧ y ∈ nm) ∧ ∀ z, lkp L z = none → val (addAll F T 1) z = f z + a * gw L r y z := by
  refine ⟨addAll_nd n, pos_addAll (by omega) pos t.pos, fun x hx => ?_, fun z hz => ?_⟩
  · rcases mem_ks_addAll.mp hx with h | h
    · exact raw x h
    · exact t.raw x h
  · rw [val_addAll' t.nd, hv z hz, t.val z hz, Int.one_mul]
/-- the sorted lists agree -/
theorem er_eq {F R : Ls} {K : List Str} {x : Str} {many : Int} (hn : K.Nodup) (hk : ks F = K) (hF : ∀ z, lkp L z = none → val F z = many * gw L r x z) (t : ER L r nm x many R) (hsub : ∀ y ∈ ks R, y ∈ K) (p : Str × Int) :
    (p.1 ∈ K ∧ lkp L p.1 = none ∧ 0 < val F p.1 ∧ p.2 = val F p.1) ↔ p ∈ R := by
  constructor
  · rintro ⟨h1, h2, h3, h4⟩
    rw [hF _ h2, ← t.val _ h2] at h3 h4
    by_cases e : p.1 ∈ ks R
    · obtain ⟨q, hq, e2⟩ := List.mem_map.mp e
      have := val_of t.nd hq
      rw [e2] at this
      rw [this] at h4
      have : p = q := Prod.ext e2.symm h4
      rw [this]
      exact hq
    · rw [val_none e] at h3
      omega
  · intro hp
    have h1 := ks_mem hp
    obtain ⟨h2, _⟩ := t.raw _ h1
    have h3 := val_of t.nd hp
    have h4 := t.pos p hp
    rw [hF _ h2, ← t.val _ h2, h3]
    exact ⟨hsub _ h1, h2, by omega, rfl⟩
end
end VL
namespace VL
open PySem PySem.Spec PyProof.Rows L2
variable [Tb]
/-! ### levels -/
def Par (L : LL) (y x : Str) : Prop := ∃ ls, lkp L y = some ls ∧ x ∈ ks ls
/-- the level from the parents' levels -/
def lv (T : Ls) (ps : List Str) : Int := (maxI (ps.map fun y => val T y + 1)).getD 0
theorem lv_ge {T : Ls} {ps : List Str} {y : Str} (h : y ∈ ps) : val T y + 1 ≤ lv T ps := by
  unfold lv
  cases ps with
  | nil => cases h
  | cons p ps =>
    rw [List.map_cons]
    obtain ⟨_, h2⟩ := foldl_max_spec (ps.map fun y => val T y + 1) (val T p + 1)
    exact h2 _ (by rw [← List.map_cons (f := fun y => val T y + 1)]; exact List.mem_map_of_mem h)
structure Lv (L : LL) (K : List Str) (T : Ls) : Prop where
  nd : (ks T).Nodup
  sub : ∀ x ∈ ks T, x ∈ K
  par : ∀ x ∈ ks T, ∀ y, Par L y x → y ∈ ks T ∧ val T y + 1 ≤ val T x
theorem lv_nil (L : LL) (K : List Str) : Lv L K [] := ⟨List.nodup_nil, fun x h => (by cases h), fun x h => (by cases h)⟩
theorem val_put (T : Ls) (k x : Str) (v : Int) : val (put T k v) x = if x = k then v else val T x := by
  unfold val
  rw [lkp_put]
  split <;> rfl
theorem lv_put {L : LL} {K : List Str} {T : Ls} {x : Str} {v : Int} (h : Lv L K T) (hx : x ∈ K) (hn : x ∉ ks T) (hp : ∀ y, Par L y x → y ∈ ks T ∧ val T y + 1 ≤ v) : Lv L K (put T x v) := by
  refine ⟨ks_put_nd h.nd, fun y hy => ?_, fun y hy z hz => ?_⟩
  · rcases mem_ks_put.mp hy with hy | rfl
    · exact h.sub y hy
    · exact hx
  · have hyz : z ∈ ks T ∧ (y = x ∧ val T z + 1 ≤ v ∨ y ≠ x ∧ val T z + 1 ≤ val T y) := by
      rcases mem_ks_put.mp hy with hy | rfl
      · have := h.par y hy z hz
        exact ⟨this.1, .inr ⟨fun e => hn (e ▸ hy), this.2⟩⟩
      · have := hp z hz
        exact ⟨this.1, .inl ⟨rfl, this.2⟩⟩
    have hzx : z ≠ x := fun e => hn (e ▸ hyz.1)
    refine ⟨mem_ks_put.mpr (.inl hyz.1), ?_⟩
    rw [val_put, if_neg hzx, val_put]
    rcases hyz.2 with ⟨e, h2⟩ | ⟨e, h2⟩
    · rw [if_pos e]; exact h2
    · rw [if_neg e]; exact h2
/-- where something is left, something is ready -/
theorem ready_ex {L : LL} {r : Str → Nat} {K : List Str} {T : Ls} {W : List Str} (hr : Rk L r) (hk : ∀ x ∈ ks L, x ∈ K) (hW : ∀ x ∈ K, x ∈ ks T ∨ x ∈ W) (hne : W ≠ []) : ∃ x ∈ W, ∀ y, Par L y x → y ∈ ks T := by
  have key : ∀ (n : Nat) (x : Str), x ∈ W → (∀ y ∈ W, r y < r x + n) → ∃ x ∈ W, ∀ y, Par L y x → y ∈ ks T := by
    intro n
    induction n with
    | zero => intro x hx h; exact absurd (h x hx) (by omega)
    | succ n ih =>
      intro x hx h
      by_cases e : ∀ y, Par L y x → y ∈ ks T
      · exact ⟨x, hx, e⟩
      · obtain ⟨y, hy⟩ := Classical.not_forall.mp e
        obtain ⟨⟨ls, h1, h2⟩, hy2⟩ := Classical.not_imp.mp hy
        obtain ⟨p, hp, rfl⟩ := List.mem_map.mp h2
        have hlt := hr y ls h1 p hp
        have hyW : y ∈ W := (hW y (hk y (mem_ks_of_lkp h1))).resolve_left hy2
        exact ih y hyW fun z hz => by have := h z hz; omega
  obtain ⟨x, W', rfl⟩ := List.exists_cons_of_ne_nil hne
  have bd : ∀ W : List Str, ∃ n, ∀ y ∈ W, r y < n := fun W => by
    induction W with
    | nil => exact ⟨0, fun _ h => (by cases h)⟩
    | cons a W ih =>
      obtain ⟨n, hn⟩ := ih
      refine ⟨n + r a + 1, fun y hy => ?_⟩
      rcases List.mem_cons.mp hy with rfl | hy
      · omega
      · have := hn y hy; omega
  obtain ⟨n, hn⟩ := bd (x :: W')
  exact key n x List.mem_cons_self fun y hy => by have := hn y hy; omega
/-- the levels rise along the lines -/
theorem lv_rise {L : LL} {K : List Str} {T : Ls} (h : Lv L K T) (hall : ∀ x ∈ K, x ∈ ks T) (hc : Cl L K) : ∀ x ls, lkp L x = some ls → ∀ p ∈ ls, val T x < val T p.1 := fun x ls e p hp => by
  have := (h.par p.1 (hall _ (hc x ls e p hp)) x ⟨ls, e, ks_mem hp⟩).2
  omega
end VL
namespace VL
open PySem PySem.Spec PyProof.Rows L2
/-! ### what mirrors answer -/
section
variable {α β : Type} {e e1 e2 e3 : En} {d x y : D} {i j k : Nat}
theorem bnd_ok {f : M α} {g : α → M β} {a : α} (h : f e = .ok a e1) : bnd f g e = g a e1 := by unfold bnd; rw [h]; rfl
theorem lift_ok {o : Option α} {a : α} (h : o = some a) : lift o e = .ok a e := by rw [h]; rfl
theorem chk_ok {c : Bool} {m : M α} (h : c = true) : chk c m e = m e := by rw [h]; rfl
theorem val_ok {f : M D} (h : f e = .ok d e1) : (bnd f fun d => ret (Op.val d)) e = .ok (Op.val d) e1 := bnd_ok h
theorem op1_v {fa : M Op} {g : D → M α} (h : fa e = .ok (.val x) e1) : op1 fa g e = g x e1 := bnd_ok h
theorem op1_s {fa : M Op} {g : D → M α} (h : fa e = .ok (.slot i) e1) (hx : getS i e1 = .ok x e1) : op1 fa g e = g x e1 := (bnd_ok h).trans (bnd_ok hx)
theorem op2_vv {fa fb : M Op} {g : D → D → M α} (h : fa e = .ok (.val x) e1) (h' : fb e1 = .ok (.val y) e2) : op2 fa fb g e = g x y e2 := (bnd_ok h).trans (bnd_ok h')
theorem op2_sv {fa fb : M Op} {g : D → D → M α} (h : fa e = .ok (.slot i) e1) (h' : fb e1 = .ok (.val y) e2) (hx : getS i e2 = .ok x e2) : op2 fa fb g e = g x y e2 := (bnd_ok h).trans ((bnd_ok h').trans (bnd_ok hx))
theorem op2_vs {fa fb : M Op} {g : D → D → M α} (h : fa e = .ok (.val x) e1) (h' : fb e1 = .ok (.slot j) e2) (hy : getS j e2 = .ok y e2) : op2 fa fb g e = g x y e2 := (bnd_ok h).trans ((bnd_ok h').trans (bnd_ok hy))
theorem op2_ss {fa fb : M Op} {g : D → D → M α} (h : fa e = .ok (.slot i) e1) (h' : fb e1 = .ok (.slot j) e2) (hx : getS i e2 = .ok x e2) (hy : getS j e2 = .ok y e2) : op2 fa fb g e = g x y e2 := (bnd_ok h).trans ((bnd_ok h').trans ((bnd_ok hx).trans (bnd_ok hy)))
theorem seq_nx {g1 g2 : M Fl} (h : g1 e = .ok .nx e1) : seqM g1 g2 e = g2 e1 := bnd_ok h
theorem seq_rt {g1 g2 : M Fl} (h : g1 e = .ok (.rt d) e1) : seqM g1 g2 e = .ok (.rt d) e1 := bnd_ok h
theorem set_ok {f : M D} (h : f e = .ok d e1) : setM i f e = .ok .nx (e1.set i (.fz d)) := bnd_ok h
theorem setO_ok {f : M D} (h : f e = .ok d e1) : setO i f e = .ok .nx (e1.set i (.ow d)) := bnd_ok h
theorem ret_ok {f : M D} (h : f e = .ok d e1) : retM f e = .ok (.rt d) e1 := bnd_ok h
theorem expr_ok {f : M D} (h : f e = .ok d e1) : exprM f e = .ok .nx e1 := bnd_ok h
theorem if_t {fc : M Bool} {g1 g2 : M Fl} (h : fc e = .ok true e1) : ifS fc g1 g2 e = g1 e1 := bnd_ok h
theorem if_f {fc : M Bool} {g1 g2 : M Fl} (h : fc e = .ok false e1) : ifS fc g1 g2 e = g2 e1 := bnd_ok h
theorem ifE_t {fc : M Bool} {g1 g2 : M D} (h : fc e = .ok true e1) : ifE fc g1 g2 e = g1 e1 := bnd_ok h
theorem ifE_f {fc : M Bool} {g1 g2 : M D} (h : fc e = .ok false e1) : ifE fc g1 g2 e = g2 e1 := bnd_ok h
theorem not_ok {fa : M Bool} {b : Bool} (h : fa e = .ok b e1) : notT fa e = .ok (!b) e1 := bnd_ok h
theorem or_f {fa fb : M Bool} (h : fa e = .ok false e1) : orT fa fb e = fb e1 := bnd_ok h
theorem or_t {fa fb : M Bool} (h : fa e = .ok true e1) : orT fa fb e = .ok true e1 := bnd_ok h
theorem and_t {fa fb : M Bool} (h : fa e = .ok true e1) : andT fa fb e = fb e1 := bnd_ok h
theorem and_f {fa fb : M Bool} (h : fa e = .ok false e1) : andT fa fb e = .ok false e1 := bnd_ok h
theorem andV_t {fa fb : M D} (h : fa e = .ok (.bl true) e1) : andV fa fb e = fb e1 := (bnd_ok h).trans rfl
theorem andV_f {fa fb : M D} (h : fa e = .ok (.bl false) e1) : andV fa fb e = .ok (.bl false) e1 := (bnd_ok h).trans rfl
theorem asB_ok {f : M D} {b : Bool} (h : f e = .ok (.bl b) e1) : bnd f asB e = .ok b e1 := bnd_ok h
theorem trv_ok {f : M D} {b : Bool} (h : f e = .ok d e1) (hb : truthD d = some b) : op1 (bnd f fun d => ret (Op.val d)) (fun d => lift (truthD d)) e = .ok b e1 := (op1_v (val_ok h)).trans (lift_ok hb)
/-! calls -/
theorem call1 {f : M D} {m : Fm} {r : D} (h : f e = .ok d e1) (hm : m [d] = .ok r []) : callE [false] (arV f (ret [])) m e = .ok r e1 := by
  refine (bnd_ok (show arV f (ret []) e = .ok [.val d] e1 from bnd_ok h)).trans ?_
  show (if modesA [.val d] = [false] ∧ (ownA [.val d]).Nodup then _ else _) = _
  rw [if_pos ⟨rfl, List.nodup_nil⟩]
  show retA false e1 [] (m [d]) = _
  rw [hm]
  rfl
theorem call2 {f g : M D} {m : Fm} {r : D} (h : f e = .ok x e1) (h2 : g e1 = .ok y e2) (hm : m [x, y] = .ok r []) : callE [false, false] (arV f (arV g (ret []))) m e = .ok r e2 := by
  refine (bnd_ok (show arV f (arV g (ret [])) e = .ok [.val x, .val y] e2 from (bnd_ok h).trans (bnd_ok (show arV g (ret []) e1 = .ok [.val y] e2 from bnd_ok h2)))).trans ?_
  show (if modesA [.val x, .val y] = [false, false] ∧ (ownA [.val x, .val y]).Nodup then _ else _) = _
  rw [if_pos ⟨rfl, List.nodup_nil⟩]
  show retA false e2 [] (m [x, y]) = _
  rw [hm]
  rfl
theorem call3 {f g h : M D} {m : Fm} {r z : D} (h1 : f e = .ok x e1) (h2 : g e1 = .ok y e2) (h3 : h e2 = .ok z e3) (hm : m [x, y, z] = .ok r []) : callE [false, false, false] (arV f (arV g (arV h (ret [])))) m e = .ok r e3 := by
  refine (bnd_ok (show arV f (arV g (arV h (ret []))) e = .ok [.val x, .val y, .val z] e3 from (bnd_ok h1).trans (bnd_ok (show arV g (arV h (ret [])) e1 = .ok [.val y, .val z] e3 from (bnd_ok h2).trans (bnd_ok (show arV h (ret []) e2 = .ok [.val z] e3 from bnd_ok h3)))))).trans ?_
  show (if modesA [.val x, .val y, .val z] = [false, false, false] ∧ (ownA [.val x, .val y, .val z]).Nodup then _ else _) = _
  rw [if_pos ⟨rfl, List.nodup_nil⟩]
  show retA false e3 [] (m [x, y, z]) = _
  rw [hm]
  rfl
theorem callO {f : M D} {m : Fm} {r d' : D} (hp : e[i]? = some (.ow d)) (h : f e = .ok x e1) (hp1 : e1[i]? = some (.ow d)) (hm : m [d, x] = .ok r [d']) : callE [true, false] (arO i (arV f (ret []))) m e = .ok r (e1.set i (.ow d')) := by
  have p : peekO i e = .ok () e := by unfold peekO; rw [hp]
  refine (bnd_ok (show arO i (arV f (ret [])) e = .ok [.own i, .val x] e1 from (bnd_ok p).trans (bnd_ok (show arV f (ret []) e = .ok [.val x] e1 from bnd_ok h)))).trans ?_
  show (if modesA [.own i, .val x] = [true, false] ∧ (ownA [.own i, .val x]).Nodup then _ else _) = _
  rw [if_pos ⟨rfl, List.nodup_cons.mpr ⟨fun z => (by cases z), List.nodup_nil⟩⟩]
  have hr : readA [.own i, .val x] e1 = some [d, x] := by
    unfold readA
    rw [hp1]
    rfl
  rw [hr]
  show retA false e1 [i] (m [d, x]) = _
  rw [hm]
  rfl
theorem callO0 {m : Fm} {r d' : D} (hp : e[i]? = some (.ow d)) (hm : m [d] = .ok r [d']) : callE [true] (arO i (ret [])) m e = .ok r (e.set i (.ow d')) := by
  have p : peekO i e = .ok () e := by unfold peekO; rw [hp]
  refine (bnd_ok (show arO i (ret []) e = .ok [.own i] e from (bnd_ok p).trans rfl)).trans ?_
  show (if modesA [.own i] = [true] ∧ (ownA [.own i]).Nodup then _ else _) = _
  rw [if_pos ⟨rfl, List.nodup_cons.mpr ⟨fun z => (by cases z), List.nodup_nil⟩⟩]
  have hr : readA [.own i] e = some [d] := by
    unfold readA
    rw [hp]
    rfl
  rw [hr]
  show retA false e [i] (m [d]) = _
  rw [hm]
  rfl
theorem callB1 {f : M Op} {g : List D → M D} (h : f e = .ok (.val x) e1) : callM (opsM f (ret [])) g e = g [x] e1 :=
  (bnd_ok (show opsM f (ret []) e = .ok [.val x] e1 from bnd_ok h)).trans rfl
theorem callB1s {f : M Op} {g : List D → M D} (h : f e = .ok (.slot i) e1) (hx : getS i e1 = .ok x e1) : callM (opsM f (ret [])) g e = g [x] e1 := by
  refine (bnd_ok (show opsM f (ret []) e = .ok [.slot i] e1 from bnd_ok h)).trans ?_
  refine (bnd_ok (a := [x]) (e1 := e1) ?_)
  show bnd (getS i) _ e1 = _
  exact bnd_ok hx
/-! loops -/
theorem wipe1 (e : En) (v : Nat) : wipeE e [v] = e.set v .un := rfl
theorem set_un (e : En) (i : Nat) (s : Sl) : ((e.set i .un).set i s).set i .un = e.set i .un := by rw [List.set_set, List.set_set]
/-- a comprehension whose parts leave the frame -/
theorem lc_map {γ : Type} (g : γ → D) {ft : M Bool} {fe : M D} (p : γ → Bool) (f : γ → D) : ∀ (xs : List γ) (e : En), (∀ a ∈ xs, ft ((e.set i .un).set i (.fz (g a))) = .ok (p a) ((e.set i .un).set i (.fz (g a))) ∧ (p a = true → fe ((e.set i .un).set i (.fz (g a))) = .ok (f a) ((e.set i .un).set i (.fz (g a))))) →
    lcL (stM i) ft fe [i] (xs.map g) e = .ok ((xs.filter p).map f) (e.set i .un)
  | [], e, _ => rfl
  | a :: xs, e, h => by
    obtain ⟨h1, h2⟩ := h a List.mem_cons_self
    have ih := lc_map g p f xs ((e.set i .un).set i (.fz (g a))) fun b hb => by
      rw [set_un]
      exact h b (List.mem_cons_of_mem _ hb)
    rw [set_un] at ih
    show bnd (noX ft) _ ((e.set i .un).set i (.fz (g a))) = _
    refine (bnd_ok (a := p a) (e1 := (e.set i .un).set i (.fz (g a))) (by unfold noX; rw [h1])).trans ?_
    cases hp : p a with
    | false =>
      rw [List.filter_cons_of_neg (by rw [hp]; simp)]
      exact ih
    | true =>
      rw [List.filter_cons_of_pos hp]
      show bnd (noX fe) _ _ = _
      refine (bnd_ok (a := f a) (e1 := (e.set i .un).set i (.fz (g a))) (by unfold noX; rw [h2 hp])).trans ?_
      exact (bnd_ok ih).trans rfl
theorem lcM_map {γ : Type} (g : γ → D) {fi : M (List D)} {ft : M Bool} {fe : M D} (p : γ → Bool) (f : γ → D) (xs : List γ) (hi : fi e = .ok (xs.map g) e1) (hl : xs.length ≤ line) (h : ∀ a ∈ xs, ft ((e1.set i .un).set i (.fz (g a))) = .ok (p a) ((e1.set i .un).set i (.fz (g a))) ∧ (p a = true → fe ((e1.set i .un).set i (.fz (g a))) = .ok (f a) ((e1.set i .un).set i (.fz (g a))))) :
    lcM fi (stM i) ft fe [i] e = .ok (.lst ((xs.filter p).map f)) (e1.set i .un) := by
  refine (bnd_ok hi).trans ((bnd_ok (lc_map g p f xs e1 h)).trans (chk_ok ?_))
  rw [List.length_map]
  exact decide_eq_true (Nat.le_trans (List.length_filter_le _ _) hl)
theorem for_inv {γ : Type} (g : γ → D) {gb : M Fl} {sm : D → En → Option En} (xs : List γ) (Inv : List γ → En → Prop) (h : ∀ pre a post e, xs = pre ++ a :: post → Inv pre e → ∃ e0 e', sm (g a) e = some e0 ∧ gb e0 = .ok .nx e' ∧ Inv (pre ++ [a]) e') :
    ∀ (post pre : List γ) (e : En), xs = pre ++ post → Inv pre e → ∃ e', forL sm gb (post.map g) e = .ok .nx e' ∧ Inv xs e'
  | [], pre, e, hx, hI => ⟨e, rfl, by rw [hx, List.append_nil]; exact hI⟩
  | a :: post, pre, e, hx, hI => by
    obtain ⟨e0, e', h0, h1, h2⟩ := h pre a post e hx hI
    obtain ⟨e2, h3, h4⟩ := for_inv g xs Inv h post (pre ++ [a]) e' (by rw [hx]; simp) h2
    refine ⟨e2, ?_, h4⟩
    show stP (sm (g a) e) _ = _
    rw [h0]
    show bnd gb _ e0 = _
    exact (bnd_ok h1).trans h3
theorem forM_inv {γ : Type} (g : γ → D) {fi : M (List D)} {gb : M Fl} {sm : D → En → Option En} (xs : List γ) (Inv : List γ → En → Prop) (hi : fi e = .ok (xs.map g) e1) (h0 : Inv [] e1) (h : ∀ pre a post e, xs = pre ++ a :: post → Inv pre e → ∃ e0 e', sm (g a) e = some e0 ∧ gb e0 = .ok .nx e' ∧ Inv (pre ++ [a]) e') :
    ∃ e', forM fi sm gb e = .ok .nx e' ∧ Inv xs e' := by
  obtain ⟨e', h1, h2⟩ := for_inv g xs Inv h xs [] e1 rfl h0
  exact ⟨e', (bnd_ok hi).trans h1, h2⟩
end
/-! ### dicts -/
section
variable {α : Type}
def dk (f : α → D) (l : List (Str × α)) : List (Key × D) := l.map fun p => (Sum.inr p.1, f p.2)
theorem valD_dk (f : α → D) (l : List (Str × α)) (x : Str) : valD (dk f l) (Sum.inr x) = (lkp l x).map f := by
  induction l with
  | nil => rfl
  | cons p l ih =>
    rw [lkp_cons]
    show valD ((Sum.inr p.1, f p.2) :: dk f l) _ = _
    unfold valD at ih ⊢
    by_cases e : p.1 = x
    · rw [if_pos e, List.find?_cons_of_pos (by simpa using e)]; rfl
    · rw [if_neg e, List.find?_cons_of_neg (by simpa using e)]; exact ih
theorem putD_dk (f : α → D) (l : List (Str × α)) (x : Str) (v : α) : putD (dk f l) (Sum.inr x) (f v) = dk f (put l x v) := by
  have ha : ((dk f l).any fun p => decide (p.1 = Sum.inr x)) = l.any fun p => decide (p.1 = x) := by
    unfold dk
    rw [List.any_map]
    congr 1
    funext p
    exact decide_eq_decide.mpr ⟨fun h => Sum.inr.inj h, fun h => by rw [← h]⟩
  unfold putD put
  rw [ha]
  split
  · unfold dk
    rw [List.map_map, List.map_map]
    refine List.map_congr_left fun p _ => ?_
    show (if (Sum.inr p.1 : Key) = Sum.inr x then (Sum.inr p.1, f v) else (Sum.inr p.1, f p.2)) = (fun p : Str × α => ((Sum.inr p.1 : Key), f p.2)) (if p.1 = x then (p.1, v) else p)
    by_cases e : p.1 = x
    · rw [if_pos e, if_pos (by rw [e])]
    · rw [if_neg e, if_neg fun z => e (Sum.inr.inj z)]
  · unfold dk
    rw [List.map_append]
    rfl
theorem dropD_dk (f : α → D) (l : List (Str × α)) (x : Str) : dropD (dk f l) (Sum.inr x) = dk f (drp l x) := by
  unfold dropD dk drp
  rw [List.filter_map]
  congr 1
  refine List.filter_congr fun p _ => ?_
  exact decide_eq_decide.mpr ⟨fun h z => h (by show (Sum.inr p.1 : Key) = _; rw [z]), fun h z => h (Sum.inr.inj z)⟩
theorem dk_len (f : α → D) (l : List (Str × α)) : (dk f l).length = l.length := List.length_map _
theorem keysS_dk (f : α → D) : ∀ l : List (Str × α), keysS (dk f l) = some (ks l)
  | [] => rfl
  | p :: l => by
    show (keysS (dk f l)).map (p.1 :: ·) = _
    rw [keysS_dk f l]
    rfl
theorem dk_keys (f : α → D) (l : List (Str × α)) : (dk f l).map (fun p => keyV p.1) = (ks l).map .str := by
  unfold dk
  rw [List.map_map]
  show _ = List.map _ (List.map _ l)
  rw [List.map_map]
  rfl
theorem dk_vals (f : α → D) (l : List (Str × α)) : (dk f l).map (·.2) = (l.map (·.2)).map f := by
  unfold dk
  rw [List.map_map, List.map_map]
  rfl
end
abbrev dI (l : Ls) : D := .dk (dk D.int l)
abbrev dL (L : LL) : D := .dk (dk dI L)
abbrev sL (xs : List Str) : D := .lst (xs.map .str)
theorem toS_str : ∀ xs : List Str, toS (xs.map .str) = some xs
  | [] => rfl
  | x :: xs => by show (toS (xs.map .str)).map (x :: ·) = _; rw [toS_str xs]; rfl
theorem toI_int : ∀ xs : List Int, toI (xs.map .int) = some xs
  | [] => rfl
  | x :: xs => by show (toI (xs.map .int)).map (x :: ·) = _; rw [toI_int xs]; rfl
theorem toB_bl : ∀ xs : List Bool, toB (xs.map .bl) = some xs
  | [] => rfl
  | x :: xs => by show (toB (xs.map .bl)).map (x :: ·) = _; rw [toB_bl xs]; rfl
theorem toSI_dk : ∀ l : Ls, toSI (dk D.int l) = some l
  | [] => rfl
  | (x, i) :: l => by show (toSI (dk D.int l)).map ((x, i) :: ·) = _; rw [toSI_dk l]; rfl
/-! texts that a list may be compared by -/
def okS (xs : List Str) : Prop := ∀ x ∈ xs, PyData.strOk x = true
theorem toP_str (x : Str) : toP (.str x) = some (.str x) := by unfold toP; rfl
theorem toPs_str : ∀ xs : List Str, toPs (xs.map .str) = some (xs.map .str)
  | [] => by unfold toPs; rfl
  | x :: xs => by
    show toPs (.str x :: xs.map .str) = _
    unfold toPs
    rw [toP_str, toPs_str xs]
    rfl
theorem lay_str : ∀ {xs : List Str}, okS xs → PyData.canLayAll0 (xs.map .str) = true
  | [], _ => by unfold PyData.canLayAll0; rfl
  | x :: xs, h => by
    show PyData.canLayAll0 (.str x :: xs.map .str) = true
    unfold PyData.canLayAll0
    rw [lay_str fun y hy => h y (List.mem_cons_of_mem _ hy)]
    unfold PyData.canLay0
    rw [h x List.mem_cons_self]
    rfl
theorem dep_str : ∀ xs : List Str, PyData.depthAll (xs.map .str) = 0
  | [] => by unfold PyData.depthAll; rfl
  | x :: xs => by
    show PyData.depthAll (.str x :: xs.map .str) = 0
    unfold PyData.depthAll
    rw [dep_str xs]
    unfold PyData.depth
    rfl
end VL
namespace VL
open PySem PySem.Spec PyProof.Rows L2
/-! ### what a mirror reaches -/
def W {α : Type} (r : R α) (P : α → En → Prop) (X : Xn → En → Prop) : Prop := match r with
  | .ok a e => P a e
  | .ex x e => X x e
  | .no => False
abbrev X0 : Xn → En → Prop := fun _ _ => False
def FW (r : FR) (Q : D → List D → Prop) (QX : Xn → List D → Prop) : Prop := match r with
  | .ok d os => Q d os
  | .ex x os => QX x os
  | _ => False
def FWF (r : FR) (Q : D → List D → Prop) (QX : Xn → List D → Prop) : Prop := match r with
  | .okF d os => Q d os
  | .ex x os => QX x os
  | _ => False
abbrev QX0 : Xn → List D → Prop := fun _ _ => False
class inductive At : En → Nat → outParam Sl → Prop
  | z {s : Sl} {e : En} : At (s :: e) 0 s
  | s {s y : Sl} {e : En} {i : Nat} : At e i s → At (y :: e) (i + 1) s
class inductive Pu : En → Nat → Sl → outParam En → Prop
  | z {s y : Sl} {e : En} : Pu (y :: e) 0 s (s :: e)
  | s {s y : Sl} {e e' : En} {i : Nat} : Pu e i s e' → Pu (y :: e) (i + 1) s (y :: e')
theorem At.get {e : En} {i : Nat} {s : Sl} (h : At e i s) : e[i]? = some s := by
  induction h with
  | z => rfl
  | s _ ih => simpa using ih
theorem Pu.set {e e' : En} {i : Nat} {s : Sl} (h : Pu e i s e') : e.set i s = e' := by
  induction h with
  | z => rfl
  | s _ ih => rw [List.set_cons_succ, ih]
section
variable {α β : Type} {e e1 e2 e' : En} {d x y : D} {i j k : Nat} {P : α → En → Prop} {X : Xn → En → Prop}
theorem W.of {r : R α} (h : W r P X0) : ∃ a e, r = .ok a e ∧ P a e := by
  cases r with
  | ok a e => exact ⟨a, e, rfl, h⟩
  | _ => exact h.elim
theorem w_ok {r : R α} {a : α} (h : r = .ok a e) (p : P a e) : W r P X := by rw [h]; exact p
theorem W.imp {r : R α} {P' : α → En → Prop} (h : W r P X) (i : ∀ a e, P a e → P' a e) : W r P' X := by
  cases r with
  | ok a e => exact i _ _ h
  | ex x e => exact h
  | no => exact h
theorem w_bnd {f : M β} {g : β → M α} (h : W (f e) (fun a e1 => W (g a e1) P X) X) : W (bnd f g e) P X := by
  show W ((f e).bind g) P X
  cases hr : f e with
  | ok a e1 => rw [hr] at h; exact h
  | ex x e1 => rw [hr] at h; exact h
  | no => rw [hr] at h; exact h
theorem w_ret {a : α} (h : P a e) : W (ret a e) P X := h
theorem w_rok {a : α} (h : P a e) : W (.ok a e) P X := h
theorem w_lift {o : Option α} {a : α} (h : o = some a) (p : P a e) : W (lift o e) P X := by rw [h]; exact p
theorem w_chk {c : Bool} {m : M α} (h : c = true) (p : W (m e) P X) : W (chk c m e) P X := by rw [h]; exact p
theorem w_chkd {c : Prop} [Decidable c] {m : M α} (h : c) (p : W (m e) P X) : W (chk (decide c) m e) P X := w_chk (decide_eq_true h) p
theorem w_ifM {b : Bool} {ga gb : M α} (h1 : b = true → W (ga e) P X) (h2 : b = false → W (gb e) P X) : W (ifM b ga gb e) P X := by
  cases b with
  | true => exact h1 rfl
  | false => exact h2 rfl
theorem w_ifT {b : Bool} {ga gb : M α} (h : b = true) (h1 : W (ga e) P X) : W (ifM b ga gb e) P X := by rw [h]; exact h1
theorem w_ifF {b : Bool} {ga gb : M α} (h : b = false) (h1 : W (gb e) P X) : W (ifM b ga gb e) P X := by rw [h]; exact h1
theorem w_ifTT {ga gb : M α} (h1 : W (ga e) P X) : W (ifM true ga gb e) P X := h1
theorem w_ifFF {ga gb : M α} (h1 : W (gb e) P X) : W (ifM false ga gb e) P X := h1
end
section
variable {α β : Type} {e e1 e2 e' : En} {d x y : D} {i j k : Nat} {P : D → En → Prop} {X : Xn → En → Prop}
theorem w_getS {d : D} (h : At e i (.fz d)) (p : P d e) : W (getS i e) P X := by unfold getS; rw [h.get]; exact p
theorem w_getSo {d : D} (h : At e i (.ow d)) (p : P d e) : W (getS i e) P X := by unfold getS; rw [h.get]; exact p
theorem w_getOv {d : D} (p : P d e) : W (getO (.val d) e) P X := p
theorem w_getOs (p : W (getS i e) P X) : W (getO (.slot i) e) P X := p
theorem w_nm {d : D} (h : At e i (.fz d)) (p : P d e) : W (nm i e) P X := by unfold nm; rw [h.get]; exact p
theorem w_nmo {d : D} (h : At e i (.ow d)) (hs : Pu e i (.fz d) e') (p : P d e') : W (nm i e) P X := by
  unfold nm; rw [h.get]; show P d (e.set i (.fz d)); rw [hs.set]; exact p
theorem w_nmB {d : D} {P : Op → En → Prop} (h : At e i (.fz d)) (p : P (.slot i) e) : W (nmB i e) P X := by unfold nmB; rw [h.get]; exact p
theorem w_nmBo {d : D} {P : Op → En → Prop} (h : At e i (.ow d)) (p : P (.slot i) e) : W (nmB i e) P X := by unfold nmB; rw [h.get]; exact p
theorem w_op1 {α : Type} {P : α → En → Prop} {fa : M Op} {g : D → M α} (h : W (fa e) (fun o e1 => W (getO o e1) (fun d e2 => W (g d e2) P X) X) X) : W (op1 fa g e) P X := w_bnd (h.imp fun _ _ z => w_bnd z)
theorem w_op2 {α : Type} {P : α → En → Prop} {fa fb : M Op} {g : D → D → M α} (h : W (fa e) (fun o e1 => W (fb e1) (fun o' e2 => W (getO o e2) (fun d e3 => W (getO o' e3) (fun d' e4 => W (g d d' e4) P X) X) X) X) X) : W (op2 fa fb g e) P X :=
  w_bnd (h.imp fun _ _ z => w_bnd (z.imp fun _ _ z => w_bnd (z.imp fun _ _ z => w_bnd z)))
/-! statements -/
def SeqP (N : En → Prop) (P : Fl → En → Prop) : Fl → En → Prop := fun fl e => match fl with
  | .nx => N e
  | fl => P fl e
theorem w_seq {g1 g2 : M Fl} {P : Fl → En → Prop} (h : W (g1 e) (SeqP (fun e1 => W (g2 e1) P X) P) X) : W (seqM g1 g2 e) P X := w_bnd (h.imp fun fl e1 z => by cases fl <;> exact z)
theorem sp_nx {N : En → Prop} {P : Fl → En → Prop} (h : N e) : SeqP N P .nx e := h
theorem sp_rt {N : En → Prop} {P : Fl → En → Prop} (h : P (.rt d) e) : SeqP N P (.rt d) e := h
theorem sp_rf {N : En → Prop} {P : Fl → En → Prop} (h : P (.rf d) e) : SeqP N P (.rf d) e := h
theorem sp_bk {N : En → Prop} {P : Fl → En → Prop} (h : P .bk e) : SeqP N P .bk e := h
theorem sp_ct {N : En → Prop} {P : Fl → En → Prop} (h : P .ct e) : SeqP N P .ct e := h
variable {S : Fl → En → Prop}
theorem w_expr {α : Type} {f : M α} (h : W (f e) (fun _ e1 => S .nx e1) X) : W (exprM f e) S X := w_bnd (h.imp fun _ _ z => z)
theorem w_retM {f : M D} (h : W (f e) (fun d e1 => S (.rt d) e1) X) : W (retM f e) S X := w_bnd (h.imp fun _ _ z => z)
theorem w_retF {f : M D} (h : W (f e) (fun d e1 => S (.rf d) e1) X) : W (retF f e) S X := w_bnd (h.imp fun _ _ z => z)
theorem w_ifS {fc : M Bool} {ga gb : M Fl} (h : W (fc e) (fun b e1 => W (ifM b ga gb e1) S X) X) : W (ifS fc ga gb e) S X := w_bnd h
theorem w_ifE {α : Type} {P : α → En → Prop} {fc : M Bool} {ga gb : M α} (h : W (fc e) (fun b e1 => W (ifM b ga gb e1) P X) X) : W (ifE fc ga gb e) P X := w_bnd h
theorem w_setM {f : M D} (h : W (f e) (fun d e1 => W (putS i d e1) S X) X) : W (setM i f e) S X := w_bnd h
theorem w_setO {f : M D} (h : W (f e) (fun d e1 => W (putO i d e1) S X) X) : W (setO i f e) S X := w_bnd h
theorem w_putS (hs : Pu e i (.fz d) e') (p : S .nx e') : W (putS i d e) S X := by show S .nx (e.set i (.fz d)); rw [hs.set]; exact p
theorem w_putO (hs : Pu e i (.ow d) e') (p : S .nx e') : W (putO i d e) S X := by show S .nx (e.set i (.ow d)); rw [hs.set]; exact p
/-! tests -/
variable {B : Bool → En → Prop}
theorem w_asB {b : Bool} (p : B b e) : W (asB (.bl b) e) B X := p
theorem w_and {fa fb : M Bool} (h : W (fa e) (fun b e1 => W (ifM b fb (ret false) e1) B X) X) : W (andT fa fb e) B X := w_bnd h
theorem w_or {fa fb : M Bool} (h : W (fa e) (fun b e1 => W (ifM b (ret true) fb e1) B X) X) : W (orT fa fb e) B X := w_bnd h
theorem w_not {fa : M Bool} (h : W (fa e) (fun b e1 => B (!b) e1) X) : W (notT fa e) B X := w_bnd (h.imp fun _ _ z => z)
theorem w_andV {fa fb : M D} (h : W (fa e) (fun d e1 => W (asB d e1) (fun b e2 => W (ifM b fb (ret (.bl false)) e2) P X) X) X) : W (andV fa fb e) P X := w_bnd (h.imp fun _ _ z => w_bnd z)
theorem w_orV {fa fb : M D} (h : W (fa e) (fun d e1 => W (asB d e1) (fun b e2 => W (ifM b (ret (.bl true)) fb e2) P X) X) X) : W (orV fa fb e) P X := w_bnd (h.imp fun _ _ z => w_bnd z)
theorem w_notV {fa : M D} (h : W (fa e) (fun d e1 => W (asB d e1) (fun b e2 => P (.bl (!b)) e2) X) X) : W (notV fa e) P X := w_bnd (h.imp fun _ _ z => w_bnd (z.imp fun _ _ z => z))
theorem w_chain {fa fb fc : M Op} {g g' : D → D → M D} (h : W (fa e) (fun o e1 => W (fb e1) (fun o' e2 => W (getO o e2) (fun x e3 => W (getO o' e3) (fun y e4 => W (g x y e4) (fun z e5 => W (asB z e5) (fun k e6 => W (ifM k (bnd fc fun o2 => bnd (getO o') fun y => bnd (getO o2) fun z => g' y z) (ret (.bl false)) e6) P X) X) X) X) X) X) X) : W (chain fa fb fc g g' e) P X :=
  w_bnd (h.imp fun _ _ z => w_bnd (z.imp fun _ _ z => w_bnd (z.imp fun _ _ z => w_bnd (z.imp fun _ _ z => w_bnd (z.imp fun _ _ z => w_bnd z)))))
theorem w_tr {b : Bool} {P : Bool → En → Prop} (p : P b e) : W (lift (truthD (.bl b)) e) P X := p
/-! parts -/
variable {L : List D → En → Prop}
theorem w_cons {f : M D} {r : M (List D)} (h : W (f e) (fun d e1 => W (r e1) (fun ds e2 => L (d :: ds) e2) X) X) : W (consM f r e) L X := w_bnd (h.imp fun _ _ z => w_bnd (z.imp fun _ _ z => z))
theorem w_lst {fs : M (List D)} (h : W (fs e) (fun ds e1 => ds.length ≤ line ∧ P (.lst ds) e1) X) : W (lstM fs e) P X := w_bnd (h.imp fun _ _ z => w_chkd z.1 z.2)
theorem w_tup {fs : M (List D)} (h : W (fs e) (fun ds e1 => ds.length ≤ line ∧ P (.tup ds) e1) X) : W (tupM fs e) P X := w_bnd (h.imp fun _ _ z => w_chkd z.1 z.2)
theorem w_ops {f : M Op} {r : M (List Op)} {P : List Op → En → Prop} (h : W (f e) (fun d e1 => W (r e1) (fun ds e2 => P (d :: ds) e2) X) X) : W (opsM f r e) P X := w_bnd (h.imp fun _ _ z => w_bnd (z.imp fun _ _ z => z))
theorem w_callM {fo : M (List Op)} {g : List D → M D} (h : W (fo e) (fun os e1 => W (getOs os e1) (fun ds e2 => W (g ds e2) P X) X) X) : W (callM fo g e) P X := w_bnd (h.imp fun _ _ z => w_bnd z)
theorem w_gosN (h : L [] e) : W (getOs [] e) L X := h
theorem w_gosC {o : Op} {os : List Op} (h : W (getO o e) (fun d e1 => W (getOs os e1) (fun ds e2 => L (d :: ds) e2) X) X) : W (getOs (o :: os) e) L X := w_bnd (h.imp fun _ _ z => w_bnd (z.imp fun _ _ z => z))
theorem w_iter {f : M D} (h : W (f e) (fun d e1 => W (lift (itemsD d) e1) L X) X) : W (iterM f e) L X := w_bnd h
theorem w_walk {g : D → Option (List D)} {f : M D} (h : W (f e) (fun d e1 => W (lift (g d) e1) L X) X) : W (walkM g f e) L X := w_bnd h
theorem w_slice {fa : M Op} {fl fh : M (Option Int)} (h : W (fa e) (fun o e1 => W (fl e1) (fun lo e2 => W (fh e2) (fun hi e3 => W (getO o e3) (fun d e4 => W (sliceD d lo hi e4) P X) X) X) X) X) : W (sliceM fa fl fh e) P X :=
  w_bnd (h.imp fun _ _ z => w_bnd (z.imp fun _ _ z => w_bnd (z.imp fun _ _ z => w_bnd z)))
theorem w_part {f : M D} {P : Option Int → En → Prop} (h : W (f e) (fun d e1 => W (asI d e1) (fun n e2 => P (some n) e2) X) X) : W (partM f e) P X := w_bnd (h.imp fun _ _ z => w_bnd (z.imp fun _ _ z => z))
theorem w_asI {n : Int} {P : Int → En → Prop} (p : P n e) : W (asI (.int n) e) P X := p
theorem w_neg {n : Int} (p : P (.int (-n)) e) : W (negD (.int n) e) P X := p
theorem w_index {fo : M Op} {fs : M (List D)} (h : W (fo e) (fun o e1 => W (getO o e1) (fun c e2 => isLst c = true ∧ W (fs e2) (fun ds e3 => W (getO o e3) (fun d e4 => W (indexD d ds e4) P X) X) X) X) X) : W (indexM fo fs e) P X :=
  w_bnd (h.imp fun _ _ z => w_bnd (z.imp fun _ _ z => w_chk z.1 (w_bnd (z.2.imp fun _ _ z => w_bnd z))))
/-! what is owned -/
theorem w_peekO {d : D} {P : Unit → En → Prop} (h : At e i (.ow d)) (p : P () e) : W (peekO i e) P X := by unfold peekO; rw [h.get]; exact p
theorem w_peekK {d : D} {kd : D → Bool} {P : Unit → En → Prop} (h : At e i (.ow d)) (hk : kd d = true) (p : P () e) : W (peekK kd i e) P X := by
  unfold peekK; rw [h.get]
  show W (if kd d = true then .ok () e else .no) P X
  rw [if_pos hk]
  exact p
theorem w_modS {α : Type} {d d' : D} {a : α} {g : D → Option (D × α)} {P : α → En → Prop} (h : At e i (.ow d)) (hg : g d = some (d', a)) (hs : Pu e i (.ow d') e') (p : P a e') : W (modS i g e) P X := by
  unfold modS; rw [h.get]; dsimp only; rw [hg]
  show P a (e.set i (.ow d'))
  rw [hs.set]
  exact p
theorem w_mutK {kd : D → Bool} {fs : M (List D)} {g : D → List D → Option (D × D)} (h : W (peekK kd i e) (fun _ e1 => W (fs e1) (fun ds e2 => W (modS i (fun c => g c ds) e2) P X) X) X) : W (mutK kd i fs g e) P X :=
  w_bnd (h.imp fun _ _ z => w_bnd (z.imp fun _ _ z => w_bnd (z.imp fun _ _ z => z)))
theorem w_sub {fk fv : M D} (h : W (fv e) (fun v e1 => W (peekO i e1) (fun _ e2 => W (fk e2) (fun k e3 => W (modS i (fun c => (setItemD c k v).map fun c' => (c', ())) e3) (fun _ e4 => S .nx e4) X) X) X) X) : W (subSet i fk fv e) S X :=
  w_bnd (h.imp fun _ _ z => w_bnd (z.imp fun _ _ z => w_bnd (z.imp fun _ _ z => w_bnd (z.imp fun _ _ z => z))))
theorem w_augsub {fk fe : M D} {g : D → D → M D} (h : W (peekO i e) (fun _ e1 => W (fk e1) (fun k e2 => W (getS i e2) (fun c e3 => W (lift ((dgetD c k).bind id) e3) (fun old e4 => W (fe e4) (fun y e5 => W (g old y e5) (fun z e6 => W (modS i (fun c => (setItemD c k z).map fun c' => (c', ())) e6) (fun _ e7 => S .nx e7) X) X) X) X) X) X) X) : W (augSub i fk fe g e) S X :=
  w_bnd (h.imp fun _ _ z => w_bnd (z.imp fun _ _ z => w_bnd (z.imp fun _ _ z => w_bnd (z.imp fun _ _ z => w_bnd (z.imp fun _ _ z => w_bnd (z.imp fun _ _ z => w_bnd (z.imp fun _ _ z => z)))))))
theorem w_augM {fe : M D} {g : D → D → M D} (h : W (nm i e) (fun x e1 => W (fe e1) (fun y e2 => W (g x y e2) (fun z e3 => W (putS i z e3) S X) X) X) X) : W (augM i fe g e) S X :=
  w_bnd (h.imp fun _ _ z => w_bnd (z.imp fun _ _ z => w_bnd z))
theorem w_get2 {fo : M Op} {fk fx : M D} (h : W (fo e) (fun o e1 => W (getO o e1) (fun c0 e2 => isDkt c0 = true ∧ W (fk e2) (fun k e3 => W (fx e3) (fun x e4 => W (getO o e4) (fun c e5 => W (lift ((dgetD c k).map fun r => r.getD x) e5) P X) X) X) X) X) X) : W (getM2 fo fk fx e) P X :=
  w_bnd (h.imp fun _ _ z => w_bnd (z.imp fun _ _ z => w_chk z.1 (w_bnd (z.2.imp fun _ _ z => w_bnd (z.imp fun _ _ z => w_bnd z)))))
def ParP (S : Fl → En → Prop) (is : List Nat) (ts : List Tm) (e : En) : Prop := ts.length = is.length ∧ S .nx (stAll e is ts)
theorem w_par {is : List Nat} {ms : M (List Tm)} (h : W (ms e) (fun ts e1 => ParP S is ts e1) X) : W (parM is ms e) S X := w_bnd (h.imp fun _ _ z => w_chkd z.1 z.2)
theorem w_tmF {f : M D} {r : M (List Tm)} {T : List Tm → En → Prop} (h : W (f e) (fun d e1 => W (r e1) (fun ts e2 => T (.fz d :: ts) e2) X) X) : W (tmF f r e) T X := w_bnd (h.imp fun _ _ z => w_bnd (z.imp fun _ _ z => z))
theorem w_tmO {f : M D} {r : M (List Tm)} {T : List Tm → En → Prop} (h : W (f e) (fun d e1 => W (r e1) (fun ts e2 => T (.ow d :: ts) e2) X) X) : W (tmO f r e) T X := w_bnd (h.imp fun _ _ z => w_bnd (z.imp fun _ _ z => z))
/-! operators -/
theorem w_addI {a b : Int} (p : P (.int (a + b)) e) : W (addD (.int a) (.int b) e) P X := p
theorem w_addS {a b : Str} (h : a.length + b.length ≤ line) (p : P (.str (a ++ b)) e) : W (addD (.str a) (.str b) e) P X := w_chkd (m := ret _) h p
theorem w_addL {a b : List D} (h : a.length + b.length ≤ line) (p : P (.lst (a ++ b)) e) : W (addD (.lst a) (.lst b) e) P X := w_chkd (m := ret _) h p
theorem w_subI {a b : Int} (p : P (.int (a - b)) e) : W (subD (.int a) (.int b) e) P X := p
theorem w_mulI {a b : Int} (h : a.natAbs.log2 + b.natAbs.log2 < 1000000) (p : P (.int (a * b)) e) : W (mulD (.int a) (.int b) e) P X := w_chkd (m := ret _) h p
theorem w_divI {a b : Int} (h : 0 < b ∧ b.natAbs.log2 < 9000) (p : P (.int (a / b)) e) : W (divD (.int a) (.int b) e) P X :=
  w_chk (m := ret _) (by rw [Bool.and_eq_true]; exact ⟨decide_eq_true h.1, decide_eq_true h.2⟩) p
theorem w_modI {a b : Int} (h : 0 < b) (p : P (.int (a % b)) e) : W (modD (.int a) (.int b) e) P X := w_chkd (m := ret _) h p
theorem w_powI {a b : Int} (h : (decide (0 ≤ b) && decide ((Builtin.Int.intBits a : Int) * b ≤ 2 ^ 27)) = true) (p : P (.int (a ^ b.toNat)) e) : W (powD (.int a) (.int b) e) P X := w_chk (m := ret _) h p
theorem w_iaddI {a b : Int} (p : P (.int (a + b)) e) : W (iaddD (.int a) (.int b) e) P X := p
theorem w_ltI {a b : Int} (p : P (.bl (decide (a < b))) e) : W (cmpD .Lt (.int a) (.int b) e) P X := p
theorem w_leI {a b : Int} (p : P (.bl (decide (a ≤ b))) e) : W (cmpD .LtE (.int a) (.int b) e) P X := p
theorem w_gtI {a b : Int} (p : P (.bl (decide (b < a))) e) : W (cmpD .Gt (.int a) (.int b) e) P X := p
theorem w_eq {b : Bool} (h : eqO x y = some b) (p : P (.bl b) e) : W (cmpD .Eq x y e) P X := by
  show W (lift ((eqO x y).map .bl) e) P X
  rw [h]; exact p
theorem w_ne {b : Bool} (h : eqO x y = some b) (p : P (.bl (!b)) e) : W (cmpD .NotEq x y e) P X := by
  show W (lift ((eqO x y).map fun b => .bl (!b)) e) P X
  rw [h]; exact p
theorem w_in {b : Bool} (h : inO x y = some b) (p : P (.bl b) e) : W (inD x y e) P X := by
  show W (lift ((inO x y).map .bl) e) P X
  rw [h]; exact p
theorem w_nin {b : Bool} (h : inO x y = some b) (p : P (.bl (!b)) e) : W (ninD x y e) P X := by
  show W (lift ((inO x y).map fun b => .bl (!b)) e) P X
  rw [h]; exact p
theorem w_ixL {ds : List D} {n : Int} (h : L2.atI ds n = some d) (p : P d e) : W (ixD (.lst ds) (.int n) e) P X := w_lift h p
theorem w_lenF {ds : List D} (p : P (.int ds.length) e) : W (lenD [.frl ds] e) P X := p
theorem w_ixF {ds : List D} {n : Int} (h : L2.atI ds n = some d) (p : P d e) : W (ixD (.frl ds) (.int n) e) P X := w_lift h p
theorem w_lenL {ds : List D} (p : P (.int ds.length) e) : W (lenD [.lst ds] e) P X := p
theorem w_intI {n : Int} (p : P (.int n) e) : W (intD [.int n] e) P X := p
theorem w_intB {b : Bool} (p : P (.int (if b then 1 else 0)) e) : W (intD [.bl b] e) P X := p
theorem w_absI {n : Int} (p : P (.int (if n < 0 then -n else n)) e) : W (absD [.int n] e) P X := p
theorem w_max2 {a b : Int} (p : P (.int (if b > a then b else a)) e) : W (maxD [.int a, .int b] e) P X := p
theorem w_min2 {a b : Int} (p : P (.int (if b < a then b else a)) e) : W (minD [.int a, .int b] e) P X := p
theorem w_str {n : Int} (h : n.natAbs.log2 < 1920) (p : P (.str (toString n)) e) : W (strD [.int n] e) P X := w_chkd (m := ret _) h p
theorem w_listL {ds : List D} (p : P (.lst ds) e) : W (listD [.lst ds] e) P X := p
theorem w_slL {ds : List D} {lo hi : Option Int} (p : P (.lst (cutL ds lo hi)) e) : W (sliceD (.lst ds) lo hi e) P X := p
end
/-! ### loops -/
section
variable {α γ : Type} {e e1 : En} {X : Xn → En → Prop} {S : Fl → En → Prop}
def TurnP (S : Fl → En → Prop) (I : En → Prop) : Fl → En → Prop := fun fl e => match fl with
  | .nx => I e
  | .ct => I e
  | .bk => S .nx e
  | fl => S fl e
theorem tp_nx {I : En → Prop} (h : I e) : TurnP S I .nx e := h
theorem tp_ct {I : En → Prop} (h : I e) : TurnP S I .ct e := h
theorem tp_bk {I : En → Prop} (h : S .nx e) : TurnP S I .bk e := h
theorem tp_rt {I : En → Prop} {d : D} (h : S (.rt d) e) : TurnP S I (.rt d) e := h
theorem w_turn {gb k : M Fl} {I : En → Prop} (h : W (gb e) (TurnP S I) X) (hk : ∀ e', I e' → W (k e') S X) : W (bnd gb (flN k) e) S X := by
  refine w_bnd (h.imp fun fl e' z => ?_)
  cases fl with
  | nx => exact hk _ z
  | ct => exact hk _ z
  | bk => exact z
  | rt d => exact z
  | rf d => exact z
theorem w_forL {sm : D → En → Option En} {gb : M Fl} (g : γ → D) (xs : List γ) (Inv : List γ → En → Prop) (h : ∀ pre a post e, xs = pre ++ a :: post → Inv pre e → ∃ e0, sm (g a) e = some e0 ∧ W (gb e0) (TurnP S (Inv (pre ++ [a]))) X) (hend : ∀ e, Inv xs e → S .nx e) :
    ∀ (post pre : List γ) (e : En), xs = pre ++ post → Inv pre e → W (forL sm gb (post.map g) e) S X
  | [], pre, e, hx, hI => hend e (by rw [hx, List.append_nil]; exact hI)
  | a :: post, pre, e, hx, hI => by
    obtain ⟨e0, h0, h1⟩ := h pre a post e hx hI
    show W (stP (sm (g a) e) _) S X
    rw [h0]
    show W (bnd gb _ e0) S X
    exact w_turn h1 fun e' hI' => w_forL g xs Inv h hend post (pre ++ [a]) e' (by rw [hx]; simp) hI'
theorem w_for {fi : M (List D)} {sm : D → En → Option En} {gb : M Fl} (h : W (fi e) (fun ds e1 => W (forL sm gb ds e1) S X) X) : W (forM fi sm gb e) S X := w_bnd h
theorem w_forI {sm : D → En → Option En} {gb : M Fl} (g : γ → D) (xs : List γ) (Inv : List γ → En → Prop) (h0 : Inv [] e) (h : ∀ pre a post e, xs = pre ++ a :: post → Inv pre e → ∃ e0, sm (g a) e = some e0 ∧ W (gb e0) (TurnP S (Inv (pre ++ [a]))) X) (hend : ∀ e, Inv xs e → S .nx e) : W (forL sm gb (xs.map g) e) S X :=
  w_forL g xs Inv h hend xs [] e rfl h0
/-- while: a measure that falls -/
theorem w_while {fc : M Bool} {gb : M Fl} (Inv : Nat → En → Prop) (h : ∀ n e, Inv n e → W (fc e) (fun b e1 => (b = true → ∃ m, n = m + 1 ∧ W (gb e1) (TurnP S (Inv m)) X) ∧ (b = false → S .nx e1)) X) :
    ∀ (n k : Nat) (e : En), Inv n e → n < k → W (whileM fc gb k e) S X
  | n, 0, e, _, hk => absurd hk (Nat.not_lt_zero _)
  | n, k + 1, e, hI, hk => by
    refine w_bnd ((h n e hI).imp fun b e1 z => w_ifM (fun hb => ?_) fun hb => z.2 hb)
    obtain ⟨m, rfl, z2⟩ := z.1 hb
    exact w_turn z2 fun e' hI' => w_while Inv h m k e' hI' (by omega)
def LcP (Iy : D → En → Prop) (In : En → Prop) (fe : M D) : Bool → En → Prop := fun b e => (b = true → W (fe e) Iy X0) ∧ (b = false → In e)
theorem w_lcL {sm : D → En → Option En} {ft : M Bool} {fe : M D} {vs : List Nat} (g : γ → D) (xs : List γ) (Inv : List γ → List D → En → Prop)
    (h : ∀ pre a post ys e, xs = pre ++ a :: post → Inv pre ys e → ∃ e0, sm (g a) (wipeE e vs) = some e0 ∧ W (ft e0) (LcP (fun y e2 => Inv (pre ++ [a]) (ys ++ [y]) e2) (Inv (pre ++ [a]) ys) fe) X0) :
    ∀ (post pre : List γ) (ys0 : List D) (e : En), xs = pre ++ post → Inv pre ys0 e → W (lcL sm ft fe vs (post.map g) e) (fun ys e => ∃ e2, e = wipeE e2 vs ∧ Inv xs (ys0 ++ ys) e2) X
  | [], pre, ys0, e, hx, hI => ⟨e, rfl, by rw [hx, List.append_nil, List.append_nil]; exact hI⟩
  | a :: post, pre, ys0, e, hx, hI => by
    obtain ⟨e0, h0, h1⟩ := h pre a post ys0 e hx hI
    show W (stP (sm (g a) (wipeE e vs)) _) _ X
    rw [h0]
    show W (bnd (noX ft) _ e0) _ X
    obtain ⟨b, e1, q1, q2⟩ := h1.of
    refine w_bnd (w_ok (a := b) (e := e1) (by unfold noX; rw [q1]) (w_ifM (fun hb => ?_) fun hb => ?_))
    · obtain ⟨y, e2, q3, q4⟩ := (q2.1 hb).of
      refine w_bnd (w_ok (a := y) (e := e2) (by unfold noX; rw [q3]) (w_bnd ?_))
      refine (w_lcL g xs Inv h post (pre ++ [a]) (ys0 ++ [y]) e2 (by rw [hx]; simp) q4 : W _ _ X).imp fun ys e3 ⟨e4, z1, z2⟩ => ?_
      exact ⟨e4, z1, by rw [List.append_assoc] at z2; exact z2⟩
    · exact w_lcL g xs Inv h post (pre ++ [a]) ys0 e1 (by rw [hx]; simp) (q2.2 hb)
theorem w_lcM {fi : M (List D)} {sm : D → En → Option En} {ft : M Bool} {fe : M D} {vs : List Nat} {P : D → En → Prop} (h : W (fi e) (fun ds e1 => W (lcL sm ft fe vs ds e1) (fun ys e2 => ys.length ≤ line ∧ P (.lst ys) e2) X) X) : W (lcM fi sm ft fe vs e) P X :=
  w_bnd (h.imp fun _ _ z => w_bnd (z.imp fun _ _ z => w_chkd z.1 z.2))
theorem w_lcI {sm : D → En → Option En} {ft : M Bool} {fe : M D} {vs : List Nat} {P : List D → En → Prop} (g : γ → D) (xs : List γ) (Inv : List γ → List D → En → Prop) (h0 : Inv [] [] e)
    (h : ∀ pre a post ys e, xs = pre ++ a :: post → Inv pre ys e → ∃ e0, sm (g a) (wipeE e vs) = some e0 ∧ W (ft e0) (LcP (fun y e2 => Inv (pre ++ [a]) (ys ++ [y]) e2) (Inv (pre ++ [a]) ys) fe) X0)
    (hend : ∀ ys e, Inv xs ys e → P ys (wipeE e vs)) : W (lcL sm ft fe vs (xs.map g) e) P X :=
  (w_lcL (X := X) g xs Inv h xs [] [] e rfl h0).imp fun ys e3 ⟨e4, z1, z2⟩ => by rw [z1]; exact hend _ _ z2
end
/-! ### calls -/
section
variable {α : Type} {e e' : En} {X : Xn → En → Prop} {P : D → En → Prop}
class inductive Rd' : List Ar → En → outParam (List Bool) → outParam (List Nat) → outParam (List D) → Prop
  | nil {e : En} : Rd' [] e [] [] []
  | val {d : D} {as : List Ar} {e : En} {ms : List Bool} {os : List Nat} {ds : List D} : Rd' as e ms os ds → Rd' (.val d :: as) e (false :: ms) os (d :: ds)
  | own {d : D} {i : Nat} {as : List Ar} {e : En} {ms : List Bool} {os : List Nat} {ds : List D} : At e i (.ow d) → Rd' as e ms os ds → Rd' (.own i :: as) e (true :: ms) (i :: os) (d :: ds)
theorem Rd'.all {as : List Ar} {e : En} {ms : List Bool} {os : List Nat} {ds : List D} (h : Rd' as e ms os ds) : modesA as = ms ∧ ownA as = os ∧ readA as e = some ds := by
  induction h with
  | nil => exact ⟨rfl, rfl, rfl⟩
  | val _ ih => exact ⟨by unfold modesA; rw [ih.1], by unfold ownA; exact ih.2.1, by unfold readA; rw [ih.2.2]; rfl⟩
  | own a _ ih => exact ⟨by unfold modesA; rw [ih.1], by unfold ownA; rw [ih.2.1], by unfold readA; rw [a.get]; dsimp only; rw [ih.2.2]; rfl⟩
class inductive Pa : En → List Nat → List D → outParam En → Prop
  | nil {e : En} : Pa e [] [] e
  | one {e e' : En} {i : Nat} {d : D} : Pu e i (.ow d) e' → Pa e [i] [d] e'
  | more {e e' e'' : En} {i j : Nat} {d c : D} {is : List Nat} {ds : List D} : Pa e (j :: is) (c :: ds) e' → Pu e' i (.ow d) e'' → Pa e (i :: j :: is) (d :: c :: ds) e''
theorem Pa.all {e e' : En} {is : List Nat} {ds : List D} (h : Pa e is ds e') : putA e is ds = e' ∧ ds.length = is.length := by
  induction h with
  | nil => exact ⟨rfl, rfl⟩
  | one p => exact ⟨p.set, rfl⟩
  | more _ p ih => exact ⟨by unfold putA; rw [ih.1]; exact p.set, by rw [List.length_cons, ih.2]; rfl⟩
theorem w_arV {f : M D} {r : M (List Ar)} {P : List Ar → En → Prop} (h : W (f e) (fun d e1 => W (r e1) (fun as e2 => P (.val d :: as) e2) X) X) : W (arV f r e) P X := w_bnd (h.imp fun _ _ z => w_bnd (z.imp fun _ _ z => z))
theorem w_arO {i : Nat} {d : D} {r : M (List Ar)} {P : List Ar → En → Prop} (ha : At e i (.ow d)) (h : W (r e) (fun as e2 => P (.own i :: as) e2) X) : W (arO i r e) P X := w_bnd (w_peekO ha (w_bnd (h.imp fun _ _ z => z)))
theorem w_callE {ms : List Bool} {ga : M (List Ar)} {f : Fm} (h : W (ga e) (fun as e1 => W (doCall false ms f as e1) P X) X) : W (callE ms ga f e) P X := w_bnd h
theorem w_callFr {ms : List Bool} {ga : M (List Ar)} {f : Fm} (h : W (ga e) (fun as e1 => W (doCall true ms f as e1) P X) X) : W (callFr ms ga f e) P X := w_bnd h
theorem w_do {ms : List Bool} {as : List Ar} {f : Fm} {os : List Nat} {ds : List D} (hr : Rd' as e ms os ds) (hn : os.Nodup) (h : FW (f ds) (fun r os' => ∃ e', Pa e os os' e' ∧ P r e') (fun x os' => ∃ e', Pa e os os' e' ∧ X x e')) : W (doCall false ms f as e) P X := by
  obtain ⟨h1, h2, h3⟩ := hr.all
  unfold doCall
  rw [if_pos ⟨h1, by rw [h2]; exact hn⟩, h3]
  show W (retA false e (ownA as) (f ds)) P X
  rw [h2]
  cases hf : f ds with
  | ok r os' =>
    rw [hf] at h
    obtain ⟨e', q1, q2⟩ := h
    obtain ⟨q3, q4⟩ := q1.all
    show W (if (false = false ∧ os'.length = os.length) then R.ok r (putA e os os') else .no) P X
    rw [if_pos ⟨rfl, q4⟩, q3]
    exact q2
  | okF r os' => rw [hf] at h; exact h.elim
  | ex x os' =>
    rw [hf] at h
    obtain ⟨e', q1, q2⟩ := h
    obtain ⟨q3, q4⟩ := q1.all
    show W (if os'.length = os.length then R.ex x (putA e os os') else .no) P X
    rw [if_pos q4, q3]
    exact q2
  | no => rw [hf] at h; exact h.elim
theorem w_doF {ms : List Bool} {as : List Ar} {f : Fm} {os : List Nat} {ds : List D} (hr : Rd' as e ms os ds) (hn : os.Nodup) (h : FWF (f ds) (fun r os' => ∃ e', Pa e os os' e' ∧ P r e') (fun x os' => ∃ e', Pa e os os' e' ∧ X x e')) : W (doCall true ms f as e) P X := by
  obtain ⟨h1, h2, h3⟩ := hr.all
  unfold doCall
  rw [if_pos ⟨h1, by rw [h2]; exact hn⟩, h3]
  show W (retA true e (ownA as) (f ds)) P X
  rw [h2]
  cases hf : f ds with
  | okF r os' =>
    rw [hf] at h
    obtain ⟨e', q1, q2⟩ := h
    obtain ⟨q3, q4⟩ := q1.all
    show W (if (true = true ∧ os'.length = os.length) then R.ok r (putA e os os') else .no) P X
    rw [if_pos ⟨rfl, q4⟩, q3]
    exact q2
  | ok r os' => rw [hf] at h; exact h.elim
  | ex x os' =>
    rw [hf] at h
    obtain ⟨e', q1, q2⟩ := h
    obtain ⟨q3, q4⟩ := q1.all
    show W (if os'.length = os.length then R.ex x (putA e os os') else .no) P X
    rw [if_pos q4, q3]
    exact q2
  | no => rw [hf] at h; exact h.elim
theorem FW.imp {r : FR} {Q Q' : D → List D → Prop} {QX QX' : Xn → List D → Prop} (h : FW r Q QX) (i : ∀ d os, Q d os → Q' d os) (ix : ∀ x os, QX x os → QX' x os) : FW r Q' QX' := by
  cases r with
  | ok d os => exact i _ _ h
  | ex x os => exact ix _ _ h
  | _ => exact h.elim
theorem FWF.imp {r : FR} {Q Q' : D → List D → Prop} {QX QX' : Xn → List D → Prop} (h : FWF r Q QX) (i : ∀ d os, Q d os → Q' d os) (ix : ∀ x os, QX x os → QX' x os) : FWF r Q' QX' := by
  cases r with
  | okF d os => exact i _ _ h
  | ex x os => exact ix _ _ h
  | _ => exact h.elim
theorem fw_ok {r : FR} {d : D} {os : List D} {Q : D → List D → Prop} {QX : Xn → List D → Prop} (h : r = .ok d os) (q : Q d os) : FW r Q QX := by rw [h]; exact q
theorem FW.of {r : FR} {Q : D → List D → Prop} (h : FW r Q QX0) : ∃ d os, r = .ok d os ∧ Q d os := by
  cases r with
  | ok d os => exact ⟨d, os, rfl, h⟩
  | _ => exact h.elim
/-- the end of a def -/
def EndP (ms : List Bool) (Q : D → List D → Prop) : Fl → En → Prop := fun fl e => ∃ os, outsOf ms e = some os ∧ match fl with
  | .nx => Q .non os
  | .rt d => Q d os
  | _ => False
def EndPF (ms : List Bool) (Q : D → List D → Prop) : Fl → En → Prop := fun fl e => ∃ os, outsOf ms e = some os ∧ match fl with
  | .rf d => Q d os
  | _ => False
def EndX (ms : List Bool) (QX : Xn → List D → Prop) : Xn → En → Prop := fun x e => ∃ os, outsOf ms e = some os ∧ QX x os
theorem fw_run {ms : List Bool} {n : Nat} {gb : M Fl} {ds : List D} {Q : D → List D → Prop} {QX : Xn → List D → Prop} (h : W (gb (frame ms ds n)) (EndP ms Q) (EndX ms QX)) : FW (runF ms n gb ds) Q QX := by
  unfold runF
  cases hg : gb (frame ms ds n) with
  | ok fl e =>
    rw [hg] at h
    obtain ⟨os, h1, h2⟩ := h
    unfold endF
    dsimp only
    rw [h1]
    cases fl with
    | nx => exact h2
    | rt d => exact h2
    | _ => exact h2.elim
  | ex x e =>
    rw [hg] at h
    obtain ⟨os, h1, h2⟩ := h
    unfold endF
    dsimp only
    rw [h1]
    exact h2
  | no => rw [hg] at h; exact h.elim
theorem fw_runF {ms : List Bool} {n : Nat} {gb : M Fl} {ds : List D} {Q : D → List D → Prop} {QX : Xn → List D → Prop} (h : W (gb (frame ms ds n)) (EndPF ms Q) (EndX ms QX)) : FWF (runF ms n gb ds) Q QX := by
  unfold runF
  cases hg : gb (frame ms ds n) with
  | ok fl e =>
    rw [hg] at h
    obtain ⟨os, h1, h2⟩ := h
    unfold endF
    dsimp only
    rw [h1]
    cases fl with
    | rf d => exact h2
    | _ => exact h2.elim
  | ex x e =>
    rw [hg] at h
    obtain ⟨os, h1, h2⟩ := h
    unfold endF
    dsimp only
    rw [h1]
    exact h2
  | no => rw [hg] at h; exact h.elim
theorem ep_rt {ms : List Bool} {Q : D → List D → Prop} {os : List D} {d : D} (h : outsOf ms e = some os) (q : Q d os) : EndP ms Q (.rt d) e := ⟨os, h, q⟩
theorem ep_nx {ms : List Bool} {Q : D → List D → Prop} {os : List D} (h : outsOf ms e = some os) (q : Q .non os) : EndP ms Q .nx e := ⟨os, h, q⟩
theorem ep_rf {ms : List Bool} {Q : D → List D → Prop} {os : List D} {d : D} (h : outsOf ms e = some os) (q : Q d os) : EndPF ms Q (.rf d) e := ⟨os, h, q⟩
end
end VL
namespace VL
open PySem PySem.Spec PyProof.Rows L2
/-! ### one step -/
class St' (p : Prop) (q : outParam Prop) : Prop where
  h : q → p
instance {s : Sl} {e : En} : At (s :: e) 0 s := .z
instance {s y : Sl} {e : En} {i : Nat} [At e i s] : At (y :: e) (i + 1) s := .s inferInstance
instance {s y : Sl} {e : En} : Pu (y :: e) 0 s (s :: e) := .z
instance {s y : Sl} {e e' : En} {i : Nat} [Pu e i s e'] : Pu (y :: e) (i + 1) s (y :: e') := .s inferInstance
instance {e : En} : Rd' [] e [] [] [] := .nil
instance {d : D} {as : List Ar} {e : En} {ms : List Bool} {os : List Nat} {ds : List D} [Rd' as e ms os ds] : Rd' (.val d :: as) e (false :: ms) os (d :: ds) := .val inferInstance
instance {d : D} {i : Nat} {as : List Ar} {e : En} {ms : List Bool} {os : List Nat} {ds : List D} [At e i (.ow d)] [Rd' as e ms os ds] : Rd' (.own i :: as) e (true :: ms) (i :: os) (d :: ds) := .own inferInstance inferInstance
instance {e : En} : Pa e [] [] e := .nil
instance {e e' : En} {i : Nat} {d : D} [Pu e i (.ow d) e'] : Pa e [i] [d] e' := .one inferInstance
instance {e e' e'' : En} {i j : Nat} {d c : D} {is : List Nat} {ds : List D} [Pa e (j :: is) (c :: ds) e'] [Pu e' i (.ow d) e''] : Pa e (i :: j :: is) (d :: c :: ds) e'' := .more inferInstance inferInstance
section
variable {α β : Type} {e e1 e2 e' : En} {d x y : D} {i j k : Nat} {P : α → En → Prop} {X : Xn → En → Prop}

instance i_w_bnd {f : M β} {g : β → M α}  : St' (W (bnd f g e) P X) (W (f e) (fun a e1 => W (g a e1) P X) X) := ⟨fun z => w_bnd z⟩
instance i_w_ret {a : α}  : St' (W (ret a e) P X) (P a e) := ⟨fun z => w_ret z⟩
instance i_w_rok {a : α}  : St' (W (.ok a e) P X) (P a e) := ⟨fun z => w_rok z⟩
instance i_w_ifTT {ga gb : M α}  : St' (W (ifM true ga gb e) P X) (W (ga e) P X) := ⟨fun z => w_ifTT z⟩
instance i_w_ifFF {ga gb : M α}  : St' (W (ifM false ga gb e) P X) (W (gb e) P X) := ⟨fun z => w_ifFF z⟩
end
section
variable {α β : Type} {e e1 e2 e' : En} {d x y : D} {i j k : Nat} {P : D → En → Prop} {X : Xn → En → Prop} {S : Fl → En → Prop} {B : Bool → En → Prop} {L : List D → En → Prop}
instance i_w_getS {d : D} [At e i (.fz d)] : St' (W (getS i e) P X) (P d e) := ⟨fun z => w_getS inferInstance z⟩
instance i_w_getSo {d : D} [At e i (.ow d)] : St' (W (getS i e) P X) (P d e) := ⟨fun z => w_getSo inferInstance z⟩
instance i_w_getOv {d : D}  : St' (W (getO (.val d) e) P X) (P d e) := ⟨fun z => w_getOv z⟩
instance i_w_getOs   : St' (W (getO (.slot i) e) P X) (W (getS i e) P X) := ⟨fun z => w_getOs z⟩
instance i_w_nm {d : D} [At e i (.fz d)] : St' (W (nm i e) P X) (P d e) := ⟨fun z => w_nm inferInstance z⟩
instance i_w_nmo {d : D} [At e i (.ow d)] [Pu e i (.fz d) e'] : St' (W (nm i e) P X) (P d e') := ⟨fun z => w_nmo inferInstance inferInstance z⟩
instance i_w_nmB {d : D} {P : Op → En → Prop} [At e i (.fz d)] : St' (W (nmB i e) P X) (P (.slot i) e) := ⟨fun z => w_nmB inferInstance z⟩
instance i_w_nmBo {d : D} {P : Op → En → Prop} [At e i (.ow d)] : St' (W (nmB i e) P X) (P (.slot i) e) := ⟨fun z => w_nmBo inferInstance z⟩
instance i_w_op1 {α : Type} {P : α → En → Prop} {fa : M Op} {g : D → M α}  : St' (W (op1 fa g e) P X) (W (fa e) (fun o e1 => W (getO o e1) (fun d e2 => W (g d e2) P X) X) X) := ⟨fun z => w_op1 z⟩
instance i_w_op2 {α : Type} {P : α → En → Prop} {fa fb : M Op} {g : D → D → M α}  : St' (W (op2 fa fb g e) P X) (W (fa e) (fun o e1 => W (fb e1) (fun o' e2 => W (getO o e2) (fun d e3 => W (getO o' e3) (fun d' e4 => W (g d d' e4) P X) X) X) X) X) := ⟨fun z => w_op2 z⟩
instance i_w_seq {g1 g2 : M Fl} {P : Fl → En → Prop}  : St' (W (seqM g1 g2 e) P X) (W (g1 e) (SeqP (fun e1 => W (g2 e1) P X) P) X) := ⟨fun z => w_seq z⟩
instance i_sp_nx {N : En → Prop} {P : Fl → En → Prop}  : St' (SeqP N P .nx e) (N e) := ⟨fun z => sp_nx z⟩
instance i_sp_rt {N : En → Prop} {P : Fl → En → Prop}  : St' (SeqP N P (.rt d) e) (P (.rt d) e) := ⟨fun z => sp_rt z⟩
instance i_sp_rf {N : En → Prop} {P : Fl → En → Prop}  : St' (SeqP N P (.rf d) e) (P (.rf d) e) := ⟨fun z => sp_rf z⟩
instance i_sp_bk {N : En → Prop} {P : Fl → En → Prop}  : St' (SeqP N P .bk e) (P .bk e) := ⟨fun z => sp_bk z⟩
instance i_sp_ct {N : En → Prop} {P : Fl → En → Prop}  : St' (SeqP N P .ct e) (P .ct e) := ⟨fun z => sp_ct z⟩
instance i_w_expr {α : Type} {f : M α}  : St' (W (exprM f e) S X) (W (f e) (fun _ e1 => S .nx e1) X) := ⟨fun z => w_expr z⟩
instance i_w_retM {f : M D}  : St' (W (retM f e) S X) (W (f e) (fun d e1 => S (.rt d) e1) X) := ⟨fun z => w_retM z⟩
instance i_w_retF {f : M D}  : St' (W (retF f e) S X) (W (f e) (fun d e1 => S (.rf d) e1) X) := ⟨fun z => w_retF z⟩
instance i_w_ifS {fc : M Bool} {ga gb : M Fl}  : St' (W (ifS fc ga gb e) S X) (W (fc e) (fun b e1 => W (ifM b ga gb e1) S X) X) := ⟨fun z => w_ifS z⟩
instance i_w_ifE {α : Type} {P : α → En → Prop} {fc : M Bool} {ga gb : M α}  : St' (W (ifE fc ga gb e) P X) (W (fc e) (fun b e1 => W (ifM b ga gb e1) P X) X) := ⟨fun z => w_ifE z⟩
instance i_w_setM {f : M D}  : St' (W (setM i f e) S X) (W (f e) (fun d e1 => W (putS i d e1) S X) X) := ⟨fun z => w_setM z⟩
instance i_w_setO {f : M D}  : St' (W (setO i f e) S X) (W (f e) (fun d e1 => W (putO i d e1) S X) X) := ⟨fun z => w_setO z⟩
instance i_w_putS  [Pu e i (.fz d) e'] : St' (W (putS i d e) S X) (S .nx e') := ⟨fun z => w_putS inferInstance z⟩
instance i_w_putO  [Pu e i (.ow d) e'] : St' (W (putO i d e) S X) (S .nx e') := ⟨fun z => w_putO inferInstance z⟩
instance i_w_asB {b : Bool}  : St' (W (asB (.bl b) e) B X) (B b e) := ⟨fun z => w_asB z⟩
instance i_w_and {fa fb : M Bool}  : St' (W (andT fa fb e) B X) (W (fa e) (fun b e1 => W (ifM b fb (ret false) e1) B X) X) := ⟨fun z => w_and z⟩
instance i_w_or {fa fb : M Bool}  : St' (W (orT fa fb e) B X) (W (fa e) (fun b e1 => W (ifM b (ret true) fb e1) B X) X) := ⟨fun z => w_or z⟩
instance i_w_not {fa : M Bool}  : St' (W (notT fa e) B X) (W (fa e) (fun b e1 => B (!b) e1) X) := ⟨fun z => w_not z⟩
instance i_w_andV {fa fb : M D}  : St' (W (andV fa fb e) P X) (W (fa e) (fun d e1 => W (asB d e1) (fun b e2 => W (ifM b fb (ret (.bl false)) e2) P X) X) X) := ⟨fun z => w_andV z⟩
instance i_w_orV {fa fb : M D}  : St' (W (orV fa fb e) P X) (W (fa e) (fun d e1 => W (asB d e1) (fun b e2 => W (ifM b (ret (.bl true)) fb e2) P X) X) X) := ⟨fun z => w_orV z⟩
instance i_w_notV {fa : M D}  : St' (W (notV fa e) P X) (W (fa e) (fun d e1 => W (asB d e1) (fun b e2 => P (.bl (!b)) e2) X) X) := ⟨fun z => w_notV z⟩
instance i_w_chain {fa fb fc : M Op} {g g' : D → D → M D}  : St' (W (chain fa fb fc g g' e) P X) (W (fa e) (fun o e1 => W (fb e1) (fun o' e2 => W (getO o e2) (fun x e3 => W (getO o' e3) (fun y e4 => W (g x y e4) (fun z e5 => W (asB z e5) (fun k e6 => W (ifM k (bnd fc fun o2 => bnd (getO o') fun y => bnd (getO o2) fun z => g' y z) (ret (.bl false)) e6) P X) X) X) X) X) X) X) := ⟨fun z => w_chain z⟩
instance i_w_tr {b : Bool} {P : Bool → En → Prop}  : St' (W (lift (truthD (.bl b)) e) P X) (P b e) := ⟨fun z => w_tr z⟩
instance i_w_cons {f : M D} {r : M (List D)}  : St' (W (consM f r e) L X) (W (f e) (fun d e1 => W (r e1) (fun ds e2 => L (d :: ds) e2) X) X) := ⟨fun z => w_cons z⟩
instance i_w_lst {fs : M (List D)}  : St' (W (lstM fs e) P X) (W (fs e) (fun ds e1 => ds.length ≤ line ∧ P (.lst ds) e1) X) := ⟨fun z => w_lst z⟩
instance i_w_tup {fs : M (List D)}  : St' (W (tupM fs e) P X) (W (fs e) (fun ds e1 => ds.length ≤ line ∧ P (.tup ds) e1) X) := ⟨fun z => w_tup z⟩
instance i_w_ops {f : M Op} {r : M (List Op)} {P : List Op → En → Prop}  : St' (W (opsM f r e) P X) (W (f e) (fun d e1 => W (r e1) (fun ds e2 => P (d :: ds) e2) X) X) := ⟨fun z => w_ops z⟩
instance i_w_callM {fo : M (List Op)} {g : List D → M D}  : St' (W (callM fo g e) P X) (W (fo e) (fun os e1 => W (getOs os e1) (fun ds e2 => W (g ds e2) P X) X) X) := ⟨fun z => w_callM z⟩
instance i_w_gosN   : St' (W (getOs [] e) L X) (L [] e) := ⟨fun z => w_gosN z⟩
instance i_w_gosC {o : Op} {os : List Op}  : St' (W (getOs (o :: os) e) L X) (W (getO o e) (fun d e1 => W (getOs os e1) (fun ds e2 => L (d :: ds) e2) X) X) := ⟨fun z => w_gosC z⟩
instance i_w_iter {f : M D}  : St' (W (iterM f e) L X) (W (f e) (fun d e1 => W (lift (itemsD d) e1) L X) X) := ⟨fun z => w_iter z⟩
instance i_w_walk {g : D → Option (List D)} {f : M D}  : St' (W (walkM g f e) L X) (W (f e) (fun d e1 => W (lift (g d) e1) L X) X) := ⟨fun z => w_walk z⟩
instance i_w_slice {fa : M Op} {fl fh : M (Option Int)}  : St' (W (sliceM fa fl fh e) P X) (W (fa e) (fun o e1 => W (fl e1) (fun lo e2 => W (fh e2) (fun hi e3 => W (getO o e3) (fun d e4 => W (sliceD d lo hi e4) P X) X) X) X) X) := ⟨fun z => w_slice z⟩
instance i_w_part {f : M D} {P : Option Int → En → Prop}  : St' (W (partM f e) P X) (W (f e) (fun d e1 => W (asI d e1) (fun n e2 => P (some n) e2) X) X) := ⟨fun z => w_part z⟩
instance i_w_asI {n : Int} {P : Int → En → Prop}  : St' (W (asI (.int n) e) P X) (P n e) := ⟨fun z => w_asI z⟩
instance i_w_neg {n : Int}  : St' (W (negD (.int n) e) P X) (P (.int (-n)) e) := ⟨fun z => w_neg z⟩
instance i_w_index {fo : M Op} {fs : M (List D)}  : St' (W (indexM fo fs e) P X) (W (fo e) (fun o e1 => W (getO o e1) (fun c e2 => isLst c = true ∧ W (fs e2) (fun ds e3 => W (getO o e3) (fun d e4 => W (indexD d ds e4) P X) X) X) X) X) := ⟨fun z => w_index z⟩
instance i_w_peekO {d : D} {P : Unit → En → Prop} [At e i (.ow d)] : St' (W (peekO i e) P X) (P () e) := ⟨fun z => w_peekO inferInstance z⟩
instance i_w_mutK {kd : D → Bool} {fs : M (List D)} {g : D → List D → Option (D × D)}  : St' (W (mutK kd i fs g e) P X) (W (peekK kd i e) (fun _ e1 => W (fs e1) (fun ds e2 => W (modS i (fun c => g c ds) e2) P X) X) X) := ⟨fun z => w_mutK z⟩
instance i_w_sub {fk fv : M D}  : St' (W (subSet i fk fv e) S X) (W (fv e) (fun v e1 => W (peekO i e1) (fun _ e2 => W (fk e2) (fun k e3 => W (modS i (fun c => (setItemD c k v).map fun c' => (c', ())) e3) (fun _ e4 => S .nx e4) X) X) X) X) := ⟨fun z => w_sub z⟩
instance i_w_augsub {fk fe : M D} {g : D → D → M D}  : St' (W (augSub i fk fe g e) S X) (W (peekO i e) (fun _ e1 => W (fk e1) (fun k e2 => W (getS i e2) (fun c e3 => W (lift ((dgetD c k).bind id) e3) (fun old e4 => W (fe e4) (fun y e5 => W (g old y e5) (fun z e6 => W (modS i (fun c => (setItemD c k z).map fun c' => (c', ())) e6) (fun _ e7 => S .nx e7) X) X) X) X) X) X) X) := ⟨fun z => w_augsub z⟩
instance i_w_augM {fe : M D} {g : D → D → M D}  : St' (W (augM i fe g e) S X) (W (nm i e) (fun x e1 => W (fe e1) (fun y e2 => W (g x y e2) (fun z e3 => W (putS i z e3) S X) X) X) X) := ⟨fun z => w_augM z⟩
instance i_w_get2 {fo : M Op} {fk fx : M D}  : St' (W (getM2 fo fk fx e) P X) (W (fo e) (fun o e1 => W (getO o e1) (fun c0 e2 => isDkt c0 = true ∧ W (fk e2) (fun k e3 => W (fx e3) (fun x e4 => W (getO o e4) (fun c e5 => W (lift ((dgetD c k).map fun r => r.getD x) e5) P X) X) X) X) X) X) := ⟨fun z => w_get2 z⟩
instance i_w_par {is : List Nat} {ms : M (List Tm)}  : St' (W (parM is ms e) S X) (W (ms e) (fun ts e1 => ParP S is ts e1) X) := ⟨fun z => w_par z⟩
instance i_w_tmF {f : M D} {r : M (List Tm)} {T : List Tm → En → Prop}  : St' (W (tmF f r e) T X) (W (f e) (fun d e1 => W (r e1) (fun ts e2 => T (.fz d :: ts) e2) X) X) := ⟨fun z => w_tmF z⟩
instance i_w_tmO {f : M D} {r : M (List Tm)} {T : List Tm → En → Prop}  : St' (W (tmO f r e) T X) (W (f e) (fun d e1 => W (r e1) (fun ts e2 => T (.ow d :: ts) e2) X) X) := ⟨fun z => w_tmO z⟩
instance i_w_addI {a b : Int}  : St' (W (addD (.int a) (.int b) e) P X) (P (.int (a + b)) e) := ⟨fun z => w_addI z⟩
instance i_w_subI {a b : Int}  : St' (W (subD (.int a) (.int b) e) P X) (P (.int (a - b)) e) := ⟨fun z => w_subI z⟩
instance i_w_iaddI {a b : Int}  : St' (W (iaddD (.int a) (.int b) e) P X) (P (.int (a + b)) e) := ⟨fun z => w_iaddI z⟩
instance i_w_ltI {a b : Int}  : St' (W (cmpD .Lt (.int a) (.int b) e) P X) (P (.bl (decide (a < b))) e) := ⟨fun z => w_ltI z⟩
instance i_w_leI {a b : Int}  : St' (W (cmpD .LtE (.int a) (.int b) e) P X) (P (.bl (decide (a ≤ b))) e) := ⟨fun z => w_leI z⟩
instance i_w_gtI {a b : Int}  : St' (W (cmpD .Gt (.int a) (.int b) e) P X) (P (.bl (decide (b < a))) e) := ⟨fun z => w_gtI z⟩
instance i_w_lenF {ds : List D}  : St' (W (lenD [.frl ds] e) P X) (P (.int ds.length) e) := ⟨fun z => w_lenF z⟩
instance i_w_lenL {ds : List D}  : St' (W (lenD [.lst ds] e) P X) (P (.int ds.length) e) := ⟨fun z => w_lenL z⟩
instance i_w_intI {n : Int}  : St' (W (intD [.int n] e) P X) (P (.int n) e) := ⟨fun z => w_intI z⟩
instance i_w_intB {b : Bool}  : St' (W (intD [.bl b] e) P X) (P (.int (if b then 1 else 0)) e) := ⟨fun z => w_intB z⟩
instance i_w_absI {n : Int}  : St' (W (absD [.int n] e) P X) (P (.int (if n < 0 then -n else n)) e) := ⟨fun z => w_absI z⟩
instance i_w_max2 {a b : Int}  : St' (W (maxD [.int a, .int b] e) P X) (P (.int (if b > a then b else a)) e) := ⟨fun z => w_max2 z⟩
instance i_w_min2 {a b : Int}  : St' (W (minD [.int a, .int b] e) P X) (P (.int (if b < a then b else a)) e) := ⟨fun z => w_min2 z⟩
instance i_w_listL {ds : List D}  : St' (W (listD [.lst ds] e) P X) (P (.lst ds) e) := ⟨fun z => w_listL z⟩
instance i_w_slL {ds : List D} {lo hi : Option Int}  : St' (W (sliceD (.lst ds) lo hi e) P X) (P (.lst (cutL ds lo hi)) e) := ⟨fun z => w_slL z⟩
instance i_tp_nx {I : En → Prop}  : St' (TurnP S I .nx e) (I e) := ⟨fun z => tp_nx z⟩
instance i_tp_ct {I : En → Prop}  : St' (TurnP S I .ct e) (I e) := ⟨fun z => tp_ct z⟩
instance i_tp_bk {I : En → Prop}  : St' (TurnP S I .bk e) (S .nx e) := ⟨fun z => tp_bk z⟩
instance i_tp_rt {I : En → Prop} {d : D}  : St' (TurnP S I (.rt d) e) (S (.rt d) e) := ⟨fun z => tp_rt z⟩
instance i_w_for {fi : M (List D)} {sm : D → En → Option En} {gb : M Fl}  : St' (W (forM fi sm gb e) S X) (W (fi e) (fun ds e1 => W (forL sm gb ds e1) S X) X) := ⟨fun z => w_for z⟩
instance i_w_lcM {fi : M (List D)} {sm : D → En → Option En} {ft : M Bool} {fe : M D} {vs : List Nat} {P : D → En → Prop}  : St' (W (lcM fi sm ft fe vs e) P X) (W (fi e) (fun ds e1 => W (lcL sm ft fe vs ds e1) (fun ys e2 => ys.length ≤ line ∧ P (.lst ys) e2) X) X) := ⟨fun z => w_lcM z⟩
instance i_w_arV {f : M D} {r : M (List Ar)} {P : List Ar → En → Prop}  : St' (W (arV f r e) P X) (W (f e) (fun d e1 => W (r e1) (fun as e2 => P (.val d :: as) e2) X) X) := ⟨fun z => w_arV z⟩
instance i_w_arO {i : Nat} {d : D} {r : M (List Ar)} {P : List Ar → En → Prop} [At e i (.ow d)] : St' (W (arO i r e) P X) (W (r e) (fun as e2 => P (.own i :: as) e2) X) := ⟨fun z => w_arO inferInstance z⟩
instance i_w_callE {ms : List Bool} {ga : M (List Ar)} {f : Fm}  : St' (W (callE ms ga f e) P X) (W (ga e) (fun as e1 => W (doCall false ms f as e1) P X) X) := ⟨fun z => w_callE z⟩
instance i_w_callFr {ms : List Bool} {ga : M (List Ar)} {f : Fm}  : St' (W (callFr ms ga f e) P X) (W (ga e) (fun as e1 => W (doCall true ms f as e1) P X) X) := ⟨fun z => w_callFr z⟩
instance i_peekL {ds : List D} [At e i (.ow (.lst ds))] {P : Unit → En → Prop} : St' (W (peekK isLst i e) P X) (P () e) := ⟨fun z => w_peekK (d := .lst ds) inferInstance rfl z⟩
instance i_peekD {ds : List (Key × D)} [At e i (.ow (.dk ds))] {P : Unit → En → Prop} : St' (W (peekK isDkt i e) P X) (P () e) := ⟨fun z => w_peekK (d := .dk ds) inferInstance rfl z⟩
class Sa (e : En) (is : List Nat) (ts : List Tm) (e' : outParam En) : Prop where
  h : stAll e is ts = e' ∧ ts.length = is.length
instance : Sa e [] [] e := ⟨rfl, rfl⟩
instance {is : List Nat} {ts : List Tm} [h1 : Pu e i (.fz d) e1] [h2 : Sa e1 is ts e2] : Sa e (i :: is) (.fz d :: ts) e2 := ⟨by show stAll (e.set i (.fz d)) is ts = _; rw [h1.set]; exact h2.h.1, by rw [List.length_cons, List.length_cons, h2.h.2]⟩
instance {is : List Nat} {ts : List Tm} [h1 : Pu e i (.ow d) e1] [h2 : Sa e1 is ts e2] : Sa e (i :: is) (.ow d :: ts) e2 := ⟨by show stAll (e.set i (.ow d)) is ts = _; rw [h1.set]; exact h2.h.1, by rw [List.length_cons, List.length_cons, h2.h.2]⟩
instance {is : List Nat} {ts : List Tm} [h : Sa e is ts e'] : St' (ParP S is ts e) (S .nx e') := ⟨fun z => ⟨h.h.2, by rw [h.h.1]; exact z⟩⟩
theorem len_of {α : Type} {xs : List α} {n : Nat} {p : Prop} (h : Nat.ble xs.length n = true) (q : p) : xs.length ≤ n ∧ p := ⟨Nat.le_of_ble_eq_true h, q⟩
end
end VL
namespace VL
open PySem PySem.Spec PyProof.Rows L2
abbrev top (i : Nat) : Stmt := PySem.Challenge.pw_anywaybuilt_k67_whole_least_provisions.main.body.getD i (.Pass ⟨0, 0, 0, 0⟩)
abbrev s_is_integer : Stmt := top 8
abbrev s_is_name : Stmt := top 9
abbrev s_is_list : Stmt := top 15
abbrev s_are_lists : Stmt := top 16
abbrev s_require_lists : Stmt := top 17
abbrev s_known_in : Stmt := top 18
abbrev s_keys_with : Stmt := top 19
abbrev s_levels_in : Stmt := top 20
abbrev s_ring_in : Stmt := top 21
abbrev s_require_no_ring : Stmt := top 22
abbrev s_by_levels : Stmt := top 23
abbrev s_are_counts : Stmt := top 24
abbrev s_require_provision : Stmt := top 25
abbrev s_provision : Stmt := top 26
abbrev s_is_provision : Stmt := top 27
abbrev s__law_dice : Stmt := top 29
abbrev s__law_roll : Stmt := top 30
abbrev s__law_pick : Stmt := top 31
abbrev s__law_shuffled : Stmt := top 32
abbrev s__law_ls_known : Stmt := top 33
abbrev s__law_ls_drawn : Stmt := top 34
abbrev s__law_ls_levels : Stmt := top 35
abbrev s__law_needs : Stmt := top 37
abbrev s__law_least : Stmt := top 38
abbrev s__law_is_provision : Stmt := top 39
abbrev s__law_right : Stmt := top 40
abbrev s_law : Stmt := top 41
structure Gs (K : PySem.W.Frag) (mg : Str → Option Value) where
  is_integer : FnE K mg "is_integer" s_is_integer ["value"]
  is_name : FnE K mg "is_name" s_is_name ["value"]
  is_list : FnE K mg "is_list" s_is_list ["value"]
  are_lists : FnE K mg "are_lists" s_are_lists ["value"]
  require_lists : FnE K mg "require_lists" s_require_lists ["lists"]
  known_in : FnE K mg "known_in" s_known_in ["lists"]
  keys_with : FnE K mg "keys_with" s_keys_with ["lists", "name"]
  levels_in : FnE K mg "levels_in" s_levels_in ["lists"]
  ring_in : FnE K mg "ring_in" s_ring_in ["lists"]
  require_no_ring : FnE K mg "require_no_ring" s_require_no_ring ["lists"]
  by_levels : FnE K mg "by_levels" s_by_levels ["lists"]
  are_counts : FnE K mg "are_counts" s_are_counts ["lists", "value"]
  require_provision : FnE K mg "require_provision" s_require_provision ["lists", "orders", "stock"]
  provision : FnE K mg "provision" s_provision ["lists", "orders", "stock"]
  is_provision : FnE K mg "is_provision" s_is_provision ["lists", "orders", "stock", "value"]
  _law_dice : FnE K mg "_law_dice" s__law_dice ["script", "spot"]
  _law_roll : FnE K mg "_law_roll" s__law_roll ["dice", "total"]
  _law_pick : FnE K mg "_law_pick" s__law_pick ["dice", "items"]
  _law_shuffled : FnE K mg "_law_shuffled" s__law_shuffled ["dice", "items"]
  _law_ls_known : FnE K mg "_law_ls_known" s__law_ls_known ["lists"]
  _law_ls_drawn : FnE K mg "_law_ls_drawn" s__law_ls_drawn ["dice", "many"]
  _law_ls_levels : FnE K mg "_law_ls_levels" s__law_ls_levels ["lists"]
  _law_needs : FnE K mg "_law_needs" s__law_needs ["lists", "orders", "told"]
  _law_least : FnE K mg "_law_least" s__law_least ["lists", "orders", "stock"]
  _law_is_provision : FnE K mg "_law_is_provision" s__law_is_provision ["lists", "orders", "stock", "value"]
  _law_right : FnE K mg "_law_right" s__law_right ["dice"]
  law : FnE K mg "law" s_law ["script"]
  b_abs : mg "abs" = none
  b_all : mg "all" = none
  b_bool : mg "bool" = none
  b_dict : mg "dict" = none
  b_int : mg "int" = none
  b_isinstance : mg "isinstance" = none
  b_len : mg "len" = none
  b_list : mg "list" = none
  b_max : mg "max" = none
  b_min : mg "min" = none
  b_range : mg "range" = none
  b_repr : mg "repr" = none
  b_set : mg "set" = none
  b_sorted : mg "sorted" = none
  b_str : mg "str" = none
  b_sum : mg "sum" = none
  FIRST_SIGNS : ∃ t, mg "FIRST_SIGNS" = some (.str "abcdefghijklmnopqrstuvwxyz" t)
  MAX_LINES : ∃ t, mg "MAX_LINES" = some (.int 50 t)
  MAX_LISTS : ∃ t, mg "MAX_LISTS" = some (.int 40 t)
  MAX_NAME : ∃ t, mg "MAX_NAME" = some (.int 12 t)
  MOST_EACH : ∃ t, mg "MOST_EACH" = some (.int 1000000 t)
  MOST_ORDERED : ∃ t, mg "MOST_ORDERED" = some (.int 1000000000 t)
  NEXT_SIGNS : ∃ t, mg "NEXT_SIGNS" = some (.str "abcdefghijklmnopqrstuvwxyz0123456789." t)
structure Ts [Tb] (K : PySem.W.Frag) (mg : Str → Option Value) (base : Heap) (G : Gs K mg) where
  c : Addr
  P : Addr
  tb : LamX.TabB base mg c P
  code : G.by_levels.fd.code = .ref c
  mem : (P, ("by_levels.<locals>.<lambda>" : Str)) ∈ Tb.T
  only : ∀ p ∈ Tb.T, p.1 = P → p.2 = "by_levels.<locals>.<lambda>"
theorem fs_is_integer : FnScope ["value"] ["value"] (defScope s_is_integer) := ⟨rfl, rfl, rfl, by decide +kernel, rfl, by decide +kernel, by decide +kernel⟩
def b_is_integer : M Fl := retM (andV (op1 (nmB 0) (isiD "int")) (notV (op1 (nmB 0) (isiD "bool"))))
def m_is_integer : Fm := runF [false] 0 b_is_integer
theorem ok_is_integer {P : Program} {w : World} {K : PySem.W.Frag} {mg : Str → Option Value} {base : Heap} [Tb] (G : Gs K mg) (TB : Ts K mg base G) : FnOk P w K mg base (L2.CX P w) 1 G.is_integer.a G.is_integer.fd ["value"] (spV K mg [false] m_is_integer) :=
  fn_v (k := 0) G.is_integer.fn fs_is_integer rfl rfl fun cdv A outer s H E hcd hr => by
    have hN := fs_is_integer.nd
    have hu := hu100 hr
    have tk := takes_of (X := cxOf (L2.CX P w) P w K mg base ["value"] "is_integer" (defScope s_is_integer) G.is_integer.a cdv A outer s H E) (E := E) rfl rfl rfl rfl
    unfold b_is_integer
    exact vss_one (vs_ret (ve_and (ve_isi isi_int G.b_isinstance G.b_int (vb_name 0)) (ve_and1 (ve_not (ve_isi isi_bool G.b_isinstance G.b_bool (vb_name 0))))))
theorem fs_is_name : FnScope ["value", "sign"] ["value"] (defScope s_is_name) := ⟨rfl, rfl, rfl, by decide +kernel, rfl, by decide +kernel, by decide +kernel⟩
def b_is_name : M Fl := seqM (ifS (orT (notT (op1 (bnd (op1 (nmB 0) (isiD "str")) fun d => ret (.val d)) fun d => lift (truthD d))) (orT (notT (bnd (chain (bnd (ret (.int 1)) fun d => ret (.val d)) (bnd (callM (opsM (nmB 0) (ret [])) lenD) fun d => ret (.val d)) (bnd (ret (.int 12)) fun d => ret (.val d)) (cmpD .LtE) (cmpD .LtE)) asB)) (bnd (op2 (bnd (op2 (nmB 0) (bnd (ret (.int 0)) fun d => ret (.val d)) ixD) fun d => ret (.val d)) (bnd (ret (.str "abcdefghijklmnopqrstuvwxyz")) fun d => ret (.val d)) ninD) asB))) (retM (ret (.bl false))) (ret .nx)) (retM (callM (opsM (bnd (lcM (iterM (nm 0)) (stM 1) (ret true) (op2 (nmB 1) (bnd (ret (.str "abcdefghijklmnopqrstuvwxyz0123456789.")) fun d => ret (.val d)) inD) [1]) fun d => ret (.val d)) (ret [])) allD))
def m_is_name : Fm := runF [false] 1 b_is_name
theorem ok_is_name {P : Program} {w : World} {K : PySem.W.Frag} {mg : Str → Option Value} {base : Heap} [Tb] (G : Gs K mg) (TB : Ts K mg base G) : FnOk P w K mg base (L2.CX P w) 1 G.is_name.a G.is_name.fd ["value"] (spV K mg [false] m_is_name) :=
  fn_v (k := 0) G.is_name.fn fs_is_name rfl rfl fun cdv A outer s H E hcd hr => by
    have hN := fs_is_name.nd
    have hu := hu100 hr
    have tk := takes_of (X := cxOf (L2.CX P w) P w K mg base ["value", "sign"] "is_name" (defScope s_is_name) G.is_name.a cdv A outer s H E) (E := E) rfl rfl rfl rfl
    unfold b_is_name
    exact vss_cons (vs_if (vt_w (vw_or (vt_not (vt_truth (vb_val (ve_isi isi_str G.b_isinstance G.b_str (vb_name 0))))) (vw_or (vt_not (vt_chain ov_le ov_le (vb_val (ve_int)) (vb_val (ve_callB (cv_len) G.b_len (vo_cons (vb_name 0) (vo_nil)))) (vb_val (ve_gint G.MAX_NAME)))) (vw_or1 (vt_cmp (ov_nin hu) (vb_val (ve_sub hu (vb_name 0) (vb_val (ve_int)))) (vb_val (ve_gstr G.FIRST_SIGNS))))))) (vss_one (vs_ret (ve_bl))) (vss_nil)) (vss_one (vs_ret (ve_callB (cv_all rfl) G.b_all (vo_cons (vb_val (ve_fresh (vf_lc (own := [("sign", 1)]) hN (vi_any (ve_name 0)) (blk_by (by rfl)) (lp_name 1) (fun _ _ _ _ _ => vg_name 1 hN) (fun _ _ _ _ _ => vts_nil) (fun _ _ _ _ _ => ve_cmp (ov_in hu) (vb_name 1) (vb_val (ve_gstr G.NEXT_SIGNS)))))) (vo_nil)))))
theorem fs_is_list : FnScope ["value", "many", "one"] ["value"] (defScope s_is_list) := ⟨rfl, rfl, rfl, by decide +kernel, rfl, by decide +kernel, by decide +kernel⟩
def b_is_list : M Fl := seqM (ifS (orT (notT (op1 (bnd (op1 (nmB 0) (isiD "dict")) fun d => ret (.val d)) fun d => lift (truthD d))) (orT (notT (bnd (chain (bnd (ret (.int 1)) fun d => ret (.val d)) (bnd (callM (opsM (nmB 0) (ret [])) lenD) fun d => ret (.val d)) (bnd (ret (.int 50)) fun d => ret (.val d)) (cmpD .LtE) (cmpD .LtE)) asB)) (notT (op1 (bnd (callM (opsM (bnd (lcM (iterM (nm 0)) (stM 2) (ret true) ((callE [false] (arV (nm 2) (ret [])) m_is_name)) [2]) fun d => ret (.val d)) (ret [])) allD) fun d => ret (.val d)) fun d => lift (truthD d))))) (retM (ret (.bl false))) (ret .nx)) (retM (callM (opsM (bnd (lcM (walkM valuesD (nm 0)) (stM 1) (ret true) (andV ((callE [false] (arV (nm 1) (ret [])) m_is_integer)) (chain (bnd (ret (.int 1)) fun d => ret (.val d)) (nmB 1) (bnd (ret (.int 1000000)) fun d => ret (.val d)) (cmpD .LtE) (cmpD .LtE))) [1]) fun d => ret (.val d)) (ret [])) allD))
def m_is_list : Fm := runF [false] 2 b_is_list
theorem ok_is_list {P : Program} {w : World} {K : PySem.W.Frag} {mg : Str → Option Value} {base : Heap} [Tb] (G : Gs K mg) (TB : Ts K mg base G) : FnOk P w K mg base (L2.CX P w) 2 G.is_list.a G.is_list.fd ["value"] (spV K mg [false] m_is_list) :=
  fn_v (k := 1) G.is_list.fn fs_is_list rfl rfl fun cdv A outer s H E hcd hr => by
    have hN := fs_is_list.nd
    have hu := hu100 hr
    have tk := takes_of (X := cxOf (L2.CX P w) P w K mg base ["value", "many", "one"] "is_list" (defScope s_is_list) G.is_list.a cdv A outer s H E) (E := E) rfl rfl rfl rfl
    unfold b_is_list
    exact vss_cons (vs_if (vt_w (vw_or (vt_not (vt_truth (vb_val (ve_isi isi_dict G.b_isinstance G.b_dict (vb_name 0))))) (vw_or (vt_not (vt_chain ov_le ov_le (vb_val (ve_int)) (vb_val (ve_callB (cv_len) G.b_len (vo_cons (vb_name 0) (vo_nil)))) (vb_val (ve_gint G.MAX_LINES)))) (vw_or1 (vt_not (vt_truth (vb_val (ve_callB (cv_all rfl) G.b_all (vo_cons (vb_val (ve_fresh (vf_lc (own := [("one", 2)]) hN (vi_any (ve_name 0)) (blk_by (by rfl)) (lp_name 2) (fun _ _ _ _ _ => vg_name 2 hN) (fun _ _ _ _ _ => vts_nil) (fun _ _ _ _ _ => ve_call (ok_is_name G TB) (hr.mono (by decide)) G.is_name.mg G.is_name.fn.kp G.is_name.bd takes0 (vr_val (ve_name 2) (vr_nil)))))) (vo_nil)))))))))) (vss_one (vs_ret (ve_bl))) (vss_nil)) (vss_one (vs_ret (ve_callB (cv_all rfl) G.b_all (vo_cons (vb_val (ve_fresh (vf_lc (own := [("many", 1)]) hN (vi_values (ve_name 0)) (blk_by (by rfl)) (lp_name 1) (fun _ _ _ _ _ => vg_name 1 hN) (fun _ _ _ _ _ => vts_nil) (fun _ _ _ _ _ => ve_and (ve_call (ok_is_integer G TB) (hr.mono (by decide)) G.is_integer.mg G.is_integer.fn.kp G.is_integer.bd takes0 (vr_val (ve_name 1) (vr_nil))) (ve_and1 (ve_chain ov_le ov_le (vb_val (ve_int)) (vb_name 1) (vb_val (ve_gint G.MOST_EACH)))))))) (vo_nil)))))
theorem fs_are_lists : FnScope ["value", "one"] ["value"] (defScope s_are_lists) := ⟨rfl, rfl, rfl, by decide +kernel, rfl, by decide +kernel, by decide +kernel⟩
def b_are_lists : M Fl := seqM (ifS (orT (notT (op1 (bnd (op1 (nmB 0) (isiD "dict")) fun d => ret (.val d)) fun d => lift (truthD d))) (orT (notT (bnd (chain (bnd (ret (.int 1)) fun d => ret (.val d)) (bnd (callM (opsM (nmB 0) (ret [])) lenD) fun d => ret (.val d)) (bnd (ret (.int 40)) fun d => ret (.val d)) (cmpD .LtE) (cmpD .LtE)) asB)) (notT (op1 (bnd (callM (opsM (bnd (lcM (iterM (nm 0)) (stM 1) (ret true) ((callE [false] (arV (nm 1) (ret [])) m_is_name)) [1]) fun d => ret (.val d)) (ret [])) allD) fun d => ret (.val d)) fun d => lift (truthD d))))) (retM (ret (.bl false))) (ret .nx)) (retM (callM (opsM (bnd (lcM (walkM valuesD (nm 0)) (stM 1) (ret true) ((callE [false] (arV (nm 1) (ret [])) m_is_list)) [1]) fun d => ret (.val d)) (ret [])) allD))
def m_are_lists : Fm := runF [false] 1 b_are_lists
theorem ok_are_lists {P : Program} {w : World} {K : PySem.W.Frag} {mg : Str → Option Value} {base : Heap} [Tb] (G : Gs K mg) (TB : Ts K mg base G) : FnOk P w K mg base (L2.CX P w) 3 G.are_lists.a G.are_lists.fd ["value"] (spV K mg [false] m_are_lists) :=
  fn_v (k := 2) G.are_lists.fn fs_are_lists rfl rfl fun cdv A outer s H E hcd hr => by
    have hN := fs_are_lists.nd
    have hu := hu100 hr
    have tk := takes_of (X := cxOf (L2.CX P w) P w K mg base ["value", "one"] "are_lists" (defScope s_are_lists) G.are_lists.a cdv A outer s H E) (E := E) rfl rfl rfl rfl
    unfold b_are_lists
    exact vss_cons (vs_if (vt_w (vw_or (vt_not (vt_truth (vb_val (ve_isi isi_dict G.b_isinstance G.b_dict (vb_name 0))))) (vw_or (vt_not (vt_chain ov_le ov_le (vb_val (ve_int)) (vb_val (ve_callB (cv_len) G.b_len (vo_cons (vb_name 0) (vo_nil)))) (vb_val (ve_gint G.MAX_LISTS)))) (vw_or1 (vt_not (vt_truth (vb_val (ve_callB (cv_all rfl) G.b_all (vo_cons (vb_val (ve_fresh (vf_lc (own := [("one", 1)]) hN (vi_any (ve_name 0)) (blk_by (by rfl)) (lp_name 1) (fun _ _ _ _ _ => vg_name 1 hN) (fun _ _ _ _ _ => vts_nil) (fun _ _ _ _ _ => ve_call (ok_is_name G TB) (hr.mono (by decide)) G.is_name.mg G.is_name.fn.kp G.is_name.bd takes0 (vr_val (ve_name 1) (vr_nil)))))) (vo_nil)))))))))) (vss_one (vs_ret (ve_bl))) (vss_nil)) (vss_one (vs_ret (ve_callB (cv_all rfl) G.b_all (vo_cons (vb_val (ve_fresh (vf_lc (own := [("one", 1)]) hN (vi_values (ve_name 0)) (blk_by (by rfl)) (lp_name 1) (fun _ _ _ _ _ => vg_name 1 hN) (fun _ _ _ _ _ => vts_nil) (fun _ _ _ _ _ => ve_call (ok_is_list G TB) (hr.mono (by decide)) G.is_list.mg G.is_list.fn.kp G.is_list.bd takes0 (vr_val (ve_name 1) (vr_nil)))))) (vo_nil)))))
theorem fs_require_lists : FnScope ["lists"] ["lists"] (defScope s_require_lists) := ⟨rfl, rfl, rfl, by decide +kernel, rfl, by decide +kernel, by decide +kernel⟩
def b_require_lists : M Fl := ifS (notT (op1 (bnd ((callE [false] (arV (nm 0) (ret [])) m_are_lists)) fun d => ret (.val d)) fun d => lift (truthD d))) (nope) (ret .nx)
def m_require_lists : Fm := runF [false] 0 b_require_lists
theorem ok_require_lists {P : Program} {w : World} {K : PySem.W.Frag} {mg : Str → Option Value} {base : Heap} [Tb] (G : Gs K mg) (TB : Ts K mg base G) : FnOk P w K mg base (L2.CX P w) 4 G.require_lists.a G.require_lists.fd ["lists"] (spV K mg [false] m_require_lists) :=
  fn_v (k := 3) G.require_lists.fn fs_require_lists rfl rfl fun cdv A outer s H E hcd hr => by
    have hN := fs_require_lists.nd
    have hu := hu100 hr
    have tk := takes_of (X := cxOf (L2.CX P w) P w K mg base ["lists"] "require_lists" (defScope s_require_lists) G.require_lists.a cdv A outer s H E) (E := E) rfl rfl rfl rfl
    unfold b_require_lists
    exact vss_one (vs_if (vt_not (vt_truth (vb_val (ve_call (ok_are_lists G TB) (hr.mono (by decide)) G.are_lists.mg G.are_lists.fn.kp G.are_lists.bd tk (vr_val (ve_name 0) (vr_nil)))))) (vss_one (vs_never)) (vss_nil))
theorem fs_known_in : FnScope ["lists", "found", "lines"] ["lists"] (defScope s_known_in) := ⟨rfl, rfl, rfl, by decide +kernel, rfl, by decide +kernel, by decide +kernel⟩
def b_known_in : M Fl := seqM (setO 1 (callM (opsM (nmB 0) (ret [])) listD)) (seqM (forM (walkM valuesD (nm 0)) (stM 2) (exprM (mutK isLst 1 (consM (nm 2) (ret [])) extKD))) (retM (callM (opsM (nmB 1) (ret [])) setSortD)))
def m_known_in : Fm := runF [false] 2 b_known_in
theorem ok_known_in {P : Program} {w : World} {K : PySem.W.Frag} {mg : Str → Option Value} {base : Heap} [Tb] (G : Gs K mg) (TB : Ts K mg base G) : FnOk P w K mg base (L2.CX P w) 1 G.known_in.a G.known_in.fd ["lists"] (spV K mg [false] m_known_in) :=
  fn_v (k := 0) G.known_in.fn fs_known_in rfl rfl fun cdv A outer s H E hcd hr => by
    have hN := fs_known_in.nd
    have hu := hu100 hr
    have tk := takes_of (X := cxOf (L2.CX P w) P w K mg base ["lists", "found", "lines"] "known_in" (defScope s_known_in) G.known_in.a cdv A outer s H E) (E := E) rfl rfl rfl rfl
    unfold b_known_in
    exact vss_cons (vs_setO 1 hN (vf_callT (cf_list rfl) G.b_list (vo_cons (vb_name 0) (vo_nil)))) (vss_cons (vs_for (passes_of rfl) (vi_values (ve_name 0)) (vg_name 2 hN) (vss_one (vs_expr (ve_mut 1 PySem.F.plainAttrs_list PySem.F.slot_list_extend PySem.F.type_list_extend (mv_extend rfl) (fun _ _ _ t h => top_list t (isLst_of h)) (va_cons (ve_name 2) (va_nil)))))) (vss_one (vs_ret (ve_fresh (vf_setSorted rfl G.b_sorted G.b_set (vo_cons (vb_name 1) (vo_nil)))))))
theorem fs_keys_with : FnScope ["lists", "name", "key"] ["lists", "name"] (defScope s_keys_with) := ⟨rfl, rfl, rfl, by decide +kernel, rfl, by decide +kernel, by decide +kernel⟩
def b_keys_with : M Fl := retM (lcM (iterM (callM (opsM (nmB 0) (ret [])) sortedD)) (stM 2) (bnd (op2 (nmB 1) (bnd (op2 (nmB 0) (nmB 2) ixD) fun d => ret (.val d)) inD) asB) (nm 2) [2])
def m_keys_with : Fm := runF [false, false] 1 b_keys_with
theorem ok_keys_with {P : Program} {w : World} {K : PySem.W.Frag} {mg : Str → Option Value} {base : Heap} [Tb] (G : Gs K mg) (TB : Ts K mg base G) : FnOk P w K mg base (L2.CX P w) 1 G.keys_with.a G.keys_with.fd ["lists", "name"] (spV K mg [false, false] m_keys_with) :=
  fn_v (k := 0) G.keys_with.fn fs_keys_with rfl rfl fun cdv A outer s H E hcd hr => by
    have hN := fs_keys_with.nd
    have hu := hu100 hr
    have tk := takes_of (X := cxOf (L2.CX P w) P w K mg base ["lists", "name", "key"] "keys_with" (defScope s_keys_with) G.keys_with.a cdv A outer s H E) (E := E) rfl rfl rfl rfl
    unfold b_keys_with
    exact vss_one (vs_ret (ve_fresh (vf_lc (own := [("key", 2)]) hN (vi_any (ve_fresh (vf_callB (cf_sorted rfl) G.b_sorted (vo_cons (vb_name 0) (vo_nil))))) (blk_by (by rfl)) (lp_name 2) (fun _ _ _ _ _ => vg_name 2 hN) (fun _ _ _ _ _ => vts_one (vt_cmp (ov_in hu) (vb_name 1) (vb_val (ve_sub hu (vb_name 0) (vb_name 2))))) (fun _ _ _ _ _ => ve_name 2))))
theorem fs_levels_in : FnScope ["lists", "found", "waiting", "is_new", "ready", "name", "key"] ["lists"] (defScope s_levels_in) := ⟨rfl, rfl, rfl, by decide +kernel, rfl, by decide +kernel, by decide +kernel⟩
def b_levels_in : M Fl := seqM (parM [1, 2, 3] (tmO (ret (.dk [])) (tmF ((callE [false] (arV (nm 0) (ret [])) m_known_in)) (tmF (ret (.bl true)) (ret []))))) (seqM (whileM (op1 (nmB 3) fun d => lift (truthD d)) (seqM (setM 4 (lcM (iterM (nm 2)) (stM 5) (op1 (bnd (callM (opsM (bnd (lcM (iterM ((callE [false, false] (arV (nm 0) (arV (nm 5) (ret []))) m_keys_with))) (stM 6) (ret true) (op2 (nmB 6) (nmB 1) inD) [6]) fun d => ret (.val d)) (ret [])) allD) fun d => ret (.val d)) fun d => lift (truthD d)) (nm 5) [5])) (seqM (forM (iterM (nm 4)) (stM 5) (subSet 1 (nm 5) (kwM (opsM (bnd (lcM (iterM ((callE [false, false] (arV (nm 0) (arV (nm 5) (ret []))) m_keys_with))) (stM 6) (ret true) (op2 (bnd (op2 (nmB 1) (nmB 6) ixD) fun d => ret (.val d)) (bnd (ret (.int 1)) fun d => ret (.val d)) addD) [6]) fun d => ret (.val d)) (ret [])) (ret (.int 0)) maxDflt))) (parM [2, 3] (tmF (lcM (iterM (nm 2)) (stM 5) (bnd (op2 (nmB 5) (nmB 1) ninD) asB) (nm 5) [5]) (tmF (op2 (nmB 4) (bnd (lstM (ret [])) fun d => ret (.val d)) (cmpD .NotEq)) (ret [])))))) 30) (retM (nm 1)))
def m_levels_in : Fm := runF [false] 6 b_levels_in
theorem ok_levels_in {P : Program} {w : World} {K : PySem.W.Frag} {mg : Str → Option Value} {base : Heap} [Tb] (G : Gs K mg) (TB : Ts K mg base G) : FnOk P w K mg base (L2.CX P w) 2 G.levels_in.a G.levels_in.fd ["lists"] (spV K mg [false] m_levels_in) :=
  fn_v (k := 1) G.levels_in.fn fs_levels_in rfl rfl fun cdv A outer s H E hcd hr => by
    have hN := fs_levels_in.nd
    have hu := hu100 hr
    have tk := takes_of (X := cxOf (L2.CX P w) P w K mg base ["lists", "found", "waiting", "is_new", "ready", "name", "key"] "levels_in" (defScope s_levels_in) G.levels_in.a cdv A outer s H E) (E := E) rfl rfl rfl rfl
    unfold b_levels_in
    exact vss_cons (vs_tupN (n := 3) (na_cons 1 hN (na_cons 2 hN (na_cons 3 hN (na_nil)))) (vm_ow (vf_dnew) (vm_fz (ve_call (ok_known_in G TB) (hr.mono (by decide)) G.known_in.mg G.known_in.fn.kp G.known_in.bd tk (vr_val (ve_name 0) (vr_nil))) (vm_fz (ve_bl) (vm_nil))))) (vss_cons (vs_while 30 (passes_of rfl) (vt_truth (vb_name 3)) (vss_cons (vs_setLc 4 (own := [("name", 5)]) hN (vi_any (ve_name 2)) (blk_by (by rfl)) (lp_name 5) (fun _ _ _ _ _ => vg_name 5 hN) (fun _ _ _ _ _ => vts_one (vt_truth (vb_val (ve_callB (cv_all rfl) G.b_all (vo_cons (vb_val (ve_fresh (vf_lc (own := [("key", 6)]) hN (vi_any (ve_call (ok_keys_with G TB) (hr.mono (by decide)) G.keys_with.mg G.keys_with.fn.kp G.keys_with.bd takes0 (vr_val (ve_name 0) (vr_val (ve_name 5) (vr_nil))))) (blk_by (by rfl)) (lp_name 6) (fun _ _ _ _ _ => vg_name 6 hN) (fun _ _ _ _ _ => vts_nil) (fun _ _ _ _ _ => ve_cmp (ov_in hu) (vb_name 6) (vb_name 1))))) (vo_nil)))))) (fun _ _ _ _ _ => ve_name 5) rfl) (vss_cons (vs_for (passes_of rfl) (vi_any (ve_name 4)) (vg_name 5 hN) (vss_one (vs_subset 1 hu (ve_maxDflt rfl G.b_max (vo_cons (vb_val (ve_fresh (vf_lc (own := [("key", 6)]) hN (vi_any (ve_call (ok_keys_with G TB) (hr.mono (by decide)) G.keys_with.mg G.keys_with.fn.kp G.keys_with.bd (takes_unl tk) (vr_val (ve_name 0) (vr_val (ve_name 5) (vr_nil))))) (blk_by (by rfl)) (lp_name 6) (fun _ _ _ _ _ => vg_name 6 hN) (fun _ _ _ _ _ => vts_nil) (fun _ _ _ _ _ => ve_bin ov_add (vb_val (ve_sub hu (vb_name 1) (vb_name 6))) (vb_val (ve_int)))))) (vo_nil)) (ve_int)) (ve_name 5)))) (vss_one (vs_par2 (i := 2) (j := 3) hN (vm_fz (ve_fresh (vf_lc (own := [("name", 5)]) hN (vi_any (ve_name 2)) (blk_by (by rfl)) (lp_name 5) (fun _ _ _ _ _ => vg_name 5 hN) (fun _ _ _ _ _ => vts_one (vt_cmp (ov_nin hu) (vb_name 5) (vb_name 1))) (fun _ _ _ _ _ => ve_name 5))) (vm_fz (ve_cmp (ov_ne hu) (vb_name 4) (vb_val (ve_fresh (vf_lst (va_nil))))) (vm_nil)))))))) (vss_one (vs_ret (ve_name 1))))
theorem fs_ring_in : FnScope ["lists", "told", "left", "row", "key"] ["lists"] (defScope s_ring_in) := ⟨rfl, rfl, rfl, by decide +kernel, rfl, by decide +kernel, by decide +kernel⟩
def b_ring_in : M Fl := seqM (setM 1 ((callE [false] (arV (nm 0) (ret [])) m_levels_in))) (seqM (setM 2 (lcM (iterM (callM (opsM (nmB 0) (ret [])) sortedD)) (stM 4) (bnd (op2 (nmB 4) (nmB 1) ninD) asB) (nm 4) [4])) (seqM (ifS (bnd (op2 (nmB 2) (bnd (lstM (ret [])) fun d => ret (.val d)) (cmpD .Eq)) asB) (retM (ret .non)) (ret .nx)) (nope)))
def m_ring_in : Fm := runF [false] 4 b_ring_in
theorem ok_ring_in {P : Program} {w : World} {K : PySem.W.Frag} {mg : Str → Option Value} {base : Heap} [Tb] (G : Gs K mg) (TB : Ts K mg base G) : FnOk P w K mg base (L2.CX P w) 3 G.ring_in.a G.ring_in.fd ["lists"] (spV K mg [false] m_ring_in) :=
  fn_v (k := 2) G.ring_in.fn fs_ring_in rfl rfl fun cdv A outer s H E hcd hr => by
    have hN := fs_ring_in.nd
    have hu := hu100 hr
    have tk := takes_of (X := cxOf (L2.CX P w) P w K mg base ["lists", "told", "left", "row", "key"] "ring_in" (defScope s_ring_in) G.ring_in.a cdv A outer s H E) (E := E) rfl rfl rfl rfl
    unfold b_ring_in
    exact vss_cons (vs_set 1 hN (ve_call (ok_levels_in G TB) (hr.mono (by decide)) G.levels_in.mg G.levels_in.fn.kp G.levels_in.bd tk (vr_val (ve_name 0) (vr_nil)))) (vss_cons (vs_set 2 hN (ve_fresh (vf_lc (own := [("key", 4)]) hN (vi_any (ve_fresh (vf_callB (cf_sorted rfl) G.b_sorted (vo_cons (vb_name 0) (vo_nil))))) (blk_by (by rfl)) (lp_name 4) (fun _ _ _ _ _ => vg_name 4 hN) (fun _ _ _ _ _ => vts_one (vt_cmp (ov_nin hu) (vb_name 4) (vb_name 1))) (fun _ _ _ _ _ => ve_name 4)))) (vss_cons (vs_if (vt_cmp (ov_eq hu) (vb_name 2) (vb_val (ve_fresh (vf_lst (va_nil))))) (vss_one (vs_ret (ve_non))) (vss_nil)) (vss_never)))
theorem fs_require_no_ring : FnScope ["lists"] ["lists"] (defScope s_require_no_ring) := ⟨rfl, rfl, rfl, by decide +kernel, rfl, by decide +kernel, by decide +kernel⟩
def b_require_no_ring : M Fl := ifS (bnd (op2 (bnd ((callE [false] (arV (nm 0) (ret [])) m_ring_in)) fun d => ret (.val d)) (bnd (ret .non) fun d => ret (.val d)) (cmpD .IsNot)) asB) (nope) (ret .nx)
def m_require_no_ring : Fm := runF [false] 0 b_require_no_ring
theorem ok_require_no_ring {P : Program} {w : World} {K : PySem.W.Frag} {mg : Str → Option Value} {base : Heap} [Tb] (G : Gs K mg) (TB : Ts K mg base G) : FnOk P w K mg base (L2.CX P w) 4 G.require_no_ring.a G.require_no_ring.fd ["lists"] (spV K mg [false] m_require_no_ring) :=
  fn_v (k := 3) G.require_no_ring.fn fs_require_no_ring rfl rfl fun cdv A outer s H E hcd hr => by
    have hN := fs_require_no_ring.nd
    have hu := hu100 hr
    have tk := takes_of (X := cxOf (L2.CX P w) P w K mg base ["lists"] "require_no_ring" (defScope s_require_no_ring) G.require_no_ring.a cdv A outer s H E) (E := E) rfl rfl rfl rfl
    unfold b_require_no_ring
    exact vss_one (vs_if (vt_cmp ov_isn (vb_val (ve_call (ok_ring_in G TB) (hr.mono (by decide)) G.ring_in.mg G.ring_in.fn.kp G.ring_in.bd tk (vr_val (ve_name 0) (vr_nil)))) (vb_val (ve_non))) (vss_one (vs_never)) (vss_nil))
theorem fs_by_levels : FnScope ["lists", "told"] ["lists"] (defScope s_by_levels) := ⟨rfl, rfl, rfl, by decide +kernel, rfl, by decide +kernel, by decide +kernel⟩
def b_by_levels : M Fl := seqM (setM 1 ((callE [false] (arV (nm 0) (ret [])) m_levels_in))) (retM (sortLam 1))
def m_by_levels : Fm := runF [false] 1 b_by_levels
theorem ok_by_levels {P : Program} {w : World} {K : PySem.W.Frag} {mg : Str → Option Value} {base : Heap} [Tb] (G : Gs K mg) (TB : Ts K mg base G) : FnOk P w K mg base (L2.CX P w) 3 G.by_levels.a G.by_levels.fd ["lists"] (spV K mg [false] m_by_levels) :=
  fn_v (k := 2) G.by_levels.fn fs_by_levels rfl rfl fun cdv A outer s H E hcd hr => by
    have hN := fs_by_levels.nd
    have hu := hu100 hr
    have tk := takes_of (X := cxOf (L2.CX P w) P w K mg base ["lists", "told"] "by_levels" (defScope s_by_levels) G.by_levels.a cdv A outer s H E) (E := E) rfl rfl rfl rfl
    unfold b_by_levels
    exact vss_cons (vs_set 1 hN (ve_call (ok_levels_in G TB) (hr.mono (by decide)) G.levels_in.mg G.levels_in.fn.kp G.levels_in.bd tk (vr_val (ve_name 0) (vr_nil)))) (vss_one (vs_ret (ve_fresh (vf_sortLam 1 rfl hu (dep2 hr) G.b_sorted TB.tb (hcd.symm.trans TB.code) TB.mem TB.only (lamK_by (by rfl))))))
theorem fs_are_counts : FnScope ["lists", "value", "known", "many", "one"] ["lists", "value"] (defScope s_are_counts) := ⟨rfl, rfl, rfl, by decide +kernel, rfl, by decide +kernel, by decide +kernel⟩
def b_are_counts : M Fl := seqM (setM 2 ((callE [false] (arV (nm 0) (ret [])) m_known_in))) (seqM (ifS (orT (notT (op1 (bnd (op1 (nmB 1) (isiD "dict")) fun d => ret (.val d)) fun d => lift (truthD d))) (notT (op1 (bnd (callM (opsM (bnd (lcM (iterM (nm 1)) (stM 4) (ret true) (andV (op1 (nmB 4) (isiD "str")) (op2 (nmB 4) (nmB 2) inD)) [4]) fun d => ret (.val d)) (ret [])) allD) fun d => ret (.val d)) fun d => lift (truthD d)))) (retM (ret (.bl false))) (ret .nx)) (retM (callM (opsM (bnd (lcM (walkM valuesD (nm 1)) (stM 3) (ret true) (andV ((callE [false] (arV (nm 3) (ret [])) m_is_integer)) (chain (bnd (ret (.int 0)) fun d => ret (.val d)) (nmB 3) (bnd (ret (.int 1000000000)) fun d => ret (.val d)) (cmpD .LtE) (cmpD .LtE))) [3]) fun d => ret (.val d)) (ret [])) allD)))
def m_are_counts : Fm := runF [false, false] 3 b_are_counts
theorem ok_are_counts {P : Program} {w : World} {K : PySem.W.Frag} {mg : Str → Option Value} {base : Heap} [Tb] (G : Gs K mg) (TB : Ts K mg base G) : FnOk P w K mg base (L2.CX P w) 2 G.are_counts.a G.are_counts.fd ["lists", "value"] (spV K mg [false, false] m_are_counts) :=
  fn_v (k := 1) G.are_counts.fn fs_are_counts rfl rfl fun cdv A outer s H E hcd hr => by
    have hN := fs_are_counts.nd
    have hu := hu100 hr
    have tk := takes_of (X := cxOf (L2.CX P w) P w K mg base ["lists", "value", "known", "many", "one"] "are_counts" (defScope s_are_counts) G.are_counts.a cdv A outer s H E) (E := E) rfl rfl rfl rfl
    unfold b_are_counts
    exact vss_cons (vs_set 2 hN (ve_call (ok_known_in G TB) (hr.mono (by decide)) G.known_in.mg G.known_in.fn.kp G.known_in.bd tk (vr_val (ve_name 0) (vr_nil)))) (vss_cons (vs_if (vt_w (vw_or (vt_not (vt_truth (vb_val (ve_isi isi_dict G.b_isinstance G.b_dict (vb_name 1))))) (vw_or1 (vt_not (vt_truth (vb_val (ve_callB (cv_all rfl) G.b_all (vo_cons (vb_val (ve_fresh (vf_lc (own := [("one", 4)]) hN (vi_any (ve_name 1)) (blk_by (by rfl)) (lp_name 4) (fun _ _ _ _ _ => vg_name 4 hN) (fun _ _ _ _ _ => vts_nil) (fun _ _ _ _ _ => ve_and (ve_isi isi_str G.b_isinstance G.b_str (vb_name 4)) (ve_and1 (ve_cmp (ov_in hu) (vb_name 4) (vb_name 2))))))) (vo_nil))))))))) (vss_one (vs_ret (ve_bl))) (vss_nil)) (vss_one (vs_ret (ve_callB (cv_all rfl) G.b_all (vo_cons (vb_val (ve_fresh (vf_lc (own := [("many", 3)]) hN (vi_values (ve_name 1)) (blk_by (by rfl)) (lp_name 3) (fun _ _ _ _ _ => vg_name 3 hN) (fun _ _ _ _ _ => vts_nil) (fun _ _ _ _ _ => ve_and (ve_call (ok_is_integer G TB) (hr.mono (by decide)) G.is_integer.mg G.is_integer.fn.kp G.is_integer.bd takes0 (vr_val (ve_name 3) (vr_nil))) (ve_and1 (ve_chain ov_le ov_le (vb_val (ve_int)) (vb_name 3) (vb_val (ve_gint G.MOST_ORDERED)))))))) (vo_nil))))))
theorem fs_require_provision : FnScope ["lists", "orders", "stock"] ["lists", "orders", "stock"] (defScope s_require_provision) := ⟨rfl, rfl, rfl, by decide +kernel, rfl, by decide +kernel, by decide +kernel⟩
def b_require_provision : M Fl := seqM (exprM ((callE [false] (arV (nm 0) (ret [])) m_require_lists))) (seqM (ifS (notT (op1 (bnd ((callE [false, false] (arV (nm 0) (arV (nm 1) (ret []))) m_are_counts)) fun d => ret (.val d)) fun d => lift (truthD d))) (nope) (ret .nx)) (seqM (ifS (notT (op1 (bnd ((callE [false, false] (arV (nm 0) (arV (nm 2) (ret []))) m_are_counts)) fun d => ret (.val d)) fun d => lift (truthD d))) (nope) (ret .nx)) (exprM ((callE [false] (arV (nm 0) (ret [])) m_require_no_ring)))))
def m_require_provision : Fm := runF [false, false, false] 0 b_require_provision
theorem ok_require_provision {P : Program} {w : World} {K : PySem.W.Frag} {mg : Str → Option Value} {base : Heap} [Tb] (G : Gs K mg) (TB : Ts K mg base G) : FnOk P w K mg base (L2.CX P w) 5 G.require_provision.a G.require_provision.fd ["lists", "orders", "stock"] (spV K mg [false, false, false] m_require_provision) :=
  fn_v (k := 4) G.require_provision.fn fs_require_provision rfl rfl fun cdv A outer s H E hcd hr => by
    have hN := fs_require_provision.nd
    have hu := hu100 hr
    have tk := takes_of (X := cxOf (L2.CX P w) P w K mg base ["lists", "orders", "stock"] "require_provision" (defScope s_require_provision) G.require_provision.a cdv A outer s H E) (E := E) rfl rfl rfl rfl
    unfold b_require_provision
    exact vss_cons (vs_expr (ve_call (ok_require_lists G TB) (hr.mono (by decide)) G.require_lists.mg G.require_lists.fn.kp G.require_lists.bd tk (vr_val (ve_name 0) (vr_nil)))) (vss_cons (vs_if (vt_not (vt_truth (vb_val (ve_call (ok_are_counts G TB) (hr.mono (by decide)) G.are_counts.mg G.are_counts.fn.kp G.are_counts.bd tk (vr_val (ve_name 0) (vr_val (ve_name 1) (vr_nil))))))) (vss_one (vs_never)) (vss_nil)) (vss_cons (vs_if (vt_not (vt_truth (vb_val (ve_call (ok_are_counts G TB) (hr.mono (by decide)) G.are_counts.mg G.are_counts.fn.kp G.are_counts.bd tk (vr_val (ve_name 0) (vr_val (ve_name 2) (vr_nil))))))) (vss_one (vs_never)) (vss_nil)) (vss_one (vs_expr (ve_call (ok_require_no_ring G TB) (hr.mono (by decide)) G.require_no_ring.mg G.require_no_ring.fn.kp G.require_no_ring.bd tk (vr_val (ve_name 0) (vr_nil)))))))
theorem fs_provision : FnScope ["lists", "orders", "stock", "wanted", "found", "name", "line", "each", "one"] ["lists", "orders", "stock"] (defScope s_provision) := ⟨rfl, rfl, rfl, by decide +kernel, rfl, by decide +kernel, by decide +kernel⟩
def b_provision : M Fl := seqM (exprM ((callE [false, false, false] (arV (nm 0) (arV (nm 1) (arV (nm 2) (ret [])))) m_require_provision))) (seqM (parM [3, 4] (tmO (dcM (iterM ((callE [false] (arV (nm 0) (ret [])) m_known_in))) (stM 8) (ret true) (nm 8) (getM2 (nmB 1) (nm 8) (ret (.int 0))) [8]) (tmO (ret (.dk [])) (ret [])))) (seqM (forM (iterM ((callE [false] (arV (nm 0) (ret [])) m_by_levels))) (stM 5) (seqM (subSet 4 (nm 5) (callM (opsM (bnd (ret (.int 0)) fun d => ret (.val d)) (opsM (bnd (op2 (bnd (op2 (nmB 3) (nmB 5) ixD) fun d => ret (.val d)) (bnd (getM2 (nmB 2) (nm 5) (ret (.int 0))) fun d => ret (.val d)) subD) fun d => ret (.val d)) (ret []))) maxD)) (forM (walkM itemsOf (getM2 (nmB 0) (nm 5) (ret (.dk [])))) (stTup 2 (stCons (stM 6) (stCons (stM 7) stNil))) (augSub 3 (nm 6) (op2 (bnd (op2 (nmB 4) (nmB 5) ixD) fun d => ret (.val d)) (nmB 7) mulD) iaddD)))) (retM (dcM (iterM (callM (opsM (nmB 4) (ret [])) sortedD)) (stM 5) (bnd (op2 (bnd (op2 (nmB 4) (nmB 5) ixD) fun d => ret (.val d)) (bnd (ret (.int 0)) fun d => ret (.val d)) (cmpD .Gt)) asB) (nm 5) (op2 (nmB 4) (nmB 5) ixD) [5]))))
def m_provision : Fm := runF [false, false, false] 6 b_provision
theorem ok_provision {P : Program} {w : World} {K : PySem.W.Frag} {mg : Str → Option Value} {base : Heap} [Tb] (G : Gs K mg) (TB : Ts K mg base G) : FnOk P w K mg base (L2.CX P w) 6 G.provision.a G.provision.fd ["lists", "orders", "stock"] (spV K mg [false, false, false] m_provision) :=
  fn_v (k := 5) G.provision.fn fs_provision rfl rfl fun cdv A outer s H E hcd hr => by
    have hN := fs_provision.nd
    have hu := hu100 hr
    have tk := takes_of (X := cxOf (L2.CX P w) P w K mg base ["lists", "orders", "stock", "wanted", "found", "name", "line", "each", "one"] "provision" (defScope s_provision) G.provision.a cdv A outer s H E) (E := E) rfl rfl rfl rfl
    unfold b_provision
    exact vss_cons (vs_expr (ve_call (ok_require_provision G TB) (hr.mono (by decide)) G.require_provision.mg G.require_provision.fn.kp G.require_provision.bd tk (vr_val (ve_name 0) (vr_val (ve_name 1) (vr_val (ve_name 2) (vr_nil)))))) (vss_cons (vs_tupN (n := 2) (na_cons 3 hN (na_cons 4 hN (na_nil))) (vm_ow (vf_dc (own := [("one", 8)]) hN (vi_any (ve_call (ok_known_in G TB) (hr.mono (by decide)) G.known_in.mg G.known_in.fn.kp G.known_in.bd tk (vr_val (ve_name 0) (vr_nil)))) (blk_by (by rfl)) (lp_name 8) (fun _ _ _ _ _ => vg_name 8 hN) (fun _ _ _ _ _ => vts_nil) (fun _ _ _ _ _ => ve_name 8) (fun _ _ _ _ _ => ve_get2 hu (vb_name 1) (ve_name 8) (ve_int) ⟨rfl, rfl, rfl, rfl⟩)) (vm_ow (vf_dnew) (vm_nil)))) (vss_cons (vs_for (passes_of rfl) (vi_any (ve_call (ok_by_levels G TB) (hr.mono (by decide)) G.by_levels.mg G.by_levels.fn.kp G.by_levels.bd tk (vr_val (ve_name 0) (vr_nil)))) (vg_name 5 hN) (vss_cons (vs_subset 4 hu (ve_callB (cv_max rfl) G.b_max (vo_cons (vb_val (ve_int)) (vo_cons (vb_val (ve_bin ov_sub (vb_val (ve_sub hu (vb_name 3) (vb_name 5))) (vb_val (ve_get2 hu (vb_name 2) (ve_name 5) (ve_int) ⟨rfl, rfl, rfl, rfl⟩)))) (vo_nil)))) (ve_name 5)) (vss_one (vs_for (passes_of rfl) (vi_items (ve_get2 hu (vb_name 0) (ve_name 5) (ve_fresh (vf_dnew)) ⟨rfl, rfl, rfl, rfl⟩)) (vg_tup rfl (vgs_cons (vg_name 6 hN) (vgs_cons (vg_name 7 hN) (vgs_nil)))) (vss_one (vs_augsub 3 hu ip_addV (ve_name 6) (ve_bin ov_mul (vb_val (ve_sub hu (vb_name 4) (vb_name 5))) (vb_name 7)))))))) (vss_one (vs_ret (ve_fresh (vf_dc (own := [("name", 5)]) hN (vi_any (ve_fresh (vf_callB (cf_sorted rfl) G.b_sorted (vo_cons (vb_name 4) (vo_nil))))) (blk_by (by rfl)) (lp_name 5) (fun _ _ _ _ _ => vg_name 5 hN) (fun _ _ _ _ _ => vts_one (vt_cmp ov_gt (vb_val (ve_sub hu (vb_name 4) (vb_name 5))) (vb_val (ve_int)))) (fun _ _ _ _ _ => ve_name 5) (fun _ _ _ _ _ => ve_sub hu (vb_name 4) (vb_name 5))))))))
theorem fs_is_provision : FnScope ["lists", "orders", "stock", "value", "known", "wanted", "key", "lines", "line", "each", "one", "many"] ["lists", "orders", "stock", "value"] (defScope s_is_provision) := ⟨rfl, rfl, rfl, by decide +kernel, rfl, by decide +kernel, by decide +kernel⟩
def b_is_provision : M Fl := seqM (exprM ((callE [false, false, false] (arV (nm 0) (arV (nm 1) (arV (nm 2) (ret [])))) m_require_provision))) (seqM (setM 4 ((callE [false] (arV (nm 0) (ret [])) m_known_in))) (seqM (ifS (orT (notT (op1 (bnd (op1 (nmB 3) (isiD "dict")) fun d => ret (.val d)) fun d => lift (truthD d))) (notT (op1 (bnd (callM (opsM (bnd (lcM (iterM (nm 3)) (stM 10) (ret true) (andV (op1 (nmB 10) (isiD "str")) (op2 (nmB 10) (nmB 4) inD)) [10]) fun d => ret (.val d)) (ret [])) allD) fun d => ret (.val d)) fun d => lift (truthD d)))) (retM (ret (.bl false))) (ret .nx)) (seqM (ifS (notT (op1 (bnd (callM (opsM (bnd (lcM (walkM valuesD (nm 3)) (stM 11) (ret true) (andV ((callE [false] (arV (nm 11) (ret [])) m_is_integer)) (op2 (nmB 11) (bnd (ret (.int 0)) fun d => ret (.val d)) (cmpD .Gt))) [11]) fun d => ret (.val d)) (ret [])) allD) fun d => ret (.val d)) fun d => lift (truthD d))) (retM (ret (.bl false))) (ret .nx)) (seqM (setO 5 (dcM (iterM (nm 4)) (stM 10) (ret true) (nm 10) (getM2 (nmB 1) (nm 10) (ret (.int 0))) [10])) (seqM (forM (walkM itemsOf (nm 0)) (stTup 2 (stCons (stM 6) (stCons (stM 7) stNil))) (forM (walkM itemsOf (nm 7)) (stTup 2 (stCons (stM 8) (stCons (stM 9) stNil))) (augSub 5 (nm 8) (op2 (bnd (getM2 (nmB 3) (nm 6) (ret (.int 0))) fun d => ret (.val d)) (nmB 9) mulD) iaddD))) (retM (callM (opsM (bnd (lcM (iterM (nm 4)) (stM 10) (ret true) (op2 (bnd (op2 (bnd (getM2 (nmB 2) (nm 10) (ret (.int 0))) fun d => ret (.val d)) (bnd (getM2 (nmB 3) (nm 10) (ret (.int 0))) fun d => ret (.val d)) addD) fun d => ret (.val d)) (bnd (op2 (nmB 5) (nmB 10) ixD) fun d => ret (.val d)) (cmpD .GtE)) [10]) fun d => ret (.val d)) (ret [])) allD)))))))
def m_is_provision : Fm := runF [false, false, false, false] 8 b_is_provision
theorem ok_is_provision {P : Program} {w : World} {K : PySem.W.Frag} {mg : Str → Option Value} {base : Heap} [Tb] (G : Gs K mg) (TB : Ts K mg base G) : FnOk P w K mg base (L2.CX P w) 6 G.is_provision.a G.is_provision.fd ["lists", "orders", "stock", "value"] (spV K mg [false, false, false, false] m_is_provision) :=
  fn_v (k := 5) G.is_provision.fn fs_is_provision rfl rfl fun cdv A outer s H E hcd hr => by
    have hN := fs_is_provision.nd
    have hu := hu100 hr
    have tk := takes_of (X := cxOf (L2.CX P w) P w K mg base ["lists", "orders", "stock", "value", "known", "wanted", "key", "lines", "line", "each", "one", "many"] "is_provision" (defScope s_is_provision) G.is_provision.a cdv A outer s H E) (E := E) rfl rfl rfl rfl
    unfold b_is_provision
    exact vss_cons (vs_expr (ve_call (ok_require_provision G TB) (hr.mono (by decide)) G.require_provision.mg G.require_provision.fn.kp G.require_provision.bd tk (vr_val (ve_name 0) (vr_val (ve_name 1) (vr_val (ve_name 2) (vr_nil)))))) (vss_cons (vs_set 4 hN (ve_call (ok_known_in G TB) (hr.mono (by decide)) G.known_in.mg G.known_in.fn.kp G.known_in.bd tk (vr_val (ve_name 0) (vr_nil)))) (vss_cons (vs_if (vt_w (vw_or (vt_not (vt_truth (vb_val (ve_isi isi_dict G.b_isinstance G.b_dict (vb_name 3))))) (vw_or1 (vt_not (vt_truth (vb_val (ve_callB (cv_all rfl) G.b_all (vo_cons (vb_val (ve_fresh (vf_lc (own := [("one", 10)]) hN (vi_any (ve_name 3)) (blk_by (by rfl)) (lp_name 10) (fun _ _ _ _ _ => vg_name 10 hN) (fun _ _ _ _ _ => vts_nil) (fun _ _ _ _ _ => ve_and (ve_isi isi_str G.b_isinstance G.b_str (vb_name 10)) (ve_and1 (ve_cmp (ov_in hu) (vb_name 10) (vb_name 4))))))) (vo_nil))))))))) (vss_one (vs_ret (ve_bl))) (vss_nil)) (vss_cons (vs_if (vt_not (vt_truth (vb_val (ve_callB (cv_all rfl) G.b_all (vo_cons (vb_val (ve_fresh (vf_lc (own := [("many", 11)]) hN (vi_values (ve_name 3)) (blk_by (by rfl)) (lp_name 11) (fun _ _ _ _ _ => vg_name 11 hN) (fun _ _ _ _ _ => vts_nil) (fun _ _ _ _ _ => ve_and (ve_call (ok_is_integer G TB) (hr.mono (by decide)) G.is_integer.mg G.is_integer.fn.kp G.is_integer.bd takes0 (vr_val (ve_name 11) (vr_nil))) (ve_and1 (ve_cmp ov_gt (vb_name 11) (vb_val (ve_int)))))))) (vo_nil)))))) (vss_one (vs_ret (ve_bl))) (vss_nil)) (vss_cons (vs_setO 5 hN (vf_dc (own := [("one", 10)]) hN (vi_any (ve_name 4)) (blk_by (by rfl)) (lp_name 10) (fun _ _ _ _ _ => vg_name 10 hN) (fun _ _ _ _ _ => vts_nil) (fun _ _ _ _ _ => ve_name 10) (fun _ _ _ _ _ => ve_get2 hu (vb_name 1) (ve_name 10) (ve_int) ⟨rfl, rfl, rfl, rfl⟩))) (vss_cons (vs_for (passes_of rfl) (vi_items (ve_name 0)) (vg_tup rfl (vgs_cons (vg_name 6 hN) (vgs_cons (vg_name 7 hN) (vgs_nil)))) (vss_one (vs_for (passes_of rfl) (vi_items (ve_name 7)) (vg_tup rfl (vgs_cons (vg_name 8 hN) (vgs_cons (vg_name 9 hN) (vgs_nil)))) (vss_one (vs_augsub 5 hu ip_addV (ve_name 8) (ve_bin ov_mul (vb_val (ve_get2 hu (vb_name 3) (ve_name 6) (ve_int) ⟨rfl, rfl, rfl, rfl⟩)) (vb_name 9))))))) (vss_one (vs_ret (ve_callB (cv_all rfl) G.b_all (vo_cons (vb_val (ve_fresh (vf_lc (own := [("one", 10)]) hN (vi_any (ve_name 4)) (blk_by (by rfl)) (lp_name 10) (fun _ _ _ _ _ => vg_name 10 hN) (fun _ _ _ _ _ => vts_nil) (fun _ _ _ _ _ => ve_cmp ov_ge (vb_val (ve_bin ov_add (vb_val (ve_get2 hu (vb_name 2) (ve_name 10) (ve_int) ⟨rfl, rfl, rfl, rfl⟩)) (vb_val (ve_get2 hu (vb_name 3) (ve_name 10) (ve_int) ⟨rfl, rfl, rfl, rfl⟩)))) (vb_val (ve_sub hu (vb_name 5) (vb_name 10))))))) (vo_nil))))))))))
theorem fs__law_dice : FnScope ["script", "spot", "cell", "great", "seed"] ["script", "spot"] (defScope s__law_dice) := ⟨rfl, rfl, rfl, by decide +kernel, rfl, by decide +kernel, by decide +kernel⟩
def b__law_dice : M Fl := seqM (setM 2 (ifE (bnd (op2 (nmB 1) (bnd (callM (opsM (nmB 0) (ret [])) lenD) fun d => ret (.val d)) (cmpD .Lt)) asB) (callM (opsM (bnd (op2 (nmB 0) (nmB 1) ixD) fun d => ret (.val d)) (ret [])) intD) (op2 (bnd (op2 (bnd (ret (.int 131)) fun d => ret (.val d)) (nmB 1) mulD) fun d => ret (.val d)) (bnd (ret (.int 37)) fun d => ret (.val d)) addD))) (seqM (setM 3 (op2 (bnd (callM (opsM (bnd (callM (opsM (nmB 2) (ret [])) absD) fun d => ret (.val d)) (ret [])) intD) fun d => ret (.val d)) (bnd (op2 (bnd (op2 (bnd (ret (.int 10)) fun d => ret (.val d)) (bnd (ret (.int 53)) fun d => ret (.val d)) powD) fun d => ret (.val d)) (bnd (ret (.int 6)) fun d => ret (.val d)) powD) fun d => ret (.val d)) modD)) (seqM (setM 4 (op2 (bnd (op2 (bnd (op2 (bnd (op2 (bnd (op2 (nmB 3) (bnd (ret (.int 2305843009213693907)) fun d => ret (.val d)) modD) fun d => ret (.val d)) (bnd (ret (.int 73)) fun d => ret (.val d)) mulD) fun d => ret (.val d)) (bnd (op2 (bnd (ret (.int 619)) fun d => ret (.val d)) (nmB 1) mulD) fun d => ret (.val d)) addD) fun d => ret (.val d)) (bnd (op2 (bnd (ret (.int 41)) fun d => ret (.val d)) (bnd (callM (opsM (bnd (op2 (nmB 2) (bnd (ret (.int 0)) fun d => ret (.val d)) (cmpD .Lt)) fun d => ret (.val d)) (ret [])) intD) fun d => ret (.val d)) mulD) fun d => ret (.val d)) addD) fun d => ret (.val d)) (bnd (ret (.int 17)) fun d => ret (.val d)) addD)) (retF (lstM (consM (callM (opsM (bnd (ret (.int 0)) fun d => ret (.val d)) (opsM (bnd (op2 (nmB 3) (bnd (op2 (bnd (ret (.int 10)) fun d => ret (.val d)) (bnd (ret (.int 16)) fun d => ret (.val d)) powD) fun d => ret (.val d)) subD) fun d => ret (.val d)) (ret []))) maxD) (consM (nm 4) (consM (ret (.int 0)) (ret []))))))))
def m__law_dice : Fm := runF [false, false] 3 b__law_dice
theorem ok__law_dice {P : Program} {w : World} {K : PySem.W.Frag} {mg : Str → Option Value} {base : Heap} [Tb] (G : Gs K mg) (TB : Ts K mg base G) : FnOk P w K mg base (L2.CX P w) 1 G._law_dice.a G._law_dice.fd ["script", "spot"] (spV K mg [false, false] m__law_dice) :=
  fn_v (k := 0) G._law_dice.fn fs__law_dice rfl rfl fun cdv A outer s H E hcd hr => by
    have hN := fs__law_dice.nd
    have hu := hu100 hr
    have tk := takes_of (X := cxOf (L2.CX P w) P w K mg base ["script", "spot", "cell", "great", "seed"] "_law_dice" (defScope s__law_dice) G._law_dice.a cdv A outer s H E) (E := E) rfl rfl rfl rfl
    unfold b__law_dice
    exact vss_cons (vs_set 2 hN (ve_if (vt_cmp ov_lt (vb_name 1) (vb_val (ve_callB (cv_len) G.b_len (vo_cons (vb_name 0) (vo_nil))))) (ve_callT (cv_int) G.b_int (vo_cons (vb_val (ve_sub hu (vb_name 0) (vb_name 1))) (vo_nil))) (ve_bin ov_add (vb_val (ve_bin ov_mul (vb_val (ve_int)) (vb_name 1))) (vb_val (ve_int))))) (vss_cons (vs_set 3 hN (ve_bin ov_mod (vb_val (ve_callT (cv_int) G.b_int (vo_cons (vb_val (ve_callB (cv_abs) G.b_abs (vo_cons (vb_name 2) (vo_nil)))) (vo_nil)))) (vb_val (ve_bin ov_pow (vb_val (ve_bin ov_pow (vb_val (ve_int)) (vb_val (ve_int)))) (vb_val (ve_int)))))) (vss_cons (vs_set 4 hN (ve_bin ov_add (vb_val (ve_bin ov_add (vb_val (ve_bin ov_add (vb_val (ve_bin ov_mul (vb_val (ve_bin ov_mod (vb_name 3) (vb_val (ve_int)))) (vb_val (ve_int)))) (vb_val (ve_bin ov_mul (vb_val (ve_int)) (vb_name 1))))) (vb_val (ve_bin ov_mul (vb_val (ve_int)) (vb_val (ve_callT (cv_int) G.b_int (vo_cons (vb_val (ve_cmp ov_lt (vb_name 2) (vb_val (ve_int)))) (vo_nil)))))))) (vb_val (ve_int)))) (vss_one (vs_retF (vf_lst (va_cons (ve_callB (cv_max rfl) G.b_max (vo_cons (vb_val (ve_int)) (vo_cons (vb_val (ve_bin ov_sub (vb_name 3) (vb_val (ve_bin ov_pow (vb_val (ve_int)) (vb_val (ve_int)))))) (vo_nil)))) (va_cons (ve_name 4) (va_cons (ve_int) (va_nil)))))))))
theorem fs__law_roll : FnScope ["dice", "total", "found", "one", "two"] ["dice", "total"] (defScope s__law_roll) := ⟨rfl, rfl, rfl, by decide +kernel, rfl, by decide +kernel, by decide +kernel⟩
def b__law_roll : M Fl := seqM (ifS (bnd (op2 (bnd (op2 (nmB 0) (bnd (ret (.int 0)) fun d => ret (.val d)) ixD) fun d => ret (.val d)) (bnd (ret (.int 0)) fun d => ret (.val d)) (cmpD .Gt)) asB) (seqM (setM 2 (op2 (bnd (op2 (nmB 0) (bnd (ret (.int 0)) fun d => ret (.val d)) ixD) fun d => ret (.val d)) (nmB 1) modD)) (seqM (subSet 0 (ret (.int 0)) (op2 (bnd (op2 (nmB 0) (bnd (ret (.int 0)) fun d => ret (.val d)) ixD) fun d => ret (.val d)) (nmB 1) divD)) (retM (callM (opsM (nmB 2) (ret [])) intD)))) (ret .nx)) (seqM (subSet 0 (ret (.int 2)) (op2 (bnd (op2 (nmB 0) (bnd (ret (.int 2)) fun d => ret (.val d)) ixD) fun d => ret (.val d)) (bnd (ret (.int 1)) fun d => ret (.val d)) addD)) (seqM (setM 3 (op2 (bnd (op2 (bnd (op2 (nmB 0) (bnd (ret (.int 1)) fun d => ret (.val d)) ixD) fun d => ret (.val d)) (bnd (op2 (bnd (ret (.int 49979687)) fun d => ret (.val d)) (bnd (op2 (nmB 0) (bnd (ret (.int 2)) fun d => ret (.val d)) ixD) fun d => ret (.val d)) mulD) fun d => ret (.val d)) addD) fun d => ret (.val d)) (bnd (ret (.int 2305843009213693951)) fun d => ret (.val d)) modD)) (seqM (setM 4 (op2 (bnd (op2 (bnd (op2 (bnd (op2 (bnd (op2 (nmB 3) (nmB 3) mulD) fun d => ret (.val d)) (bnd (op2 (bnd (ret (.int 131)) fun d => ret (.val d)) (bnd (op2 (nmB 0) (bnd (ret (.int 2)) fun d => ret (.val d)) ixD) fun d => ret (.val d)) mulD) fun d => ret (.val d)) addD) fun d => ret (.val d)) (bnd (ret (.int 2305843009213693921)) fun d => ret (.val d)) modD) fun d => ret (.val d)) (bnd (ret (.int 32452843)) fun d => ret (.val d)) mulD) fun d => ret (.val d)) (nmB 3) addD)) (retM (op2 (bnd (callM (opsM (bnd (op2 (nmB 4) (bnd (ret (.int 65587)) fun d => ret (.val d)) divD) fun d => ret (.val d)) (ret [])) intD) fun d => ret (.val d)) (nmB 1) modD)))))
def m__law_roll : Fm := runF [true, false] 3 b__law_roll
theorem ok__law_roll {P : Program} {w : World} {K : PySem.W.Frag} {mg : Str → Option Value} {base : Heap} [Tb] (G : Gs K mg) (TB : Ts K mg base G) : FnOk P w K mg base (L2.CX P w) 1 G._law_roll.a G._law_roll.fd ["dice", "total"] (spV K mg [true, false] m__law_roll) :=
  fn_v (k := 0) G._law_roll.fn fs__law_roll rfl rfl fun cdv A outer s H E hcd hr => by
    have hN := fs__law_roll.nd
    have hu := hu100 hr
    have tk := takes_of (X := cxOf (L2.CX P w) P w K mg base ["dice", "total", "found", "one", "two"] "_law_roll" (defScope s__law_roll) G._law_roll.a cdv A outer s H E) (E := E) rfl rfl rfl rfl
    unfold b__law_roll
    exact vss_cons (vs_if (vt_cmp ov_gt (vb_val (ve_sub hu (vb_name 0) (vb_val (ve_int)))) (vb_val (ve_int))) (vss_cons (vs_set 2 hN (ve_bin ov_mod (vb_val (ve_sub hu (vb_name 0) (vb_val (ve_int)))) (vb_name 1))) (vss_cons (vs_subset 0 hu (ve_bin ov_div (vb_val (ve_sub hu (vb_name 0) (vb_val (ve_int)))) (vb_name 1)) (ve_int)) (vss_one (vs_ret (ve_callT (cv_int) G.b_int (vo_cons (vb_name 2) (vo_nil))))))) (vss_nil)) (vss_cons (vs_subset 0 hu (ve_bin ov_add (vb_val (ve_sub hu (vb_name 0) (vb_val (ve_int)))) (vb_val (ve_int))) (ve_int)) (vss_cons (vs_set 3 hN (ve_bin ov_mod (vb_val (ve_bin ov_add (vb_val (ve_sub hu (vb_name 0) (vb_val (ve_int)))) (vb_val (ve_bin ov_mul (vb_val (ve_int)) (vb_val (ve_sub hu (vb_name 0) (vb_val (ve_int)))))))) (vb_val (ve_int)))) (vss_cons (vs_set 4 hN (ve_bin ov_add (vb_val (ve_bin ov_mul (vb_val (ve_bin ov_mod (vb_val (ve_bin ov_add (vb_val (ve_bin ov_mul (vb_name 3) (vb_name 3))) (vb_val (ve_bin ov_mul (vb_val (ve_int)) (vb_val (ve_sub hu (vb_name 0) (vb_val (ve_int)))))))) (vb_val (ve_int)))) (vb_val (ve_int)))) (vb_name 3))) (vss_one (vs_ret (ve_bin ov_mod (vb_val (ve_callT (cv_int) G.b_int (vo_cons (vb_val (ve_bin ov_div (vb_name 4) (vb_val (ve_int)))) (vo_nil)))) (vb_name 1)))))))
theorem fs__law_pick : FnScope ["dice", "items"] ["dice", "items"] (defScope s__law_pick) := ⟨rfl, rfl, rfl, by decide +kernel, rfl, by decide +kernel, by decide +kernel⟩
def b__law_pick : M Fl := retM (op2 (nmB 1) (bnd ((callE [true, false] (arO 0 (arV (callM (opsM (nmB 1) (ret [])) lenD) (ret []))) m__law_roll)) fun d => ret (.val d)) ixD)
def m__law_pick : Fm := runF [true, false] 0 b__law_pick
theorem ok__law_pick {P : Program} {w : World} {K : PySem.W.Frag} {mg : Str → Option Value} {base : Heap} [Tb] (G : Gs K mg) (TB : Ts K mg base G) : FnOk P w K mg base (L2.CX P w) 2 G._law_pick.a G._law_pick.fd ["dice", "items"] (spV K mg [true, false] m__law_pick) :=
  fn_v (k := 1) G._law_pick.fn fs__law_pick rfl rfl fun cdv A outer s H E hcd hr => by
    have hN := fs__law_pick.nd
    have hu := hu100 hr
    have tk := takes_of (X := cxOf (L2.CX P w) P w K mg base ["dice", "items"] "_law_pick" (defScope s__law_pick) G._law_pick.a cdv A outer s H E) (E := E) rfl rfl rfl rfl
    unfold b__law_pick
    exact vss_one (vs_ret (ve_sub hu (vb_name 1) (vb_val (ve_call (ok__law_roll G TB) (hr.mono (by decide)) G._law_roll.mg G._law_roll.fn.kp G._law_roll.bd tk (vr_own 0 (vr_val (ve_callB (cv_len) G.b_len (vo_cons (vb_name 1) (vo_nil))) (vr_nil)))))))
theorem fs__law_shuffled : FnScope ["dice", "items", "found", "left"] ["dice", "items"] (defScope s__law_shuffled) := ⟨rfl, rfl, rfl, by decide +kernel, rfl, by decide +kernel, by decide +kernel⟩
def b__law_shuffled : M Fl := seqM (parM [2, 3] (tmO (lstM (ret [])) (tmO (callM (opsM (nmB 1) (ret [])) listD) (ret [])))) (seqM (whileM (bnd (op2 (nmB 3) (bnd (lstM (ret [])) fun d => ret (.val d)) (cmpD .NotEq)) asB) (exprM (mutK isLst 2 (consM (mutK isLst 3 (consM ((callE [true, false] (arO 0 (arV (callM (opsM (nmB 3) (ret [])) lenD) (ret []))) m__law_roll)) (ret [])) popD) (ret [])) appD)) 40) (retM (nm 2)))
def m__law_shuffled : Fm := runF [true, false] 2 b__law_shuffled
theorem ok__law_shuffled {P : Program} {w : World} {K : PySem.W.Frag} {mg : Str → Option Value} {base : Heap} [Tb] (G : Gs K mg) (TB : Ts K mg base G) : FnOk P w K mg base (L2.CX P w) 2 G._law_shuffled.a G._law_shuffled.fd ["dice", "items"] (spV K mg [true, false] m__law_shuffled) :=
  fn_v (k := 1) G._law_shuffled.fn fs__law_shuffled rfl rfl fun cdv A outer s H E hcd hr => by
    have hN := fs__law_shuffled.nd
    have hu := hu100 hr
    have tk := takes_of (X := cxOf (L2.CX P w) P w K mg base ["dice", "items", "found", "left"] "_law_shuffled" (defScope s__law_shuffled) G._law_shuffled.a cdv A outer s H E) (E := E) rfl rfl rfl rfl
    unfold b__law_shuffled
    exact vss_cons (vs_par2 (i := 2) (j := 3) hN (vm_ow (vf_lst (va_nil)) (vm_ow (vf_callT (cf_list rfl) G.b_list (vo_cons (vb_name 1) (vo_nil))) (vm_nil)))) (vss_cons (vs_while 40 (passes_of rfl) (vt_cmp (ov_ne hu) (vb_name 3) (vb_val (ve_fresh (vf_lst (va_nil))))) (vss_one (vs_expr (ve_mut 2 PySem.F.plainAttrs_list PySem.F.slot_list_append PySem.F.type_list_append mv_append (fun _ _ _ t h => top_list t (isLst_of h)) (va_cons (ve_mut 3 PySem.F.plainAttrs_list PySem.F.slot_list_pop PySem.F.type_list_pop mv_pop (fun _ _ _ t h => top_list t (isLst_of h)) (va_cons (ve_call (ok__law_roll G TB) (hr.mono (by decide)) G._law_roll.mg G._law_roll.fn.kp G._law_roll.bd tk (vr_own 0 (vr_val (ve_callB (cv_len) G.b_len (vo_cons (vb_name 3) (vo_nil))) (vr_nil)))) (va_nil))) (va_nil)))))) (vss_one (vs_ret (ve_name 2))))
theorem fs__law_ls_known : FnScope ["lists", "found", "name", "one"] ["lists"] (defScope s__law_ls_known) := ⟨rfl, rfl, rfl, by decide +kernel, rfl, by decide +kernel, by decide +kernel⟩
def b__law_ls_known : M Fl := seqM (setM 1 (callM (opsM (nmB 0) (ret [])) listD)) (seqM (forM (iterM (nm 0)) (stM 2) (setM 1 (op2 (nmB 1) (bnd (lcM (iterM (op2 (nmB 0) (nmB 2) ixD)) (stM 3) (bnd (op2 (nmB 3) (nmB 1) ninD) asB) (nm 3) [3]) fun d => ret (.val d)) addD))) (retM (callM (opsM (nmB 1) (ret [])) sortedD)))
def m__law_ls_known : Fm := runF [false] 3 b__law_ls_known
theorem ok__law_ls_known {P : Program} {w : World} {K : PySem.W.Frag} {mg : Str → Option Value} {base : Heap} [Tb] (G : Gs K mg) (TB : Ts K mg base G) : FnOk P w K mg base (L2.CX P w) 1 G._law_ls_known.a G._law_ls_known.fd ["lists"] (spV K mg [false] m__law_ls_known) :=
  fn_v (k := 0) G._law_ls_known.fn fs__law_ls_known rfl rfl fun cdv A outer s H E hcd hr => by
    have hN := fs__law_ls_known.nd
    have hu := hu100 hr
    have tk := takes_of (X := cxOf (L2.CX P w) P w K mg base ["lists", "found", "name", "one"] "_law_ls_known" (defScope s__law_ls_known) G._law_ls_known.a cdv A outer s H E) (E := E) rfl rfl rfl rfl
    unfold b__law_ls_known
    exact vss_cons (vs_set 1 hN (ve_fresh (vf_callT (cf_list rfl) G.b_list (vo_cons (vb_name 0) (vo_nil))))) (vss_cons (vs_for (passes_of rfl) (vi_any (ve_name 0)) (vg_name 2 hN) (vss_one (vs_set 1 hN (ve_bin ov_add (vb_name 1) (vb_val (ve_fresh (vf_lc (own := [("one", 3)]) hN (vi_any (ve_sub hu (vb_name 0) (vb_name 2))) (blk_by (by rfl)) (lp_name 3) (fun _ _ _ _ _ => vg_name 3 hN) (fun _ _ _ _ _ => vts_one (vt_cmp (ov_nin hu) (vb_name 3) (vb_name 1))) (fun _ _ _ _ _ => ve_name 3)))))))) (vss_one (vs_ret (ve_fresh (vf_callB (cf_sorted rfl) G.b_sorted (vo_cons (vb_name 1) (vo_nil)))))))
theorem fs__law_ls_drawn : FnScope ["dice", "many", "names", "keys", "found", "name", "later", "some", "at", "one"] ["dice", "many"] (defScope s__law_ls_drawn) := ⟨rfl, rfl, rfl, by decide +kernel, rfl, by decide +kernel, by decide +kernel⟩
def b__law_ls_drawn : M Fl := seqM (setM 2 ((callE [true, false] (arO 0 (arV (lcM (walkM rng1D (nm 1)) (stM 8) (ret true) (op2 (bnd (ret (.str "n")) fun d => ret (.val d)) (bnd (callM (opsM (nmB 8) (ret [])) strD) fun d => ret (.val d)) addD) [8]) (ret []))) m__law_shuffled))) (seqM (setM 3 (op2 (bnd (lcM (iterM (sliceM (nmB 2) (ret none) (partM (op1 (bnd (ret (.int 1)) fun d => ret (.val d)) negD)))) (stM 5) (bnd (op2 (bnd ((callE [true, false] (arO 0 (arV (ret (.int 3)) (ret []))) m__law_roll)) fun d => ret (.val d)) (bnd (ret (.int 0)) fun d => ret (.val d)) (cmpD .Gt)) asB) (nm 5) [5]) fun d => ret (.val d)) (bnd (sliceM (nmB 2) (ret none) (partM (ret (.int 1)))) fun d => ret (.val d)) addD)) (seqM (setO 4 (ret (.dk []))) (seqM (forM (iterM ((callE [true, false] (arO 0 (arV (nm 3) (ret []))) m__law_shuffled))) (stM 5) (seqM (setM 6 (sliceM (nmB 2) (partM (op2 (bnd (indexM (nmB 2) (consM (nm 5) (ret []))) fun d => ret (.val d)) (bnd (ret (.int 1)) fun d => ret (.val d)) addD)) (ret none))) (seqM (setM 7 (sliceM (bnd ((callE [true, false] (arO 0 (arV (nm 6) (ret []))) m__law_shuffled)) fun d => ret (.val d)) (ret none) (partM (op2 (bnd (ret (.int 1)) fun d => ret (.val d)) (bnd ((callE [true, false] (arO 0 (arV (ret (.int 4)) (ret []))) m__law_roll)) fun d => ret (.val d)) addD)))) (subSet 4 (nm 5) (callM (opsM (bnd (lcM (iterM (nm 7)) (stM 9) (ret true) (tupM (consM (nm 9) (consM ((callE [true, false] (arO 0 (arV (lstM (consM (ret (.int 1)) (consM (ret (.int 1)) (consM (ret (.int 2)) (consM (ret (.int 3)) (consM (ret (.int 10)) (consM (op2 (bnd (ret (.int 10)) fun d => ret (.val d)) (bnd (ret (.int 6)) fun d => ret (.val d)) powD) (ret [])))))))) (ret []))) m__law_pick)) (ret [])))) [9]) fun d => ret (.val d)) (ret [])) dictD))))) (retM (nm 4)))))
def m__law_ls_drawn : Fm := runF [true, false] 8 b__law_ls_drawn
theorem ok__law_ls_drawn {P : Program} {w : World} {K : PySem.W.Frag} {mg : Str → Option Value} {base : Heap} [Tb] (G : Gs K mg) (TB : Ts K mg base G) : FnOk P w K mg base (L2.CX P w) 3 G._law_ls_drawn.a G._law_ls_drawn.fd ["dice", "many"] (spV K mg [true, false] m__law_ls_drawn) :=
  fn_v (k := 2) G._law_ls_drawn.fn fs__law_ls_drawn rfl rfl fun cdv A outer s H E hcd hr => by
    have hN := fs__law_ls_drawn.nd
    have hu := hu100 hr
    have tk := takes_of (X := cxOf (L2.CX P w) P w K mg base ["dice", "many", "names", "keys", "found", "name", "later", "some", "at", "one"] "_law_ls_drawn" (defScope s__law_ls_drawn) G._law_ls_drawn.a cdv A outer s H E) (E := E) rfl rfl rfl rfl
    unfold b__law_ls_drawn
    exact vss_cons (vs_set 2 hN (ve_call (ok__law_shuffled G TB) (hr.mono (by decide)) G._law_shuffled.mg G._law_shuffled.fn.kp G._law_shuffled.bd tk (vr_own 0 (vr_val (ve_fresh (vf_lc (own := [("at", 8)]) hN (vi_range1 G.b_range (ve_name 1)) (blk_by (by rfl)) (lp_name 8) (fun _ _ _ _ _ => vg_name 8 hN) (fun _ _ _ _ _ => vts_nil) (fun _ _ _ _ _ => ve_bin ov_add (vb_val (ve_str)) (vb_val (ve_callT (cv_str) G.b_str (vo_cons (vb_name 8) (vo_nil))))))) (vr_nil))))) (vss_cons (vs_set 3 hN (ve_bin ov_add (vb_val (ve_fresh (vf_lc (own := [("name", 5)]) hN (vi_any (ve_slice (vb_name 2) (vp_none) (vp_some (ve_neg (vb_val (ve_int)))))) (blk_by (by rfl)) (lp_name 5) (fun _ _ _ _ _ => vg_name 5 hN) (fun _ _ _ _ _ => vts_one (vt_cmp ov_gt (vb_val (ve_call (ok__law_roll G TB) (hr.mono (by decide)) G._law_roll.mg G._law_roll.fn.kp G._law_roll.bd takes0 (vr_own 0 (vr_val (ve_int) (vr_nil))))) (vb_val (ve_int)))) (fun _ _ _ _ _ => ve_name 5)))) (vb_val (ve_slice (vb_name 2) (vp_none) (vp_some (ve_int)))))) (vss_cons (vs_setO 4 hN (vf_dnew)) (vss_cons (vs_for (passes_of rfl) (vi_any (ve_call (ok__law_shuffled G TB) (hr.mono (by decide)) G._law_shuffled.mg G._law_shuffled.fn.kp G._law_shuffled.bd tk (vr_own 0 (vr_val (ve_name 3) (vr_nil))))) (vg_name 5 hN) (vss_cons (vs_set 6 hN (ve_slice (vb_name 2) (vp_some (ve_bin ov_add (vb_val (ve_index (vb_name 2) (va_cons (ve_name 5) (va_nil)))) (vb_val (ve_int)))) (vp_none))) (vss_cons (vs_set 7 hN (ve_slice (vb_val (ve_call (ok__law_shuffled G TB) (hr.mono (by decide)) G._law_shuffled.mg G._law_shuffled.fn.kp G._law_shuffled.bd (takes_unl tk) (vr_own 0 (vr_val (ve_name 6) (vr_nil))))) (vp_none) (vp_some (ve_bin ov_add (vb_val (ve_int)) (vb_val (ve_call (ok__law_roll G TB) (hr.mono (by decide)) G._law_roll.mg G._law_roll.fn.kp G._law_roll.bd (takes_unl tk) (vr_own 0 (vr_val (ve_int) (vr_nil))))))))) (vss_one (vs_subset 4 hu (ve_fresh (vf_callT (cf_dict rfl) G.b_dict (vo_cons (vb_val (ve_fresh (vf_lc (own := [("one", 9)]) hN (vi_any (ve_name 7)) (blk_by (by rfl)) (lp_name 9) (fun _ _ _ _ _ => vg_name 9 hN) (fun _ _ _ _ _ => vts_nil) (fun _ _ _ _ _ => ve_tup (va_cons (ve_name 9) (va_cons (ve_call (ok__law_pick G TB) (hr.mono (by decide)) G._law_pick.mg G._law_pick.fn.kp G._law_pick.bd takes0 (vr_own 0 (vr_val (ve_fresh (vf_lst (va_cons (ve_int) (va_cons (ve_int) (va_cons (ve_int) (va_cons (ve_int) (va_cons (ve_int) (va_cons (ve_bin ov_pow (vb_val (ve_int)) (vb_val (ve_int))) (va_nil))))))))) (vr_nil)))) (va_nil))))))) (vo_nil)))) (ve_name 5)))))) (vss_one (vs_ret (ve_name 4))))))
theorem fs__law_ls_levels : FnScope ["lists", "found", "known", "turn", "name", "over", "key"] ["lists"] (defScope s__law_ls_levels) := ⟨rfl, rfl, rfl, by decide +kernel, rfl, by decide +kernel, by decide +kernel⟩
def b__law_ls_levels : M Fl := seqM (parM [1, 2] (tmO (ret (.dk [])) (tmF ((callE [false] (arV (nm 0) (ret [])) m__law_ls_known)) (ret [])))) (seqM (forM (walkM rng1D (callM (opsM (nmB 2) (ret [])) lenD)) (stM 3) (forM (iterM (nm 2)) (stM 4) (seqM (setM 5 (lcM (iterM (nm 0)) (stM 6) (bnd (op2 (nmB 4) (bnd (op2 (nmB 0) (nmB 6) ixD) fun d => ret (.val d)) inD) asB) (nm 6) [6])) (ifS (bnd (op2 (bnd (lcM (iterM (nm 5)) (stM 6) (bnd (op2 (nmB 6) (nmB 1) ninD) asB) (nm 6) [6]) fun d => ret (.val d)) (bnd (lstM (ret [])) fun d => ret (.val d)) (cmpD .Eq)) asB) (subSet 1 (nm 4) (callM (opsM (bnd (op2 (bnd (lstM (consM (ret (.int 0)) (ret []))) fun d => ret (.val d)) (bnd (lcM (iterM (nm 5)) (stM 6) (ret true) (op2 (bnd (op2 (nmB 1) (nmB 6) ixD) fun d => ret (.val d)) (bnd (ret (.int 1)) fun d => ret (.val d)) addD) [6]) fun d => ret (.val d)) addD) fun d => ret (.val d)) (ret [])) maxD)) (ret .nx))))) (retM (nm 1)))
def m__law_ls_levels : Fm := runF [false] 6 b__law_ls_levels
theorem ok__law_ls_levels {P : Program} {w : World} {K : PySem.W.Frag} {mg : Str → Option Value} {base : Heap} [Tb] (G : Gs K mg) (TB : Ts K mg base G) : FnOk P w K mg base (L2.CX P w) 2 G._law_ls_levels.a G._law_ls_levels.fd ["lists"] (spV K mg [false] m__law_ls_levels) :=
  fn_v (k := 1) G._law_ls_levels.fn fs__law_ls_levels rfl rfl fun cdv A outer s H E hcd hr => by
    have hN := fs__law_ls_levels.nd
    have hu := hu100 hr
    have tk := takes_of (X := cxOf (L2.CX P w) P w K mg base ["lists", "found", "known", "turn", "name", "over", "key"] "_law_ls_levels" (defScope s__law_ls_levels) G._law_ls_levels.a cdv A outer s H E) (E := E) rfl rfl rfl rfl
    unfold b__law_ls_levels
    exact vss_cons (vs_tupN (n := 2) (na_cons 1 hN (na_cons 2 hN (na_nil))) (vm_ow (vf_dnew) (vm_fz (ve_call (ok__law_ls_known G TB) (hr.mono (by decide)) G._law_ls_known.mg G._law_ls_known.fn.kp G._law_ls_known.bd tk (vr_val (ve_name 0) (vr_nil))) (vm_nil)))) (vss_cons (vs_for (passes_of rfl) (vi_range1 G.b_range (ve_callB (cv_len) G.b_len (vo_cons (vb_name 2) (vo_nil)))) (vg_name 3 hN) (vss_one (vs_for (passes_of rfl) (vi_any (ve_name 2)) (vg_name 4 hN) (vss_cons (vs_setLc 5 (own := [("key", 6)]) hN (vi_any (ve_name 0)) (blk_by (by rfl)) (lp_name 6) (fun _ _ _ _ _ => vg_name 6 hN) (fun _ _ _ _ _ => vts_one (vt_cmp (ov_in hu) (vb_name 4) (vb_val (ve_sub hu (vb_name 0) (vb_name 6))))) (fun _ _ _ _ _ => ve_name 6) rfl) (vss_one (vs_if (vt_cmp (ov_eq hu) (vb_val (ve_fresh (vf_lc (own := [("key", 6)]) hN (vi_any (ve_name 5)) (blk_by (by rfl)) (lp_name 6) (fun _ _ _ _ _ => vg_name 6 hN) (fun _ _ _ _ _ => vts_one (vt_cmp (ov_nin hu) (vb_name 6) (vb_name 1))) (fun _ _ _ _ _ => ve_name 6)))) (vb_val (ve_fresh (vf_lst (va_nil))))) (vss_one (vs_subset 1 hu (ve_callB (cv_max rfl) G.b_max (vo_cons (vb_val (ve_bin ov_add (vb_val (ve_fresh (vf_lst (va_cons (ve_int) (va_nil))))) (vb_val (ve_fresh (vf_lc (own := [("key", 6)]) hN (vi_any (ve_name 5)) (blk_by (by rfl)) (lp_name 6) (fun _ _ _ _ _ => vg_name 6 hN) (fun _ _ _ _ _ => vts_nil) (fun _ _ _ _ _ => ve_bin ov_add (vb_val (ve_sub hu (vb_name 1) (vb_name 6))) (vb_val (ve_int)))))))) (vo_nil))) (ve_name 4))) (vss_nil))))))) (vss_one (vs_ret (ve_name 1))))
theorem fs__law_needs : FnScope ["lists", "orders", "told", "found", "name", "key"] ["lists", "orders", "told"] (defScope s__law_needs) := ⟨rfl, rfl, rfl, by decide +kernel, rfl, by decide +kernel, by decide +kernel⟩
def b__law_needs : M Fl := seqM (setO 3 (ret (.dk []))) (seqM (forM (iterM ((callE [false] (arV (nm 0) (ret [])) m__law_ls_known))) (stM 4) (subSet 3 (nm 4) (op2 (bnd (getM2 (nmB 1) (nm 4) (ret (.int 0))) fun d => ret (.val d)) (bnd (callM (opsM (bnd (lcM (iterM (nm 0)) (stM 5) (ret true) (op2 (bnd (getM2 (nmB 2) (nm 5) (ret (.int 0))) fun d => ret (.val d)) (bnd (getM2 (bnd (op2 (nmB 0) (nmB 5) ixD) fun d => ret (.val d)) (nm 4) (ret (.int 0))) fun d => ret (.val d)) mulD) [5]) fun d => ret (.val d)) (ret [])) sumD) fun d => ret (.val d)) addD))) (retM (nm 3)))
def m__law_needs : Fm := runF [false, false, false] 3 b__law_needs
theorem ok__law_needs {P : Program} {w : World} {K : PySem.W.Frag} {mg : Str → Option Value} {base : Heap} [Tb] (G : Gs K mg) (TB : Ts K mg base G) : FnOk P w K mg base (L2.CX P w) 2 G._law_needs.a G._law_needs.fd ["lists", "orders", "told"] (spV K mg [false, false, false] m__law_needs) :=
  fn_v (k := 1) G._law_needs.fn fs__law_needs rfl rfl fun cdv A outer s H E hcd hr => by
    have hN := fs__law_needs.nd
    have hu := hu100 hr
    have tk := takes_of (X := cxOf (L2.CX P w) P w K mg base ["lists", "orders", "told", "found", "name", "key"] "_law_needs" (defScope s__law_needs) G._law_needs.a cdv A outer s H E) (E := E) rfl rfl rfl rfl
    unfold b__law_needs
    exact vss_cons (vs_setO 3 hN (vf_dnew)) (vss_cons (vs_for (passes_of rfl) (vi_any (ve_call (ok__law_ls_known G TB) (hr.mono (by decide)) G._law_ls_known.mg G._law_ls_known.fn.kp G._law_ls_known.bd tk (vr_val (ve_name 0) (vr_nil)))) (vg_name 4 hN) (vss_one (vs_subset 3 hu (ve_bin ov_add (vb_val (ve_get2 hu (vb_name 1) (ve_name 4) (ve_int) ⟨rfl, rfl, rfl, rfl⟩)) (vb_val (ve_callB (cv_sum rfl) G.b_sum (vo_cons (vb_val (ve_fresh (vf_lc (own := [("key", 5)]) hN (vi_any (ve_name 0)) (blk_by (by rfl)) (lp_name 5) (fun _ _ _ _ _ => vg_name 5 hN) (fun _ _ _ _ _ => vts_nil) (fun _ _ _ _ _ => ve_bin ov_mul (vb_val (ve_get2 hu (vb_name 2) (ve_name 5) (ve_int) ⟨rfl, rfl, rfl, rfl⟩)) (vb_val (ve_get2 hu (vb_val (ve_sub hu (vb_name 0) (vb_name 5))) (ve_name 4) (ve_int) ⟨rfl, rfl, rfl, rfl⟩)))))) (vo_nil))))) (ve_name 4)))) (vss_one (vs_ret (ve_name 3))))
def b__law_needs_L : M Fl := seqM (setO 3 (ret (.dk []))) (seqM (forM (iterM ((callE [false] (arV (nm 0) (ret [])) m__law_ls_known))) (stM 4) (subSet 3 (nm 4) (op2 (bnd (getM2 (nmB 1) (nm 4) (ret (.int 0))) fun d => ret (.val d)) (bnd (callM (opsM (bnd (lcM (iterM (nm 0)) (stM 5) (ret true) (op2 (bnd (getM2 (nmB 2) (nm 5) (ret (.int 0))) fun d => ret (.val d)) (bnd (getM2 (bnd (op2 (nmB 0) (nmB 5) ixD) fun d => ret (.val d)) (nm 4) (ret (.int 0))) fun d => ret (.val d)) mulD) [5]) fun d => ret (.val d)) (ret [])) sumD) fun d => ret (.val d)) addD))) (retM (nm 3)))
def m__law_needs_L : Fm := runF [false, false, true] 3 b__law_needs_L
theorem ok__law_needs_L {P : Program} {w : World} {K : PySem.W.Frag} {mg : Str → Option Value} {base : Heap} [Tb] (G : Gs K mg) (TB : Ts K mg base G) : FnOk P w K mg base (L2.CX P w) 2 G._law_needs.a G._law_needs.fd ["lists", "orders", "told"] (spV K mg [false, false, true] m__law_needs_L) :=
  fn_v (k := 1) G._law_needs.fn fs__law_needs rfl rfl fun cdv A outer s H E hcd hr => by
    have hN := fs__law_needs.nd
    have hu := hu100 hr
    have tk := takes_of (X := cxOf (L2.CX P w) P w K mg base ["lists", "orders", "told", "found", "name", "key"] "_law_needs" (defScope s__law_needs) G._law_needs.a cdv A outer s H E) (E := E) rfl rfl rfl rfl
    unfold b__law_needs_L
    exact vss_cons (vs_setO 3 hN (vf_dnew)) (vss_cons (vs_for (passes_of rfl) (vi_any (ve_call (ok__law_ls_known G TB) (hr.mono (by decide)) G._law_ls_known.mg G._law_ls_known.fn.kp G._law_ls_known.bd tk (vr_val (ve_name 0) (vr_nil)))) (vg_name 4 hN) (vss_one (vs_subset 3 hu (ve_bin ov_add (vb_val (ve_get2 hu (vb_name 1) (ve_name 4) (ve_int) ⟨rfl, rfl, rfl, rfl⟩)) (vb_val (ve_callB (cv_sum rfl) G.b_sum (vo_cons (vb_val (ve_fresh (vf_lc (own := [("key", 5)]) hN (vi_any (ve_name 0)) (blk_by (by rfl)) (lp_name 5) (fun _ _ _ _ _ => vg_name 5 hN) (fun _ _ _ _ _ => vts_nil) (fun _ _ _ _ _ => ve_bin ov_mul (vb_val (ve_get2 hu (vb_name 2) (ve_name 5) (ve_int) ⟨rfl, rfl, rfl, rfl⟩)) (vb_val (ve_get2 hu (vb_val (ve_sub hu (vb_name 0) (vb_name 5))) (ve_name 4) (ve_int) ⟨rfl, rfl, rfl, rfl⟩)))))) (vo_nil))))) (ve_name 4)))) (vss_one (vs_ret (ve_name 3))))
theorem fs__law_least : FnScope ["lists", "orders", "stock", "levels", "found", "level", "name", "many", "one"] ["lists", "orders", "stock"] (defScope s__law_least) := ⟨rfl, rfl, rfl, by decide +kernel, rfl, by decide +kernel, by decide +kernel⟩
def b__law_least : M Fl := seqM (parM [3, 4] (tmF ((callE [false] (arV (nm 0) (ret [])) m__law_ls_levels)) (tmO (ret (.dk [])) (ret [])))) (seqM (forM (iterM (callM (opsM (bnd (lcM (iterM (nm 3)) (stM 8) (ret true) (tupM (consM (op2 (nmB 3) (nmB 8) ixD) (consM (nm 8) (ret [])))) [8]) fun d => ret (.val d)) (ret [])) sortTD)) (stTup 2 (stCons (stM 5) (stCons (stM 6) stNil))) (seqM (setM 7 (op2 (bnd (op2 (bnd ((callE [false, false, true] (arV (nm 0) (arV (nm 1) (arO 4 (ret [])))) m__law_needs_L)) fun d => ret (.val d)) (nmB 6) ixD) fun d => ret (.val d)) (bnd (getM2 (nmB 2) (nm 6) (ret (.int 0))) fun d => ret (.val d)) subD)) (ifS (bnd (op2 (nmB 7) (bnd (ret (.int 0)) fun d => ret (.val d)) (cmpD .Gt)) asB) (subSet 4 (nm 6) (nm 7)) (ret .nx)))) (retM (nm 4)))
def m__law_least : Fm := runF [false, false, false] 6 b__law_least
theorem ok__law_least {P : Program} {w : World} {K : PySem.W.Frag} {mg : Str → Option Value} {base : Heap} [Tb] (G : Gs K mg) (TB : Ts K mg base G) : FnOk P w K mg base (L2.CX P w) 3 G._law_least.a G._law_least.fd ["lists", "orders", "stock"] (spV K mg [false, false, false] m__law_least) :=
  fn_v (k := 2) G._law_least.fn fs__law_least rfl rfl fun cdv A outer s H E hcd hr => by
    have hN := fs__law_least.nd
    have hu := hu100 hr
    have tk := takes_of (X := cxOf (L2.CX P w) P w K mg base ["lists", "orders", "stock", "levels", "found", "level", "name", "many", "one"] "_law_least" (defScope s__law_least) G._law_least.a cdv A outer s H E) (E := E) rfl rfl rfl rfl
    unfold b__law_least
    exact vss_cons (vs_tupN (n := 2) (na_cons 3 hN (na_cons 4 hN (na_nil))) (vm_fz (ve_call (ok__law_ls_levels G TB) (hr.mono (by decide)) G._law_ls_levels.mg G._law_ls_levels.fn.kp G._law_ls_levels.bd tk (vr_val (ve_name 0) (vr_nil))) (vm_ow (vf_dnew) (vm_nil)))) (vss_cons (vs_for (passes_of rfl) (vi_any (ve_fresh (vf_callB (cf_sortT rfl hu) G.b_sorted (vo_cons (vb_val (ve_fresh (vf_lc (own := [("one", 8)]) hN (vi_any (ve_name 3)) (blk_by (by rfl)) (lp_name 8) (fun _ _ _ _ _ => vg_name 8 hN) (fun _ _ _ _ _ => vts_nil) (fun _ _ _ _ _ => ve_tup (va_cons (ve_sub hu (vb_name 3) (vb_name 8)) (va_cons (ve_name 8) (va_nil))))))) (vo_nil))))) (vg_tup rfl (vgs_cons (vg_name 5 hN) (vgs_cons (vg_name 6 hN) (vgs_nil)))) (vss_cons (vs_set 7 hN (ve_bin ov_sub (vb_val (ve_sub hu (vb_val (ve_call (ok__law_needs_L G TB) (hr.mono (by decide)) G._law_needs.mg G._law_needs.fn.kp G._law_needs.bd (takes_unl tk) (vr_val (ve_name 0) (vr_val (ve_name 1) (vr_own 4 (vr_nil)))))) (vb_name 6))) (vb_val (ve_get2 hu (vb_name 2) (ve_name 6) (ve_int) ⟨rfl, rfl, rfl, rfl⟩)))) (vss_one (vs_if (vt_cmp ov_gt (vb_name 7) (vb_val (ve_int))) (vss_one (vs_subset 4 hu (ve_name 7) (ve_name 6))) (vss_nil))))) (vss_one (vs_ret (ve_name 4))))
theorem fs__law_is_provision : FnScope ["lists", "orders", "stock", "value", "needs", "many", "name"] ["lists", "orders", "stock", "value"] (defScope s__law_is_provision) := ⟨rfl, rfl, rfl, by decide +kernel, rfl, by decide +kernel, by decide +kernel⟩
def b__law_is_provision : M Fl := seqM (ifS (orT (notT (op1 (bnd (op1 (nmB 3) (isiD "dict")) fun d => ret (.val d)) fun d => lift (truthD d))) (bnd (op2 (bnd (lcM (iterM (nm 3)) (stM 6) (bnd (op2 (nmB 6) (bnd ((callE [false] (arV (nm 0) (ret [])) m__law_ls_known)) fun d => ret (.val d)) ninD) asB) (ret (.int 1)) [6]) fun d => ret (.val d)) (bnd (lstM (ret [])) fun d => ret (.val d)) (cmpD .NotEq)) asB)) (retM (ret (.bl false))) (ret .nx)) (seqM (ifS (bnd (op2 (bnd (lcM (walkM valuesD (nm 3)) (stM 5) (orT (notT (op1 (bnd (op1 (nmB 5) (isiD "int")) fun d => ret (.val d)) fun d => lift (truthD d))) (orT (op1 (bnd (op1 (nmB 5) (isiD "bool")) fun d => ret (.val d)) fun d => lift (truthD d)) (bnd (op2 (nmB 5) (bnd (ret (.int 1)) fun d => ret (.val d)) (cmpD .Lt)) asB))) (ret (.int 1)) [5]) fun d => ret (.val d)) (bnd (lstM (ret [])) fun d => ret (.val d)) (cmpD .NotEq)) asB) (retM (ret (.bl false))) (ret .nx)) (seqM (setM 4 ((callE [false, false, false] (arV (nm 0) (arV (nm 1) (arV (nm 3) (ret [])))) m__law_needs))) (retM (op2 (bnd (lcM (iterM (nm 4)) (stM 6) (bnd (op2 (bnd (op2 (bnd (getM2 (nmB 2) (nm 6) (ret (.int 0))) fun d => ret (.val d)) (bnd (getM2 (nmB 3) (nm 6) (ret (.int 0))) fun d => ret (.val d)) addD) fun d => ret (.val d)) (bnd (op2 (nmB 4) (nmB 6) ixD) fun d => ret (.val d)) (cmpD .Lt)) asB) (ret (.int 1)) [6]) fun d => ret (.val d)) (bnd (lstM (ret [])) fun d => ret (.val d)) (cmpD .Eq)))))
def m__law_is_provision : Fm := runF [false, false, false, false] 3 b__law_is_provision
theorem ok__law_is_provision {P : Program} {w : World} {K : PySem.W.Frag} {mg : Str → Option Value} {base : Heap} [Tb] (G : Gs K mg) (TB : Ts K mg base G) : FnOk P w K mg base (L2.CX P w) 3 G._law_is_provision.a G._law_is_provision.fd ["lists", "orders", "stock", "value"] (spV K mg [false, false, false, false] m__law_is_provision) :=
  fn_v (k := 2) G._law_is_provision.fn fs__law_is_provision rfl rfl fun cdv A outer s H E hcd hr => by
    have hN := fs__law_is_provision.nd
    have hu := hu100 hr
    have tk := takes_of (X := cxOf (L2.CX P w) P w K mg base ["lists", "orders", "stock", "value", "needs", "many", "name"] "_law_is_provision" (defScope s__law_is_provision) G._law_is_provision.a cdv A outer s H E) (E := E) rfl rfl rfl rfl
    unfold b__law_is_provision
    exact vss_cons (vs_if (vt_w (vw_or (vt_not (vt_truth (vb_val (ve_isi isi_dict G.b_isinstance G.b_dict (vb_name 3))))) (vw_or1 (vt_cmp (ov_ne hu) (vb_val (ve_fresh (vf_lc (own := [("name", 6)]) hN (vi_any (ve_name 3)) (blk_by (by rfl)) (lp_name 6) (fun _ _ _ _ _ => vg_name 6 hN) (fun _ _ _ _ _ => vts_one (vt_cmp (ov_nin hu) (vb_name 6) (vb_val (ve_call (ok__law_ls_known G TB) (hr.mono (by decide)) G._law_ls_known.mg G._law_ls_known.fn.kp G._law_ls_known.bd takes0 (vr_val (ve_name 0) (vr_nil)))))) (fun _ _ _ _ _ => ve_int)))) (vb_val (ve_fresh (vf_lst (va_nil)))))))) (vss_one (vs_ret (ve_bl))) (vss_nil)) (vss_cons (vs_if (vt_cmp (ov_ne hu) (vb_val (ve_fresh (vf_lc (own := [("many", 5)]) hN (vi_values (ve_name 3)) (blk_by (by rfl)) (lp_name 5) (fun _ _ _ _ _ => vg_name 5 hN) (fun _ _ _ _ _ => vts_one (vt_w (vw_or (vt_not (vt_truth (vb_val (ve_isi isi_int G.b_isinstance G.b_int (vb_name 5))))) (vw_or (vt_truth (vb_val (ve_isi isi_bool G.b_isinstance G.b_bool (vb_name 5)))) (vw_or1 (vt_cmp ov_lt (vb_name 5) (vb_val (ve_int)))))))) (fun _ _ _ _ _ => ve_int)))) (vb_val (ve_fresh (vf_lst (va_nil))))) (vss_one (vs_ret (ve_bl))) (vss_nil)) (vss_cons (vs_set 4 hN (ve_call (ok__law_needs G TB) (hr.mono (by decide)) G._law_needs.mg G._law_needs.fn.kp G._law_needs.bd tk (vr_val (ve_name 0) (vr_val (ve_name 1) (vr_val (ve_name 3) (vr_nil)))))) (vss_one (vs_ret (ve_cmp (ov_eq hu) (vb_val (ve_fresh (vf_lc (own := [("name", 6)]) hN (vi_any (ve_name 4)) (blk_by (by rfl)) (lp_name 6) (fun _ _ _ _ _ => vg_name 6 hN) (fun _ _ _ _ _ => vts_one (vt_cmp ov_lt (vb_val (ve_bin ov_add (vb_val (ve_get2 hu (vb_name 2) (ve_name 6) (ve_int) ⟨rfl, rfl, rfl, rfl⟩)) (vb_val (ve_get2 hu (vb_name 3) (ve_name 6) (ve_int) ⟨rfl, rfl, rfl, rfl⟩)))) (vb_val (ve_sub hu (vb_name 4) (vb_name 6))))) (fun _ _ _ _ _ => ve_int)))) (vb_val (ve_fresh (vf_lst (va_nil)))))))))
theorem fs__law_right : FnScope ["dice", "lists", "known", "great", "orders", "stock", "due", "told", "name", "some", "by", "rows", "more", "value", "odd", "one"] ["dice"] (defScope s__law_right) := ⟨rfl, rfl, rfl, by decide +kernel, rfl, by decide +kernel, by decide +kernel⟩
def b__law_right : M Fl := seqM (setM 1 ((callE [true, false] (arO 0 (arV (op2 (bnd (ret (.int 2)) fun d => ret (.val d)) (bnd ((callE [true, false] (arO 0 (arV (ret (.int 8)) (ret []))) m__law_roll)) fun d => ret (.val d)) addD) (ret []))) m__law_ls_drawn))) (seqM (parM [2, 3] (tmF ((callE [false] (arV (nm 1) (ret [])) m__law_ls_known)) (tmF ((callE [true, false] (arO 0 (arV (lstM (consM (ret (.int 20)) (consM (op2 (bnd (ret (.int 10)) fun d => ret (.val d)) (bnd (ret (.int 9)) fun d => ret (.val d)) powD) (ret [])))) (ret []))) m__law_pick)) (ret [])))) (seqM (setM 4 (callM (opsM (bnd (lcM (iterM (nm 2)) (stM 8) (bnd (op2 (bnd ((callE [true, false] (arO 0 (arV (ret (.int 3)) (ret []))) m__law_roll)) fun d => ret (.val d)) (bnd (ret (.int 0)) fun d => ret (.val d)) (cmpD .Eq)) asB) (tupM (consM (nm 8) (consM ((callE [true, false] (arO 0 (arV (nm 3) (ret []))) m__law_roll)) (ret [])))) [8]) fun d => ret (.val d)) (ret [])) dictD)) (seqM (setM 5 (callM (opsM (bnd (lcM (iterM (nm 2)) (stM 8) (bnd (op2 (bnd ((callE [true, false] (arO 0 (arV (ret (.int 2)) (ret []))) m__law_roll)) fun d => ret (.val d)) (bnd (ret (.int 0)) fun d => ret (.val d)) (cmpD .Eq)) asB) (tupM (consM (nm 8) (consM ((callE [true, false] (arO 0 (arV (lstM (consM (ret (.int 0)) (consM (ret (.int 3)) (consM (nm 3) (consM ((callE [true, false] (arO 0 (arV (nm 3) (ret []))) m__law_roll)) (ret [])))))) (ret []))) m__law_pick)) (ret [])))) [8]) fun d => ret (.val d)) (ret [])) dictD)) (seqM (parM [6, 7] (tmF ((callE [false, false, false] (arV (nm 1) (arV (nm 4) (arV (nm 5) (ret [])))) m__law_least)) (tmF ((callE [false, false, false] (arV (nm 1) (arV (nm 4) (arV (nm 5) (ret [])))) m_provision)) (ret [])))) (seqM (ifS (bnd (op2 (bnd (op1 (nmB 7) itemL) fun d => ret (.val d)) (bnd (op1 (nmB 6) sortItD) fun d => ret (.val d)) (cmpD .NotEq)) asB) (retM (ret (.bl false))) (ret .nx)) (seqM (setM 8 ((callE [true, false] (arO 0 (arV (nm 2) (ret []))) m__law_pick))) (seqM (setO 9 (lstM (consM (nm 6) (consM (ret (.dk [])) (consM (ret .non) (consM (tupM (ret [])) (consM (op1 (nmB 6) itemL) (consM (callM (opsM (bnd (op2 (bnd (op1 (nmB 6) itemL) fun d => ret (.val d)) (bnd (lstM (consM (tupM (consM (ret (.str "zz")) (consM (ret (.int 1)) (ret [])))) (ret []))) fun d => ret (.val d)) addD) fun d => ret (.val d)) (ret [])) dictD) (ret []))))))))) (seqM (exprM (mutK isLst 9 (consM (callM (opsM (bnd (op2 (bnd (op1 (nmB 6) itemL) fun d => ret (.val d)) (bnd (lstM (consM (tupM (consM (ret (.int 0)) (consM (ret (.int 1)) (ret [])))) (ret []))) fun d => ret (.val d)) addD) fun d => ret (.val d)) (ret [])) dictD) (ret [])) appD)) (seqM (forM (iterM (tupM (consM (ret (.int 1)) (consM (op1 (bnd (ret (.int 1)) fun d => ret (.val d)) negD) (consM (op2 (bnd (ret (.int 10)) fun d => ret (.val d)) (bnd (ret (.int 12)) fun d => ret (.val d)) powD) (ret [])))))) (stM 10) (exprM (mutK isLst 9 (consM (callM (opsM (bnd (op2 (bnd (op1 (nmB 6) itemL) fun d => ret (.val d)) (bnd (lstM (consM (tupM (consM (nm 8) (consM (op2 (bnd (getM2 (nmB 6) (nm 8) (ret (.int 0))) fun d => ret (.val d)) (nmB 10) addD) (ret [])))) (ret []))) fun d => ret (.val d)) addD) fun d => ret (.val d)) (ret [])) dictD) (ret [])) appD))) (seqM (setO 9 (op2 (nmB 9) (bnd (lcM (iterM (tupM (consM (ret (.int 0)) (consM (ret (.bl true)) (consM (ret .non) (consM (ret (.str "1")) (consM (tupM (consM (ret (.int 1)) (ret []))) (ret [])))))))) (stM 14) (ret true) (callM (opsM (bnd (op2 (bnd (op1 (nmB 6) itemL) fun d => ret (.val d)) (bnd (lstM (consM (tupM (consM (nm 8) (consM (nm 14) (ret [])))) (ret []))) fun d => ret (.val d)) addD) fun d => ret (.val d)) (ret [])) dictD) [14]) fun d => ret (.val d)) addLD)) (seqM (exprM (mutK isLst 9 (consM (callM (opsM (bnd (lcM (iterM (nm 2)) (stM 15) (bnd (op2 (bnd (op2 (bnd ((callE [false] (arV (nm 1) (ret [])) m__law_ls_levels)) fun d => ret (.val d)) (nmB 15) ixD) fun d => ret (.val d)) (bnd (ret (.int 0)) fun d => ret (.val d)) (cmpD .Gt)) asB) (tupM (consM (nm 15) (consM (op2 (bnd (ret (.int 10)) fun d => ret (.val d)) (bnd (ret (.int 60)) fun d => ret (.val d)) powD) (ret [])))) [15]) fun d => ret (.val d)) (ret [])) dictD) (ret [])) appD)) (seqM (setM 11 (callM (opsM (bnd (lcM (iterM (nm 2)) (stM 15) (bnd (op2 (bnd (op2 (bnd ((callE [false] (arV (nm 1) (ret [])) m__law_ls_levels)) fun d => ret (.val d)) (nmB 15) ixD) fun d => ret (.val d)) (bnd (ret (.int 0)) fun d => ret (.val d)) (cmpD .Eq)) asB) (tupM (consM (nm 15) (consM (op2 (bnd (getM2 (nmB 6) (nm 15) (ret (.int 0))) fun d => ret (.val d)) (bnd (ret (.int 5)) fun d => ret (.val d)) addD) (ret [])))) [15]) fun d => ret (.val d)) (ret [])) dictD)) (seqM (setM 12 (callM (opsM (bnd (op2 (bnd (op1 (nmB 4) itemL) fun d => ret (.val d)) (bnd (lcM (iterM (nm 11)) (stM 15) (ret true) (tupM (consM (nm 15) (consM (op2 (bnd (getM2 (nmB 4) (nm 15) (ret (.int 0))) fun d => ret (.val d)) (bnd (ret (.int 5)) fun d => ret (.val d)) addD) (ret [])))) [15]) fun d => ret (.val d)) addD) fun d => ret (.val d)) (ret [])) dictD)) (seqM (exprM (mutK isLst 9 (consM (callM (opsM (bnd (op1 (bnd ((callE [false, false, false] (arV (nm 1) (arV (nm 12) (arV (nm 5) (ret [])))) m__law_least)) fun d => ret (.val d)) itemL) fun d => ret (.val d)) (ret [])) dictD) (ret [])) appD)) (seqM (exprM (mutK isLst 9 (consM (callM (opsM (bnd (lcM (iterM (nm 6)) (stM 15) (bnd (op2 (nmB 15) (nmB 8) (cmpD .NotEq)) asB) (tupM (consM (nm 15) (consM (op2 (nmB 6) (nmB 15) ixD) (ret [])))) [15]) fun d => ret (.val d)) (ret [])) dictD) (ret [])) appD)) (seqM (forM (iterM (nm 9)) (stM 13) (ifS (bnd (op2 (bnd (callM (opsM (bnd ((callE [false, false, false, false] (arV (nm 1) (arV (nm 4) (arV (nm 5) (arV (nm 13) (ret []))))) m_is_provision)) fun d => ret (.val d)) (ret [])) reprD) fun d => ret (.val d)) (bnd (callM (opsM (bnd ((callE [false, false, false, false] (arV (nm 1) (arV (nm 4) (arV (nm 5) (arV (nm 13) (ret []))))) m__law_is_provision)) fun d => ret (.val d)) (ret [])) reprD) fun d => ret (.val d)) (cmpD .NotEq)) asB) (retM (ret (.bl false))) (ret .nx))) (retM (ret (.bl true)))))))))))))))))))
def m__law_right : Fm := runF [true] 15 b__law_right
theorem ok__law_right {P : Program} {w : World} {K : PySem.W.Frag} {mg : Str → Option Value} {base : Heap} [Tb] (G : Gs K mg) (TB : Ts K mg base G) : FnOk P w K mg base (L2.CX P w) 7 G._law_right.a G._law_right.fd ["dice"] (spV K mg [true] m__law_right) :=
  fn_v (k := 6) G._law_right.fn fs__law_right rfl rfl fun cdv A outer s H E hcd hr => by
    have hN := fs__law_right.nd
    have hu := hu100 hr
    have tk := takes_of (X := cxOf (L2.CX P w) P w K mg base ["dice", "lists", "known", "great", "orders", "stock", "due", "told", "name", "some", "by", "rows", "more", "value", "odd", "one"] "_law_right" (defScope s__law_right) G._law_right.a cdv A outer s H E) (E := E) rfl rfl rfl rfl
    unfold b__law_right
    exact vss_cons (vs_set 1 hN (ve_call (ok__law_ls_drawn G TB) (hr.mono (by decide)) G._law_ls_drawn.mg G._law_ls_drawn.fn.kp G._law_ls_drawn.bd tk (vr_own 0 (vr_val (ve_bin ov_add (vb_val (ve_int)) (vb_val (ve_call (ok__law_roll G TB) (hr.mono (by decide)) G._law_roll.mg G._law_roll.fn.kp G._law_roll.bd tk (vr_own 0 (vr_val (ve_int) (vr_nil)))))) (vr_nil))))) (vss_cons (vs_tupN (n := 2) (na_cons 2 hN (na_cons 3 hN (na_nil))) (vm_fz (ve_call (ok__law_ls_known G TB) (hr.mono (by decide)) G._law_ls_known.mg G._law_ls_known.fn.kp G._law_ls_known.bd tk (vr_val (ve_name 1) (vr_nil))) (vm_fz (ve_call (ok__law_pick G TB) (hr.mono (by decide)) G._law_pick.mg G._law_pick.fn.kp G._law_pick.bd tk (vr_own 0 (vr_val (ve_fresh (vf_lst (va_cons (ve_int) (va_cons (ve_bin ov_pow (vb_val (ve_int)) (vb_val (ve_int))) (va_nil))))) (vr_nil)))) (vm_nil)))) (vss_cons (vs_set 4 hN (ve_fresh (vf_callT (cf_dict rfl) G.b_dict (vo_cons (vb_val (ve_fresh (vf_lc (own := [("name", 8)]) hN (vi_any (ve_name 2)) (blk_by (by rfl)) (lp_name 8) (fun _ _ _ _ _ => vg_name 8 hN) (fun _ _ _ _ _ => vts_one (vt_cmp (ov_eq hu) (vb_val (ve_call (ok__law_roll G TB) (hr.mono (by decide)) G._law_roll.mg G._law_roll.fn.kp G._law_roll.bd takes0 (vr_own 0 (vr_val (ve_int) (vr_nil))))) (vb_val (ve_int)))) (fun _ _ _ _ _ => ve_tup (va_cons (ve_name 8) (va_cons (ve_call (ok__law_roll G TB) (hr.mono (by decide)) G._law_roll.mg G._law_roll.fn.kp G._law_roll.bd takes0 (vr_own 0 (vr_val (ve_name 3) (vr_nil)))) (va_nil))))))) (vo_nil))))) (vss_cons (vs_set 5 hN (ve_fresh (vf_callT (cf_dict rfl) G.b_dict (vo_cons (vb_val (ve_fresh (vf_lc (own := [("name", 8)]) hN (vi_any (ve_name 2)) (blk_by (by rfl)) (lp_name 8) (fun _ _ _ _ _ => vg_name 8 hN) (fun _ _ _ _ _ => vts_one (vt_cmp (ov_eq hu) (vb_val (ve_call (ok__law_roll G TB) (hr.mono (by decide)) G._law_roll.mg G._law_roll.fn.kp G._law_roll.bd takes0 (vr_own 0 (vr_val (ve_int) (vr_nil))))) (vb_val (ve_int)))) (fun _ _ _ _ _ => ve_tup (va_cons (ve_name 8) (va_cons (ve_call (ok__law_pick G TB) (hr.mono (by decide)) G._law_pick.mg G._law_pick.fn.kp G._law_pick.bd takes0 (vr_own 0 (vr_val (ve_fresh (vf_lst (va_cons (ve_int) (va_cons (ve_int) (va_cons (ve_name 3) (va_cons (ve_call (ok__law_roll G TB) (hr.mono (by decide)) G._law_roll.mg G._law_roll.fn.kp G._law_roll.bd takes0 (vr_own 0 (vr_val (ve_name 3) (vr_nil)))) (va_nil))))))) (vr_nil)))) (va_nil))))))) (vo_nil))))) (vss_cons (vs_tupN (n := 2) (na_cons 6 hN (na_cons 7 hN (na_nil))) (vm_fz (ve_call (ok__law_least G TB) (hr.mono (by decide)) G._law_least.mg G._law_least.fn.kp G._law_least.bd tk (vr_val (ve_name 1) (vr_val (ve_name 4) (vr_val (ve_name 5) (vr_nil))))) (vm_fz (ve_call (ok_provision G TB) (hr.mono (by decide)) G.provision.mg G.provision.fn.kp G.provision.bd tk (vr_val (ve_name 1) (vr_val (ve_name 4) (vr_val (ve_name 5) (vr_nil))))) (vm_nil)))) (vss_cons (vs_if (vt_cmp (ov_ne hu) (vb_val (ve_fresh (vf_listItems rfl (vb_name 7) G.b_list))) (vb_val (ve_fresh (vf_sortItems rfl hu (vb_name 6) G.b_sorted)))) (vss_one (vs_ret (ve_bl))) (vss_nil)) (vss_cons (vs_set 8 hN (ve_call (ok__law_pick G TB) (hr.mono (by decide)) G._law_pick.mg G._law_pick.fn.kp G._law_pick.bd tk (vr_own 0 (vr_val (ve_name 2) (vr_nil))))) (vss_cons (vs_setO 9 hN (vf_lst (va_cons (ve_name 6) (va_cons (ve_fresh (vf_dnew)) (va_cons (ve_non) (va_cons (ve_tup (va_nil)) (va_cons (ve_fresh (vf_listItems rfl (vb_name 6) G.b_list)) (va_cons (ve_fresh (vf_callT (cf_dict rfl) G.b_dict (vo_cons (vb_val (ve_bin ov_add (vb_val (ve_fresh (vf_listItems rfl (vb_name 6) G.b_list))) (vb_val (ve_fresh (vf_lst (va_cons (ve_tup (va_cons (ve_str) (va_cons (ve_int) (va_nil)))) (va_nil))))))) (vo_nil)))) (va_nil))))))))) (vss_cons (vs_expr (ve_mut 9 PySem.F.plainAttrs_list PySem.F.slot_list_append PySem.F.type_list_append mv_append (fun _ _ _ t h => top_list t (isLst_of h)) (va_cons (ve_fresh (vf_callT (cf_dict rfl) G.b_dict (vo_cons (vb_val (ve_bin ov_add (vb_val (ve_fresh (vf_listItems rfl (vb_name 6) G.b_list))) (vb_val (ve_fresh (vf_lst (va_cons (ve_tup (va_cons (ve_int) (va_cons (ve_int) (va_nil)))) (va_nil))))))) (vo_nil)))) (va_nil)))) (vss_cons (vs_for (passes_of rfl) (vi_any (ve_tup (va_cons (ve_int) (va_cons (ve_neg (vb_val (ve_int))) (va_cons (ve_bin ov_pow (vb_val (ve_int)) (vb_val (ve_int))) (va_nil)))))) (vg_name 10 hN) (vss_one (vs_expr (ve_mut 9 PySem.F.plainAttrs_list PySem.F.slot_list_append PySem.F.type_list_append mv_append (fun _ _ _ t h => top_list t (isLst_of h)) (va_cons (ve_fresh (vf_callT (cf_dict rfl) G.b_dict (vo_cons (vb_val (ve_bin ov_add (vb_val (ve_fresh (vf_listItems rfl (vb_name 6) G.b_list))) (vb_val (ve_fresh (vf_lst (va_cons (ve_tup (va_cons (ve_name 8) (va_cons (ve_bin ov_add (vb_val (ve_get2 hu (vb_name 6) (ve_name 8) (ve_int) ⟨rfl, rfl, rfl, rfl⟩)) (vb_name 10)) (va_nil)))) (va_nil))))))) (vo_nil)))) (va_nil)))))) (vss_cons (vs_setO 9 hN (vf_add (vb_name 9) (vb_val (ve_fresh (vf_lc (own := [("odd", 14)]) hN (vi_any (ve_tup (va_cons (ve_int) (va_cons (ve_bl) (va_cons (ve_non) (va_cons (ve_str) (va_cons (ve_tup (va_cons (ve_int) (va_nil))) (va_nil)))))))) (blk_by (by rfl)) (lp_name 14) (fun _ _ _ _ _ => vg_name 14 hN) (fun _ _ _ _ _ => vts_nil) (fun _ _ _ _ _ => ve_fresh (vf_callT (cf_dict rfl) G.b_dict (vo_cons (vb_val (ve_bin ov_add (vb_val (ve_fresh (vf_listItems rfl (vb_name 6) G.b_list))) (vb_val (ve_fresh (vf_lst (va_cons (ve_tup (va_cons (ve_name 8) (va_cons (ve_name 14) (va_nil)))) (va_nil))))))) (vo_nil))))))))) (vss_cons (vs_expr (ve_mut 9 PySem.F.plainAttrs_list PySem.F.slot_list_append PySem.F.type_list_append mv_append (fun _ _ _ t h => top_list t (isLst_of h)) (va_cons (ve_fresh (vf_callT (cf_dict rfl) G.b_dict (vo_cons (vb_val (ve_fresh (vf_lc (own := [("one", 15)]) hN (vi_any (ve_name 2)) (blk_by (by rfl)) (lp_name 15) (fun _ _ _ _ _ => vg_name 15 hN) (fun _ _ _ _ _ => vts_one (vt_cmp ov_gt (vb_val (ve_sub hu (vb_val (ve_call (ok__law_ls_levels G TB) (hr.mono (by decide)) G._law_ls_levels.mg G._law_ls_levels.fn.kp G._law_ls_levels.bd takes0 (vr_val (ve_name 1) (vr_nil)))) (vb_name 15))) (vb_val (ve_int)))) (fun _ _ _ _ _ => ve_tup (va_cons (ve_name 15) (va_cons (ve_bin ov_pow (vb_val (ve_int)) (vb_val (ve_int))) (va_nil))))))) (vo_nil)))) (va_nil)))) (vss_cons (vs_set 11 hN (ve_fresh (vf_callT (cf_dict rfl) G.b_dict (vo_cons (vb_val (ve_fresh (vf_lc (own := [("one", 15)]) hN (vi_any (ve_name 2)) (blk_by (by rfl)) (lp_name 15) (fun _ _ _ _ _ => vg_name 15 hN) (fun _ _ _ _ _ => vts_one (vt_cmp (ov_eq hu) (vb_val (ve_sub hu (vb_val (ve_call (ok__law_ls_levels G TB) (hr.mono (by decide)) G._law_ls_levels.mg G._law_ls_levels.fn.kp G._law_ls_levels.bd takes0 (vr_val (ve_name 1) (vr_nil)))) (vb_name 15))) (vb_val (ve_int)))) (fun _ _ _ _ _ => ve_tup (va_cons (ve_name 15) (va_cons (ve_bin ov_add (vb_val (ve_get2 hu (vb_name 6) (ve_name 15) (ve_int) ⟨rfl, rfl, rfl, rfl⟩)) (vb_val (ve_int))) (va_nil))))))) (vo_nil))))) (vss_cons (vs_set 12 hN (ve_fresh (vf_callT (cf_dict rfl) G.b_dict (vo_cons (vb_val (ve_bin ov_add (vb_val (ve_fresh (vf_listItems rfl (vb_name 4) G.b_list))) (vb_val (ve_fresh (vf_lc (own := [("one", 15)]) hN (vi_any (ve_name 11)) (blk_by (by rfl)) (lp_name 15) (fun _ _ _ _ _ => vg_name 15 hN) (fun _ _ _ _ _ => vts_nil) (fun _ _ _ _ _ => ve_tup (va_cons (ve_name 15) (va_cons (ve_bin ov_add (vb_val (ve_get2 hu (vb_name 4) (ve_name 15) (ve_int) ⟨rfl, rfl, rfl, rfl⟩)) (vb_val (ve_int))) (va_nil))))))))) (vo_nil))))) (vss_cons (vs_expr (ve_mut 9 PySem.F.plainAttrs_list PySem.F.slot_list_append PySem.F.type_list_append mv_append (fun _ _ _ t h => top_list t (isLst_of h)) (va_cons (ve_fresh (vf_callT (cf_dict rfl) G.b_dict (vo_cons (vb_val (ve_fresh (vf_listItems rfl (vb_val (ve_call (ok__law_least G TB) (hr.mono (by decide)) G._law_least.mg G._law_least.fn.kp G._law_least.bd tk (vr_val (ve_name 1) (vr_val (ve_name 12) (vr_val (ve_name 5) (vr_nil)))))) G.b_list))) (vo_nil)))) (va_nil)))) (vss_cons (vs_expr (ve_mut 9 PySem.F.plainAttrs_list PySem.F.slot_list_append PySem.F.type_list_append mv_append (fun _ _ _ t h => top_list t (isLst_of h)) (va_cons (ve_fresh (vf_callT (cf_dict rfl) G.b_dict (vo_cons (vb_val (ve_fresh (vf_lc (own := [("one", 15)]) hN (vi_any (ve_name 6)) (blk_by (by rfl)) (lp_name 15) (fun _ _ _ _ _ => vg_name 15 hN) (fun _ _ _ _ _ => vts_one (vt_cmp (ov_ne hu) (vb_name 15) (vb_name 8))) (fun _ _ _ _ _ => ve_tup (va_cons (ve_name 15) (va_cons (ve_sub hu (vb_name 6) (vb_name 15)) (va_nil))))))) (vo_nil)))) (va_nil)))) (vss_cons (vs_for (passes_of rfl) (vi_any (ve_name 9)) (vg_name 13 hN) (vss_one (vs_if (vt_cmp (ov_ne hu) (vb_val (ve_callB (cv_repr) G.b_repr (vo_cons (vb_val (ve_call (ok_is_provision G TB) (hr.mono (by decide)) G.is_provision.mg G.is_provision.fn.kp G.is_provision.bd (takes_unl tk) (vr_val (ve_name 1) (vr_val (ve_name 4) (vr_val (ve_name 5) (vr_val (ve_name 13) (vr_nil))))))) (vo_nil)))) (vb_val (ve_callB (cv_repr) G.b_repr (vo_cons (vb_val (ve_call (ok__law_is_provision G TB) (hr.mono (by decide)) G._law_is_provision.mg G._law_is_provision.fn.kp G._law_is_provision.bd (takes_unl tk) (vr_val (ve_name 1) (vr_val (ve_name 4) (vr_val (ve_name 5) (vr_val (ve_name 13) (vr_nil))))))) (vo_nil))))) (vss_one (vs_ret (ve_bl))) (vss_nil)))) (vss_one (vs_ret (ve_bl)))))))))))))))))))
theorem fs_law : FnScope ["script", "spot", "dice", "turn"] ["script"] (defScope s_law) := ⟨rfl, rfl, rfl, by decide +kernel, rfl, by decide +kernel, by decide +kernel⟩
def b_law : M Fl := seqM (forM (walkM rng1D (callM (opsM (bnd (ret (.int 1)) fun d => ret (.val d)) (opsM (bnd (callM (opsM (bnd (ret (.int 6)) fun d => ret (.val d)) (opsM (bnd (callM (opsM (nmB 0) (ret [])) lenD) fun d => ret (.val d)) (ret []))) minD) fun d => ret (.val d)) (ret []))) maxD)) (stM 1) (seqM (setO 2 ((callFr [false, false] (arV (nm 0) (arV (nm 1) (ret []))) m__law_dice))) (forM (walkM rng1D (ret (.int 2))) (stM 3) (ifS (notT (op1 (bnd ((callE [true] (arO 2 (ret [])) m__law_right)) fun d => ret (.val d)) fun d => lift (truthD d))) (retM (ret (.bl false))) (ret .nx))))) (retM (ret (.bl true)))
def m_law : Fm := runF [false] 3 b_law
theorem ok_law {P : Program} {w : World} {K : PySem.W.Frag} {mg : Str → Option Value} {base : Heap} [Tb] (G : Gs K mg) (TB : Ts K mg base G) : FnOk P w K mg base (L2.CX P w) 8 G.law.a G.law.fd ["script"] (spV K mg [false] m_law) :=
  fn_v (k := 7) G.law.fn fs_law rfl rfl fun cdv A outer s H E hcd hr => by
    have hN := fs_law.nd
    have hu := hu100 hr
    have tk := takes_of (X := cxOf (L2.CX P w) P w K mg base ["script", "spot", "dice", "turn"] "law" (defScope s_law) G.law.a cdv A outer s H E) (E := E) rfl rfl rfl rfl
    unfold b_law
    exact vss_cons (vs_for (passes_of rfl) (vi_range1 G.b_range (ve_callB (cv_max rfl) G.b_max (vo_cons (vb_val (ve_int)) (vo_cons (vb_val (ve_callB (cv_min rfl) G.b_min (vo_cons (vb_val (ve_int)) (vo_cons (vb_val (ve_callB (cv_len) G.b_len (vo_cons (vb_name 0) (vo_nil)))) (vo_nil))))) (vo_nil))))) (vg_name 1 hN) (vss_cons (vs_setO 2 hN (vf_call (ok__law_dice G TB) (hr.mono (by decide)) G._law_dice.mg G._law_dice.fn.kp G._law_dice.bd (takes_unl tk) (vr_val (ve_name 0) (vr_val (ve_name 1) (vr_nil))))) (vss_one (vs_for (passes_of rfl) (vi_range1 G.b_range (ve_int)) (vg_name 3 hN) (vss_one (vs_if (vt_not (vt_truth (vb_val (ve_call (ok__law_right G TB) (hr.mono (by decide)) G._law_right.mg G._law_right.fn.kp G._law_right.bd (takes_unl (takes_unl tk)) (vr_own 2 (vr_nil)))))) (vss_one (vs_ret (ve_bl))) (vss_nil))))))) (vss_one (vs_ret (ve_bl)))
end VL
namespace VL
open PySem PySem.Spec PyProof.Rows L2
section
variable {e e1 e2 e3 : En} {d x y : D} {i j k : Nat}
theorem run_rt {ms : List Bool} {n : Nat} {b : M Fl} {ds os : List D} (h : b (frame ms ds n) = .ok (.rt d) e) (ho : outsOf ms e = some os) : runF ms n b ds = .ok d os := by
  unfold runF
  rw [h]
  show (match outsOf ms e with | none => FR.no | some os => finF os (.rt d)) = _
  rw [ho]
  rfl
theorem run_nx {ms : List Bool} {n : Nat} {b : M Fl} {ds os : List D} (h : b (frame ms ds n) = .ok .nx e) (ho : outsOf ms e = some os) : runF ms n b ds = .ok .non os := by
  unfold runF
  rw [h]
  show (match outsOf ms e with | none => FR.no | some os => finF os .nx) = _
  rw [ho]
  rfl
theorem chain_le {fa fb fc : M Op} {o : Op} {a b c : Int} (ha : fa e = .ok (.val (.int a)) e) (hb : fb e = .ok o e) (ho : getO o e = .ok (.int b) e) (hc : fc e = .ok (.val (.int c)) e) (h1 : a ≤ b) (h2 : b ≤ c) : chain fa fb fc (cmpD .LtE) (cmpD .LtE) e = .ok (.bl true) e := by
  unfold chain
  refine (bnd_ok ha).trans ((bnd_ok hb).trans ((bnd_ok (show getO (.val (.int a)) e = .ok (.int a) e from rfl)).trans ((bnd_ok ho).trans ?_)))
  refine (bnd_ok (show cmpD .LtE (.int a) (.int b) e = .ok (.bl true) e by show ret (D.bl (decide (a ≤ b))) e = _; rw [decide_eq_true h1]; rfl)).trans ((bnd_ok (show asB (.bl true) e = .ok true e from rfl)).trans ?_)
  refine (bnd_ok hc).trans ((bnd_ok ho).trans ((bnd_ok (show getO (.val (.int c)) e = .ok (.int c) e from rfl)).trans ?_))
  show ret (D.bl (decide (b ≤ c))) e = _
  rw [decide_eq_true h2]
  rfl
theorem iter_dk {α : Type} {f : α → D} {l : List (Str × α)} {m : M D} (h : m e = .ok (.dk (dk f l)) e1) : iterM m e = .ok ((ks l).map .str) e1 := by
  refine (bnd_ok h).trans (lift_ok ?_)
  show some _ = _
  rw [← dk_keys f l]
theorem iter_sL {xs : List Str} {m : M D} (h : m e = .ok (sL xs) e1) : iterM m e = .ok (xs.map .str) e1 := (bnd_ok h).trans (lift_ok rfl)
theorem filter_true {α : Type} (xs : List α) : xs.filter (fun _ => true) = xs := List.filter_eq_self.mpr fun _ _ => rfl
/-- all(..) of a comprehension whose items are all true -/
theorem all_true {γ : Type} (g : γ → D) {fi : M (List D)} {fe : M D} (xs : List γ) (hi : fi e = .ok (xs.map g) e1) (hl : xs.length ≤ line) (h : ∀ a ∈ xs, fe ((e1.set i .un).set i (.fz (g a))) = .ok (.bl true) ((e1.set i .un).set i (.fz (g a)))) :
    callM (opsM (bnd (lcM fi (stM i) (ret true) fe [i]) fun d => ret (Op.val d)) (ret [])) allD e = .ok (.bl true) (e1.set i .un) := by
  have h1 := lcM_map g (e := e) (ft := ret true) (fe := fe) (fun _ => true) (fun _ => .bl true) xs hi hl fun a ha => ⟨rfl, fun _ => h a ha⟩
  refine (callB1 (val_ok h1)).trans ?_
  have h2 : (xs.filter fun _ => true).map (fun _ => D.bl true) = (xs.map fun _ => true).map D.bl := by rw [filter_true, List.map_map]; rfl
  show lift ((toB ((xs.filter fun _ => true).map fun _ => D.bl true)).map fun ns => D.bl (ns.all _root_.id)) _ = _
  rw [h2, toB_bl]
  refine lift_ok ?_
  show some (D.bl _) = _
  have : (xs.map fun _ => true).all _root_.id = true := by rw [List.all_eq_true]; intro b hb; obtain ⟨_, _, rfl⟩ := List.mem_map.mp hb; rfl
  rw [this]
end
/-! ### the names -/
def NmOk (nm : List Str) : Prop := ∀ x ∈ nm, PyData.strOk x = true ∧ m_is_name [.str x] = .ok (.bl true) []
theorem ev_int (n : Int) : m_is_integer [.int n] = .ok (.bl true) [] := rfl
/-! ### is_list, are_lists, require_lists -/
theorem ev_is_list {nm : List Str} (hnm : NmOk nm) {l : Ls} (h1 : 1 ≤ l.length) (h2 : l.length ≤ 50) (hk : ∀ x ∈ ks l, x ∈ nm) (hv : ∀ p ∈ l, 1 ≤ p.2 ∧ p.2 ≤ 1000000) : m_is_list [dI l] = .ok (.bl true) [] := by
  have hline : l.length ≤ line := by show l.length ≤ 16777216; omega
  refine run_rt (e := [.fz (dI l), .un, .un]) ?_ rfl
  unfold b_is_list
  show seqM _ _ [.fz (dI l), .un, .un] = _
  refine (seq_nx (e1 := [.fz (dI l), .un, .un]) (if_f ?_)).trans (ret_ok ?_)
  · refine (or_f (e1 := [.fz (dI l), .un, .un]) rfl).trans ((or_f (e1 := [.fz (dI l), .un, .un]) ?_).trans ?_)
    · refine not_ok (b := true) (asB_ok ?_)
      exact chain_le (o := .val (.int l.length)) rfl (by refine val_ok ((callB1s (x := dI l) rfl rfl).trans ?_); show ret (D.int (dk D.int l).length) _ = _; rw [dk_len]; rfl) rfl rfl (by omega) (by omega)
    · refine not_ok (b := true) (trv_ok (d := .bl true) ?_ rfl)
      exact all_true .str (ks l) (iter_dk (f := D.int) (l := l) rfl) (by rw [List.length_map]; exact hline) fun x hx => call1 (d := .str x) rfl (hnm x (hk x hx)).2
  · refine all_true (i := 1) D.int (l.map (·.2)) (e1 := [.fz (dI l), .un, .un]) ?_ (by rw [List.length_map]; exact hline) fun v hv' => ?_
    · refine (bnd_ok (show VL.nm 0 [.fz (dI l), .un, .un] = .ok (dI l) [.fz (dI l), .un, .un] from rfl)).trans (lift_ok ?_)
      show some _ = _
      rw [dk_vals]
    · obtain ⟨p, hp, rfl⟩ := List.mem_map.mp hv'
      refine (andV_t (call1 (d := .int p.2) rfl (ev_int p.2))).trans ?_
      exact chain_le (o := .slot 1) rfl rfl rfl rfl (hv p hp).1 (hv p hp).2
theorem ev_are_lists {nm : List Str} (hnm : NmOk nm) {L : LL} (h1 : 1 ≤ L.length) (h2 : L.length ≤ 40) (hk : ∀ x ∈ ks L, x ∈ nm) (hl : ∀ p ∈ L, 1 ≤ p.2.length ∧ p.2.length ≤ 50 ∧ (∀ x ∈ ks p.2, x ∈ nm) ∧ ∀ q ∈ p.2, 1 ≤ q.2 ∧ q.2 ≤ 1000000) : m_are_lists [dL L] = .ok (.bl true) [] := by
  have hline : L.length ≤ line := by show L.length ≤ 16777216; omega
  refine run_rt (e := [.fz (dL L), .un]) ?_ rfl
  unfold b_are_lists
  show seqM _ _ [.fz (dL L), .un] = _
  refine (seq_nx (e1 := [.fz (dL L), .un]) (if_f ?_)).trans (ret_ok ?_)
  · refine (or_f (e1 := [.fz (dL L), .un]) rfl).trans ((or_f (e1 := [.fz (dL L), .un]) ?_).trans ?_)
    · refine not_ok (b := true) (asB_ok ?_)
      exact chain_le (o := .val (.int L.length)) rfl (by refine val_ok ((callB1s (x := dL L) rfl rfl).trans ?_); show ret (D.int (dk dI L).length) _ = _; rw [dk_len]; rfl) rfl rfl (by omega) (by omega)
    · refine not_ok (b := true) (trv_ok (d := .bl true) ?_ rfl)
      exact all_true .str (ks L) (iter_dk (f := dI) (l := L) rfl) (by rw [List.length_map]; exact hline) fun x hx => call1 (d := .str x) rfl (hnm x (hk x hx)).2
  · refine all_true (i := 1) dI (L.map (·.2)) (e1 := [.fz (dL L), .un]) ?_ (by rw [List.length_map]; exact hline) fun v hv' => ?_
    · refine (bnd_ok (show VL.nm 0 [.fz (dL L), .un] = .ok (dL L) [.fz (dL L), .un] from rfl)).trans (lift_ok ?_)
      show some _ = _
      rw [dk_vals]
    · obtain ⟨p, hp, rfl⟩ := List.mem_map.mp hv'
      obtain ⟨q1, q2, q3, q4⟩ := hl p hp
      exact call1 (d := dI p.2) rfl (ev_is_list hnm q1 q2 q3 q4)
theorem ev_require_lists {L : LL} (h : m_are_lists [dL L] = .ok (.bl true) []) : m_require_lists [dL L] = .ok .non [] := by
  refine run_nx (e := [.fz (dL L)]) ?_ rfl
  unfold b_require_lists
  exact if_f (not_ok (b := true) (trv_ok (d := .bl true) (call1 (d := dL L) rfl h) rfl))
end VL
namespace VL
open PySem PySem.Spec PyProof.Rows L2
section
variable {α : Type} {e e1 e2 e3 : En} {d x y : D} {i j k : Nat}
theorem ix_dk {f : α → D} {l : List (Str × α)} {z : Str} {v : α} (h : lkp l z = some v) : ixD (.dk (dk f l)) (.str z) e = .ok (f v) e := by
  show lift ((some (valD (dk f l) (Sum.inr z))).bind _root_.id) e = _
  rw [valD_dk, h]
  rfl
theorem in_dk (f : α → D) (l : List (Str × α)) (z : Str) : inD (.str z) (.dk (dk f l)) e = .ok (.bl (decide (z ∈ ks l))) e := by
  show lift (((some (valD (dk f l) (Sum.inr z))).map (·.isSome)).map D.bl) e = _
  rw [valD_dk]
  by_cases h : z ∈ ks l
  · obtain ⟨v, hv⟩ : ∃ v, lkp l z = some v := by
      cases q : lkp l z with
      | none => exact absurd h (lkp_none.mp q)
      | some v => exact ⟨v, rfl⟩
    rw [hv, decide_eq_true h]
    rfl
  · rw [lkp_none.mpr h, decide_eq_false h]
    rfl
theorem nin_dk (f : α → D) (l : List (Str × α)) (z : Str) : ninD (.str z) (.dk (dk f l)) e = .ok (.bl (decide (z ∉ ks l))) e := by
  show lift (((some (valD (dk f l) (Sum.inr z))).map (·.isSome)).map fun b => D.bl (!b)) e = _
  rw [valD_dk]
  by_cases h : z ∈ ks l
  · obtain ⟨v, hv⟩ : ∃ v, lkp l z = some v := by
      cases q : lkp l z with
      | none => exact absurd h (lkp_none.mp q)
      | some v => exact ⟨v, rfl⟩
    rw [hv, decide_eq_false (fun q => q h)]
    rfl
  · rw [lkp_none.mpr h, decide_eq_true h]
    rfl
theorem eqv_strs (z : Str) : ∀ xs : List Str, ((xs.map PyData.str).any fun p => PyData.eqv p (.str z)) = decide (z ∈ xs)
  | [] => rfl
  | x :: xs => by
    rw [List.map_cons, List.any_cons, eqv_strs z xs]
    have h : PyData.eqv (.str x) (.str z) = decide (x = z) := by
      unfold PyData.eqv
      by_cases h : x = z
      · simp [h]
      · simp [h]
    rw [h]
    by_cases h1 : x = z
    · rw [decide_eq_true h1, decide_eq_true (show z ∈ x :: xs by rw [h1]; exact List.mem_cons_self)]; rfl
    · rw [decide_eq_false h1]
      exact decide_eq_decide.mpr ⟨fun h => List.mem_cons_of_mem _ h, fun h => (List.mem_cons.mp h).resolve_left fun q => h1 q.symm⟩
theorem shp_strs {xs : List Str} (h : okS xs) : shp (.list (xs.map .str)) = true := by
  unfold shp SeqAt.shaped
  unfold PyData.canLay0 PyData.depth
  rw [lay_str h, dep_str]
  rfl
theorem shp_str {z : Str} (h : PyData.strOk z = true) : shp (.str z) = true := by
  unfold shp SeqAt.shaped
  unfold PyData.canLay0 PyData.depth
  rw [h]
  rfl
theorem toP_sL (xs : List Str) : toP (sL xs) = some (.list (xs.map .str)) := by
  unfold toP
  rw [toPs_str]
  rfl
theorem inO_sL {xs : List Str} {z : Str} (h : okS xs) (hz : PyData.strOk z = true) : inO (.str z) (sL xs) = some (decide (z ∈ xs)) := by
  show inSeq (.str z) (xs.map .str) .list = _
  unfold inSeq
  rw [toP_str, toPs_str]
  show (if (shp (.str z) && shp (.list (xs.map .str))) = true then _ else _) = _
  rw [shp_str hz, shp_strs h, if_pos (show (true && true) = true from rfl), eqv_strs]
theorem in_sL {xs : List Str} {z : Str} (h : okS xs) (hz : PyData.strOk z = true) : inD (.str z) (sL xs) e = .ok (.bl (decide (z ∈ xs))) e := by
  unfold inD
  rw [inO_sL h hz]
  rfl
theorem nin_sL {xs : List Str} {z : Str} (h : okS xs) (hz : PyData.strOk z = true) : ninD (.str z) (sL xs) e = .ok (.bl (!decide (z ∈ xs))) e := by
  unfold ninD
  rw [inO_sL h hz]
  rfl
theorem eq_nil {xs : List Str} (h : okS xs) : eqO (sL xs) (.lst []) = some (decide (xs = [])) := by
  show eqPO (sL xs) (.lst []) = _
  unfold eqPO
  rw [toP_sL, show toP (.lst []) = some (.list []) by unfold toP; unfold toPs; rfl]
  show (if (shp (.list (xs.map .str)) && shp (.list [])) = true then _ else _) = _
  rw [shp_strs h, show shp (.list []) = true from shp_strs (xs := []) fun _ h => (by cases h), if_pos (show (true && true) = true from rfl)]
  cases xs with
  | nil => unfold PyData.eqv; unfold PyData.eqvAll; rfl
  | cons x xs => unfold PyData.eqv; unfold PyData.eqvAll; rfl
theorem mut_ok {kd : D → Bool} {fs : M (List D)} {g : D → List D → Option (D × D)} {ds : List D} {c c' r : D} (h1 : e[i]? = some (.ow c)) (hk : kd c = true) (h2 : fs e = .ok ds e1) (h3 : e1[i]? = some (.ow c)) (hg : g c ds = some (c', r)) : mutK kd i fs g e = .ok r (e1.set i (.ow c')) := by
  have p : peekK kd i e = .ok () e := by unfold peekK; rw [h1]; exact if_pos hk
  refine (bnd_ok p).trans ((bnd_ok h2).trans ?_)
  have q : modS i (fun c => g c ds) e1 = .ok r (e1.set i (.ow c')) := by
    unfold modS
    rw [h3]
    dsimp only
    rw [hg]
  exact (bnd_ok q).trans rfl
theorem sub_ok {fk fv : M D} {c c' v kk : D} (h1 : fv e = .ok v e1) (h2 : e1[i]? = some (.ow c)) (h3 : fk e1 = .ok kk e2) (h4 : e2[i]? = some (.ow c)) (h : setItemD c kk v = some c') : subSet i fk fv e = .ok .nx (e2.set i (.ow c')) := by
  have p : peekO i e1 = .ok () e1 := by unfold peekO; rw [h2]
  refine (bnd_ok h1).trans ((bnd_ok p).trans ((bnd_ok h3).trans ?_))
  have q : modS i (fun c => (setItemD c kk v).map fun c' => (c', ())) e2 = .ok () (e2.set i (.ow c')) := by
    unfold modS
    rw [h4]
    dsimp only
    rw [h]
    rfl
  exact (bnd_ok q).trans rfl
theorem setD_dk (f : α → D) (l : List (Str × α)) (z : Str) (v : α) (h : l.length < line) : setItemD (.dk (dk f l)) (.str z) (f v) = some (.dk (dk f (put l z v))) := by
  show (if (dk f l).length < line then (some (Sum.inr z : Key)).map fun k => D.dk (putD (dk f l) k (f v)) else none) = _
  rw [dk_len, if_pos h]
  show some (D.dk (putD (dk f l) (Sum.inr z) (f v))) = _
  rw [putD_dk]
/-- all(..) of a comprehension -/
theorem all_of {γ : Type} (g : γ → D) (b : γ → Bool) {fi : M (List D)} {fe : M D} (xs : List γ) (hi : fi e = .ok (xs.map g) e1) (hl : xs.length ≤ line) (h : ∀ a ∈ xs, fe ((e1.set i .un).set i (.fz (g a))) = .ok (.bl (b a)) ((e1.set i .un).set i (.fz (g a)))) :
    callM (opsM (bnd (lcM fi (stM i) (ret true) fe [i]) fun d => ret (Op.val d)) (ret [])) allD e = .ok (.bl (xs.all b)) (e1.set i .un) := by
  have h1 := lcM_map g (e := e) (ft := ret true) (fe := fe) (fun _ => true) (fun a => .bl (b a)) xs hi hl fun a ha => ⟨rfl, fun _ => h a ha⟩
  refine (callB1 (val_ok h1)).trans ?_
  have h2 : (xs.filter fun _ => true).map (fun a => D.bl (b a)) = (xs.map b).map D.bl := by rw [filter_true, List.map_map]; rfl
  show lift ((toB ((xs.filter fun _ => true).map fun a => D.bl (b a))).map fun ns => D.bl (ns.all _root_.id)) _ = _
  rw [h2, toB_bl]
  refine lift_ok ?_
  show some (D.bl _) = _
  rw [List.all_map]
  rfl
end
/-! ### the known names -/
def allN (L : LL) : List Str := ks L ++ ((L.map (·.2)).map ks).flatten
def kn (L : LL) : List Str := sortS (dedup (allN L))
theorem ev_known {L : LL} (hs : (allN L).length < 64) : m_known_in [dL L] = .ok (sL (kn L)) [] := by
  unfold m_known_in
  have hlist : setO 1 (callM (opsM (nmB 0) (ret [])) listD) [.fz (dL L), .un, .un] = .ok .nx [.fz (dL L), .ow (sL (ks L)), .un] := by
    refine (setO_ok (d := sL (ks L)) (e1 := [.fz (dL L), .un, .un]) ((callB1s (x := dL L) rfl rfl).trans ?_)).trans rfl
    show ret (D.lst ((dk dI L).map fun p => keyV p.1)) _ = _
    rw [dk_keys]
    rfl
  obtain ⟨e', h1, h2⟩ := forM_inv (e := [.fz (dL L), .ow (sL (ks L)), .un]) (e1 := [.fz (dL L), .ow (sL (ks L)), .un]) (fi := walkM valuesD (VL.nm 0)) (sm := stM 2) (gb := exprM (mutK isLst 1 (consM (VL.nm 2) (ret [])) extKD)) dI (L.map (·.2))
    (fun pre e => ∃ s, e = [.fz (dL L), .ow (sL (ks L ++ (pre.map ks).flatten)), s])
    (by
      refine (bnd_ok (show VL.nm 0 [.fz (dL L), .ow (sL (ks L)), .un] = .ok (dL L) [.fz (dL L), .ow (sL (ks L)), .un] from rfl)).trans (lift_ok ?_)
      show some _ = _
      rw [dk_vals])
    ⟨.un, by rw [List.map_nil, List.flatten_nil, List.append_nil]⟩
    (fun pre a post e hx ⟨s, he⟩ => by
      subst he
      refine ⟨_, _, rfl, expr_ok (mut_ok (c := sL (ks L ++ (pre.map ks).flatten)) (c' := sL (ks L ++ ((pre ++ [a]).map ks).flatten)) (r := .non) rfl rfl (ds := [dI a]) rfl rfl ?_), .fz (dI a), rfl⟩
      have hlen : (ks L ++ (pre.map ks).flatten).length + a.length < 64 := by
        unfold allN at hs
        rw [hx] at hs
        simp only [List.map_append, List.map_cons, List.flatten_append, List.flatten_cons, List.length_append] at hs ⊢
        have : (ks a).length = a.length := List.length_map _
        omega
      show (if ((ks L ++ (pre.map ks).flatten).map D.str).length + (dk D.int a).length ≤ line ∧ ((ks L ++ (pre.map ks).flatten).map D.str).length < line then some (D.lst ((ks L ++ (pre.map ks).flatten).map D.str ++ (dk D.int a).map fun p => keyV p.1), D.non) else none) = _
      rw [List.length_map, dk_len, if_pos ⟨by show _ ≤ 16777216; omega, by show _ < 16777216; omega⟩, dk_keys, ← List.map_append, List.append_assoc]
      have e : ((pre ++ [a]).map ks).flatten = (pre.map ks).flatten ++ ks a := by simp
      rw [e])
  obtain ⟨s, rfl⟩ := h2
  refine run_rt (e := [.fz (dL L), .ow (sL (allN L)), s]) ?_ rfl
  unfold b_known_in
  refine (seq_nx hlist).trans ((seq_nx h1).trans (ret_ok ?_))
  refine (callB1s (x := sL (allN L)) rfl rfl).trans ?_
  show lift ((toS ((allN L).map .str)).bind fun xs => if xs.length < 64 then some (D.lst ((sortS (dedup xs)).map .str)) else none) _ = _
  rw [toS_str]
  refine lift_ok ?_
  show (if (allN L).length < 64 then some (D.lst ((sortS (dedup (allN L))).map .str)) else none) = _
  rw [if_pos hs]
  rfl
/-! ### the lists that a name stands in -/
def parents (L : LL) (x : Str) : List Str := (sortS (ks L)).filter fun y => match lkp L y with
  | some ls => decide (x ∈ ks ls)
  | none => false
theorem sorted_dk {α : Type} {e : En} (f : α → D) {l : List (Str × α)} (h : l.length < 64) : sortedD [.dk (dk f l)] e = .ok (sL (sortS (ks l))) e := by
  show lift ((keysS (dk f l)).bind fun xs => if xs.length < 64 then some (D.lst ((sortS xs).map .str)) else none) e = _
  rw [keysS_dk]
  refine lift_ok ?_
  show (if (ks l).length < 64 then _ else _) = _
  rw [show (ks l).length = l.length from List.length_map _, if_pos h]
section
variable [Tb]
theorem mem_sortS {x : Str} {l : List Str} : x ∈ sortS l ↔ x ∈ l := (sortS_perm l).mem_iff
theorem ev_keys_with {L : LL} (hl : L.length < 64) (x : Str) : m_keys_with [dL L, .str x] = .ok (sL (parents L x)) [] := by
  refine run_rt (e := [.fz (dL L), .fz (.str x), .un]) ?_ rfl
  unfold b_keys_with
  refine ret_ok ?_
  have hlen : (sortS (ks L)).length = L.length := by rw [(sortS_perm _).length_eq]; exact List.length_map _
  have := lcM_map (e := [.fz (dL L), .fz (.str x), .un]) (e1 := [.fz (dL L), .fz (.str x), .un]) (i := 2) D.str (fi := iterM (callM (opsM (nmB 0) (ret [])) sortedD)) (ft := bnd (op2 (nmB 1) (bnd (op2 (nmB 0) (nmB 2) ixD) fun d => ret (Op.val d)) inD) asB) (fe := VL.nm 2)
    (fun y => match lkp L y with | some ls => decide (x ∈ ks ls) | none => false) D.str (sortS (ks L)) (iter_sL ((callB1s (x := dL L) rfl rfl).trans (sorted_dk dI hl))) (by rw [hlen]; show _ ≤ 16777216; omega)
    (fun y hy => by
      obtain ⟨ls, e⟩ := lkp_of_mem_ks (mem_sortS.mp hy)
      refine ⟨asB_ok ((op2_sv (x := .str x) (y := dI ls) rfl (val_ok ((op2_ss (x := dL L) (y := .str y) rfl rfl rfl rfl).trans (ix_dk e))) rfl).trans ((in_dk D.int ls x).trans ?_)), fun _ => rfl⟩
      rw [e])
  exact this
end
end VL
namespace VL
open PySem PySem.Spec PyProof.Rows L2
variable [Tb]
section
theorem get2_dk {α : Type} {f : α → D} {l : List (Str × α)} {e : En} {z : Str} {x : D} {i j : Nat} (h1 : getS i e = .ok (.dk (dk f l)) e) (hB : nmB i e = .ok (.slot i) e) (h2 : VL.nm j e = .ok (.str z) e) : getM2 (nmB i) (VL.nm j) (ret x) e = .ok (((lkp l z).map f).getD x) e := by
  refine (bnd_ok hB).trans ((bnd_ok h1).trans ((chk_ok rfl).trans ((bnd_ok h2).trans ((bnd_ok (show ret x e = .ok x e from rfl)).trans ((bnd_ok h1).trans (lift_ok ?_))))))
  show some ((valD (dk f l) (Sum.inr z)).getD x) = _
  rw [valD_dk]
end
theorem eq_str {x y : Str} (hx : PyData.strOk x = true) (hy : PyData.strOk y = true) : eqO (.str x) (.str y) = some (decide (x = y)) := by
  show eqPO (.str x) (.str y) = _
  unfold eqPO
  rw [toP_str, toP_str]
  show (if (shp (.str x) && shp (.str y)) = true then _ else _) = _
  rw [shp_str hx, shp_str hy, if_pos (show (true && true) = true from rfl)]
  unfold PyData.eqv
  by_cases h : x = y <;> simp [h]
theorem log2_le {n k : Nat} (h : n ≤ 2 ^ k) : n.log2 ≤ k := by
  by_cases hn : n = 0
  · subst hn; exact Nat.zero_le _
  · have h1 := Nat.log2_self_le hn
    exact (Nat.pow_le_pow_iff_right (by decide : 1 < 2)).mp (Nat.le_trans h1 h)
theorem mul_int {e : En} {i j : Int} {a b : Nat} (h1 : i.natAbs ≤ 2 ^ a) (h2 : j.natAbs ≤ 2 ^ b) (h : a + b < 1000000) : mulD (.int i) (.int j) e = .ok (.int (i * j)) e :=
  chk_ok (decide_eq_true (by have := log2_le h1; have := log2_le h2; omega))
theorem aug_ok {e e1 e2 : En} {i : Nat} {fk fe : M D} {g : D → D → M D} {c c' kk old y z : D} (h0 : e[i]? = some (.ow c)) (h1 : fk e = .ok kk e1) (h2 : e1[i]? = some (.ow c)) (h3 : dgetD c kk = some (some old)) (h4 : fe e1 = .ok y e2) (h5 : g old y e2 = .ok z e2) (h6 : e2[i]? = some (.ow c)) (h7 : setItemD c kk z = some c') :
    augSub i fk fe g e = .ok .nx (e2.set i (.ow c')) := by
  have p : peekO i e = .ok () e := by unfold peekO; rw [h0]
  refine (bnd_ok p).trans ((bnd_ok h1).trans ((bnd_ok (getS_ow h2)).trans ((bnd_ok (show lift ((dgetD c kk).bind _root_.id) e1 = .ok old e1 from lift_ok (by rw [h3]; rfl))).trans ((bnd_ok h4).trans ((bnd_ok h5).trans ?_)))))
  have q : modS i (fun c => (setItemD c kk z).map fun c' => (c', ())) e2 = .ok () (e2.set i (.ow c')) := by
    unfold modS
    rw [h6]
    dsimp only
    rw [h7]
    rfl
  exact (bnd_ok q).trans rfl
end VL
namespace VL
open PySem PySem.Spec PyProof.Rows L2
variable [Tb]
theorem mem_parents {L : LL} {x y : Str} : y ∈ parents L x ↔ Par L y x := by
  unfold parents
  rw [List.mem_filter, mem_sortS]
  constructor
  · rintro ⟨_, h⟩
    cases e : lkp L y with
    | none => rw [e] at h; cases h
    | some ls => rw [e] at h; exact ⟨ls, rfl.trans e, of_decide_eq_true h⟩
  · rintro ⟨ls, e, h⟩
    refine ⟨mem_ks_of_lkp e, ?_⟩
    rw [e]
    exact decide_eq_true h
theorem parents_len {L : LL} (hL : L.length < 64) (x : Str) : (parents L x).length ≤ line := by
  have h2 : (sortS (ks L)).length = L.length := by rw [(sortS_perm _).length_eq]; exact List.length_map _
  unfold parents
  refine Nat.le_trans (List.length_filter_le _ _) ?_
  show _ ≤ 16777216
  omega
theorem okS_of {K W : List Str} (h : okS K) (hs : ∀ x ∈ W, x ∈ K) : okS W := fun x hx => h x (hs x hx)
theorem nd_len : ∀ {xs ys : List Str}, xs.Nodup → (∀ x ∈ xs, x ∈ ys) → xs.length ≤ ys.length
  | [], _, _, _ => Nat.zero_le _
  | x :: xs, ys, h, hs => by
    obtain ⟨h1, h2⟩ := List.nodup_cons.mp h
    have hx := hs x List.mem_cons_self
    have ih := nd_len (xs := xs) (ys := ys.erase x) h2 fun y hy => (List.mem_erase_of_ne fun e => h1 (by rw [← e]; exact hy)).mpr (hs y (List.mem_cons_of_mem _ hy))
    rw [List.length_erase_of_mem hx] at ih
    have := List.length_pos_of_mem hx
    rw [List.length_cons]
    omega
theorem filter_lt {α : Type} {p : α → Bool} : ∀ {xs : List α} {a : α}, a ∈ xs → p a = false → (xs.filter p).length < xs.length
  | x :: xs, a, h, hp => by
    have hle := List.length_filter_le p xs
    by_cases e : p x = true
    · rw [List.filter_cons_of_pos e]
      have hax : a ∈ xs := (List.mem_cons.mp h).resolve_left fun z => by rw [z, e] at hp; cases hp
      have := filter_lt hax hp
      rw [List.length_cons, List.length_cons]
      omega
    · rw [List.filter_cons_of_neg e, List.length_cons]
      omega
theorem lkp_val {T : Ls} {y : Str} (h : y ∈ ks T) : lkp T y = some (val T y) := by
  obtain ⟨v, e⟩ := lkp_of_mem_ks h
  unfold val
  rw [e]
  rfl
/-- max(.., default=0) of the parents' levels -/
theorem ev_lv {e e1 : En} {fi : M (List D)} {fe : M D} {T : Ls} {ps : List Str} {i : Nat} (hi : fi e = .ok (ps.map .str) e1) (hl : ps.length ≤ line) (h : ∀ a ∈ ps, fe ((e1.set i .un).set i (.fz (.str a))) = .ok (.int (val T a + 1)) ((e1.set i .un).set i (.fz (.str a)))) :
    kwM (opsM (bnd (lcM fi (stM i) (ret true) fe [i]) fun d => ret (Op.val d)) (ret [])) (ret (.int 0)) maxDflt e = .ok (.int (lv T ps)) (e1.set i .un) := by
  have h1 := lcM_map D.str (e := e) (ft := ret true) (fe := fe) (fun _ => true) (fun a => .int (val T a + 1)) ps hi hl fun a ha => ⟨rfl, fun _ => h a ha⟩
  have h2 : opsM (bnd (lcM fi (stM i) (ret true) fe [i]) fun d => ret (Op.val d)) (ret []) e = .ok [.val (.lst ((ps.filter fun _ => true).map fun a => D.int (val T a + 1)))] (e1.set i .un) := (bnd_ok (val_ok h1)).trans rfl
  refine (bnd_ok h2).trans ?_
  have h3 : (ps.filter fun _ => true).map (fun a => D.int (val T a + 1)) = (ps.map fun a => val T a + 1).map D.int := by rw [filter_true, List.map_map]; rfl
  show lift ((toI ((ps.filter fun _ => true).map fun a => D.int (val T a + 1))).map fun ns => match maxI ns with | some m => D.int m | none => .int 0) _ = _
  rw [h3, toI_int]
  refine lift_ok ?_
  show some (match maxI (ps.map fun a => val T a + 1) with | some m => D.int m | none => .int 0) = _
  unfold lv
  cases maxI (ps.map fun a => val T a + 1) <;> rfl
section
variable {L : LL} {r : Str → Nat} {K : List Str}
def levC : M Bool := op1 (nmB 3) fun d => lift (truthD d)
def levR : M D := lcM (iterM (VL.nm 2)) (stM 5) (op1 (bnd (callM (opsM (bnd (lcM (iterM ((callE [false, false] (arV (VL.nm 0) (arV (VL.nm 5) (ret []))) m_keys_with))) (stM 6) (ret true) (op2 (nmB 6) (nmB 1) inD) [6]) fun d => ret (Op.val d)) (ret [])) allD) fun d => ret (Op.val d)) fun d => lift (truthD d)) (VL.nm 5) [5]
def levF : M Fl := forM (iterM (VL.nm 4)) (stM 5) (subSet 1 (VL.nm 5) (kwM (opsM (bnd (lcM (iterM ((callE [false, false] (arV (VL.nm 0) (arV (VL.nm 5) (ret []))) m_keys_with))) (stM 6) (ret true) (op2 (bnd (op2 (nmB 1) (nmB 6) ixD) fun d => ret (Op.val d)) (bnd (ret (.int 1)) fun d => ret (Op.val d)) addD) [6]) fun d => ret (Op.val d)) (ret [])) (ret (.int 0)) maxDflt))
def levP : M Fl := parM [2, 3] (tmF (lcM (iterM (VL.nm 2)) (stM 5) (bnd (op2 (nmB 5) (nmB 1) ninD) asB) (VL.nm 5) [5]) (tmF (op2 (nmB 4) (bnd (lstM (ret [])) fun d => ret (Op.val d)) (cmpD .NotEq)) (ret [])))
theorem ev_levR (hL : L.length < 64) {T : Ls} {W : List Str} (hW : W.length ≤ line) (b : D) (s4 s5 : Sl) :
    levR [.fz (dL L), .ow (dI T), .fz (sL W), .fz b, s4, s5, .un] = .ok (sL (W.filter fun x => (parents L x).all fun y => decide (y ∈ ks T))) [.fz (dL L), .ow (dI T), .fz (sL W), .fz b, s4, .un, .un] := by
  have hpl : ∀ x, (parents L x).length ≤ line := fun x => parents_len hL x
  exact lcM_map (e := [.fz (dL L), .ow (dI T), .fz (sL W), .fz b, s4, s5, .un]) (e1 := [.fz (dL L), .ow (dI T), .fz (sL W), .fz b, s4, s5, .un]) (i := 5) D.str (fun x => (parents L x).all fun y => decide (y ∈ ks T)) D.str W (iter_sL rfl) hW fun x hx =>
    ⟨trv_ok (d := .bl _) (all_of (i := 6) D.str (fun y => decide (y ∈ ks T)) (parents L x) (iter_sL (call2 (x := dL L) (y := .str x) rfl rfl (ev_keys_with hL x))) (hpl x) fun y hy => (op2_ss (x := .str y) (y := dI T) rfl rfl rfl rfl).trans (in_dk D.int T y)) rfl, fun _ => rfl⟩
theorem ev_levF (hL : L.length < 64) {T : Ls} {W R : List Str} (hK : K.length < 64) (hT : Lv L K T) (hR : ∀ x ∈ R, x ∈ K ∧ x ∉ ks T ∧ ∀ y ∈ parents L x, y ∈ ks T) (hn : R.Nodup) (b : D) :
    ∃ T1 s5, levF [.fz (dL L), .ow (dI T), .fz (sL W), .fz b, .fz (sL R), .un, .un] = .ok .nx [.fz (dL L), .ow (dI T1), .fz (sL W), .fz b, .fz (sL R), s5, .un] ∧ Lv L K T1 ∧ ∀ x, x ∈ ks T1 ↔ x ∈ ks T ∨ x ∈ R := by
  have hpl : ∀ x, (parents L x).length ≤ line := fun x => parents_len hL x
  obtain ⟨e', h1, T1, s5, rfl, h2, h3⟩ := forM_inv (e := [.fz (dL L), .ow (dI T), .fz (sL W), .fz b, .fz (sL R), .un, .un]) (e1 := [.fz (dL L), .ow (dI T), .fz (sL W), .fz b, .fz (sL R), .un, .un]) (fi := iterM (VL.nm 4)) (sm := stM 5)
    (gb := subSet 1 (VL.nm 5) (kwM (opsM (bnd (lcM (iterM ((callE [false, false] (arV (VL.nm 0) (arV (VL.nm 5) (ret []))) m_keys_with))) (stM 6) (ret true) (op2 (bnd (op2 (nmB 1) (nmB 6) ixD) fun d => ret (Op.val d)) (bnd (ret (.int 1)) fun d => ret (Op.val d)) addD) [6]) fun d => ret (Op.val d)) (ret [])) (ret (.int 0)) maxDflt)) D.str R
    (fun pre e => ∃ T1 s5, e = [.fz (dL L), .ow (dI T1), .fz (sL W), .fz b, .fz (sL R), s5, .un] ∧ Lv L K T1 ∧ ∀ x, x ∈ ks T1 ↔ x ∈ ks T ∨ x ∈ pre)
    (iter_sL rfl) ⟨T, .un, rfl, hT, fun x => by simp⟩
    (fun pre a post e hx ⟨T1, s5, he, hT1, hk⟩ => by
      subst he
      have haR : a ∈ R := by rw [hx]; exact List.mem_append_right _ List.mem_cons_self
      obtain ⟨q1, q2, q3⟩ := hR a haR
      have hpre : a ∉ pre := fun hp => by
        rw [hx] at hn
        exact (List.nodup_append.mp hn).2.2 a hp a List.mem_cons_self rfl
      have ha1 : a ∉ ks T1 := fun h => ((hk a).mp h).elim q2 hpre
      have hps : ∀ y ∈ parents L a, y ∈ ks T1 := fun y hy => (hk y).mpr (.inl (q3 y hy))
      have hlen : T1.length < line := by
        have h1 := nd_len hT1.nd hT1.sub
        have h2 : (ks T1).length = T1.length := List.length_map _
        show _ < 16777216
        omega
      refine ⟨_, _, rfl, sub_ok (v := .int (lv T1 (parents L a))) (c := dI T1) (kk := .str a) (ev_lv (i := 6) (iter_sL (call2 (x := dL L) (y := .str a) rfl rfl (ev_keys_with hL a))) (hpl a) fun y hy => ?_) rfl rfl rfl (setD_dk D.int T1 a _ hlen), put T1 a (lv T1 (parents L a)), .fz (.str a), rfl, lv_put hT1 q1 ha1 fun y hy => ?_, fun x => ?_⟩
      · exact (op2_vv (x := .int (val T1 y)) (y := .int 1) (val_ok ((op2_ss (x := dI T1) (y := .str y) rfl rfl rfl rfl).trans (ix_dk (lkp_val (hps y hy))))) rfl).trans rfl
      · have hy := mem_parents.mpr hy
        exact ⟨hps y hy, lv_ge hy⟩
      · rw [mem_ks_put, hk, List.mem_append, List.mem_singleton, or_assoc])
  exact ⟨T1, s5, h1, h2, h3⟩
theorem ev_levP {T : Ls} {W R : List Str} (hW : W.length ≤ line) (hR : okS R) (b : D) (s5 : Sl) :
    levP [.fz (dL L), .ow (dI T), .fz (sL W), .fz b, .fz (sL R), s5, .un] = .ok .nx [.fz (dL L), .ow (dI T), .fz (sL (W.filter fun x => decide (x ∉ ks T))), .fz (.bl (!decide (R = []))), .fz (sL R), .un, .un] := by
  have h1 : lcM (iterM (VL.nm 2)) (stM 5) (bnd (op2 (nmB 5) (nmB 1) ninD) asB) (VL.nm 5) [5] [.fz (dL L), .ow (dI T), .fz (sL W), .fz b, .fz (sL R), s5, .un] = .ok (sL (W.filter fun x => decide (x ∉ ks T))) [.fz (dL L), .ow (dI T), .fz (sL W), .fz b, .fz (sL R), .un, .un] :=
    lcM_map (e := [.fz (dL L), .ow (dI T), .fz (sL W), .fz b, .fz (sL R), s5, .un]) (e1 := [.fz (dL L), .ow (dI T), .fz (sL W), .fz b, .fz (sL R), s5, .un]) (i := 5) D.str (fun x => decide (x ∉ ks T)) D.str W (iter_sL rfl) hW fun x hx =>
      ⟨asB_ok ((op2_ss (x := .str x) (y := dI T) rfl rfl rfl rfl).trans (nin_dk D.int T x)), fun _ => rfl⟩
  have h2 : op2 (nmB 4) (bnd (lstM (ret [])) fun d => ret (Op.val d)) (cmpD .NotEq) [.fz (dL L), .ow (dI T), .fz (sL W), .fz b, .fz (sL R), .un, .un] = .ok (.bl (!decide (R = []))) [.fz (dL L), .ow (dI T), .fz (sL W), .fz b, .fz (sL R), .un, .un] := by
    refine (op2_sv (x := sL R) (y := .lst []) rfl rfl rfl).trans (lift_ok ?_)
    rw [eq_nil hR]
    rfl
  refine (bnd_ok (show tmF _ (tmF _ (ret [])) _ = .ok [.fz (sL (W.filter fun x => decide (x ∉ ks T))), .fz (.bl (!decide (R = [])))] _ from (bnd_ok h1).trans (bnd_ok ((bnd_ok h2).trans rfl)))).trans ?_
  rfl
theorem lev_loop (hr : Rk L r) (hks : ∀ x ∈ ks L, x ∈ K) (hok : okS K) (hL : L.length < 64) (hK : K.length < 64) : ∀ (n : Nat) (T : Ls) (W : List Str) (s4 s5 : Sl), Lv L K T → (∀ x ∈ K, x ∈ ks T ∨ x ∈ W) → (∀ x ∈ W, x ∈ K ∧ x ∉ ks T) → W.Nodup → W.length + 2 ≤ n →
    ∃ T' W' s4' s5' s6', whileM levC (seqM (setM 4 levR) (seqM levF levP)) n [.fz (dL L), .ow (dI T), .fz (sL W), .fz (.bl true), s4, s5, .un] = .ok .nx [.fz (dL L), .ow (dI T'), .fz (sL W'), .fz (.bl false), s4', s5', s6'] ∧ Lv L K T' ∧ ∀ x ∈ K, x ∈ ks T'
  | 0, _, _, _, _, _, _, _, _, hn => by omega
  | n + 1, T, W, s4, s5, hT, h1, h2, h3, hn => by
    have hW : W.length ≤ line := by
      have := nd_len h3 fun x hx => (h2 x hx).1
      show _ ≤ 16777216
      omega
    generalize hRd : (W.filter fun x => (parents L x).all fun y => decide (y ∈ ks T)) = R
    have hRm : ∀ x, x ∈ R ↔ x ∈ W ∧ ∀ y ∈ parents L x, y ∈ ks T := fun x => by
      rw [← hRd, List.mem_filter, List.all_eq_true]
      exact and_congr_right fun _ => forall_congr' fun y => forall_congr' fun _ => decide_eq_true_iff
    have hRn : R.Nodup := by rw [← hRd]; exact h3.filter _
    have e1 := ev_levR hL (T := T) hW (.bl true) s4 s5
    rw [hRd] at e1
    obtain ⟨T1, s5', e2, hT1, hk⟩ := ev_levF (W := W) hL hK hT (fun x hx => ⟨(h2 x ((hRm x).mp hx).1).1, (h2 x ((hRm x).mp hx).1).2, ((hRm x).mp hx).2⟩) hRn (.bl true)
    have hRok : okS R := okS_of hok fun x hx => (h2 x ((hRm x).mp hx).1).1
    have e3 := ev_levP (L := L) (T := T1) hW hRok (.bl true) s5'
    have hbody : seqM (setM 4 levR) (seqM levF levP) [.fz (dL L), .ow (dI T), .fz (sL W), .fz (.bl true), s4, s5, .un] = .ok .nx [.fz (dL L), .ow (dI T1), .fz (sL (W.filter fun x => decide (x ∉ ks T1))), .fz (.bl (!decide (R = []))), .fz (sL R), .un, .un] :=
      (seq_nx (set_ok e1)).trans ((seq_nx e2).trans e3)
    have hstep : whileM levC (seqM (setM 4 levR) (seqM levF levP)) (n + 1) [.fz (dL L), .ow (dI T), .fz (sL W), .fz (.bl true), s4, s5, .un] = whileM levC (seqM (setM 4 levR) (seqM levF levP)) n [.fz (dL L), .ow (dI T1), .fz (sL (W.filter fun x => decide (x ∉ ks T1))), .fz (.bl (!decide (R = []))), .fz (sL R), .un, .un] :=
      (bnd_ok (show levC _ = .ok true _ from rfl)).trans (bnd_ok hbody)
    rw [hstep]
    by_cases hR0 : R = []
    · -- nothing ready: nothing left
      have hW0 : W = [] := by
        by_cases e : W = []
        · exact e
        · obtain ⟨x, hx, hp⟩ := ready_ex hr hks h1 e
          have : x ∈ R := (hRm x).mpr ⟨hx, fun y hy => hp y (mem_parents.mp hy)⟩
          rw [hR0] at this
          cases this
      rw [decide_eq_true hR0]
      obtain ⟨m, rfl⟩ : ∃ m, n = m + 1 := ⟨n - 1, by omega⟩
      refine ⟨T1, _, _, _, _, (bnd_ok (show levC _ = .ok false _ from rfl)).trans rfl, hT1, fun x hx => (hk x).mpr (.inl ((h1 x hx).resolve_right fun z => by rw [hW0] at z; cases z))⟩
    · rw [decide_eq_false hR0]
      obtain ⟨a, R', hRc⟩ := List.exists_cons_of_ne_nil hR0
      have ha : a ∈ R := by rw [hRc]; exact List.mem_cons_self
      refine lev_loop hr hks hok hL hK n T1 _ _ _ hT1 (fun x hx => ?_) (fun x hx => ?_) (h3.filter _) ?_
      · by_cases e : x ∈ ks T1
        · exact .inl e
        · refine .inr (List.mem_filter.mpr ⟨(h1 x hx).resolve_left fun z => e ((hk x).mpr (.inl z)), decide_eq_true e⟩)
      · obtain ⟨q1, q2⟩ := List.mem_filter.mp hx
        exact ⟨(h2 x q1).1, of_decide_eq_true q2⟩
      · have := filter_lt (p := fun x => decide (x ∉ ks T1)) ((hRm a).mp ha).1 (decide_eq_false fun z => z ((hk a).mpr (.inr ha)))
        omega
theorem ev_levels (hr : Rk L r) (hks : ∀ x ∈ ks L, x ∈ K) (hok : okS K) (hL : L.length < 64) (hK : K.length ≤ 28) (hn : K.Nodup) (hknown : m_known_in [dL L] = .ok (sL K) []) : ∃ T, m_levels_in [dL L] = .ok (dI T) [] ∧ Lv L K T ∧ ∀ x ∈ K, x ∈ ks T := by
  obtain ⟨T, W, s4, s5, s6, h1, h2, h3⟩ := lev_loop hr hks hok hL (by omega) 30 [] K .un .un (lv_nil L K) (fun x hx => .inr hx) (fun x hx => ⟨hx, fun z => (by cases z)⟩) hn (by omega)
  refine ⟨T, ?_, h2, h3⟩
  refine run_rt (e := [.fz (dL L), .fz (dI T), .fz (sL W), .fz (.bl false), s4, s5, s6]) ?_ rfl
  unfold b_levels_in
  refine (seq_nx (e1 := [.fz (dL L), .ow (dI []), .fz (sL K), .fz (.bl true), .un, .un, .un]) ?_).trans ((seq_nx h1).trans rfl)
  have hc : callE [false] (arV (VL.nm 0) (ret [])) m_known_in [.fz (dL L), .un, .un, .un, .un, .un, .un] = .ok (sL K) [.fz (dL L), .un, .un, .un, .un, .un, .un] := call1 (d := dL L) rfl hknown
  refine (bnd_ok (show tmO _ (tmF _ (tmF _ (ret []))) _ = .ok [.ow (.dk []), .fz (sL K), .fz (.bl true)] _ from (bnd_ok rfl).trans (bnd_ok ((bnd_ok hc).trans rfl)))).trans ?_
  rfl
end
end VL
namespace VL
open PySem PySem.Spec PyProof.Rows L2
variable [Tb]
/-! ### the sorts by data -/
theorem data_pair {β : Type} (k : β → PyData) (l : List β) : (l.mergeSort (PySem.W.dataLe false k)).Pairwise fun a b => PySem.W.dataLe false k a b = true :=
  PySem.W.sort_pairwise (PySem.W.sortLe_total _ false _) l
theorem byKey_perm (l : Ls) : (byKey l).Perm l := List.mergeSort_perm _ _
theorem bySnd_perm (l : Ls) : (bySnd l).Perm l := List.mergeSort_perm _ _
theorem byKey_sorted (l : Ls) : (byKey l).Pairwise fun p q => leS p.1 q.1 := (data_pair encP l).imp fun {p q} h => by
  have h : (!PySem.W.dataLt (encP q) (encP p)) = true := h
  rw [Bool.not_eq_true'] at h
  unfold encP at h
  rw [PySem.W.dataLt_pair (by simp [PySem.W.alike]) (by simp [PySem.W.alike])] at h
  split at h
  · rename_i e
    have e : q.1 = p.1 := by simpa [PyData.eqv] using e
    rw [e]
    exact leS_refl _
  · rw [PySem.W.dataLt_str] at h
    exact (leS_iff _ _).mpr (of_decide_eq_false h)
theorem bySnd_sorted (l : Ls) : (bySnd l).Pairwise fun p q => p.2 ≤ q.2 := (data_pair keyT l).imp fun {p q} h => by
  have h : (!PySem.W.dataLt (keyT q) (keyT p)) = true := h
  rw [Bool.not_eq_true'] at h
  unfold keyT at h
  rw [PySem.W.dataLt_pair (by simp [PySem.W.alike]) (by simp [PySem.W.alike])] at h
  split at h
  · rename_i e
    have e : q.2 = p.2 := by simpa [PyData.eqv] using e
    omega
  · rw [PySem.W.dataLt_int] at h
    have := of_decide_eq_false h
    omega
end VL
namespace VL
open PySem PySem.Spec PyProof.Rows L2
variable [Tb]
section
variable {L : LL} {r : Str → Nat} {K : List Str} {T : Ls}
theorem ev_ring (hks : ∀ x ∈ ks L, x ∈ K) (hL : L.length < 64) (hT : m_levels_in [dL L] = .ok (dI T) []) (hall : ∀ x ∈ K, x ∈ ks T) : m_ring_in [dL L] = .ok .non [] := by
  have h2 : (sortS (ks L)).length = L.length := by rw [(sortS_perm _).length_eq]; exact List.length_map _
  have h1 : lcM (iterM (callM (opsM (nmB 0) (ret [])) sortedD)) (stM 4) (bnd (op2 (nmB 4) (nmB 1) ninD) asB) (VL.nm 4) [4] [.fz (dL L), .fz (dI T), .un, .un, .un] = .ok (.lst []) [.fz (dL L), .fz (dI T), .un, .un, .un] := by
    have := lcM_map (e := [.fz (dL L), .fz (dI T), .un, .un, .un]) (e1 := [.fz (dL L), .fz (dI T), .un, .un, .un]) (i := 4) D.str (fi := iterM (callM (opsM (nmB 0) (ret [])) sortedD)) (ft := bnd (op2 (nmB 4) (nmB 1) ninD) asB) (fe := VL.nm 4) (fun x => decide (x ∉ ks T)) D.str (sortS (ks L))
      (iter_sL ((callB1s (x := dL L) rfl rfl).trans (sorted_dk dI hL))) (by rw [h2]; show _ ≤ 16777216; omega) fun x hx => ⟨asB_ok ((op2_ss (x := .str x) (y := dI T) rfl rfl rfl rfl).trans (nin_dk D.int T x)), fun _ => rfl⟩
    have e : (sortS (ks L)).filter (fun x => decide (x ∉ ks T)) = [] := List.filter_eq_nil_iff.mpr fun x hx => by
      have := hall x (hks x (mem_sortS.mp hx))
      simpa using this
    rw [e] at this
    exact this
  refine run_rt (e := [.fz (dL L), .fz (dI T), .fz (.lst []), .un, .un]) ?_ rfl
  unfold b_ring_in
  refine (seq_nx (e1 := [.fz (dL L), .fz (dI T), .un, .un, .un]) (set_ok (call1 (d := dL L) rfl hT))).trans ?_
  refine (seq_nx (e1 := [.fz (dL L), .fz (dI T), .fz (.lst []), .un, .un]) (set_ok h1)).trans ?_
  refine seq_rt ((if_t (asB_ok (b := true) ((op2_sv (x := .lst []) (y := .lst []) rfl rfl rfl).trans ?_))).trans rfl)
  show lift ((eqO (.lst []) (.lst [])).map D.bl) _ = _
  rw [show eqO (.lst []) (.lst []) = some true from (eq_nil (xs := []) fun _ h => (by cases h))]
  rfl
theorem ev_no_ring (h : m_ring_in [dL L] = .ok .non []) : m_require_no_ring [dL L] = .ok .non [] := by
  refine run_nx (e := [.fz (dL L)]) ?_ rfl
  unfold b_require_no_ring
  exact if_f (asB_ok (b := false) ((op2_vv (x := .non) (y := .non) (val_ok (call1 (d := dL L) rfl h)) rfl).trans rfl))
/-- the order that by_levels tells -/
def ordT (T : Ls) : List Str := (bySnd T).map (·.1)
theorem ev_by_levels (hT : m_levels_in [dL L] = .ok (dI T) []) (hn : (ks T).Nodup) (hl : T.length ≤ line) : m_by_levels [dL L] = .ok (sL (ordT T)) [] := by
  refine run_rt (e := [.fz (dL L), .fz (dI T)]) ?_ rfl
  unfold b_by_levels
  refine (seq_nx (e1 := [.fz (dL L), .fz (dI T)]) (set_ok (call1 (d := dL L) rfl hT))).trans (ret_ok ?_)
  refine (bnd_ok (show getS 1 [.fz (dL L), .fz (dI T)] = .ok (dI T) [.fz (dL L), .fz (dI T)] from rfl)).trans ?_
  show lift ((toSI (dk D.int T)).bind fun ps => if ps.length ≤ line ∧ (ps.map (·.1)).Nodup then some (D.lst ((bySnd ps).map fun p => .str p.1)) else none) _ = _
  rw [toSI_dk]
  refine lift_ok ?_
  show (if T.length ≤ line ∧ (T.map (·.1)).Nodup then some (D.lst ((bySnd T).map fun p => .str p.1)) else none) = _
  rw [if_pos ⟨hl, hn⟩]
  unfold ordT sL
  rw [List.map_map]
  rfl
theorem ordT_perm : (ordT T).Perm (ks T) := (bySnd_perm T).map _
theorem ordT_nd (hn : (ks T).Nodup) : (ordT T).Nodup := ordT_perm.nodup_iff.mpr hn
theorem ordT_sorted (hn : (ks T).Nodup) : (ordT T).Pairwise fun x y => val T x ≤ val T y := by
  unfold ordT
  rw [List.pairwise_map]
  refine List.Pairwise.imp_of_mem (fun {p q} hp hq h => ?_) (bySnd_sorted T)
  rw [val_of hn ((bySnd_perm T).mem_iff.mp hp), val_of hn ((bySnd_perm T).mem_iff.mp hq)]
  exact h
theorem ordT_topo (h : Lv L K T) (hall : ∀ x ∈ K, x ∈ ks T) (hc : Cl L K) : Topo L [] (ordT T) :=
  topo_of (lv_rise h hall hc) (fun _ h => (by cases h)) (ordT_sorted h.nd) (fun _ _ z => (by cases z)) (ordT_nd h.nd)
end
/-! ### dict comprehensions over texts -/
theorem dc_map {α : Type} (f : α → D) {ft : M Bool} {fk fv : M D} {i : Nat} (p : Str → Bool) (v : Str → α) : ∀ (xs : List Str) (acc : List (Str × α)) (e : En), xs.Nodup → (∀ x ∈ xs, x ∉ ks acc) → acc.length + xs.length < line →
    (∀ a ∈ xs, ft ((e.set i .un).set i (.fz (.str a))) = .ok (p a) ((e.set i .un).set i (.fz (.str a))) ∧ (p a = true → fk ((e.set i .un).set i (.fz (.str a))) = .ok (.str a) ((e.set i .un).set i (.fz (.str a))) ∧ fv ((e.set i .un).set i (.fz (.str a))) = .ok (f (v a)) ((e.set i .un).set i (.fz (.str a))))) →
    dcL (stM i) ft fk fv [i] (xs.map .str) (dk f acc) e = .ok (dk f (acc ++ (xs.filter p).map fun a => (a, v a))) (e.set i .un)
  | [], acc, e, _, _, _, _ => by
    show R.ok (dk f acc) _ = R.ok (dk f (acc ++ [])) _
    rw [List.append_nil]
    rfl
  | a :: xs, acc, e, hn, hf, hl, h => by
    obtain ⟨h1, h2⟩ := h a List.mem_cons_self
    obtain ⟨n1, n2⟩ := List.nodup_cons.mp hn
    rw [List.length_cons] at hl
    have h' : ∀ b ∈ xs, _ := fun b hb => h b (List.mem_cons_of_mem _ hb)
    show bnd (noX ft) _ ((e.set i .un).set i (.fz (.str a))) = _
    refine (bnd_ok (a := p a) (e1 := (e.set i .un).set i (.fz (.str a))) (by unfold noX; rw [h1])).trans ?_
    cases hp : p a with
    | false =>
      rw [List.filter_cons_of_neg (by rw [hp]; simp)]
      have ih := dc_map f (i := i) (ft := ft) (fk := fk) (fv := fv) p v xs acc ((e.set i .un).set i (.fz (.str a))) n2 (fun x hx => hf x (List.mem_cons_of_mem _ hx)) (by omega) fun b hb => by
        rw [set_un]
        exact h' b hb
      rw [set_un] at ih
      exact ih
    | true =>
      obtain ⟨k1, k2⟩ := h2 hp
      have ha := hf a List.mem_cons_self
      rw [List.filter_cons_of_pos hp]
      show bnd (noX fk) _ _ = _
      refine (bnd_ok (a := .str a) (e1 := (e.set i .un).set i (.fz (.str a))) (by unfold noX; rw [k1])).trans ?_
      refine (bnd_ok (a := f (v a)) (e1 := (e.set i .un).set i (.fz (.str a))) (by unfold noX; rw [k2])).trans ?_
      refine (bnd_ok (a := (Sum.inr a : Key)) (e1 := (e.set i .un).set i (.fz (.str a))) rfl).trans ((chk_ok (decide_eq_true (by rw [dk_len]; omega))).trans ?_)
      rw [putD_dk, put_new ha]
      have ih := dc_map f (i := i) (ft := ft) (fk := fk) (fv := fv) p v xs (acc ++ [(a, v a)]) ((e.set i .un).set i (.fz (.str a))) n2 (fun x hx z => ?_) (by rw [List.length_append]; show acc.length + 1 + _ < _; omega) fun b hb => by
        rw [set_un]
        exact h' b hb
      · rw [set_un] at ih
        rw [ih, List.map_cons, List.append_assoc]
        rfl
      · have z : x ∈ ks acc ++ [a] := by rw [← ks_put_new (v := v a) ha, put_new ha]; exact z
        rcases List.mem_append.mp z with z | z
        · exact hf x (List.mem_cons_of_mem _ hx) z
        · rw [List.mem_singleton.mp z] at hx
          exact n1 hx
end VL
namespace VL
open PySem PySem.Spec PyProof.Rows L2
variable [Tb]
theorem mem_kn {L : LL} {z : Str} : z ∈ kn L ↔ z ∈ ks L ∨ ∃ p ∈ L, z ∈ ks p.2 := by
  unfold kn
  rw [mem_sortS, dedup_mem]
  unfold allN
  rw [List.mem_append, List.mem_flatten]
  refine or_congr Iff.rfl ⟨fun ⟨l, h1, h2⟩ => ?_, fun ⟨p, h1, h2⟩ => ?_⟩
  · obtain ⟨l1, h3, rfl⟩ := List.mem_map.mp h1
    obtain ⟨p, h4, rfl⟩ := List.mem_map.mp h3
    exact ⟨p, h4, h2⟩
  · exact ⟨ks p.2, List.mem_map.mpr ⟨p.2, List.mem_map.mpr ⟨p, h1, rfl⟩, rfl⟩, h2⟩
theorem kn_nd (L : LL) : (kn L).Nodup := (sortS_perm _).nodup_iff.mpr (dedup_nd _)
/-- what is asked of lists that one may hand to the program -/
structure Fit (nm : List Str) (r : Str → Nat) (L : LL) : Prop extends Good nm r L where
  cnt : ∀ p ∈ L, ∀ q ∈ p.2, q.2 ≤ 1000000
  lo : 1 ≤ L.length
  hi : L.length ≤ 40
  lh : ∀ p ∈ L, p.2.length ≤ 50
  all : (allN L).length < 64
  kh : (VL.kn L).length ≤ 28
section
variable {nm : List Str} {r : Str → Nat} {L : LL}
theorem kn_sub (g : Good nm r L) : ∀ x ∈ kn L, x ∈ nm := fun x hx => by
  rcases mem_kn.mp hx with h | ⟨p, hp, h⟩
  · exact g.kn x h
  · obtain ⟨q, hq, rfl⟩ := List.mem_map.mp h
    exact (g.li p.1 p.2 (lkp_of g.nd hp) q hq).1
theorem kn_cl (L : LL) : Cl L (kn L) := fun x ls e p hp => mem_kn.mpr (.inr ⟨(x, ls), lkp_mem e, ks_mem hp⟩)
end
end VL
namespace VL
open PySem PySem.Spec PyProof.Rows L2
variable [Tb]
/-! ### the law's own list of names -/
section
variable {nm : List Str} {r : Str → Nat} {L : LL}
theorem iter_keys {α : Type} {f : α → D} {l : List (Str × α)} {m : M D} {e e1 : En} (h : m e = .ok (.dk (dk f l)) e1) : iterM m e = .ok (l.map fun p => D.str p.1) e1 := by
  refine (iter_dk h).trans ?_
  rw [List.map_map]
  rfl
theorem ev_ls_known (g : Good nm r L) (hok : okS nm) (hk : (kn L).length < 64) : ∃ K2, m__law_ls_known [dL L] = .ok (sL K2) [] ∧ K2.Nodup ∧ ∀ z, z ∈ K2 ↔ z ∈ kn L := by
  have hlist : setM 1 (callM (opsM (nmB 0) (ret [])) listD) [.fz (dL L), .un, .un, .un] = .ok .nx [.fz (dL L), .fz (sL (ks L)), .un, .un] := by
    refine (set_ok (d := sL (ks L)) (e1 := [.fz (dL L), .un, .un, .un]) ((callB1s (x := dL L) rfl rfl).trans ?_)).trans rfl
    show ret (D.lst ((dk dI L).map fun p => keyV p.1)) _ = _
    rw [dk_keys]
    rfl
  obtain ⟨e', h1, F, s2, rfl, f1, f2⟩ := forM_inv (e := [.fz (dL L), .fz (sL (ks L)), .un, .un]) (e1 := [.fz (dL L), .fz (sL (ks L)), .un, .un]) (fi := iterM (VL.nm 0)) (sm := stM 2)
    (gb := setM 1 (op2 (nmB 1) (bnd (lcM (iterM (op2 (nmB 0) (nmB 2) ixD)) (stM 3) (bnd (op2 (nmB 3) (nmB 1) ninD) asB) (VL.nm 3) [3]) fun d => ret (Op.val d)) addD)) (fun p : Str × Ls => D.str p.1) L
    (fun pre e => ∃ F s2, e = [.fz (dL L), .fz (sL F), s2, .un] ∧ F.Nodup ∧ ∀ z, z ∈ F ↔ z ∈ ks L ∨ ∃ p ∈ pre, z ∈ ks p.2)
    (iter_keys (f := dI) (l := L) rfl) ⟨ks L, .un, rfl, g.nd, fun z => by simp⟩
    (fun pre p post e hx ⟨F, t2, he, f1, f2⟩ => by
      subst he
      have hp : p ∈ L := by rw [hx]; exact List.mem_append_right _ List.mem_cons_self
      have hv : lkp L p.1 = some p.2 := lkp_of g.nd hp
      have hFk : ∀ z ∈ F, z ∈ kn L := fun z hz => by
        rcases (f2 z).mp hz with h | ⟨q, hq, h⟩
        · exact mem_kn.mpr (.inl h)
        · exact mem_kn.mpr (.inr ⟨q, by rw [hx]; exact List.mem_append_left _ hq, h⟩)
      have hpk : ∀ z ∈ ks p.2, z ∈ kn L := fun z hz => mem_kn.mpr (.inr ⟨p, hp, hz⟩)
      have okF : okS F := fun z hz => hok z (kn_sub g z (hFk z hz))
      have hl1 := nd_len f1 hFk
      have hl2 := nd_len (g.ln p.1 p.2 hv) hpk
      have hlc := lcM_map (e := [.fz (dL L), .fz (sL F), .fz (.str p.1), .un]) (e1 := [.fz (dL L), .fz (sL F), .fz (.str p.1), .un]) (i := 3) D.str (fi := iterM (op2 (nmB 0) (nmB 2) ixD)) (ft := bnd (op2 (nmB 3) (nmB 1) ninD) asB) (fe := VL.nm 3) (fun z => !decide (z ∈ F)) D.str (ks p.2)
        (iter_dk (f := D.int) (l := p.2) ((op2_ss (fa := nmB 0) (fb := nmB 2) (x := dL L) (y := .str p.1) (i := 0) (j := 2) rfl rfl rfl rfl).trans (ix_dk hv))) (by show _ ≤ 16777216; omega)
        fun z hz => ⟨asB_ok ((op2_ss (fa := nmB 3) (fb := nmB 1) (x := .str z) (y := sL F) (i := 3) (j := 1) rfl rfl rfl rfl).trans (nin_sL okF (hok z (kn_sub g z (hpk z hz))))), fun _ => rfl⟩
      have hfl := List.length_filter_le (fun z => !decide (z ∈ F)) (ks p.2)
      have hadd : op2 (nmB 1) (bnd (lcM (iterM (op2 (nmB 0) (nmB 2) ixD)) (stM 3) (bnd (op2 (nmB 3) (nmB 1) ninD) asB) (VL.nm 3) [3]) fun d => ret (Op.val d)) addD [.fz (dL L), .fz (sL F), .fz (.str p.1), .un] = .ok (sL (F ++ (ks p.2).filter fun z => !decide (z ∈ F))) [.fz (dL L), .fz (sL F), .fz (.str p.1), .un] := by
        refine (op2_sv (fa := nmB 1) (fb := bnd (lcM (iterM (op2 (nmB 0) (nmB 2) ixD)) (stM 3) (bnd (op2 (nmB 3) (nmB 1) ninD) asB) (VL.nm 3) [3]) fun d => ret (Op.val d)) (x := sL F) (i := 1) rfl (val_ok hlc) rfl).trans ?_
        refine (chk_ok (decide_eq_true ?_)).trans ?_
        · rw [List.length_map, List.length_map]; show _ ≤ 16777216; omega
        · rw [← List.map_append]; rfl
      refine ⟨_, _, rfl, set_ok hadd, _, _, rfl, ?_, fun z => ?_⟩
      · refine List.nodup_append.mpr ⟨f1, (g.ln p.1 p.2 hv).filter _, fun a ha b hb e => ?_⟩
        have := (List.mem_filter.mp hb).2
        rw [Bool.not_eq_true', decide_eq_false_iff_not] at this
        exact this (by rw [← e]; exact ha)
      · rw [List.mem_append, f2, List.mem_filter, Bool.not_eq_true', decide_eq_false_iff_not]
        constructor
        · rintro ((h | ⟨q, hq, h⟩) | ⟨h, _⟩)
          · exact .inl h
          · exact .inr ⟨q, List.mem_append_left _ hq, h⟩
          · exact .inr ⟨p, List.mem_append_right _ List.mem_cons_self, h⟩
        · rintro (h | ⟨q, hq, h⟩)
          · exact .inl (.inl h)
          · rcases List.mem_append.mp hq with hq | hq
            · exact .inl (.inr ⟨q, hq, h⟩)
            · rw [List.mem_singleton.mp hq] at h
              by_cases hz : z ∈ F
              · exact .inl ((f2 z).mp hz)
              · exact .inr ⟨h, hz⟩)
  have hmem : ∀ z, z ∈ F ↔ z ∈ kn L := fun z => (f2 z).trans mem_kn.symm
  have hFl := nd_len f1 fun z hz => (hmem z).mp hz
  refine ⟨sortS F, ?_, (sortS_perm _).nodup_iff.mpr f1, fun z => mem_sortS.trans (hmem z)⟩
  refine run_rt (e := [.fz (dL L), .fz (sL F), s2, .un]) ?_ rfl
  unfold b__law_ls_known
  refine (seq_nx hlist).trans ((seq_nx h1).trans (ret_ok ?_))
  refine (callB1s (x := sL F) rfl rfl).trans ?_
  show lift ((toS (F.map .str)).bind fun xs => if xs.length < 64 then some (D.lst ((sortS xs).map .str)) else none) _ = _
  rw [toS_str]
  refine lift_ok ?_
  show (if F.length < 64 then _ else _) = _
  rw [if_pos (by omega)]
end
end VL
namespace VL
open PySem PySem.Spec PyProof.Rows L2
variable [Tb]
theorem mergeD_dk {α : Type} (f : α → D) : ∀ (l acc : List (Str × α)), (ks (acc ++ l)).Nodup → mergeD (dk f acc) (dk f l) = dk f (acc ++ l)
  | [], acc, _ => by rw [List.append_nil]; rfl
  | p :: l, acc, h => by
    have hp : p.1 ∉ ks acc := fun z => by
      have h : (ks acc ++ (p.1 :: ks l)).Nodup := by
        have e : ks (acc ++ p :: l) = ks acc ++ (p.1 :: ks l) := List.map_append
        rw [← e]; exact h
      exact (List.nodup_append.mp h).2.2 _ z _ List.mem_cons_self rfl
    show mergeD (putD (dk f acc) (Sum.inr p.1) (f p.2)) (dk f l) = _
    rw [putD_dk, put_new hp]
    have := mergeD_dk f l (acc ++ [(p.1, p.2)]) (by rw [List.append_assoc]; exact h)
    rw [this, List.append_assoc]
    rfl
theorem pairsD_dk {α : Type} (f : α → D) : ∀ l : List (Str × α), pairsD ((dk f l).map fun p => D.tup [keyV p.1, p.2]) = some (dk f l)
  | [] => rfl
  | p :: l => by
    show (match pairD (.tup [.str p.1, f p.2]), pairsD ((dk f l).map fun p => D.tup [keyV p.1, p.2]) with | some p, some q => some (p :: q) | _, _ => none) = _
    rw [pairsD_dk f l]
    rfl
end VL
namespace VL
open PySem PySem.Spec PyProof.Rows L2
variable [Tb]
/-! ### _law_ls_levels -/
def over (L : LL) (x : Str) : List Str := (ks L).filter fun y => match lkp L y with
  | some ls => decide (x ∈ ks ls)
  | none => false
theorem mem_over {L : LL} {x y : Str} : y ∈ over L x ↔ Par L y x := by
  unfold over
  rw [List.mem_filter]
  constructor
  · rintro ⟨_, h⟩
    cases e : lkp L y with
    | none => rw [e] at h; cases h
    | some ls => rw [e] at h; exact ⟨ls, rfl.trans e, of_decide_eq_true h⟩
  · rintro ⟨ls, e, h⟩
    refine ⟨mem_ks_of_lkp e, ?_⟩
    rw [e]
    exact decide_eq_true h
/-- found, as far as it goes -/
structure Lw (L : LL) (K : List Str) (T : Ls) : Prop where
  nd : (ks T).Nodup
  sub : ∀ x ∈ ks T, x ∈ K
  ex : ∀ x ∈ ks T, (∀ y ∈ over L x, y ∈ ks T) ∧ val T x = ((over L x).map fun y => val T y + 1).foldl max 0
theorem Lw.zero {L : LL} {K : List Str} {T : Ls} (h : Lw L K T) : ∀ x ∈ ks T, over L x = [] → val T x = 0 := fun x hx ho => by
  have := (h.ex x hx).2
  rw [ho] at this
  exact this
theorem Lw.lv {L : LL} {K : List Str} {T : Ls} (h : Lw L K T) : Lv L K T := ⟨h.nd, h.sub, fun x hx y hp => by
  have hy := mem_over.mpr hp
  obtain ⟨h1, h2⟩ := h.ex x hx
  refine ⟨h1 y hy, ?_⟩
  rw [h2]
  exact (foldl_max_spec ((over L x).map fun y => val T y + 1) 0).2 _ (List.mem_cons_of_mem _ (List.mem_map_of_mem (f := fun y => val T y + 1) hy))⟩
section
variable {nm : List Str} {r : Str → Nat} {L : LL} {K : List Str}
def lwB : M Fl := seqM (setM 5 (lcM (iterM (VL.nm 0)) (stM 6) (bnd (op2 (nmB 4) (bnd (op2 (nmB 0) (nmB 6) ixD) fun d => ret (Op.val d)) inD) asB) (VL.nm 6) [6])) (ifS (bnd (op2 (bnd (lcM (iterM (VL.nm 5)) (stM 6) (bnd (op2 (nmB 6) (nmB 1) ninD) asB) (VL.nm 6) [6]) fun d => ret (Op.val d)) (bnd (lstM (ret [])) fun d => ret (Op.val d)) (cmpD .Eq)) asB) (subSet 1 (VL.nm 4) (callM (opsM (bnd (op2 (bnd (lstM (consM (ret (.int 0)) (ret []))) fun d => ret (Op.val d)) (bnd (lcM (iterM (VL.nm 5)) (stM 6) (ret true) (op2 (bnd (op2 (nmB 1) (nmB 6) ixD) fun d => ret (Op.val d)) (bnd (ret (.int 1)) fun d => ret (Op.val d)) addD) [6]) fun d => ret (Op.val d)) addD) fun d => ret (Op.val d)) (ret [])) maxD)) (ret .nx))
theorem ev_lwB (hok : okS K) (hks : ∀ x ∈ ks L, x ∈ K) (hL : L.length < 64) (hK : K.length < 64) {T : Ls} (hT : Lw L K T) {x : Str} (hx : x ∈ K) (d2 d3 : D) (s3 s5 : Sl) :
    ∃ T1 u5, lwB [.fz (dL L), .ow (dI T), .fz d2, s3, .fz (.str x), s5, .un] = .ok .nx [.fz (dL L), .ow (dI T1), .fz d2, s3, .fz (.str x), u5, .un] ∧ Lw L K T1 ∧ (∀ y ∈ ks T, y ∈ ks T1) ∧ ((∀ y ∈ over L x, y ∈ ks T) → x ∈ ks T1) := by
  have hol : (over L x).length ≤ line := by
    have h1 : (over L x).length ≤ (ks L).length := List.length_filter_le _ _
    have h2 : (ks L).length = L.length := List.length_map _
    show _ ≤ 16777216
    omega
  have hoK : ∀ y ∈ over L x, y ∈ K := fun y hy => hks y (List.mem_filter.mp hy).1
  have h1 : lcM (iterM (VL.nm 0)) (stM 6) (bnd (op2 (nmB 4) (bnd (op2 (nmB 0) (nmB 6) ixD) fun d => ret (Op.val d)) inD) asB) (VL.nm 6) [6] [.fz (dL L), .ow (dI T), .fz d2, s3, .fz (.str x), s5, .un] = .ok (sL (over L x)) [.fz (dL L), .ow (dI T), .fz d2, s3, .fz (.str x), s5, .un] :=
    lcM_map (e := [.fz (dL L), .ow (dI T), .fz d2, s3, .fz (.str x), s5, .un]) (e1 := [.fz (dL L), .ow (dI T), .fz d2, s3, .fz (.str x), s5, .un]) (i := 6) D.str (fi := iterM (VL.nm 0)) (ft := bnd (op2 (nmB 4) (bnd (op2 (nmB 0) (nmB 6) ixD) fun d => ret (Op.val d)) inD) asB) (fe := VL.nm 6)
      (fun y => match lkp L y with | some ls => decide (x ∈ ks ls) | none => false) D.str (ks L) (iter_dk (f := dI) (l := L) rfl) (by rw [show (ks L).length = L.length from List.length_map _]; show _ ≤ 16777216; omega)
      (fun y hy => by
        obtain ⟨ls, e⟩ := lkp_of_mem_ks hy
        refine ⟨asB_ok ((op2_sv (fa := nmB 4) (x := .str x) (y := dI ls) (i := 4) rfl (val_ok ((op2_ss (fa := nmB 0) (fb := nmB 6) (x := dL L) (y := .str y) (i := 0) (j := 6) rfl rfl rfl rfl).trans (ix_dk e))) rfl).trans ((in_dk D.int ls x).trans ?_)), fun _ => rfl⟩
        rw [e])
  generalize hO : over L x = O at *
  have h2 : lcM (iterM (VL.nm 5)) (stM 6) (bnd (op2 (nmB 6) (nmB 1) ninD) asB) (VL.nm 6) [6] [.fz (dL L), .ow (dI T), .fz d2, s3, .fz (.str x), .fz (sL O), .un] = .ok (sL (O.filter fun y => decide (y ∉ ks T))) [.fz (dL L), .ow (dI T), .fz d2, s3, .fz (.str x), .fz (sL O), .un] :=
    lcM_map (e := [.fz (dL L), .ow (dI T), .fz d2, s3, .fz (.str x), .fz (sL O), .un]) (e1 := [.fz (dL L), .ow (dI T), .fz d2, s3, .fz (.str x), .fz (sL O), .un]) (i := 6) D.str (fun y => decide (y ∉ ks T)) D.str O (iter_sL rfl) hol fun y _ => ⟨asB_ok ((op2_ss (fa := nmB 6) (fb := nmB 1) (x := .str y) (y := dI T) (i := 6) (j := 1) rfl rfl rfl rfl).trans (nin_dk D.int T y)), fun _ => rfl⟩
  have hokf : okS (O.filter fun y => decide (y ∉ ks T)) := okS_of hok fun y hy => hoK y (List.mem_filter.mp hy).1
  have h3 : bnd (op2 (bnd (lcM (iterM (VL.nm 5)) (stM 6) (bnd (op2 (nmB 6) (nmB 1) ninD) asB) (VL.nm 6) [6]) fun d => ret (Op.val d)) (bnd (lstM (ret [])) fun d => ret (Op.val d)) (cmpD .Eq)) asB [.fz (dL L), .ow (dI T), .fz d2, s3, .fz (.str x), .fz (sL O), .un] = .ok (decide ((O.filter fun y => decide (y ∉ ks T)) = [])) [.fz (dL L), .ow (dI T), .fz d2, s3, .fz (.str x), .fz (sL O), .un] := by
    refine asB_ok ((op2_vv (fa := bnd (lcM (iterM (VL.nm 5)) (stM 6) (bnd (op2 (nmB 6) (nmB 1) ninD) asB) (VL.nm 6) [6]) fun d => ret (Op.val d)) (fb := bnd (lstM (ret [])) fun d => ret (Op.val d)) (x := sL (O.filter fun y => decide (y ∉ ks T))) (y := .lst []) (val_ok h2) rfl).trans ?_)
    show lift ((eqO (sL (O.filter fun y => decide (y ∉ ks T))) (.lst [])).map D.bl) _ = _
    rw [eq_nil hokf]
    rfl
  by_cases hall : ∀ y ∈ O, y ∈ ks T
  · have hnil : (O.filter fun y => decide (y ∉ ks T)) = [] := List.filter_eq_nil_iff.mpr fun y hy => by simpa using hall y hy
    rw [decide_eq_true hnil] at h3
    have hlT : T.length < line := by
      have h1 := nd_len hT.nd hT.sub
      have h2 : (ks T).length = T.length := List.length_map _
      show _ < 16777216
      omega
    generalize hv : (O.map fun y => val T y + 1).foldl max 0 = v
    have h4 : lcM (iterM (VL.nm 5)) (stM 6) (ret true) (op2 (bnd (op2 (nmB 1) (nmB 6) ixD) fun d => ret (Op.val d)) (bnd (ret (.int 1)) fun d => ret (Op.val d)) addD) [6] [.fz (dL L), .ow (dI T), .fz d2, s3, .fz (.str x), .fz (sL O), .un] = .ok (.lst ((O.map fun y => val T y + 1).map D.int)) [.fz (dL L), .ow (dI T), .fz d2, s3, .fz (.str x), .fz (sL O), .un] := by
      have := lcM_map (e := [.fz (dL L), .ow (dI T), .fz d2, s3, .fz (.str x), .fz (sL O), .un]) (e1 := [.fz (dL L), .ow (dI T), .fz d2, s3, .fz (.str x), .fz (sL O), .un]) (i := 6) D.str (fi := iterM (VL.nm 5)) (ft := ret true) (fe := op2 (bnd (op2 (nmB 1) (nmB 6) ixD) fun d => ret (Op.val d)) (bnd (ret (.int 1)) fun d => ret (Op.val d)) addD) (fun _ => true) (fun y => .int (val T y + 1)) O (iter_sL rfl) hol fun y hy => ⟨rfl, fun _ =>
        (op2_vv (fa := bnd (op2 (nmB 1) (nmB 6) ixD) fun d => ret (Op.val d)) (fb := bnd (ret (.int 1)) fun d => ret (Op.val d)) (x := .int (val T y)) (y := .int 1) (val_ok ((op2_ss (fa := nmB 1) (fb := nmB 6) (x := dI T) (y := .str y) (i := 1) (j := 6) rfl rfl rfl rfl).trans (ix_dk (lkp_val (hall y hy))))) rfl).trans rfl⟩
      rw [filter_true] at this
      rw [this, List.map_map]
      rfl
    have h5 : callM (opsM (bnd (op2 (bnd (lstM (consM (ret (.int 0)) (ret []))) fun d => ret (Op.val d)) (bnd (lcM (iterM (VL.nm 5)) (stM 6) (ret true) (op2 (bnd (op2 (nmB 1) (nmB 6) ixD) fun d => ret (Op.val d)) (bnd (ret (.int 1)) fun d => ret (Op.val d)) addD) [6]) fun d => ret (Op.val d)) addD) fun d => ret (Op.val d)) (ret [])) maxD [.fz (dL L), .ow (dI T), .fz d2, s3, .fz (.str x), .fz (sL O), .un] = .ok (.int v) [.fz (dL L), .ow (dI T), .fz d2, s3, .fz (.str x), .fz (sL O), .un] := by
      have k1 : op2 (bnd (lstM (consM (ret (.int 0)) (ret []))) fun d => ret (Op.val d)) (bnd (lcM (iterM (VL.nm 5)) (stM 6) (ret true) (op2 (bnd (op2 (nmB 1) (nmB 6) ixD) fun d => ret (Op.val d)) (bnd (ret (.int 1)) fun d => ret (Op.val d)) addD) [6]) fun d => ret (Op.val d)) addD [.fz (dL L), .ow (dI T), .fz d2, s3, .fz (.str x), .fz (sL O), .un] = .ok (.lst ((0 :: O.map fun y => val T y + 1).map D.int)) [.fz (dL L), .ow (dI T), .fz d2, s3, .fz (.str x), .fz (sL O), .un] := by
        refine (op2_vv (fa := bnd (lstM (consM (ret (.int 0)) (ret []))) fun d => ret (Op.val d)) (fb := bnd (lcM (iterM (VL.nm 5)) (stM 6) (ret true) (op2 (bnd (op2 (nmB 1) (nmB 6) ixD) fun d => ret (Op.val d)) (bnd (ret (.int 1)) fun d => ret (Op.val d)) addD) [6]) fun d => ret (Op.val d)) (x := .lst [.int 0]) (y := .lst ((O.map fun y => val T y + 1).map D.int)) rfl (val_ok h4)).trans ?_
        refine (chk_ok (decide_eq_true ?_)).trans rfl
        have h2 := nd_len (xs := over L x) (ys := ks L)
        rw [List.length_map, List.length_map]
        have h3 : O.length ≤ (ks L).length := by rw [← hO]; exact List.length_filter_le _ _
        have h4 : (ks L).length = L.length := List.length_map _
        show 1 + O.length ≤ 16777216
        omega
      refine (callB1 (val_ok k1)).trans ?_
      show lift ((toI ((0 :: O.map fun y => val T y + 1).map D.int)).bind fun ns => (maxI ns).map D.int) _ = _
      rw [toI_int]
      refine lift_ok ?_
      show some (D.int ((O.map fun y => val T y + 1).foldl max 0)) = _
      rw [hv]
    have hs := sub_ok (e := [.fz (dL L), .ow (dI T), .fz d2, s3, .fz (.str x), .fz (sL O), .un]) (e1 := [.fz (dL L), .ow (dI T), .fz d2, s3, .fz (.str x), .fz (sL O), .un]) (e2 := [.fz (dL L), .ow (dI T), .fz d2, s3, .fz (.str x), .fz (sL O), .un]) (i := 1) (fk := VL.nm 4) (c := dI T) (kk := .str x) h5 rfl rfl rfl (setD_dk D.int T x v hlT)
    refine ⟨put T x v, .fz (sL O), (seq_nx (set_ok h1)).trans ((if_t h3).trans hs), ⟨ks_put_nd hT.nd, fun y hy => ?_, fun y hy => ?_⟩, fun y hy => mem_ks_put.mpr (.inl hy), fun _ => mem_ks_put.mpr (.inr rfl)⟩
    · rcases mem_ks_put.mp hy with h | rfl
      · exact hT.sub y h
      · exact hx
    · have hval : ∀ z ∈ ks T, val (put T x v) z = val T z := fun z hz => by
        rw [val_put]
        by_cases e : z = x
        · rw [if_pos e, e]
          rw [e] at hz
          have := (hT.ex x hz).2
          rw [hO, hv] at this
          exact this.symm
        · rw [if_neg e]
      have hmap : ∀ ps : List Str, (∀ z ∈ ps, z ∈ ks T) → (ps.map fun y => val (put T x v) y + 1) = ps.map fun y => val T y + 1 := fun ps h => List.map_congr_left fun z hz => by rw [hval z (h z hz)]
      by_cases hyT : y ∈ ks T
      · obtain ⟨k1, k2⟩ := hT.ex y hyT
        refine ⟨fun z hz => mem_ks_put.mpr (.inl (k1 z hz)), ?_⟩
        rw [hval y hyT, hmap _ k1]
        exact k2
      · have e : y = x := (mem_ks_put.mp hy).resolve_left hyT
        rw [e, hO]
        refine ⟨fun z hz => mem_ks_put.mpr (.inl (hall z hz)), ?_⟩
        rw [hmap _ hall, hv, val_put, if_pos rfl]
  · have hnil : ¬ (O.filter fun y => decide (y ∉ ks T)) = [] := fun z => hall fun y hy => by
      have := List.filter_eq_nil_iff.mp z y hy
      simpa using this
    rw [decide_eq_false hnil] at h3
    exact ⟨T, .fz (sL O), (seq_nx (set_ok h1)).trans ((if_f h3).trans rfl), hT, fun y hy => hy, fun z => absurd z hall⟩
end
end VL
namespace VL
open PySem PySem.Spec PyProof.Rows L2
variable [Tb]
section
variable {nm : List Str} {r : Str → Nat} {L : LL} {K : List Str}
/-- one pass over the names -/
theorem ev_lwP (hok : okS K) (hks : ∀ x ∈ ks L, x ∈ K) (hL : L.length < 64) (hK : K.length < 64) {T : Ls} (hT : Lw L K T) (s3 s4 s5 : Sl) :
    ∃ T1 u4 u5, forM (iterM (VL.nm 2)) (stM 4) lwB [.fz (dL L), .ow (dI T), .fz (sL K), s3, s4, s5, .un] = .ok .nx [.fz (dL L), .ow (dI T1), .fz (sL K), s3, u4, u5, .un] ∧ Lw L K T1 ∧ (∀ y ∈ ks T, y ∈ ks T1) ∧ ∀ x ∈ K, (∀ y ∈ over L x, y ∈ ks T) → x ∈ ks T1 := by
  obtain ⟨e', h1, T1, u4, u5, rfl, h2, h3, h4⟩ := forM_inv (e := [.fz (dL L), .ow (dI T), .fz (sL K), s3, s4, s5, .un]) (e1 := [.fz (dL L), .ow (dI T), .fz (sL K), s3, s4, s5, .un]) (fi := iterM (VL.nm 2)) (sm := stM 4) (gb := lwB) D.str K
    (fun pre e => ∃ T1 u4 u5, e = [.fz (dL L), .ow (dI T1), .fz (sL K), s3, u4, u5, .un] ∧ Lw L K T1 ∧ (∀ y ∈ ks T, y ∈ ks T1) ∧ ∀ x ∈ pre, (∀ y ∈ over L x, y ∈ ks T) → x ∈ ks T1)
    (iter_sL rfl) ⟨T, s4, s5, rfl, hT, fun _ h => h, fun _ h => (by cases h)⟩
    (fun pre a post e hx ⟨T1, t4, t5, he, q1, q2, q3⟩ => by
      subst he
      have ha : a ∈ K := by rw [hx]; exact List.mem_append_right _ List.mem_cons_self
      obtain ⟨T2, u5, k1, k2, k3, k4⟩ := ev_lwB hok hks hL hK q1 ha (sL K) (.str a) s3 t5
      refine ⟨_, _, rfl, k1, T2, _, u5, rfl, k2, fun y hy => k3 y (q2 y hy), fun x hxp ho => ?_⟩
      rcases List.mem_append.mp hxp with h | h
      · exact k3 x (q3 x h ho)
      · rw [List.mem_singleton.mp h] at ho ⊢
        exact k4 fun y hy => q2 y (ho y hy))
  exact ⟨T1, u4, u5, h1, h2, h3, h4⟩
/-- what is still missing -/
def miss (K : List Str) (T : Ls) : Nat := (K.filter fun x => decide (x ∉ ks T)).length
theorem miss_lt (hr : Rk L r) (hks : ∀ x ∈ ks L, x ∈ K) {T T1 : Ls} (h1 : ∀ y ∈ ks T, y ∈ ks T1) (h2 : ∀ x ∈ K, (∀ y ∈ over L x, y ∈ ks T) → x ∈ ks T1) : miss K T1 ≤ miss K T - 1 := by
  unfold miss
  by_cases hne : (K.filter fun x => decide (x ∉ ks T)) = []
  · rw [hne]
    have : (K.filter fun x => decide (x ∉ ks T1)) = [] := List.filter_eq_nil_iff.mpr fun x hx => by
      have := List.filter_eq_nil_iff.mp hne x hx
      have hxT : x ∈ ks T := by simpa using this
      simpa using h1 x hxT
    rw [this]
    exact Nat.zero_le _
  · obtain ⟨x, hx, hp⟩ := ready_ex (W := K.filter fun x => decide (x ∉ ks T)) hr hks (fun x hx => by
      by_cases e : x ∈ ks T
      · exact .inl e
      · exact .inr (List.mem_filter.mpr ⟨hx, decide_eq_true e⟩)) hne
    have hxK := (List.mem_filter.mp hx).1
    have hx1 := h2 x hxK fun y hy => hp y (mem_over.mp hy)
    have e : (K.filter fun x => decide (x ∉ ks T1)) = (K.filter fun x => decide (x ∉ ks T)).filter fun x => decide (x ∉ ks T1) := by
      rw [List.filter_filter]
      refine List.filter_congr fun y _ => ?_
      by_cases e : y ∈ ks T1
      · simp [e]
      · have : y ∉ ks T := fun z => e (h1 y z)
        simp [e, this]
    rw [e]
    have := filter_lt (p := fun x => decide (x ∉ ks T1)) hx (decide_eq_false fun z => z hx1)
    omega
theorem ev_ls_levels (hr : Rk L r) (hok : okS K) (hks : ∀ x ∈ ks L, x ∈ K) (hL : L.length < 64) (hK : K.length < 64) (hn : K.Nodup) (hkn : m__law_ls_known [dL L] = .ok (sL K) []) :
    ∃ T, m__law_ls_levels [dL L] = .ok (dI T) [] ∧ Lw L K T ∧ ∀ x ∈ K, x ∈ ks T := by
  have hlen : callM (opsM (nmB 2) (ret [])) lenD [.fz (dL L), .ow (dI []), .fz (sL K), .un, .un, .un, .un] = .ok (.int K.length) [.fz (dL L), .ow (dI []), .fz (sL K), .un, .un, .un, .un] := by
    refine (callB1s (x := sL K) rfl rfl).trans ?_
    show ret (D.int ((K.map D.str).length : Nat)) _ = _
    rw [List.length_map]
    rfl
  have hrng : walkM rng1D (callM (opsM (nmB 2) (ret [])) lenD) [.fz (dL L), .ow (dI []), .fz (sL K), .un, .un, .un, .un] = .ok ((List.range K.length).map fun i => D.int (0 + (i : Nat))) [.fz (dL L), .ow (dI []), .fz (sL K), .un, .un, .un, .un] := by
    refine (bnd_ok hlen).trans (lift_ok ?_)
    show (if small62 (K.length : Int) = true then some (rangeL 0 K.length) else none) = _
    have h62 : small62 (K.length : Int) = true := by
      unfold small62
      rw [decide_eq_true (by omega), decide_eq_true (by omega)]
      rfl
    rw [if_pos h62]
    unfold rangeL
    rw [Int.sub_zero, Int.toNat_natCast]
  obtain ⟨e', h1, T, s3, s4, s5, rfl, h2, h3⟩ := forM_inv (e := [.fz (dL L), .ow (dI []), .fz (sL K), .un, .un, .un, .un]) (fi := walkM rng1D (callM (opsM (nmB 2) (ret [])) lenD)) (sm := stM 3) (gb := forM (iterM (VL.nm 2)) (stM 4) lwB) (fun i : Nat => D.int (0 + (i : Nat))) (List.range K.length)
    (fun pre e => ∃ T s3 s4 s5, e = [.fz (dL L), .ow (dI T), .fz (sL K), s3, s4, s5, .un] ∧ Lw L K T ∧ (miss K T + pre.length ≤ K.length ∨ miss K T = 0))
    hrng ⟨[], .un, .un, .un, rfl, ⟨List.nodup_nil, fun _ h => (by cases h), fun _ h => (by cases h)⟩, .inl (List.length_filter_le _ _)⟩
    (fun pre a post e hx ⟨T, t3, t4, t5, he, q1, q2⟩ => by
      subst he
      obtain ⟨T1, u4, u5, k1, k2, k3, k4⟩ := ev_lwP hok hks hL hK q1 (.fz (.int (0 + (a : Nat)))) t4 t5
      have hm := miss_lt hr hks k3 k4
      refine ⟨_, _, rfl, k1, T1, _, u4, u5, rfl, k2, ?_⟩
      rw [List.length_append]
      show miss K T1 + (pre.length + 1) ≤ K.length ∨ _
      omega)
  have h3 : miss K T = 0 := by
    rw [List.length_range] at h3
    omega
  refine ⟨T, ?_, h2, fun x hx => ?_⟩
  · refine run_rt (e := [.fz (dL L), .fz (dI T), .fz (sL K), s3, s4, s5, .un]) ?_ rfl
    unfold b__law_ls_levels
    refine (seq_nx (e1 := [.fz (dL L), .ow (dI []), .fz (sL K), .un, .un, .un, .un]) ?_).trans ((seq_nx h1).trans rfl)
    have hc : callE [false] (arV (VL.nm 0) (ret [])) m__law_ls_known [.fz (dL L), .un, .un, .un, .un, .un, .un] = .ok (sL K) [.fz (dL L), .un, .un, .un, .un, .un, .un] := call1 (d := dL L) rfl hkn
    refine (bnd_ok (show tmO _ (tmF _ (ret [])) _ = .ok [.ow (.dk []), .fz (sL K)] _ from (bnd_ok rfl).trans (bnd_ok ((bnd_ok hc).trans rfl)))).trans ?_
    rfl
  · by_cases e : x ∈ ks T
    · exact e
    · have hm : x ∈ K.filter fun x => decide (x ∉ ks T) := List.mem_filter.mpr ⟨hx, decide_eq_true e⟩
      have := List.length_pos_of_mem hm
      unfold miss at h3
      omega
end
end VL
namespace VL
open PySem PySem.Spec PyProof.Rows L2
variable [Tb]
local macro_rules | `(tactic| walk_at "w") => `(tactic| first | with_reducible refine St'.h ?_ | with_reducible refine len_of (by with_unfolding_all rfl) ?_ | with_reducible refine ⟨(by with_unfolding_all exact Eq.refl _), ?_⟩ | with_reducible refine w_ixL (by with_unfolding_all rfl) ?_ | with_reducible refine w_mulI (by decide) ?_ | with_reducible refine w_divI (by decide) ?_ | with_reducible refine w_modI (by decide) ?_ | with_reducible refine w_powI (by decide) ?_)
local macro_rules | `(tactic| walk_at "ws") => `(tactic| repeat (walk_at "w"))
local macro_rules | `(tactic| walk_at "wt") => `(tactic| repeat (first | walk_at "w" | with_reducible refine w_ifT (by with_unfolding_all exact Eq.refl _) ?_ | with_reducible refine w_ifF (by with_unfolding_all exact Eq.refl _) ?_))
/-! ### dice -/
/-- dice behind at most n turns -/
def Dice (n : Nat) (d : D) : Prop := ∃ a b c : Int, d = .lst [.int a, .int b, .int c] ∧ 0 ≤ a ∧ a.natAbs.log2 ≤ 2000 ∧ b.natAbs.log2 ≤ 200 ∧ 0 ≤ c ∧ c.toNat ≤ n
theorem log2_mono {m n : Nat} (h : m ≤ n) : m.log2 ≤ n.log2 := by
  by_cases e : m = 0
  · subst e; exact Nat.zero_le _
  · exact (Nat.le_log2 (by omega)).mpr (Nat.le_trans (Nat.log2_self_le e) h)
theorem log2_mod {a : Int} {m : Int} (hm : 0 < m) {k : Nat} (hk : m.natAbs ≤ 2 ^ k) : (a % m).natAbs.log2 ≤ k := by
  refine log2_le ?_
  have h1 := Int.emod_nonneg a (show m ≠ 0 by omega)
  have h2 := Int.emod_lt_of_pos a hm
  omega
theorem set3_0 {x y z v : D} : ((setItemD (.lst [x, y, z]) (.int 0) v).map fun c' => (c', ())) = some (.lst [v, y, z], ()) := rfl
theorem set3_2 {x y z v : D} : ((setItemD (.lst [x, y, z]) (.int 2) v).map fun c' => (c', ())) = some (.lst [x, y, v], ()) := rfl
theorem ev_roll {n : Nat} {d : D} (h : Dice n d) (hn : n < 2 ^ 64) {t : Int} (ht : 0 < t) (ht2 : t.natAbs.log2 < 100) : FW (m__law_roll [d, .int t]) (fun r os => ∃ i d', r = .int i ∧ os = [d'] ∧ 0 ≤ i ∧ i < t ∧ Dice (n + 1) d') QX0 := by
  obtain ⟨a, b, c, rfl, h1, h2, h3, h4, h5⟩ := h
  refine fw_run ?_
  show W (b__law_roll [.ow (.lst [.int a, .int b, .int c]), .fz (.int t), .un, .un, .un]) _ _
  unfold b__law_roll
  walk_at "ws"
  refine w_ifM (fun ha => ?_) fun ha => ?_
  · walk_at "ws"
    refine w_modI ht ?_
    walk_at "ws"
    refine w_divI ⟨ht, by omega⟩ ?_
    walk_at "ws"
    refine w_modS inferInstance set3_0 inferInstance ?_
    walk_at "ws"
    refine ep_rt rfl ⟨_, _, rfl, rfl, Int.emod_nonneg _ (by omega), Int.emod_lt_of_pos _ ht, ?_⟩
    refine ⟨_, _, _, rfl, Int.ediv_nonneg h1 (by omega), ?_, h3, h4, by omega⟩
    have q := Int.ediv_le_self t h1
    have q2 := Int.ediv_nonneg h1 (show 0 ≤ t by omega)
    exact Nat.le_trans (log2_mono (by omega)) h2
  · walk_at "ws"
    refine w_modS inferInstance set3_2 inferInstance ?_
    walk_at "ws"
    have hc : (c + 1).natAbs.log2 ≤ 65 := log2_le (by omega)
    refine w_mulI (by have : (49979687 : Int).natAbs.log2 ≤ 30 := by decide
                      omega) ?_
    walk_at "ws"
    have ho : ((b + 49979687 * (c + 1)) % 2305843009213693951).natAbs.log2 ≤ 70 := log2_mod (by decide) (by decide)
    generalize (b + 49979687 * (c + 1)) % 2305843009213693951 = o at ho ⊢
    refine w_mulI (by omega) ?_
    walk_at "ws"
    refine w_mulI (by have : (131 : Int).natAbs.log2 ≤ 30 := by decide
                      omega) ?_
    walk_at "ws"
    have ho2 : ((o * o + 131 * (c + 1)) % 2305843009213693921).natAbs.log2 ≤ 70 := log2_mod (by decide) (by decide)
    generalize (o * o + 131 * (c + 1)) % 2305843009213693921 = o2 at ho2 ⊢
    refine w_mulI (by have : (32452843 : Int).natAbs.log2 ≤ 30 := by decide
                      omega) ?_
    walk_at "ws"
    refine w_modI ht ?_
    walk_at "ws"
    refine ep_rt rfl ⟨_, _, rfl, rfl, Int.emod_nonneg _ (by omega), Int.emod_lt_of_pos _ ht, ?_⟩
    exact ⟨_, _, _, rfl, h1, h2, h3, by omega, by omega⟩
theorem Dice.mono {n m : Nat} {d : D} (h : Dice n d) (l : n ≤ m) : Dice m d := by
  obtain ⟨a, b, c, h0, h1, h2, h3, h4, h5⟩ := h
  exact ⟨a, b, c, h0, h1, h2, h3, h4, by omega⟩
theorem log2_small {i : Int} (h0 : 0 ≤ i) (h : i ≤ 2 ^ 60) : i.natAbs.log2 < 100 := by
  have : i.natAbs.log2 ≤ 60 := log2_le (by omega)
  omega
theorem ev_pick {n : Nat} {d : D} (h : Dice n d) (hn : n < 2 ^ 64) {xs : List D} (h0 : 0 < xs.length) (hl : xs.length ≤ 2 ^ 60) : FW (m__law_pick [d, .lst xs]) (fun r os => ∃ d', r ∈ xs ∧ os = [d'] ∧ Dice (n + 1) d') QX0 := by
  refine fw_run ?_
  show W (b__law_pick [.ow d, .fz (.lst xs)]) _ _
  unfold b__law_pick
  walk_at "ws"
  refine w_do inferInstance (by decide) ((ev_roll h hn (t := (xs.length : Int)) (by omega) (log2_small (by omega) (by omega))).imp (fun r os z => ?_) fun _ _ z => z.elim)
  obtain ⟨i, d', rfl, rfl, h1, h2, h3⟩ := z
  refine ⟨_, inferInstance, ?_⟩
  walk_at "ws"
  have hi : i.toNat < xs.length := by omega
  have hx : L2.atI xs i = some xs[i.toNat] := by
    have := atI_nat (xs := xs) (j := i.toNat) (List.getElem?_eq_getElem hi)
    rw [show ((i.toNat : Nat) : Int) = i by omega] at this
    exact this
  refine w_ixL hx ?_
  walk_at "ws"
  exact ep_rt rfl ⟨d', List.getElem_mem hi, rfl, h3⟩
/-- a list of such items may be asked whether it is empty -/
def EmpOk (xs : List D) : Prop := ∀ ys : List D, (∀ y ∈ ys, y ∈ xs) → eqO (.lst ys) (.lst []) = some ys.isEmpty
theorem empS {xs : List Str} (h : okS xs) : EmpOk (xs.map .str) := fun ys hy => by
  have : ∃ zs : List Str, ys = zs.map .str ∧ ∀ z ∈ zs, z ∈ xs := by
    clear h
    induction ys with
    | nil => exact ⟨[], rfl, fun z h => (by cases h)⟩
    | cons y ys ih =>
      obtain ⟨zs, rfl, h2⟩ := ih fun z hz => hy z (List.mem_cons_of_mem _ hz)
      obtain ⟨z, h3, rfl⟩ := List.mem_map.mp (hy y List.mem_cons_self)
      exact ⟨z :: zs, rfl, fun q hq => by
        rcases List.mem_cons.mp hq with rfl | hq
        · exact h3
        · exact h2 q hq⟩
  obtain ⟨zs, rfl, h2⟩ := this
  rw [show D.lst (zs.map D.str) = sL zs from rfl, eq_nil fun x hx => h x (h2 x hx)]
  cases zs <;> rfl
theorem era_perm : ∀ {L : List D} {i : Nat} (h : i < L.length), L.Perm (L[i] :: L.eraseIdx i)
  | [], _, h => absurd h (Nat.not_lt_zero _)
  | x :: L, 0, _ => List.Perm.refl _
  | x :: L, i + 1, h => ((era_perm (L := L) (i := i) (Nat.lt_of_succ_lt_succ h)).cons x).trans (List.Perm.swap _ _ _)
theorem pop_ok {L : List D} {i : Int} (h1 : 0 ≤ i) (h2 : i < (L.length : Int)) : ∃ x, L[i.toNat]? = some x ∧ popD (.lst L) [.int i] = some (.lst (L.eraseIdx i.toNat), x) ∧ L.Perm (x :: L.eraseIdx i.toNat) := by
  have hi : i.toNat < L.length := by omega
  refine ⟨L[i.toNat], List.getElem?_eq_getElem hi, ?_, ?_⟩
  · show ((ixN L.length i).bind fun j => (L[j]?).map fun d => (D.lst (L.eraseIdx j), d)) = _
    have : ixN L.length i = some i.toNat := by
      unfold ixN
      rw [if_pos h1, if_pos h2]
    rw [this]
    show (L[i.toNat]?).map _ = _
    rw [List.getElem?_eq_getElem hi]
    rfl
  · exact era_perm hi
theorem ev_shuffled {n : Nat} {d : D} (h : Dice n d) {xs : List D} (hl : xs.length < 40) (hn : n + xs.length < 2 ^ 64) (hE : EmpOk xs) : FW (m__law_shuffled [d, .lst xs]) (fun r os => ∃ ys d', r = .lst ys ∧ ys.Perm xs ∧ os = [d'] ∧ Dice (n + xs.length) d') QX0 := by
  refine fw_run ?_
  show W (b__law_shuffled [.ow d, .fz (.lst xs), .un, .un]) _ _
  unfold b__law_shuffled
  walk_at "ws"
  refine w_while (fun k e => ∃ d' F L, e = [.ow d', .fz (.lst xs), .ow (.lst F), .ow (.lst L)] ∧ L.length = k ∧ (F ++ L).Perm xs ∧ Dice (n + F.length) d') (fun k e hI => ?_) xs.length 40 _ ⟨d, [], xs, rfl, rfl, List.Perm.refl _, h⟩ hl
  obtain ⟨d', F, L, rfl, hk, hp, hd⟩ := hI
  have hlen := hp.length_eq
  rw [List.length_append] at hlen
  walk_at "ws"
  refine w_ne (hE L fun y hy => hp.mem_iff.mp (List.mem_append_right _ hy)) ?_
  walk_at "ws"
  refine ⟨fun hb => ?_, fun hb => ?_⟩
  · have hL : L ≠ [] := fun z => by subst z; cases hb
    have hL0 : 0 < L.length := List.length_pos_iff.mpr hL
    refine ⟨k - 1, by omega, ?_⟩
    walk_at "ws"
    refine w_do inferInstance (by decide) ((ev_roll hd (by omega) (t := (L.length : Int)) (by omega) (log2_small (by omega) (by omega))).imp (fun r os z => ?_) fun _ _ z => z.elim)
    obtain ⟨i, d2, rfl, rfl, h1, h2, h3⟩ := z
    refine ⟨_, inferInstance, ?_⟩
    walk_at "ws"
    obtain ⟨x, q1, q2, q3⟩ := pop_ok h1 h2
    refine w_modS inferInstance q2 inferInstance ?_
    walk_at "ws"
    refine w_modS inferInstance (show appD (.lst F) [x] = some (.lst (F ++ [x]), .non) from if_pos (Nat.lt_of_le_of_lt (m := 100) (by omega) (by decide))) inferInstance ?_
    walk_at "ws"
    have q4 := q3.length_eq
    rw [List.length_cons] at q4
    refine ⟨_, _, _, rfl, by omega, ?_, by rw [List.length_append]; exact h3⟩
    rw [List.append_assoc]
    exact (q3.symm.append_left F).trans hp
  · have hL : L = [] := by
      cases L with
      | nil => rfl
      | cons _ _ => cases hb
    subst hL
    walk_at "ws"
    rw [List.append_nil] at hp
    exact ep_rt rfl ⟨_, _, rfl, hp, rfl, by rw [← hp.length_eq]; exact hd⟩
end VL
namespace VL
open PySem PySem.Spec PyProof.Rows L2
variable [Tb]
/-! ### targets -/
class Sm (s : D → En → Option En) (d : D) (e : En) (e' : outParam En) : Prop where
  h : s d e = some e'
class Sms (s : List D → En → Option En) (ds : List D) (e : En) (e' : outParam En) : Prop where
  h : s ds e = some e'
class Wi (e : En) (vs : List Nat) (e' : outParam En) : Prop where
  h : wipeE e vs = e'
section
variable {e e' e1 e2 : En} {i j n : Nat} {d : D} {ds : List D} {vs : List Nat} {s : D → En → Option En} {r : List D → En → Option En}
instance [h : Pu e i (.fz d) e'] : Sm (stM i) d e e' := ⟨by show some (e.set i (.fz d)) = _; rw [h.set]⟩
instance : Sms stNil [] e e := ⟨rfl⟩
instance [h1 : Sm s d e e1] [h2 : Sms r ds e1 e2] : Sms (stCons s r) (d :: ds) e e2 := ⟨by show (s d e).bind (r ds) = _; rw [h1.h]; exact h2.h⟩
instance {x y : D} [h : Sms r [x, y] e e'] : Sm (stTup 2 r) (.tup [x, y]) e e' := ⟨by show (if [x, y].length = 2 then r [x, y] e else none) = _; rw [if_pos (show [x, y].length = 2 from rfl)]; exact h.h⟩
instance {x y z : D} [h : Sms r [x, y, z] e e'] : Sm (stTup 3 r) (.tup [x, y, z]) e e' := ⟨by show (if [x, y, z].length = 3 then r [x, y, z] e else none) = _; rw [if_pos (show [x, y, z].length = 3 from rfl)]; exact h.h⟩
instance : Wi e [] e := ⟨rfl⟩
instance [h1 : Wi e vs e1] [h2 : Pu e1 i .un e2] : Wi e (i :: vs) e2 := ⟨by show (wipeE e vs).set i .un = _; rw [h1.h, h2.set]⟩
theorem sm_h [h : Sm s d e e'] : s d e = some e' := h.h
theorem sm_wi [h1 : Wi e vs e1] [h : Sm s d e1 e'] : s d (wipeE e vs) = some e' := by rw [h1.h]; exact h.h
theorem wi_h [h : Wi e vs e'] : wipeE e vs = e' := h.h
end
/-! ### comprehensions that leave the frame -/
section
variable {α γ : Type} {e e1 : En} {X : Xn → En → Prop}
theorem w_lcp {sm : D → En → Option En} {ft : M Bool} {fe : M D} {vs : List Nat} {eu : En} {P : List D → En → Prop} (hu : Wi e vs eu) (g : γ → D) (p : γ → Bool) (f : γ → D) (xs : List γ)
    (h : ∀ a ∈ xs, ∃ e0, sm (g a) eu = some e0 ∧ wipeE e0 vs = eu ∧ W (ft e0) (fun b e1 => b = p a ∧ wipeE e1 vs = eu ∧ (b = true → W (fe e1) (fun y e2 => y = f a ∧ wipeE e2 vs = eu) X0)) X0) (hq : P ((xs.filter p).map f) eu) : W (lcL sm ft fe vs (xs.map g) e) P X := by
  refine w_lcI g xs (fun pre ys e1 => ys = (pre.filter p).map f ∧ wipeE e1 vs = eu) ⟨rfl, hu.h⟩ (fun pre a post ys e1 hx hI => ?_) fun ys e1 hI => ?_
  · obtain ⟨rfl, he⟩ := hI
    have ha : a ∈ xs := by rw [hx]; exact List.mem_append_right _ List.mem_cons_self
    obtain ⟨e0, h0, h1, h2⟩ := h a ha
    refine ⟨e0, by rw [he]; exact h0, h2.imp fun b e2 z => ?_⟩
    obtain ⟨rfl, z2, z3⟩ := z
    refine ⟨fun hb => (z3 hb).imp fun y e3 q => ⟨?_, q.2⟩, fun hb => ⟨?_, z2⟩⟩
    · rw [q.1, List.filter_append, List.filter_cons_of_pos hb, List.map_append]; rfl
    · rw [List.filter_append, List.filter_cons_of_neg (by rw [hb]; simp), List.filter_nil, List.append_nil]
  · obtain ⟨rfl, he⟩ := hI
    rw [he]
    exact hq
theorem filter_tt {α : Type} (xs : List α) : xs.filter (fun _ => true) = xs := List.filter_eq_self.mpr fun _ _ => rfl
theorem w_lcm {sm : D → En → Option En} {fe : M D} {vs : List Nat} {eu : En} {P : List D → En → Prop} (hu : Wi e vs eu) (g : γ → D) (f : γ → D) (xs : List γ)
    (h : ∀ a ∈ xs, ∃ e0, sm (g a) eu = some e0 ∧ wipeE e0 vs = eu ∧ W (fe e0) (fun y e2 => y = f a ∧ wipeE e2 vs = eu) X0) (hq : P (xs.map f) eu) : W (lcL sm (ret true) fe vs (xs.map g) e) P X :=
  w_lcp hu g (fun _ => true) f xs (fun a ha => by
    obtain ⟨e0, h0, h1, h2⟩ := h a ha
    exact ⟨e0, h0, h1, rfl, h1, fun _ => h2⟩) (by rw [filter_tt]; exact hq)
end
/-! ### calls -/
section
variable {e e' : En} {X : Xn → En → Prop} {P : D → En → Prop} {ms : List Bool} {as : List Ar} {f : Fm} {os : List Nat} {ds os' : List D} {r : D}
theorem w_dok [hr : Rd' as e ms os ds] (hf : f ds = .ok r os') [hp : Pa e os os' e'] (p : P r e') (hn : os.Nodup := by decide) : W (doCall false ms f as e) P X := w_do hr hn (fw_ok hf ⟨e', hp, p⟩)
theorem w_dow [hr : Rd' as e ms os ds] {Q : D → List D → Prop} (hf : FW (f ds) Q QX0) (p : ∀ r os', Q r os' → ∃ e', Pa e os os' e' ∧ P r e') (hn : os.Nodup := by decide) : W (doCall false ms f as e) P X := w_do hr hn (hf.imp p fun _ _ z => z.elim)
end
/-! ### parts of lists -/
theorem cut_to {α : Type} (xs : List α) {k : Int} (h : 0 ≤ k) : cutL xs none (some k) = xs.take k.toNat := by
  have e : HT.sIx xs.length xs.length (some k) = min k.toNat xs.length := by
    show (if k < 0 then (k + (xs.length : Int)).toNat else min k.toNat xs.length) = _
    rw [if_neg (by omega)]
  show (xs.drop 0).take (HT.sIx xs.length xs.length (some k) - 0) = _
  rw [e, List.drop_zero, Nat.sub_zero]
  by_cases q : k.toNat ≤ xs.length
  · rw [Nat.min_eq_left q]
  · rw [Nat.min_eq_right (by omega), List.take_length, List.take_of_length_le (i := k.toNat) (by omega)]
theorem cut_neg {α : Type} (xs : List α) : cutL xs none (some (-1)) = xs.take (xs.length - 1) := by
  have e : HT.sIx xs.length xs.length (some (-1)) = xs.length - 1 := by
    show (if (-1 : Int) < 0 then ((-1) + (xs.length : Int)).toNat else min (-1 : Int).toNat xs.length) = _
    rw [if_pos (by omega)]
    omega
  show (xs.drop 0).take (HT.sIx xs.length xs.length (some (-1)) - 0) = _
  rw [e, List.drop_zero, Nat.sub_zero]
theorem cut_from {α : Type} (xs : List α) {k : Int} (h : 0 ≤ k) : cutL xs (some k) none = xs.drop k.toNat := by
  have e : HT.sIx xs.length 0 (some k) = min k.toNat xs.length := by
    show (if k < 0 then (k + (xs.length : Int)).toNat else min k.toNat xs.length) = _
    rw [if_neg (by omega)]
  show (xs.drop (HT.sIx xs.length 0 (some k))).take (xs.length - HT.sIx xs.length 0 (some k)) = _
  rw [e]
  by_cases q : k.toNat ≤ xs.length
  · rw [Nat.min_eq_left q, List.take_of_length_le (by rw [List.length_drop]; exact Nat.le_refl _)]
  · rw [Nat.min_eq_right (by omega), List.drop_of_length_le (by omega), List.drop_of_length_le (by omega), List.take_nil]
theorem index_sL {xs : List Str} {z : Str} (h : z ∈ xs) {e : En} {P : D → En → Prop} {X : Xn → En → Prop} (p : P (.int (xs.idxOf z : Nat)) e) : W (indexD (.lst (xs.map .str)) [.str z] e) P X := by
  unfold indexD
  dsimp only
  rw [toS_str]
  show W (lift (if z ∈ xs then some (D.int (xs.idxOf z : Nat)) else none) e) P X
  rw [if_pos h]
  exact p
theorem rng1_nat {n : Nat} (hn : n < 2 ^ 60) : rng1D (.int (n : Int)) = some ((List.range n).map fun i => D.int (0 + (i : Nat))) := by
  have h62 : small62 (n : Int) = true := by
    unfold small62
    rw [decide_eq_true (show -(2 ^ 62) ≤ (n : Int) by omega), decide_eq_true (show (n : Int) < 2 ^ 62 by omega)]
    rfl
  unfold rng1D
  dsimp only
  rw [if_pos h62]
  unfold rangeL
  rw [Int.sub_zero, Int.toNat_natCast]
theorem w_range {n : Nat} (hn : n < 2 ^ 60) {e : En} {P : List D → En → Prop} {X : Xn → En → Prop} (p : P ((List.range n).map fun i => D.int (0 + (i : Nat))) e) : W (lift (rng1D (.int (n : Int))) e) P X := by
  rw [rng1_nat hn]
  exact p
section
variable {α : Type} {e e' : En} {P : D → En → Prop} {X : Xn → En → Prop} {i : Nat}
theorem w_ixK {f : α → D} {l : List (Str × α)} {z : Str} {v : α} (h : lkp l z = some v) (p : P (f v) e) : W (ixD (.dk (dk f l)) (.str z) e) P X := w_ok (ix_dk h) p
theorem w_inK {f : α → D} {l : List (Str × α)} {z : Str} (p : P (.bl (decide (z ∈ ks l))) e) : W (inD (.str z) (.dk (dk f l)) e) P X := w_ok (in_dk f l z) p
theorem w_ninK {f : α → D} {l : List (Str × α)} {z : Str} (p : P (.bl (decide (z ∉ ks l))) e) : W (ninD (.str z) (.dk (dk f l)) e) P X := w_ok (nin_dk f l z) p
theorem w_iterK {f : α → D} {l : List (Str × α)} {P : List D → En → Prop} (p : P ((ks l).map .str) e) : W (lift (itemsD (.dk (dk f l))) e) P X := by
  refine w_lift (a := (ks l).map .str) ?_ p
  show some ((dk f l).map fun p => keyV p.1) = _
  rw [dk_keys]
theorem w_iterL {ds : List D} {P : List D → En → Prop} (p : P ds e) : W (lift (itemsD (.lst ds)) e) P X := w_lift rfl p
theorem w_valsK {f : α → D} {l : List (Str × α)} {P : List D → En → Prop} (p : P ((l.map (·.2)).map f) e) : W (lift (valuesD (.dk (dk f l))) e) P X := by
  refine w_lift (a := (l.map (·.2)).map f) ?_ p
  show some ((dk f l).map (·.2)) = _
  rw [dk_vals]
theorem w_putK {f : α → D} {l : List (Str × α)} {z : Str} {v : α} {Q : Unit → En → Prop} (h : l.length < line) (ha : At e i (.ow (.dk (dk f l)))) (hp : Pu e i (.ow (.dk (dk f (put l z v)))) e') (p : Q () e') : W (modS i (fun c => (setItemD c (.str z) (f v)).map fun c' => (c', ())) e) Q X :=
  w_modS ha (by rw [setD_dk f l z v h]; rfl) hp p
theorem w_eqI {a b : Int} (p : P (.bl (decide (a = b))) e) : W (cmpD .Eq (.int a) (.int b) e) P X := by
  refine w_eq (b := decide (a = b)) ?_ p
  show eqPO (.int a) (.int b) = _
  unfold eqPO toP
  show (if shp (.int a) && shp (.int b) then some (PyData.eqv (.int a) (.int b)) else none) = _
  rfl
theorem w_eqS {a b : Str} (h1 : PyData.strOk a = true) (h2 : PyData.strOk b = true) (p : P (.bl (decide (a = b))) e) : W (cmpD .Eq (.str a) (.str b) e) P X := w_eq (eq_str h1 h2) p
theorem w_neS {a b : Str} (h1 : PyData.strOk a = true) (h2 : PyData.strOk b = true) (p : P (.bl (!decide (a = b))) e) : W (cmpD .NotEq (.str a) (.str b) e) P X := w_ne (eq_str h1 h2) p
end
end VL
namespace VL
open PySem PySem.Spec PyProof.Rows L2
variable [Tb]
section
variable {e e' : En} {P : D → En → Prop} {X : Xn → En → Prop}
theorem w_isi {T t : String} {d : D} {b : Bool} (h1 : tyName d = some t) (h2 : isT T t = b) (p : P (.bl b) e) : W (isiD T d e) P X := by
  unfold isiD
  rw [h1]
  show P (.bl (isT T t)) e
  rw [h2]
  exact p
instance isi_str_non  : St' (W (isiD "str" .non e) P X) (P (.bl false) e) := ⟨fun p => w_isi rfl (by decide) p⟩
instance isi_str_bl {b : Bool} : St' (W (isiD "str" (.bl b) e) P X) (P (.bl false) e) := ⟨fun p => w_isi rfl (by decide) p⟩
instance isi_str_int {i : Int} : St' (W (isiD "str" (.int i) e) P X) (P (.bl false) e) := ⟨fun p => w_isi rfl (by decide) p⟩
instance isi_str_str {x : Str} : St' (W (isiD "str" (.str x) e) P X) (P (.bl true) e) := ⟨fun p => w_isi rfl (by decide) p⟩
instance isi_str_dk {ks : List (Key × D)} : St' (W (isiD "str" (.dk ks) e) P X) (P (.bl false) e) := ⟨fun p => w_isi rfl (by decide) p⟩
instance isi_str_lst {xs : List D} : St' (W (isiD "str" (.lst xs) e) P X) (P (.bl false) e) := ⟨fun p => w_isi rfl (by decide) p⟩
instance isi_str_tup {xs : List D} : St' (W (isiD "str" (.tup xs) e) P X) (P (.bl false) e) := ⟨fun p => w_isi rfl (by decide) p⟩
instance isi_str_frl {xs : List D} : St' (W (isiD "str" (.frl xs) e) P X) (P (.bl false) e) := ⟨fun p => w_isi rfl (by decide) p⟩
instance isi_int_non  : St' (W (isiD "int" .non e) P X) (P (.bl false) e) := ⟨fun p => w_isi rfl (by decide) p⟩
instance isi_int_bl {b : Bool} : St' (W (isiD "int" (.bl b) e) P X) (P (.bl true) e) := ⟨fun p => w_isi rfl (by decide) p⟩
instance isi_int_int {i : Int} : St' (W (isiD "int" (.int i) e) P X) (P (.bl true) e) := ⟨fun p => w_isi rfl (by decide) p⟩
instance isi_int_str {x : Str} : St' (W (isiD "int" (.str x) e) P X) (P (.bl false) e) := ⟨fun p => w_isi rfl (by decide) p⟩
instance isi_int_dk {ks : List (Key × D)} : St' (W (isiD "int" (.dk ks) e) P X) (P (.bl false) e) := ⟨fun p => w_isi rfl (by decide) p⟩
instance isi_int_lst {xs : List D} : St' (W (isiD "int" (.lst xs) e) P X) (P (.bl false) e) := ⟨fun p => w_isi rfl (by decide) p⟩
instance isi_int_tup {xs : List D} : St' (W (isiD "int" (.tup xs) e) P X) (P (.bl false) e) := ⟨fun p => w_isi rfl (by decide) p⟩
instance isi_int_frl {xs : List D} : St' (W (isiD "int" (.frl xs) e) P X) (P (.bl false) e) := ⟨fun p => w_isi rfl (by decide) p⟩
instance isi_bool_non  : St' (W (isiD "bool" .non e) P X) (P (.bl false) e) := ⟨fun p => w_isi rfl (by decide) p⟩
instance isi_bool_bl {b : Bool} : St' (W (isiD "bool" (.bl b) e) P X) (P (.bl true) e) := ⟨fun p => w_isi rfl (by decide) p⟩
instance isi_bool_int {i : Int} : St' (W (isiD "bool" (.int i) e) P X) (P (.bl false) e) := ⟨fun p => w_isi rfl (by decide) p⟩
instance isi_bool_str {x : Str} : St' (W (isiD "bool" (.str x) e) P X) (P (.bl false) e) := ⟨fun p => w_isi rfl (by decide) p⟩
instance isi_bool_dk {ks : List (Key × D)} : St' (W (isiD "bool" (.dk ks) e) P X) (P (.bl false) e) := ⟨fun p => w_isi rfl (by decide) p⟩
instance isi_bool_lst {xs : List D} : St' (W (isiD "bool" (.lst xs) e) P X) (P (.bl false) e) := ⟨fun p => w_isi rfl (by decide) p⟩
instance isi_bool_tup {xs : List D} : St' (W (isiD "bool" (.tup xs) e) P X) (P (.bl false) e) := ⟨fun p => w_isi rfl (by decide) p⟩
instance isi_bool_frl {xs : List D} : St' (W (isiD "bool" (.frl xs) e) P X) (P (.bl false) e) := ⟨fun p => w_isi rfl (by decide) p⟩
instance isi_dict_non  : St' (W (isiD "dict" .non e) P X) (P (.bl false) e) := ⟨fun p => w_isi rfl (by decide) p⟩
instance isi_dict_bl {b : Bool} : St' (W (isiD "dict" (.bl b) e) P X) (P (.bl false) e) := ⟨fun p => w_isi rfl (by decide) p⟩
instance isi_dict_int {i : Int} : St' (W (isiD "dict" (.int i) e) P X) (P (.bl false) e) := ⟨fun p => w_isi rfl (by decide) p⟩
instance isi_dict_str {x : Str} : St' (W (isiD "dict" (.str x) e) P X) (P (.bl false) e) := ⟨fun p => w_isi rfl (by decide) p⟩
instance isi_dict_dk {ks : List (Key × D)} : St' (W (isiD "dict" (.dk ks) e) P X) (P (.bl true) e) := ⟨fun p => w_isi rfl (by decide) p⟩
instance isi_dict_lst {xs : List D} : St' (W (isiD "dict" (.lst xs) e) P X) (P (.bl false) e) := ⟨fun p => w_isi rfl (by decide) p⟩
instance isi_dict_tup {xs : List D} : St' (W (isiD "dict" (.tup xs) e) P X) (P (.bl false) e) := ⟨fun p => w_isi rfl (by decide) p⟩
instance isi_dict_frl {xs : List D} : St' (W (isiD "dict" (.frl xs) e) P X) (P (.bl false) e) := ⟨fun p => w_isi rfl (by decide) p⟩
instance isi_tuple_non  : St' (W (isiD "tuple" .non e) P X) (P (.bl false) e) := ⟨fun p => w_isi rfl (by decide) p⟩
instance isi_tuple_bl {b : Bool} : St' (W (isiD "tuple" (.bl b) e) P X) (P (.bl false) e) := ⟨fun p => w_isi rfl (by decide) p⟩
instance isi_tuple_int {i : Int} : St' (W (isiD "tuple" (.int i) e) P X) (P (.bl false) e) := ⟨fun p => w_isi rfl (by decide) p⟩
instance isi_tuple_str {x : Str} : St' (W (isiD "tuple" (.str x) e) P X) (P (.bl false) e) := ⟨fun p => w_isi rfl (by decide) p⟩
instance isi_tuple_dk {ks : List (Key × D)} : St' (W (isiD "tuple" (.dk ks) e) P X) (P (.bl false) e) := ⟨fun p => w_isi rfl (by decide) p⟩
instance isi_tuple_lst {xs : List D} : St' (W (isiD "tuple" (.lst xs) e) P X) (P (.bl false) e) := ⟨fun p => w_isi rfl (by decide) p⟩
instance isi_tuple_tup {xs : List D} : St' (W (isiD "tuple" (.tup xs) e) P X) (P (.bl true) e) := ⟨fun p => w_isi rfl (by decide) p⟩
instance isi_tuple_frl {xs : List D} : St' (W (isiD "tuple" (.frl xs) e) P X) (P (.bl false) e) := ⟨fun p => w_isi rfl (by decide) p⟩
instance isi_list_non  : St' (W (isiD "list" .non e) P X) (P (.bl false) e) := ⟨fun p => w_isi rfl (by decide) p⟩
instance isi_list_bl {b : Bool} : St' (W (isiD "list" (.bl b) e) P X) (P (.bl false) e) := ⟨fun p => w_isi rfl (by decide) p⟩
instance isi_list_int {i : Int} : St' (W (isiD "list" (.int i) e) P X) (P (.bl false) e) := ⟨fun p => w_isi rfl (by decide) p⟩
instance isi_list_str {x : Str} : St' (W (isiD "list" (.str x) e) P X) (P (.bl false) e) := ⟨fun p => w_isi rfl (by decide) p⟩
instance isi_list_dk {ks : List (Key × D)} : St' (W (isiD "list" (.dk ks) e) P X) (P (.bl false) e) := ⟨fun p => w_isi rfl (by decide) p⟩
instance isi_list_lst {xs : List D} : St' (W (isiD "list" (.lst xs) e) P X) (P (.bl true) e) := ⟨fun p => w_isi rfl (by decide) p⟩
instance isi_list_tup {xs : List D} : St' (W (isiD "list" (.tup xs) e) P X) (P (.bl false) e) := ⟨fun p => w_isi rfl (by decide) p⟩
instance isi_list_frl {xs : List D} : St' (W (isiD "list" (.frl xs) e) P X) (P (.bl true) e) := ⟨fun p => w_isi rfl (by decide) p⟩
theorem w_dcM {fi : M (List D)} {sm : D → En → Option En} {ft : M Bool} {fk fv : M D} {vs : List Nat} (h : W (fi e) (fun ds e1 => W (dcL sm ft fk fv vs ds [] e1) (fun ks e2 => P (.dk ks) e2) X) X) : W (dcM fi sm ft fk fv vs e) P X := w_bnd (h.imp fun _ _ z => w_bnd (z.imp fun _ _ z => z))
instance {fi : M (List D)} {sm : D → En → Option En} {ft : M Bool} {fk fv : M D} {vs : List Nat} : St' (W (dcM fi sm ft fk fv vs e) P X) (W (fi e) (fun ds e1 => W (dcL sm ft fk fv vs ds [] e1) (fun ks e2 => P (.dk ks) e2) X) X) := ⟨w_dcM⟩
theorem w_allL {bs : List Bool} (p : P (.bl (bs.all id)) e) : W (allD [.lst (bs.map .bl)] e) P X := by
  show W (lift ((toB (bs.map .bl)).map fun bs => .bl (bs.all id)) e) P X
  rw [toB_bl]
  exact p
theorem w_sumL {ns : List Int} (p : P (.int ns.sum) e) : W (sumD [.lst (ns.map .int)] e) P X := by
  show W (lift ((toI (ns.map .int)).map fun ns => .int ns.sum) e) P X
  rw [toI_int]
  exact p
theorem w_getK {α : Type} {f : α → D} {l : List (Str × α)} {z : Str} {x : D} (p : P (((lkp l z).map f).getD x) e) : W (lift ((dgetD (.dk (dk f l)) (.str z)).map fun r => r.getD x) e) P X := by
  show W (lift (some ((valD (dk f l) (Sum.inr z)).getD x)) e) P X
  rw [valD_dk]
  exact p
theorem w_getI {l : Ls} {z : Str} (p : P (.int (val l z)) e) : W (lift ((dgetD (dI l) (.str z)).map fun r => r.getD (.int 0)) e) P X := by
  refine w_getK ?_
  have : ((lkp l z).map D.int).getD (.int 0) = .int (val l z) := by unfold val; cases lkp l z <;> rfl
  rw [this]
  exact p
end
section
variable {α : Type} {e eu : En} {X : Xn → En → Prop} {P : List (Key × D) → En → Prop} {sm : D → En → Option En} {ft : M Bool} {fk fv : M D} {vs : List Nat}
theorem w_dcL (f : α → D) (p : Str → Bool) (v : Str → α) : ∀ (xs : List Str) (acc : List (Str × α)) (e : En), xs.Nodup → (∀ x ∈ xs, x ∉ ks acc) → acc.length + xs.length < line → wipeE e vs = eu →
    (∀ a ∈ xs, ∃ e0, sm (.str a) eu = some e0 ∧ W (ft e0) (fun b e1 => b = p a ∧ wipeE e1 vs = eu ∧ (b = true → W (fk e1) (fun k e2 => k = .str a ∧ W (fv e2) (fun d e3 => d = f (v a) ∧ wipeE e3 vs = eu) X0) X0)) X0) →
    P (dk f (acc ++ (xs.filter p).map fun a => (a, v a))) eu → W (dcL sm ft fk fv vs (xs.map .str) (dk f acc) e) P X
  | [], acc, e, _, _, _, hu, _, hq => by
    rw [List.filter_nil, List.map_nil, List.append_nil] at hq
    show P (dk f acc) (wipeE e vs)
    rw [hu]
    exact hq
  | a :: xs, acc, e, hn, hf, hl, hu, h, hq => by
    obtain ⟨e0, h0, h1⟩ := h a List.mem_cons_self
    obtain ⟨n1, n2⟩ := List.nodup_cons.mp hn
    rw [List.length_cons] at hl
    show W (stP (sm (.str a) (wipeE e vs)) _) P X
    rw [hu, h0]
    show W (bnd (noX ft) _ e0) P X
    obtain ⟨b, e1, q1, q2, q3, q4⟩ := h1.of
    refine w_bnd (w_ok (a := b) (e := e1) (by unfold noX; rw [q1]) (w_ifM (fun hb => ?_) fun hb => ?_))
    · obtain ⟨k, e2, r1, r2, r3⟩ := (q4 hb).of
      obtain ⟨d, e3, t1, t2, t3⟩ := r3.of
      subst r2
      subst t2
      refine w_bnd (w_ok (a := .str a) (e := e2) (by unfold noX; rw [r1]) (w_bnd (w_ok (a := f (v a)) (e := e3) (by unfold noX; rw [t1]) ?_)))
      refine w_bnd (w_lift (a := Sum.inr a) rfl ?_)
      refine w_chk (decide_eq_true (by rw [dk_len]; omega)) ?_
      rw [putD_dk, put_new (hf a List.mem_cons_self)]
      refine w_dcL f p v xs (acc ++ [(a, v a)]) e3 n2 (fun x hx z => ?_) (by rw [List.length_append]; show acc.length + 1 + xs.length < line; omega) t3 (fun b hb => h b (List.mem_cons_of_mem _ hb)) ?_
      · have z : x ∈ (acc ++ [(a, v a)]).map (·.1) := z
        rw [List.map_append] at z
        rcases List.mem_append.mp z with z | z
        · exact hf x (List.mem_cons_of_mem _ hx) z
        · rw [List.mem_singleton.mp (show x ∈ [a] from z)] at hx
          exact n1 hx
      · rw [List.filter_cons_of_pos (by rw [← q2]; exact hb), List.map_cons] at hq
        rw [List.append_assoc]
        exact hq
    · rw [List.filter_cons_of_neg (by rw [← q2, hb]; simp)] at hq
      exact w_dcL f p v xs acc e1 n2 (fun x hx => hf x (List.mem_cons_of_mem _ hx)) (by omega) q3 (fun b hb => h b (List.mem_cons_of_mem _ hb)) hq
theorem w_dcp (hu : Wi e vs eu) (f : α → D) (xs : List Str) (p : Str → Bool) (v : Str → α) (hn : xs.Nodup) (hl : xs.length < line)
    (h : ∀ a ∈ xs, ∃ e0, sm (.str a) eu = some e0 ∧ W (ft e0) (fun b e1 => b = p a ∧ wipeE e1 vs = eu ∧ (b = true → W (fk e1) (fun k e2 => k = .str a ∧ W (fv e2) (fun d e3 => d = f (v a) ∧ wipeE e3 vs = eu) X0) X0)) X0)
    (hq : P (dk f ((xs.filter p).map fun a => (a, v a))) eu) : W (dcL sm ft fk fv vs (xs.map .str) [] e) P X :=
  w_dcL f p v xs [] e hn (fun _ _ z => (by cases z)) (by show 0 + xs.length < line; omega) hu.h h hq
end
end VL
namespace VL
open PySem PySem.Spec PyProof.Rows L2
variable [Tb]
local macro_rules | `(tactic| walk_at "w") => `(tactic| first | with_reducible refine St'.h ?_ | with_reducible refine len_of (by with_unfolding_all rfl) ?_ | with_reducible refine ⟨(by with_unfolding_all exact Eq.refl _), ?_⟩ | with_reducible refine w_ixL (by with_unfolding_all rfl) ?_ | with_reducible refine w_mulI (by decide) ?_ | with_reducible refine w_divI (by decide) ?_ | with_reducible refine w_modI (by decide) ?_ | with_reducible refine w_powI (by decide) ?_)
local macro_rules | `(tactic| walk_at "ws") => `(tactic| repeat (walk_at "w"))
local macro_rules | `(tactic| walk_at "wt") => `(tactic| repeat (first | walk_at "w" | with_reducible refine w_ifT (by with_unfolding_all exact Eq.refl _) ?_ | with_reducible refine w_ifF (by with_unfolding_all exact Eq.refl _) ?_))
/-! ### drawn lists -/
def isT' (r : FR) : Bool := match r with
  | .ok (.bl true) [] => true
  | _ => false
theorem isT_of {r : FR} (h : isT' r = true) : r = .ok (.bl true) [] := by
  unfold isT' at h
  split at h
  · rfl
  · cases h
def names9 : List Str := ["n0", "n1", "n2", "n3", "n4", "n5", "n6", "n7", "n8"]
theorem nm9 : NmOk names9 := by
  unfold NmOk names9
  refine List.forall_mem_cons.mpr ⟨⟨by decide +kernel, isT_of (by decide +kernel)⟩, ?_⟩
  refine List.forall_mem_cons.mpr ⟨⟨by decide +kernel, isT_of (by decide +kernel)⟩, ?_⟩
  refine List.forall_mem_cons.mpr ⟨⟨by decide +kernel, isT_of (by decide +kernel)⟩, ?_⟩
  refine List.forall_mem_cons.mpr ⟨⟨by decide +kernel, isT_of (by decide +kernel)⟩, ?_⟩
  refine List.forall_mem_cons.mpr ⟨⟨by decide +kernel, isT_of (by decide +kernel)⟩, ?_⟩
  refine List.forall_mem_cons.mpr ⟨⟨by decide +kernel, isT_of (by decide +kernel)⟩, ?_⟩
  refine List.forall_mem_cons.mpr ⟨⟨by decide +kernel, isT_of (by decide +kernel)⟩, ?_⟩
  refine List.forall_mem_cons.mpr ⟨⟨by decide +kernel, isT_of (by decide +kernel)⟩, ?_⟩
  refine List.forall_mem_cons.mpr ⟨⟨by decide +kernel, isT_of (by decide +kernel)⟩, ?_⟩
  exact fun x h => (by cases h)
def nmK (k : Nat) : List Str := (List.range k).map fun i => "n" ++ toString (0 + ((i : Nat) : Int))
theorem nmK_eq {k : Nat} (h : k ≤ 9) : nmK k = names9.take k := by
  rcases (show k = 0 ∨ k = 1 ∨ k = 2 ∨ k = 3 ∨ k = 4 ∨ k = 5 ∨ k = 6 ∨ k = 7 ∨ k = 8 ∨ k = 9 by omega) with h | h | h | h | h | h | h | h | h | h <;> subst h <;> decide
theorem nmK_sub {k : Nat} (h : k ≤ 9) : ∀ x ∈ nmK k, x ∈ names9 := fun x hx => by
  rw [nmK_eq h] at hx
  exact List.mem_of_mem_take hx
theorem nmK_nd {k : Nat} (h : k ≤ 9) : (nmK k).Nodup := by
  rw [nmK_eq h]
  exact List.Sublist.nodup (List.take_sublist _ _) (by decide)
theorem nmK_len (k : Nat) : (nmK k).length = k := by unfold nmK; rw [List.length_map, List.length_range]
theorem str_n {i : Nat} (h : i < 9) : ("n" : Str).length + (toString (0 + ((i : Nat) : Int)) : Str).length ≤ line ∧ (0 + ((i : Nat) : Int)).natAbs.log2 < 1920 := by
  rcases (show i = 0 ∨ i = 1 ∨ i = 2 ∨ i = 3 ∨ i = 4 ∨ i = 5 ∨ i = 6 ∨ i = 7 ∨ i = 8 by omega) with h | h | h | h | h | h | h | h | h <;> subst h <;> decide
def unS : D → Str
  | .str x => x
  | _ => ""
theorem unS_map (xs : List Str) : (xs.map D.str).map unS = xs := by
  rw [List.map_map]
  exact List.map_id'' (fun _ => rfl) xs
theorem strs_of : ∀ {ys : List D} {xs : List Str}, (∀ y ∈ ys, y ∈ xs.map D.str) → ys = (ys.map unS).map D.str
  | [], _, _ => rfl
  | y :: ys, xs, h => by
    obtain ⟨x, _, hx⟩ := List.mem_map.mp (h y List.mem_cons_self)
    have := strs_of fun z hz => h z (List.mem_cons_of_mem _ hz)
    rw [List.map_cons, List.map_cons, ← this, ← hx]
    rfl
theorem perm_str {ys : List D} {xs : List Str} (h : ys.Perm (xs.map D.str)) : ∃ zs : List Str, ys = zs.map D.str ∧ zs.Perm xs :=
  ⟨ys.map unS, strs_of fun y hy => h.mem_iff.mp hy, by have := h.map unS; rw [unS_map] at this; exact this⟩
/-- what one key is told -/
structure Ln (ns : List Str) (x : Str) (ls : Ls) : Prop where
  nd : (ks ls).Nodup
  lo : ls ≠ []
  hi : ls.length ≤ 4
  later : ∀ p ∈ ls, p.1 ∈ ns ∧ ns.idxOf x < ns.idxOf p.1 ∧ 1 ≤ p.2 ∧ p.2 ≤ 1000000
/-- what has been drawn -/
structure Dr (ns : List Str) (L : LL) : Prop where
  nd : (ks L).Nodup
  sub : ∀ x ∈ ks L, x ∈ ns ∧ ns.idxOf x + 1 < ns.length
  ln : ∀ p ∈ L, Ln ns p.1 p.2
theorem Dr.put {ns : List Str} {L : LL} (h : Dr ns L) {x : Str} {ls : Ls} (hx : x ∈ ns ∧ ns.idxOf x + 1 < ns.length) (hl : Ln ns x ls) : Dr ns (VL.put L x ls) := by
  refine ⟨ks_put_nd h.nd, fun y hy => ?_, fun p hp => ?_⟩
  · rcases mem_ks_put.mp hy with hy | rfl
    · exact h.sub y hy
    · exact hx
  · have e := lkp_of (ks_put_nd h.nd) hp
    rw [lkp_put] at e
    split at e
    · rename_i q
      cases e
      rw [q]; exact hl
    · exact h.ln p (lkp_mem e)
theorem cut_mem {α : Type} {x : α} {xs : List α} {lo hi : Option Int} (h : x ∈ cutL xs lo hi) : x ∈ xs := List.mem_of_mem_drop (List.mem_of_mem_take h)
theorem idx_take {ns : List Str} (hn : ns.Nodup) {x : Str} {j : Nat} (h : x ∈ ns.take j) : x ∈ ns ∧ ns.idxOf x < j := by
  refine ⟨List.mem_of_mem_take h, ?_⟩
  obtain ⟨i, hi, e⟩ := List.mem_iff_getElem.mp h
  rw [List.getElem_take] at e
  rw [List.length_take] at hi
  have : ns.idxOf x = i := by rw [← e]; exact List.Nodup.idxOf_getElem hn i (by omega)
  omega
theorem idx_drop {ns : List Str} (hn : ns.Nodup) {x : Str} {j : Nat} (h : x ∈ ns.drop j) : x ∈ ns ∧ j ≤ ns.idxOf x := by
  refine ⟨List.mem_of_mem_drop h, ?_⟩
  obtain ⟨i, hi, e⟩ := List.mem_iff_getElem.mp h
  rw [List.getElem_drop] at e
  rw [List.length_drop] at hi
  have : ns.idxOf x = j + i := by rw [← e]; exact List.Nodup.idxOf_getElem hn (j + i) (by omega)
  omega
theorem cut_map {lo hi : Option Int} (xs : List Str) : cutL (xs.map D.str) lo hi = (cutL xs lo hi).map D.str := by
  unfold cutL
  rw [List.length_map, List.map_take, List.map_drop]
theorem w_dictK {α : Type} {f : α → D} {l : List (Str × α)} {e : En} {P : D → En → Prop} {X : Xn → En → Prop} (hn : (ks l).Nodup) (p : P (.dk (dk f l)) e) : W (dictD [.lst (l.map fun p => .tup [.str p.1, f p.2])] e) P X := by
  have e1 : (l.map fun p => D.tup [.str p.1, f p.2]) = (dk f l).map fun p => D.tup [keyV p.1, p.2] := by
    unfold dk
    rw [List.map_map]
    rfl
  rw [e1]
  show W (lift ((pairsD ((dk f l).map fun p => D.tup [keyV p.1, p.2])).map fun ps => .dk (mergeD [] ps)) e) P X
  rw [pairsD_dk]
  show P (.dk (mergeD (dk f []) (dk f l))) e
  rw [mergeD_dk f l [] (by rw [List.nil_append]; exact hn), List.nil_append]
  exact p
theorem ev_drawn {n N : Nat} {d : D} (h : Dice n d) (hn : n < 2 ^ 62) (hN : n + 500 ≤ N) {k : Nat} (h2 : 2 ≤ k) (h9 : k ≤ 9) : FW (m__law_ls_drawn [d, .int (k : Int)]) (fun r os => ∃ ns L d', r = dL L ∧ ns.Perm (nmK k) ∧ Dr ns L ∧ L ≠ [] ∧ os = [d'] ∧ Dice N d') QX0 := by
  unfold m__law_ls_drawn
  with_reducible refine fw_run ?_
  show W (b__law_ls_drawn [.ow d, .fz (.int (k : Int)), .un, .un, .un, .un, .un, .un, .un, .un]) _ _
  unfold b__law_ls_drawn
  walk_at "ws"
  with_reducible refine w_range (n := k) (by omega) ?_
  with_reducible refine w_lcm inferInstance _ (fun i => D.str ("n" ++ toString (0 + ((i : Nat) : Int)))) _ (fun i hi => ⟨_, sm_h, wi_h, ?_⟩) ?_
  · have hi := List.mem_range.mp hi
    obtain ⟨q1, q2⟩ := str_n (i := i) (by omega)
    walk_at "ws"
    with_reducible refine w_str q2 ?_
    walk_at "ws"
    with_reducible refine w_addS q1 ?_
    exact ⟨rfl, wi_h⟩
  refine ⟨by rw [List.length_map, List.length_range]; show k ≤ 16777216; omega, ?_⟩
  walk_at "ws"
  have e1 : (List.range k).map (fun i => D.str ("n" ++ toString (0 + ((i : Nat) : Int)))) = (nmK k).map D.str := by unfold nmK; rw [List.map_map]; rfl
  rw [e1]
  have okN : okS (nmK k) := fun x hx => (nm9 x (nmK_sub h9 x hx)).1
  with_reducible refine w_do inferInstance (by decide) ((ev_shuffled h (by rw [List.length_map, nmK_len]; omega) (by rw [List.length_map, nmK_len]; omega) (empS okN)).imp (fun r os z => ?_) fun _ _ z => z.elim)
  obtain ⟨ys, d1, rfl, hp, rfl, hd1⟩ := z
  obtain ⟨ns, rfl, hns⟩ := perm_str hp
  rw [List.length_map, nmK_len] at hd1
  have nsnd : ns.Nodup := hns.nodup_iff.mpr (nmK_nd h9)
  have nslen : ns.length = k := hns.length_eq.trans (nmK_len k)
  have nsok : okS ns := fun x hx => okN x (hns.mem_iff.mp hx)
  refine ⟨_, inferInstance, ?_⟩
  walk_at "ws"
  rw [cut_map]
  with_reducible refine w_iterL ?_
  with_reducible refine w_lcI D.str (cutL ns none (some (-1))) (fun pre ys e => ∃ (d2 : D) (s5 : Sl) (zs : List Str), e = [.ow d2, .fz (.int (k : Int)), .fz (.lst (ns.map D.str)), .un, .un, s5, .un, .un, .un, .un] ∧ Dice (n + k + pre.length) d2 ∧ ys = zs.map D.str ∧ zs.length ≤ pre.length ∧ ∀ z ∈ zs, z ∈ pre) ?_ (fun pre a post ys e hx hI => ?_) (fun ys e hI => ?_)
  · exact ⟨d1, _, [], rfl, hd1, rfl, Nat.le_refl _, fun z hz => (by cases hz)⟩
  · obtain ⟨d2, s5, zs, rfl, q1, rfl, q2, q3⟩ := hI
    have hpl : pre.length ≤ 9 := by
      have := congrArg List.length hx
      rw [cut_neg, List.length_take, List.length_append] at this
      omega
    refine ⟨_, sm_wi, ?_⟩
    walk_at "ws"
    with_reducible refine w_do inferInstance (by decide) ((ev_roll q1 (by omega) (t := 3) (by decide) (by decide)).imp (fun r os z => ?_) fun _ _ z => z.elim)
    obtain ⟨i, d3, rfl, rfl, _, _, q4⟩ := z
    refine ⟨_, inferInstance, ?_⟩
    walk_at "ws"
    refine ⟨fun _ => ?_, fun _ => ?_⟩
    · walk_at "ws"
      refine ⟨d3, _, zs ++ [a], rfl, by rw [List.length_append]; exact q4, by rw [List.map_append]; rfl, by rw [List.length_append, List.length_append]; simp only [List.length_cons, List.length_nil]; omega, fun z hz => ?_⟩
      rcases List.mem_append.mp hz with hz | hz
      · exact List.mem_append_left _ (q3 z hz)
      · exact List.mem_append_right _ hz
    · exact ⟨d3, _, zs, rfl, by rw [List.length_append]; exact q4, rfl, by rw [List.length_append]; omega, fun z hz => List.mem_append_left _ (q3 z hz)⟩
  obtain ⟨d2, s5, zs, rfl, q1, rfl, q2, q3⟩ := hI
  rw [wi_h (e := [.ow d2, .fz (.int (k : Int)), .fz (.lst (ns.map D.str)), .un, .un, s5, .un, .un, .un, .un]) (vs := [5])]
  have hcl : (cutL ns none (some (-1))).length = k - 1 := by rw [cut_neg, List.length_take]; omega
  refine ⟨by rw [List.length_map]; show zs.length ≤ 16777216; omega, ?_⟩
  walk_at "ws"
  rw [cut_map, cut_to ns (by decide)]
  have h1l : (ns.take (1 : Int).toNat).length = 1 := by rw [List.length_take]; show min 1 _ = 1; omega
  with_reducible refine w_addL (by rw [List.length_map, List.length_map]; show _ ≤ 16777216; omega) ?_
  rw [← List.map_append]
  have hkeys : ∀ x ∈ zs ++ ns.take (1 : Int).toNat, x ∈ ns ∧ ns.idxOf x + 1 < ns.length := fun x hx => by
    rcases List.mem_append.mp hx with hx | hx
    · have := q3 x hx
      rw [cut_neg] at this
      have := idx_take nsnd this
      exact ⟨this.1, by omega⟩
    · have := idx_take nsnd hx
      exact ⟨this.1, by have : (1 : Int).toNat = 1 := rfl
                        omega⟩
  have hkl : (zs ++ ns.take (1 : Int).toNat).length ≤ 9 := by rw [List.length_append]; omega
  have hkne : zs ++ ns.take (1 : Int).toNat ≠ [] := fun z => by
    have := congrArg List.length z
    rw [List.length_append, List.length_nil] at this
    omega
  generalize zs ++ ns.take (1 : Int).toNat = keys at hkeys hkl hkne ⊢
  have okK : okS keys := fun x hx => nsok x (hkeys x hx).1
  walk_at "ws"
  with_reducible refine w_do inferInstance (by decide) ((ev_shuffled q1 (by rw [List.length_map]; omega) (by rw [List.length_map]; omega) (empS okK)).imp (fun r os z => ?_) fun _ _ z => z.elim)
  obtain ⟨ys, d3, rfl, hp2, rfl, hd3⟩ := z
  obtain ⟨kz, rfl, hkz⟩ := perm_str hp2
  rw [List.length_map] at hd3
  refine ⟨_, inferInstance, ?_⟩
  walk_at "ws"
  with_reducible refine w_iterL ?_
  with_reducible refine w_forI D.str kz (fun pre e => ∃ (d' : D) (L : LL) (s5 s6 s7 s9 : Sl), e = [.ow d', .fz (.int (k : Int)), .fz (.lst (ns.map D.str)), .fz (.lst (keys.map D.str)), .ow (dL L), s5, s6, s7, .un, s9] ∧ Dice (n + 30 + 30 * pre.length) d' ∧ Dr ns L ∧ L.length ≤ pre.length ∧ (pre ≠ [] → L ≠ [])) ?_ (fun pre a post e hx hI => ?_) (fun e hI => ?_)
  · exact ⟨d3, [], _, _, _, _, rfl, hd3.mono (by show _ ≤ n + 30 + 30 * 0; omega), ⟨List.nodup_nil, fun x h => (by cases h), fun x h => (by cases h)⟩, Nat.le_refl _, fun z => absurd rfl z⟩
  · obtain ⟨d', L, s5, s6, s7, s9, rfl, r1, r2, r3, _⟩ := hI
    have ha : a ∈ keys := hkz.mem_iff.mp (by rw [hx]; exact List.mem_append_right _ List.mem_cons_self)
    obtain ⟨ha1, ha2⟩ := hkeys a ha
    have hpl : pre.length + 1 ≤ 9 := by
      have e1 := congrArg List.length hx
      have e2 := hkz.length_eq
      rw [List.length_append, List.length_cons] at e1
      omega
    refine ⟨_, sm_h, ?_⟩
    walk_at "ws"
    with_reducible refine index_sL ha1 ?_
    walk_at "ws"
    rw [cut_map, cut_from ns (by omega), show ((ns.idxOf a : Nat) : Int) + 1 = ((ns.idxOf a + 1 : Nat) : Int) by omega, Int.toNat_natCast]
    have hlat : ∀ x ∈ ns.drop (ns.idxOf a + 1), x ∈ ns ∧ ns.idxOf a < ns.idxOf x := fun x hx => by
      have := idx_drop nsnd hx
      exact ⟨this.1, by omega⟩
    have hll : 0 < (ns.drop (ns.idxOf a + 1)).length ∧ (ns.drop (ns.idxOf a + 1)).length ≤ 9 := by rw [List.length_drop]; omega
    have hlnd : (ns.drop (ns.idxOf a + 1)).Nodup := List.Sublist.nodup (List.drop_sublist _ _) nsnd
    generalize ns.drop (ns.idxOf a + 1) = lat at hlat hll hlnd ⊢
    walk_at "ws"
    have okL : okS lat := fun x hx => nsok x (hlat x hx).1
    with_reducible refine w_do inferInstance (by decide) ((ev_shuffled r1 (by rw [List.length_map]; omega) (by rw [List.length_map]; omega) (empS okL)).imp (fun r os z => ?_) fun _ _ z => z.elim)
    obtain ⟨ys, d4, rfl, hp3, rfl, hd4⟩ := z
    obtain ⟨lz, rfl, hlz⟩ := perm_str hp3
    rw [List.length_map] at hd4
    refine ⟨_, inferInstance, ?_⟩
    walk_at "ws"
    with_reducible refine w_do inferInstance (by decide) ((ev_roll hd4 (by omega) (t := 4) (by decide) (by decide)).imp (fun r os z => ?_) fun _ _ z => z.elim)
    obtain ⟨i, d5, rfl, rfl, hi0, hi4, hd5⟩ := z
    refine ⟨_, inferInstance, ?_⟩
    walk_at "ws"
    rw [cut_map, cut_to lz (by omega)]
    have hsm : ∀ x ∈ lz.take (1 + i).toNat, x ∈ ns ∧ ns.idxOf a < ns.idxOf x := fun x hx => hlat x (hlz.mem_iff.mp (List.mem_of_mem_take hx))
    have hsl : 0 < (lz.take (1 + i).toNat).length ∧ (lz.take (1 + i).toNat).length ≤ 4 := by
      rw [List.length_take, hlz.length_eq]
      omega
    have hsnd : (lz.take (1 + i).toNat).Nodup := List.Sublist.nodup (List.take_sublist _ _) (hlz.nodup_iff.mpr hlnd)
    generalize lz.take (1 + i).toNat = sm at hsm hsl hsnd ⊢
    walk_at "ws"
    with_reducible refine w_iterL ?_
    with_reducible refine w_lcI D.str sm (fun pre2 ys e => ∃ (d2 : D) (s9 : Sl) (l : Ls), e = [.ow d2, .fz (.int (k : Int)), .fz (.lst (ns.map D.str)), .fz (.lst (keys.map D.str)), .ow (dL L), .fz (.str a), .fz (.lst (lat.map D.str)), .fz (.lst (sm.map D.str)), .un, s9] ∧ Dice (n + 45 + 30 * pre.length + pre2.length) d2 ∧ ys = l.map (fun p : Str × Int => D.tup [.str p.1, .int p.2]) ∧ ks l = pre2 ∧ ∀ p ∈ l, 1 ≤ p.2 ∧ p.2 ≤ 1000000) ?_ (fun pre2 b post2 ys e hx2 hI => ?_) (fun ys e hI => ?_)
    · exact ⟨d5, _, [], rfl, hd5.mono (by show _ ≤ n + 45 + 30 * pre.length + 0; omega), rfl, rfl, fun p hp => (by cases hp)⟩
    · obtain ⟨d2, s9, l, rfl, t1, rfl, t2, t3⟩ := hI
      have hpl2 : pre2.length ≤ 4 := by
        have e1 := congrArg List.length hx2
        rw [List.length_append] at e1
        omega
      refine ⟨_, sm_wi, ?_⟩
      walk_at "ws"
      refine ⟨fun _ => ?_, fun hb => (by cases hb)⟩
      walk_at "ws"
      with_reducible refine w_do inferInstance (by decide) ((ev_pick t1 (by omega) (xs := [.int 1, .int 1, .int 2, .int 3, .int 10, .int (10 ^ (6 : Int).toNat)]) (by decide) (by decide)).imp (fun r os z => ?_) fun _ _ z => z.elim)
      obtain ⟨d6, hr, rfl, hd6⟩ := z
      have hr2 : ∃ v : Int, r = .int v ∧ 1 ≤ v ∧ v ≤ 1000000 := by
        simp only [List.mem_cons, List.not_mem_nil, or_false] at hr
        rcases hr with h | h | h | h | h | h <;> exact ⟨_, h, by decide, by decide⟩
      obtain ⟨v, rfl, hv⟩ := hr2
      refine ⟨_, inferInstance, ?_⟩
      walk_at "ws"
      refine ⟨d6, _, l ++ [(b, v)], rfl, by rw [List.length_append]; exact hd6, by rw [List.map_append]; rfl, ?_, fun p hp => ?_⟩
      · show (l ++ [(b, v)]).map (·.1) = _
        rw [List.map_append]
        exact congrArg (· ++ [b]) t2
      · rcases List.mem_append.mp hp with hp | hp
        · exact t3 p hp
        · rw [List.mem_singleton.mp hp]; exact hv
    obtain ⟨d2, s9, l, rfl, t1, rfl, t2, t3⟩ := hI
    rw [wi_h (e := [.ow d2, .fz (.int (k : Int)), .fz (.lst (ns.map D.str)), .fz (.lst (keys.map D.str)), .ow (dL L), .fz (.str a), .fz (.lst (lat.map D.str)), .fz (.lst (sm.map D.str)), .un, s9]) (vs := [9])]
    have hll2 : l.length = sm.length := by rw [← t2]; exact (List.length_map _).symm
    refine ⟨by rw [List.length_map]; show l.length ≤ 16777216; omega, ?_⟩
    walk_at "ws"
    with_reducible refine w_dictK (f := D.int) (by rw [t2]; exact hsnd) ?_
    walk_at "ws"
    have hLl : L.length < line := by show L.length < 16777216; omega
    with_reducible refine w_putK (f := dI) hLl inferInstance inferInstance ?_
    walk_at "ws"
    have hLn : Ln ns a l := ⟨by rw [t2]; exact hsnd, fun z => by rw [z] at hll2; simp only [List.length_nil] at hll2; omega, by omega, fun p hp => by
      have := hsm p.1 (by rw [← t2]; exact ks_mem hp)
      exact ⟨this.1, this.2, t3 p hp⟩⟩
    refine ⟨d2, _, _, _, _, _, rfl, t1.mono (by rw [List.length_append]; simp only [List.length_cons, List.length_nil]; omega), r2.put ⟨ha1, ha2⟩ hLn, ?_, fun _ z => ?_⟩
    · have hpl : (put L a l).length ≤ L.length + 1 := by
        by_cases h : a ∈ ks L
        · rw [put_old h, List.length_map]; omega
        · rw [put_new h, List.length_append]; exact Nat.le_refl _
      rw [List.length_append]
      simp only [List.length_cons, List.length_nil]
      omega
    · have : a ∈ ks (put L a l) := mem_ks_put.mpr (.inr rfl)
      rw [z] at this
      cases this
  obtain ⟨d', L, s5, s6, s7, s9, rfl, r1, r2, r3, r4⟩ := hI
  walk_at "ws"
  have hz : kz ≠ [] := fun z => hkne (List.length_eq_zero_iff.mp (by rw [← hkz.length_eq, z]; rfl))
  have hzl : kz.length ≤ 9 := by rw [hkz.length_eq]; exact hkl
  exact ep_rt rfl ⟨ns, L, _, rfl, hns, r2, r4 hz, rfl, r1.mono (by omega)⟩
end VL
namespace VL
open PySem PySem.Spec PyProof.Rows L2
variable [Tb]
local macro_rules | `(tactic| walk_at "w") => `(tactic| first | with_reducible refine St'.h ?_ | with_reducible refine len_of (by with_unfolding_all rfl) ?_ | with_reducible refine ⟨(by with_unfolding_all exact Eq.refl _), ?_⟩ | with_reducible refine w_ixL (by with_unfolding_all rfl) ?_ | with_reducible refine w_mulI (by decide) ?_ | with_reducible refine w_divI (by decide) ?_ | with_reducible refine w_modI (by decide) ?_ | with_reducible refine w_powI (by decide) ?_)
local macro_rules | `(tactic| walk_at "ws") => `(tactic| repeat (walk_at "w"))
local macro_rules | `(tactic| walk_at "wt") => `(tactic| repeat (first | walk_at "w" | with_reducible refine w_ifT (by with_unfolding_all exact Eq.refl _) ?_ | with_reducible refine w_ifF (by with_unfolding_all exact Eq.refl _) ?_))
/-! ### drawn lists may be handed to the program -/
theorem allN_len {L : LL} {c : Nat} (h : ∀ p ∈ L, p.2.length ≤ c) : (allN L).length ≤ L.length * (c + 1) := by
  have e : ∀ L : LL, (∀ p ∈ L, p.2.length ≤ c) → ((L.map (·.2)).map ks).flatten.length ≤ L.length * c := by
    intro L
    induction L with
    | nil => intro _; exact Nat.zero_le _
    | cons p L ih =>
      intro h
      have h1 := ih fun q hq => h q (List.mem_cons_of_mem _ hq)
      have h2 := h p List.mem_cons_self
      rw [List.map_cons, List.map_cons, List.flatten_cons, List.length_append, List.length_cons, Nat.add_mul, Nat.one_mul]
      have h3 : (ks p.2).length = p.2.length := List.length_map _
      omega
  unfold allN
  rw [List.length_append, Nat.mul_add, Nat.mul_one]
  have h1 := e L h
  have h2 : (ks L).length = L.length := List.length_map _
  omega
/-- the rank of a name: how many names do not stand ahead of it -/
def rk (ns : List Str) (x : Str) : Nat := ns.length - ns.idxOf x
theorem idx_lt {ns : List Str} {x : Str} (h : x ∈ ns) : ns.idxOf x < ns.length := List.idxOf_lt_length_of_mem h
theorem dr_good {ns : List Str} {L : LL} (h : Dr ns L) : Good ns (rk ns) L := by
  refine ⟨h.nd, fun x hx => (h.sub x hx).1, fun x ls e p hp => ?_, fun x ls e => (h.ln _ (lkp_mem e)).lo, fun x ls e => (h.ln _ (lkp_mem e)).nd, fun x ls e p hp => ?_⟩
  · obtain ⟨h1, h2, _⟩ := (h.ln _ (lkp_mem e)).later p hp
    have := idx_lt h1
    unfold rk
    dsimp only at h2
    omega
  · obtain ⟨h1, h2, h3, _⟩ := (h.ln _ (lkp_mem e)).later p hp
    exact ⟨h1, h3⟩
theorem dr_len {ns : List Str} {L : LL} (h : Dr ns L) (hn : ns.Nodup) : L.length + 1 ≤ ns.length ∨ L = [] := by
  cases hL : L with
  | nil => exact .inr rfl
  | cons p L' =>
    rw [← hL]
    refine .inl ?_
    have h1 : (ks L).length ≤ (ns.take (ns.length - 1)).length := nd_len h.nd fun x hx => by
      obtain ⟨h1, h2⟩ := h.sub x hx
      refine List.mem_iff_getElem.mpr ⟨ns.idxOf x, by rw [List.length_take]; omega, ?_⟩
      rw [List.getElem_take]
      exact List.getElem_idxOf (idx_lt h1)
    rw [List.length_take] at h1
    have h2 : (ks L).length = L.length := List.length_map _
    have h3 : 0 < L.length := by rw [hL]; exact Nat.succ_pos _
    omega
theorem kn_len {nm : List Str} {r : Str → Nat} {L : LL} (g : Good nm r L) : (VL.kn L).length ≤ nm.length := nd_len (kn_nd L) (kn_sub g)
theorem fit_of {nm : List Str} {r : Str → Nat} {L : LL} {c : Nat} (g : Good nm r L) (hnm : nm.length ≤ 9) (hcnt : ∀ p ∈ L, ∀ q ∈ p.2, q.2 ≤ 1000000) (hne : L ≠ []) (hl : L.length * (c + 1) < 64) (hc : ∀ p ∈ L, p.2.length ≤ c) (hc2 : c ≤ 50) : Fit nm r L :=
  { g with
    cnt := hcnt
    lo := List.length_pos_iff.mpr hne
    hi := by
      have h1 : (ks L).length ≤ nm.length := nd_len g.nd g.kn
      have h2 : (ks L).length = L.length := List.length_map _
      omega
    lh := fun p hp => by have := hc p hp; omega
    all := by have := allN_len hc; omega
    kh := by have := kn_len g; omega }
theorem max_rank (r : Str → Nat) : ∀ {xs : List Str}, xs ≠ [] → ∃ x ∈ xs, ∀ y ∈ xs, r y ≤ r x
  | [], h => absurd rfl h
  | [x], _ => ⟨x, List.mem_cons_self, fun y hy => by rw [List.mem_singleton.mp hy]; exact Nat.le_refl _⟩
  | x :: z :: xs, _ => by
    obtain ⟨m, h1, h2⟩ := max_rank r (xs := z :: xs) (fun z => (by cases z))
    by_cases h : r m ≤ r x
    · refine ⟨x, List.mem_cons_self, fun y hy => ?_⟩
      rcases List.mem_cons.mp hy with rfl | hy
      · exact Nat.le_refl _
      · exact Nat.le_trans (h2 y hy) h
    · refine ⟨m, List.mem_cons_of_mem _ h1, fun y hy => ?_⟩
      rcases List.mem_cons.mp hy with rfl | hy
      · omega
      · exact h2 y hy
/-! ### data that are equal to themselves -/
theorem eq_self {d : D} {p : PyData} (hd : ∀ ks, d ≠ .dk ks) (h : toP d = some p) (hs : shp p = true) : eqO d d = some true := by
  have e : eqO d d = eqPO d d := by
    unfold eqO
    cases d with
    | dk ks => exact absurd rfl (hd ks)
    | _ => rfl
  rw [e]
  unfold eqPO
  rw [h]
  dsimp only
  rw [hs]
  have hc : p.canLay0 = true := by
    unfold shp SeqAt.shaped at hs
    exact (Bool.and_eq_true_iff.mp hs).1
  rw [PySem.SeqAt.eqv_refl p hc]
  rfl
theorem toPs_pairs : ∀ l : Ls, toPs (l.map fun p => D.tup [.str p.1, .int p.2]) = some (l.map fun p => PyData.tuple [.str p.1, .int p.2])
  | [] => by unfold toPs; rfl
  | p :: l => by
    show toPs (D.tup [.str p.1, .int p.2] :: l.map fun p => D.tup [.str p.1, .int p.2]) = _
    unfold toPs
    rw [toPs_pairs l]
    have : toP (D.tup [.str p.1, .int p.2]) = some (PyData.tuple [.str p.1, .int p.2]) := by
      unfold toP toPs toPs toPs toP
      rfl
    rw [this]
    rfl
theorem shp_pairs {l : Ls} (h : okS (ks l)) : shp (.list (l.map fun p => PyData.tuple [.str p.1, .int p.2])) = true := by
  have h1 : PyData.canLayAll0 (l.map fun p => PyData.tuple [.str p.1, .int p.2]) = true := by
    induction l with
    | nil => rfl
    | cons p l ih =>
      have hp := h p.1 (by rw [ks_cons]; exact List.mem_cons_self)
      have := ih fun x hx => h x (by rw [ks_cons]; exact List.mem_cons_of_mem _ hx)
      simp only [List.map_cons, PyData.canLayAll0, PyData.canLay0, this, hp, Bool.and_true, Bool.true_and]
  have h2 : PyData.depthAll (l.map fun p => PyData.tuple [.str p.1, .int p.2]) ≤ 1 := by
    clear h h1
    induction l with
    | nil => exact Nat.zero_le _
    | cons p l ih =>
      simp only [List.map_cons, PyData.depthAll, PyData.depth]
      omega
  unfold shp SeqAt.shaped
  unfold PyData.canLay0 PyData.depth
  rw [h1, Bool.true_and]
  exact decide_eq_true (by omega)
theorem eq_pairs {l : Ls} (h : okS (ks l)) : eqO (.lst (l.map fun p => D.tup [.str p.1, .int p.2])) (.lst (l.map fun p => D.tup [.str p.1, .int p.2])) = some true :=
  eq_self (fun _ z => by cases z) (by unfold toP; rw [toPs_pairs]; rfl) (shp_pairs h)
theorem eq_dI {X Y : Ls} (h1 : ∀ p, p ∈ X ↔ p ∈ Y) (n1 : (ks X).Nodup) (n2 : (ks Y).Nodup) : eqO (dI X) (dI Y) = some true := by
  have hl : X.length = Y.length := by
    have a1 : X.length = (ks X).length := (List.length_map _).symm
    have a2 : Y.length = (ks Y).length := (List.length_map _).symm
    have b1 := nd_len n1 (ys := ks Y) fun x hx => by
      obtain ⟨p, hp, rfl⟩ := List.mem_map.mp hx
      exact ks_mem ((h1 p).mp hp)
    have b2 := nd_len n2 (ys := ks X) fun x hx => by
      obtain ⟨p, hp, rfl⟩ := List.mem_map.mp hx
      exact ks_mem ((h1 p).mpr hp)
    omega
  show (if (dk D.int X).length = (dk D.int Y).length then eqHits (dk D.int Y) (dk D.int X) else some false) = _
  rw [if_pos (by rw [dk_len, dk_len]; exact hl)]
  have hs : ∀ Z : Ls, (∀ p ∈ Z, p ∈ Y) → eqHits (dk D.int Y) (dk D.int Z) = some true := by
    intro Z
    induction Z with
    | nil => intro _; rfl
    | cons p Z ih =>
      intro h
      show eqHits (dk D.int Y) ((Sum.inr p.1, D.int p.2) :: dk D.int Z) = _
      unfold eqHits
      rw [valD_dk, lkp_of n2 (h p List.mem_cons_self), ih fun q hq => h q (List.mem_cons_of_mem _ hq)]
      have : eqPO (D.int p.2) (D.int p.2) = some true := by
        have := eq_self (d := D.int p.2) (p := .int p.2) (fun _ z => by cases z) (by unfold toP; rfl) rfl
        exact this
      show (match eqPO (D.int p.2) (D.int p.2), some true with
        | some b, some c => some (b && c)
        | _, _ => none) = _
      rw [this]
      rfl
  exact hs X fun p hp => (h1 p).mp hp
end VL
namespace VL
open PySem PySem.Spec PyProof.Rows L2
variable [Tb]
local macro_rules | `(tactic| walk_at "w") => `(tactic| first | with_reducible refine St'.h ?_ | with_reducible refine len_of (by with_unfolding_all rfl) ?_ | with_reducible refine ⟨(by with_unfolding_all exact Eq.refl _), ?_⟩ | with_reducible refine w_ixL (by with_unfolding_all rfl) ?_ | with_reducible refine w_mulI (by decide) ?_ | with_reducible refine w_divI (by decide) ?_ | with_reducible refine w_modI (by decide) ?_ | with_reducible refine w_powI (by decide) ?_)
local macro_rules | `(tactic| walk_at "ws") => `(tactic| repeat (walk_at "w"))
local macro_rules | `(tactic| walk_at "wt") => `(tactic| repeat (first | walk_at "w" | with_reducible refine w_ifT (by with_unfolding_all exact Eq.refl _) ?_ | with_reducible refine w_ifF (by with_unfolding_all exact Eq.refl _) ?_))
/-! ### provisions: how many are needed -/
def need (L : LL) (f : Str → Int) (x : Str) : Int := (L.map fun p => f p.1 * val p.2 x).sum
theorem need_congr {L : LL} {f g : Str → Int} {x : Str} (h : ∀ p ∈ L, x ∈ ks p.2 → f p.1 = g p.1) : need L f x = need L g x := by
  unfold need
  refine congrArg List.sum (List.map_congr_left fun p hp => ?_)
  by_cases e : x ∈ ks p.2
  · rw [h p hp e]
  · rw [val_none e, Int.mul_zero, Int.mul_zero]
/-- what a provision holds of one name, told by what it holds of the others -/
def due1 (o s : Ls) (L : LL) (f : Str → Int) (x : Str) : Int := if val o x + need L f x - val s x > 0 then val o x + need L f x - val s x else 0
def Pv (K : List Str) (o s : Ls) (L : LL) (f : Str → Int) : Prop := ∀ x ∈ K, f x = due1 o s L f x
theorem pv_uniq {K : List Str} {o s : Ls} {L : LL} {r : Str → Nat} {B : Nat} {f g : Str → Int} (hn : (ks L).Nodup) (hr : Rk L r) (hB : ∀ x, r x ≤ B) (hk : ∀ x ∈ ks L, x ∈ K) (h1 : Pv K o s L f) (h2 : Pv K o s L g) : ∀ (n : Nat) (x : Str), B < r x + n → x ∈ K → f x = g x
  | 0, x, h, _ => by have := hB x; omega
  | n + 1, x, h, hx => by
    rw [h1 x hx, h2 x hx]
    have : need L f x = need L g x := need_congr fun p hp he => by
      obtain ⟨q, hq, e⟩ := List.mem_map.mp he
      have hlt := hr p.1 p.2 (lkp_of hn hp) q hq
      rw [e] at hlt
      exact pv_uniq hn hr hB hk h1 h2 n p.1 (by omega) (hk p.1 (ks_mem hp))
    unfold due1
    rw [this]
/-- one more name is told -/
theorem need_put {L : LL} {F : Ls} {a x : Str} {v : Int} (hn : (ks L).Nodup) (ha : a ∉ ks F) : need L (val (put F a v)) x = need L (val F) x + v * val ((lkp L a).getD []) x := by
  have h0 : val F a = 0 := val_none ha
  unfold need
  induction L with
  | nil => show (0 : Int) = 0 + v * 0; omega
  | cons p L ih =>
    obtain ⟨n1, n2⟩ := List.nodup_cons.mp (show (p.1 :: ks L).Nodup from hn)
    rw [List.map_cons, List.map_cons, List.sum_cons, List.sum_cons, ih n2, lkp_cons, val_put]
    by_cases e : p.1 = a
    · rw [if_pos e, if_pos e]
      have e2 : lkp L a = none := lkp_none.mpr (by rw [← e]; exact n1)
      rw [e2, e, h0]
      show v * val p.2 x + ((L.map fun p => val F p.1 * val p.2 x).sum + v * 0) = 0 * val p.2 x + (L.map fun p => val F p.1 * val p.2 x).sum + v * val p.2 x
      rw [Int.zero_mul, Int.mul_zero]
      omega
    · rw [if_neg e, if_neg e]
      omega
theorem need_bd {L : LL} {f : Str → Int} {x : Str} {c : Nat} (hf : ∀ y, (f y).natAbs ≤ 2 ^ c) (hv : ∀ p ∈ L, (val p.2 x).natAbs ≤ 2 ^ 20) (hl : L.length ≤ 8) : (need L f x).natAbs ≤ 2 ^ (c + 23) := by
  have key : ∀ L : LL, (∀ p ∈ L, (val p.2 x).natAbs ≤ 2 ^ 20) → (need L f x).natAbs ≤ L.length * 2 ^ (c + 20) := by
    intro L
    induction L with
    | nil => intro _; exact Nat.zero_le _
    | cons p L ih =>
      intro h
      have h1 := ih fun q hq => h q (List.mem_cons_of_mem _ hq)
      have h2 := h p List.mem_cons_self
      unfold need at h1 ⊢
      rw [List.map_cons, List.sum_cons, List.length_cons, Nat.add_mul, Nat.one_mul]
      have h3 : (f p.1 * val p.2 x).natAbs ≤ 2 ^ (c + 20) := by
        rw [Int.natAbs_mul, Nat.pow_add]
        exact Nat.mul_le_mul (hf p.1) h2
      have h4 := Int.natAbs_add_le (f p.1 * val p.2 x) (L.map fun p => f p.1 * val p.2 x).sum
      generalize 2 ^ (c + 20) = z at h1 h3 ⊢
      generalize L.length * z = z2 at h1 ⊢
      omega
  have h1 := key L hv
  have h2 : L.length * 2 ^ (c + 20) ≤ 2 ^ (c + 23) := by
    have h8 : (2 : Nat) ^ (c + 23) = 8 * 2 ^ (c + 20) := by
      rw [show c + 23 = 3 + (c + 20) by omega, Nat.pow_add 2 3 (c + 20)]
    rw [h8]
    exact Nat.mul_le_mul_right _ hl
  exact Nat.le_trans h1 h2
end VL
namespace VL
open PySem PySem.Spec PyProof.Rows L2
variable [Tb]
local macro_rules | `(tactic| walk_at "w") => `(tactic| first | with_reducible refine St'.h ?_ | with_reducible refine len_of (by with_unfolding_all rfl) ?_ | with_reducible refine ⟨(by with_unfolding_all exact Eq.refl _), ?_⟩ | with_reducible refine w_ixL (by with_unfolding_all rfl) ?_ | with_reducible refine w_mulI (by decide) ?_ | with_reducible refine w_divI (by decide) ?_ | with_reducible refine w_modI (by decide) ?_ | with_reducible refine w_powI (by decide) ?_)
local macro_rules | `(tactic| walk_at "ws") => `(tactic| repeat (walk_at "w"))
local macro_rules | `(tactic| walk_at "wt") => `(tactic| repeat (first | walk_at "w" | with_reducible refine w_ifT (by with_unfolding_all exact Eq.refl _) ?_ | with_reducible refine w_ifF (by with_unfolding_all exact Eq.refl _) ?_))
section
variable {α : Type} {e e' : En} {P : D → En → Prop} {X : Xn → En → Prop} {i : Nat}
theorem w_itemsK {f : α → D} {l : List (Str × α)} {P : List D → En → Prop} (p : P (l.map fun p => .tup [.str p.1, f p.2]) e) : W (lift (itemsOf (.dk (dk f l))) e) P X := by
  have e1 : (l.map fun p => D.tup [.str p.1, f p.2]) = (dk f l).map fun p => D.tup [keyV p.1, p.2] := by
    unfold dk
    rw [List.map_map]
    rfl
  rw [e1] at p
  exact p
theorem w_agetK {f : α → D} {l : List (Str × α)} {z : Str} {v : α} (h : lkp l z = some v) (p : P (f v) e) : W (lift ((dgetD (.dk (dk f l)) (.str z)).bind id) e) P X := by
  show W (lift (valD (dk f l) (Sum.inr z)) e) P X
  rw [valD_dk, h]
  exact p
theorem w_sortK {f : α → D} {l : List (Str × α)} (h : l.length < 64) (p : P (sL (sortS (ks l))) e) : W (sortedD [.dk (dk f l)] e) P X := w_ok (sorted_dk f h) p
theorem w_allP {γ : Type} {xs : List γ} (b : γ → Bool) (p : P (.bl (xs.all b)) e) : W (allD [.lst (xs.map fun a => D.bl (b a))] e) P X := by
  have e1 : (xs.map fun a => D.bl (b a)) = (xs.map b).map D.bl := by rw [List.map_map]; rfl
  have e2 : (xs.map b).all id = xs.all b := by rw [List.all_map]; rfl
  rw [e1]
  refine w_allL ?_
  rw [e2]
  exact p
theorem w_getL {L : LL} {z : Str} (p : P (dI ((lkp L z).getD [])) e) : W (lift ((dgetD (dL L) (.str z)).map fun r => r.getD (.dk [])) e) P X := by
  refine w_getK ?_
  have : ((lkp L z).map dI).getD (.dk []) = dI ((lkp L z).getD []) := by cases lkp L z <;> rfl
  rw [this]
  exact p
end
/-- orders, a stock -/
structure Cnt (L : LL) (o : Ls) : Prop where
  nd : (ks o).Nodup
  sub : ∀ x ∈ ks o, x ∈ kn L
  lo : ∀ p ∈ o, 0 ≤ p.2 ∧ p.2 ≤ 1000000000
theorem Cnt.val {L : LL} {o : Ls} (h : Cnt L o) (x : Str) : 0 ≤ VL.val o x ∧ VL.val o x ≤ 1000000000 := by
  by_cases e : x ∈ ks o
  · obtain ⟨p, hp, rfl⟩ := List.mem_map.mp e
    rw [val_of h.nd hp]
    exact h.lo p hp
  · rw [val_none e]
    exact ⟨Int.le_refl _, by decide⟩
/-- lists, with all that is told of them -/
structure Lay (nm : List Str) (r : Str → Nat) (L : LL) (T : Ls) (K2 : List Str) (T2 : Ls) : Prop where
  hnm : NmOk nm
  fit : Fit nm r L
  few : L.length ≤ 8
  nm9 : nm.length ≤ 9
  r9 : ∀ x, r x ≤ 9
  hkn : m_known_in [dL L] = .ok (sL (kn L)) []
  hT : m_levels_in [dL L] = .ok (dI T) []
  lv : Lv L (kn L) T
  all : ∀ x ∈ kn L, x ∈ ks T
  hK2 : m__law_ls_known [dL L] = .ok (sL K2) []
  k2nd : K2.Nodup
  k2 : ∀ z, z ∈ K2 ↔ z ∈ kn L
  hT2 : m__law_ls_levels [dL L] = .ok (dI T2) []
  lw : Lw L K2 T2
  all2 : ∀ x ∈ K2, x ∈ ks T2
section
variable {nm : List Str} {r : Str → Nat} {L : LL} {T : Ls} {K2 : List Str} {T2 : Ls}
theorem Lay.kn9 (y : Lay nm r L T K2 T2) : (kn L).length ≤ 9 := Nat.le_trans (kn_len y.fit.toGood) y.nm9
theorem Lay.ok (y : Lay nm r L T K2 T2) : okS (kn L) := fun x hx => (y.hnm x (kn_sub y.fit.toGood x hx)).1
theorem Lay.lists (y : Lay nm r L T K2 T2) : m_require_lists [dL L] = .ok .non [] := by
  have g := y.fit.toGood
  have hlen : ∀ p ∈ L, 1 ≤ p.2.length := fun p hp => List.length_pos_iff.mpr (g.ne p.1 p.2 (lkp_of g.nd hp))
  exact ev_require_lists (ev_are_lists y.hnm y.fit.lo y.fit.hi g.kn fun p hp => ⟨hlen p hp, y.fit.lh p hp, fun x hx => kn_sub g x (mem_kn.mpr (.inr ⟨p, hp, hx⟩)), fun q hq => ⟨(g.li p.1 p.2 (lkp_of g.nd hp) q hq).2, y.fit.cnt p hp q hq⟩⟩)
theorem Lay.sub (y : Lay nm r L T K2 T2) : ∀ x ∈ ks L, x ∈ kn L := fun x hx => mem_kn.mpr (.inl hx)
theorem Lay.noring (y : Lay nm r L T K2 T2) : m_require_no_ring [dL L] = .ok .non [] := ev_no_ring (ev_ring y.sub (by have := y.few; omega) y.hT y.all)
theorem Lay.t9 (y : Lay nm r L T K2 T2) : T.length ≤ 9 := by
  have h1 := nd_len y.lv.nd y.lv.sub
  have h2 : (ks T).length = T.length := List.length_map _
  have := y.kn9
  omega
theorem Lay.ord (y : Lay nm r L T K2 T2) : m_by_levels [dL L] = .ok (sL (ordT T)) [] := ev_by_levels y.hT y.lv.nd (by have := y.t9; show T.length ≤ 16777216; omega)
theorem Lay.topo (y : Lay nm r L T K2 T2) : Topo L [] (ordT T) := ordT_topo y.lv y.all (kn_cl L)
theorem Lay.ordm (y : Lay nm r L T K2 T2) : ∀ x, x ∈ ordT T ↔ x ∈ kn L := fun x => ordT_perm.mem_iff.trans ⟨y.lv.sub x, y.all x⟩
theorem Lay.v20 (y : Lay nm r L T K2 T2) : ∀ p ∈ L, ∀ x, (VL.val p.2 x).natAbs ≤ 2 ^ 20 := fun p hp x => by
  have g := y.fit.toGood
  have hl := lkp_of g.nd hp
  by_cases e : x ∈ ks p.2
  · obtain ⟨q, hq, rfl⟩ := List.mem_map.mp e
    rw [val_of (g.ln _ _ hl) hq]
    have h1 := (g.li _ _ hl q hq).2
    have h2 := y.fit.cnt p hp q hq
    omega
  · rw [val_none e]; exact Nat.zero_le _
theorem ev_counts (y : Lay nm r L T K2 T2) {o : Ls} (h : Cnt L o) : m_are_counts [dL L, dI o] = .ok (.bl true) [] := by
  have hol : o.length ≤ line := by
    have h1 := nd_len h.nd h.sub
    have h2 : (ks o).length = o.length := List.length_map _
    have := y.kn9
    show o.length ≤ 16777216
    omega
  have okK := y.ok
  refine Eq.trans ?_ rfl
  have : FW (m_are_counts [dL L, dI o]) (fun r os => r = .bl true ∧ os = []) QX0 := by
    unfold m_are_counts
    with_reducible refine fw_run ?_
    show W (b_are_counts [.fz (dL L), .fz (dI o), .un, .un, .un]) _ _
    unfold b_are_counts
    walk_at "wt"
    with_reducible refine w_dok y.hkn ?_
    walk_at "wt"
    with_reducible refine w_iterK ?_
    with_reducible refine w_lcm inferInstance D.str (fun _ => D.bl true) (ks o) (fun x hx => ⟨_, sm_h, wi_h, ?_⟩) ?_
    · have hxo := okK x (h.sub x hx)
      walk_at "wt"
      with_reducible refine w_in (inO_sL okK hxo) ?_
      refine ⟨?_, wi_h⟩
      rw [decide_eq_true (h.sub x hx)]
    refine ⟨by rw [List.length_map, show (ks o).length = o.length from List.length_map _]; exact hol, ?_⟩
    walk_at "wt"
    with_reducible refine w_allP (fun _ => true) ?_
    rw [List.all_eq_true.mpr fun _ _ => rfl]
    walk_at "wt"
    with_reducible refine w_valsK ?_
    with_reducible refine w_lcm inferInstance D.int (fun _ => D.bl true) _ (fun v hv => ?_) ?_
    · refine ⟨_, sm_h, wi_h, ?_⟩
      obtain ⟨p, hp, rfl⟩ := List.mem_map.mp hv
      obtain ⟨h1, h2⟩ := h.lo p hp
      walk_at "wt"
      with_reducible refine w_dok (ev_int p.2) ?_
      walk_at "wt"
      refine w_ifT (decide_eq_true h1) ?_
      walk_at "wt"
      refine ⟨?_, wi_h⟩
      rw [decide_eq_true h2]
    refine ⟨by rw [List.length_map, List.length_map]; exact hol, ?_⟩
    walk_at "wt"
    with_reducible refine w_allP (fun _ => true) ?_
    rw [List.all_eq_true.mpr fun _ _ => rfl]
    walk_at "wt"
    exact ep_rt rfl ⟨rfl, rfl⟩
  obtain ⟨d, os, h1, rfl, rfl⟩ := this.of
  exact h1
end
end VL
namespace VL
open PySem PySem.Spec PyProof.Rows L2
variable [Tb]
local macro_rules | `(tactic| walk_at "w") => `(tactic| first | with_reducible refine St'.h ?_ | with_reducible refine len_of (by with_unfolding_all rfl) ?_ | with_reducible refine ⟨(by with_unfolding_all exact Eq.refl _), ?_⟩ | with_reducible refine w_ixL (by with_unfolding_all rfl) ?_ | with_reducible refine w_mulI (by decide) ?_ | with_reducible refine w_divI (by decide) ?_ | with_reducible refine w_modI (by decide) ?_ | with_reducible refine w_powI (by decide) ?_)
local macro_rules | `(tactic| walk_at "ws") => `(tactic| repeat (walk_at "w"))
local macro_rules | `(tactic| walk_at "wt") => `(tactic| repeat (first | walk_at "w" | with_reducible refine w_ifT (by with_unfolding_all exact Eq.refl _) ?_ | with_reducible refine w_ifF (by with_unfolding_all exact Eq.refl _) ?_))
section
variable {nm : List Str} {r : Str → Nat} {L : LL} {T : Ls} {K2 : List Str} {T2 : Ls}
theorem ev_reqP (y : Lay nm r L T K2 T2) {o s : Ls} (ho : Cnt L o) (hs : Cnt L s) : m_require_provision [dL L, dI o, dI s] = .ok .non [] := by
  have h1 := y.lists
  have h2 := ev_counts y ho
  have h3 := ev_counts y hs
  have h4 := y.noring
  have : FW (m_require_provision [dL L, dI o, dI s]) (fun r os => r = .non ∧ os = []) QX0 := by
    unfold m_require_provision
    with_reducible refine fw_run ?_
    show W (b_require_provision [.fz (dL L), .fz (dI o), .fz (dI s)]) _ _
    unfold b_require_provision
    walk_at "wt"
    with_reducible refine w_dok h1 ?_
    walk_at "wt"
    with_reducible refine w_dok h2 ?_
    walk_at "wt"
    with_reducible refine w_dok h3 ?_
    walk_at "wt"
    with_reducible refine w_dok h4 ?_
    walk_at "wt"
    exact ep_nx rfl ⟨rfl, rfl⟩
  obtain ⟨d, os, h1, rfl, rfl⟩ := this.of
  exact h1
theorem sum_zero {α : Type} : ∀ L : List α, (L.map fun _ => (0 : Int)).sum = 0
  | [] => rfl
  | p :: L => by rw [List.map_cons, List.sum_cons, sum_zero L]; rfl
/-- how far the run has come -/
structure Run (L : LL) (o s : Ls) (pre : List Str) (Wt F : Ls) : Prop where
  kw : ks Wt = kn L
  kf : ks F = pre
  wv : ∀ x ∈ kn L, val Wt x = val o x + need L (val F) x
  fv : ∀ x ∈ pre, val F x = due1 o s L (val F) x
  nn : ∀ x, 0 ≤ val F x
  bd : ∀ x, (val F x).natAbs ≤ 2 ^ (30 + 24 * pre.length)
theorem Run.wbd (y : Lay nm r L T K2 T2) {o s Wt F : Ls} {pre : List Str} (ho : Cnt L o) (h : Run L o s pre Wt F) : ∀ x ∈ kn L, (val Wt x).natAbs ≤ 2 ^ (30 + 24 * (pre.length + 1)) := fun x hx => by
  have h1 := need_bd (x := x) h.bd (fun p hp => y.v20 p hp x) y.few
  have h2 := ho.val x
  rw [h.wv x hx]
  have h3 : (val o x).natAbs ≤ 2 ^ 30 := by omega
  have h4 := Int.natAbs_add_le (val o x) (need L (val F) x)
  have h5 : (2 : Nat) ^ 30 ≤ 2 ^ (30 + 24 * pre.length + 23) := Nat.pow_le_pow_right (by decide) (by omega)
  have h6 : (2 : Nat) ^ (30 + 24 * (pre.length + 1)) = 2 * 2 ^ (30 + 24 * pre.length + 23) := by
    rw [show 30 + 24 * (pre.length + 1) = 1 + (30 + 24 * pre.length + 23) by omega, Nat.pow_add 2 1]
  rw [h6]
  generalize (2 : Nat) ^ (30 + 24 * pre.length + 23) = z at h1 h5 ⊢
  omega
theorem due_bd {L : LL} {o s : Ls} {Wt F : Ls} {x : Str} {n : Nat} (hs : Cnt L s) (hw : val Wt x = val o x + need L (val F) x) (hb : (val Wt x).natAbs ≤ 2 ^ n) : 0 ≤ due1 o s L (val F) x ∧ (due1 o s L (val F) x).natAbs ≤ 2 ^ n := by
  have := hs.val x
  unfold due1
  rw [← hw]
  split <;> omega
/-- one more name -/
theorem Run.next (y : Lay nm r L T K2 T2) {o s Wt F : Ls} {pre : List Str} {a : Str} (ho : Cnt L o) (hs : Cnt L s) (h : Run L o s pre Wt F) (ha : a ∈ kn L) (hpre : a ∉ pre) (htop : ∀ ls, lkp L a = some ls → ∀ p ∈ ls, p.1 ∉ pre ∧ p.1 ≠ a) :
    Run L o s (pre ++ [a]) (addAll Wt ((lkp L a).getD []) (due1 o s L (val F) a)) (put F a (due1 o s L (val F) a)) := by
  have g := y.fit.toGood
  have haF : a ∉ ks F := by rw [h.kf]; exact hpre
  have hb := due_bd (o := o) hs (h.wv a ha) (h.wbd y ho a ha)
  generalize hv : due1 o s L (val F) a = v at hb
  have hnp : ∀ x, need L (val (put F a v)) x = need L (val F) x + v * val ((lkp L a).getD []) x := fun x => need_put g.nd haF
  have hz : ∀ x, x ∈ pre ∨ x = a → val ((lkp L a).getD []) x = 0 := fun x hx => by
    cases e : lkp L a with
    | none => rfl
    | some ls =>
      show val ls x = 0
      refine val_none fun z => ?_
      obtain ⟨p, hp, rfl⟩ := List.mem_map.mp z
      obtain ⟨q1, q2⟩ := htop ls e p hp
      rcases hx with hx | hx
      · exact q1 hx
      · exact q2 hx
  have hln : (ks ((lkp L a).getD [])).Nodup := by
    cases e : lkp L a with
    | none => exact List.nodup_nil
    | some ls => exact g.ln _ _ e
  have hlk : ∀ p ∈ (lkp L a).getD [], p.1 ∈ ks Wt := fun p hp => by
    cases e : lkp L a with
    | none => rw [e] at hp; cases hp
    | some ls =>
      rw [e] at hp
      rw [h.kw]
      exact kn_cl L a ls e p hp
  have hpow : (2 : Nat) ^ (30 + 24 * pre.length) ≤ 2 ^ (30 + 24 * (pre.length + 1)) := Nat.pow_le_pow_right (by decide) (by omega)
  refine ⟨by rw [ks_addAll hlk]; exact h.kw, by rw [ks_put_new haF, h.kf], fun x hx => ?_, fun x hx => ?_, fun x => ?_, fun x => ?_⟩
  · rw [val_addAll' hln, hnp, h.wv x hx]; omega
  · have e1 : need L (val (put F a v)) x = need L (val F) x := by
      rw [hnp, hz x (by
        rcases List.mem_append.mp hx with q | q
        · exact .inl q
        · exact .inr (List.mem_singleton.mp q))]
      omega
    unfold due1
    rw [e1, val_put]
    by_cases e : x = a
    · rw [if_pos e, e]
      exact hv.symm
    · rw [if_neg e]
      refine h.fv x ?_
      rcases List.mem_append.mp hx with q | q
      · exact q
      · exact absurd (List.mem_singleton.mp q) e
  · rw [val_put]
    split
    · exact hb.1
    · exact h.nn x
  · rw [val_put, List.length_append]
    split
    · exact hb.2
    · exact Nat.le_trans (h.bd x) hpow
def prX (F : Ls) : Ls := ((sortS (ks F)).filter fun z => decide (0 < val F z)).map fun z => (z, val F z)
theorem ev_provision (y : Lay nm r L T K2 T2) {o s : Ls} (ho : Cnt L o) (hs : Cnt L s) :
    FW (m_provision [dL L, dI o, dI s]) (fun r os => ∃ (X : Ls) (f : Str → Int), r = dI X ∧ os = [] ∧ Pv (kn L) o s L f ∧ (∀ x, 0 ≤ f x) ∧ (ks X).Nodup ∧ X.Pairwise (fun p q => leS p.1 q.1) ∧ ∀ p, p ∈ X ↔ p.1 ∈ kn L ∧ 0 < f p.1 ∧ p.2 = f p.1) QX0 := by
  have g := y.fit.toGood
  have hr := ev_reqP y ho hs
  have k9 := y.kn9
  have okK := y.ok
  have knd := kn_nd L
  unfold m_provision
  with_reducible refine fw_run ?_
  show W (b_provision [.fz (dL L), .fz (dI o), .fz (dI s), .un, .un, .un, .un, .un, .un]) _ _
  unfold b_provision
  walk_at "wt"
  with_reducible refine w_dok hr ?_
  walk_at "wt"
  have hkn := y.hkn
  with_reducible refine w_dok hkn ?_
  walk_at "wt"
  with_reducible refine w_iterL ?_
  have knl : (kn L).length < line := by show _ < 16777216; omega
  with_reducible refine w_dcp inferInstance D.int (kn L) (fun _ => true) (fun x => val o x) knd knl (fun x hx => ⟨_, sm_h, ?_⟩) ?_
  · refine ⟨rfl, wi_h, fun _ => ?_⟩
    walk_at "wt"
    with_reducible refine w_getI ?_
    exact ⟨rfl, wi_h⟩
  rw [filter_tt]
  walk_at "wt"
  have hord := y.ord
  with_reducible refine w_dok hord ?_
  walk_at "wt"
  with_reducible refine w_iterL ?_
  have htopo := y.topo
  have hordm := y.ordm
  have hond : (ordT T).Nodup := ordT_nd y.lv.nd
  have hol : (ordT T).length ≤ 9 := Nat.le_trans (nd_len hond fun x hx => (hordm x).mp hx) k9
  generalize ordT T = ord at htopo hordm hond hol
  have htp : ∀ (ord done : List Str), Topo L done ord → ∀ (pre : List Str) (a : Str) (post : List Str), ord = pre ++ a :: post → (a ∉ done ∧ a ∉ pre) ∧ ∀ ls, lkp L a = some ls → ∀ p ∈ ls, (p.1 ∉ done ∧ p.1 ∉ pre) ∧ p.1 ≠ a := by
    intro ord
    induction ord with
    | nil => intro done _ pre a post e; cases pre <;> cases e
    | cons k ord ih =>
      intro done ht pre a post e
      obtain ⟨t1, t2, t3⟩ := ht
      cases pre with
      | nil =>
        cases e
        exact ⟨⟨t1, fun z => (by cases z)⟩, fun ls e2 p hp => ⟨⟨(t2 ls e2 p hp).1, fun z => (by cases z)⟩, (t2 ls e2 p hp).2⟩⟩
      | cons k' pre =>
        cases e
        obtain ⟨q1, q2⟩ := ih (k :: done) t3 pre a post rfl
        refine ⟨⟨fun z => q1.1 (List.mem_cons_of_mem _ z), fun z => ?_⟩, fun ls e2 p hp => ⟨⟨fun z => (q2 ls e2 p hp).1.1 (List.mem_cons_of_mem _ z), fun z => ?_⟩, (q2 ls e2 p hp).2⟩⟩
        · rcases List.mem_cons.mp z with rfl | z
          · exact q1.1 List.mem_cons_self
          · exact q1.2 z
        · rcases List.mem_cons.mp z with z | z
          · exact (q2 ls e2 p hp).1.1 (by rw [z]; exact List.mem_cons_self)
          · exact (q2 ls e2 p hp).1.2 z
  with_reducible refine w_forI D.str ord (fun pre e => ∃ (Wt F : Ls) (s5 s6 s7 : Sl), e = [.fz (dL L), .fz (dI o), .fz (dI s), .ow (dI Wt), .ow (dI F), s5, s6, s7, .un] ∧ Run L o s pre Wt F) ?_ (fun pre a post e hx hI => ?_) (fun e hI => ?_)
  · refine ⟨(kn L).map fun a => (a, val o a), [], _, _, _, rfl, ?_, rfl, fun x hx => ?_, fun x hx => (by cases hx), fun x => Int.le_refl _, fun x => Nat.zero_le _⟩
    · show ((kn L).map fun a => (a, val o a)).map (·.1) = _
      rw [List.map_map]
      exact List.map_id'' (fun _ => rfl) _
    · have e1 : val ((kn L).map fun a => (a, val o a)) x = val o x := by
        have hm : (x, val o x) ∈ (kn L).map fun a => (a, val o a) := List.mem_map.mpr ⟨x, hx, rfl⟩
        have hnd : (ks ((kn L).map fun a => (a, val o a))).Nodup := by
          show (((kn L).map fun a => (a, val o a)).map (·.1)).Nodup
          rw [List.map_map]
          exact (List.map_id'' (fun _ => rfl) (kn L)).symm ▸ knd
        exact val_of hnd hm
      have e2 : need L (val []) x = 0 := by
        unfold need
        have : (L.map fun p => val [] p.1 * val p.2 x) = L.map fun _ => (0 : Int) := List.map_congr_left fun p _ => by show 0 * _ = (0 : Int); rw [Int.zero_mul]
        rw [this]
        exact sum_zero L
      rw [e1, e2]
      omega
  · obtain ⟨Wt, F, s5, s6, s7, rfl, hR⟩ := hI
    have ha : a ∈ kn L := (hordm a).mp (by rw [hx]; exact List.mem_append_right _ List.mem_cons_self)
    obtain ⟨⟨_, hpre⟩, htop⟩ := htp ord [] htopo pre a post hx
    have hN := hR.next y ho hs ha hpre fun ls e p hp => ⟨(htop ls e p hp).1.2, (htop ls e p hp).2⟩
    have hdue := hR.wv a ha
    have hdb := due_bd (o := o) hs hdue (hR.wbd y ho a ha)
    have hpl : pre.length + 1 ≤ 9 := by
      have := congrArg List.length hx
      rw [List.length_append, List.length_cons] at this
      omega
    have haW : lkp Wt a = some (val Wt a) := lkp_val (by rw [hR.kw]; exact ha)
    have hFl : F.length < line := by
      have : (ks F).length = F.length := List.length_map _
      rw [hR.kf] at this
      show F.length < 16777216
      omega
    refine ⟨_, sm_h, ?_⟩
    walk_at "wt"
    with_reducible refine w_ixK (f := D.int) haW ?_
    walk_at "wt"
    with_reducible refine w_getI ?_
    walk_at "wt"
    have hval : (if val Wt a - val s a > 0 then val Wt a - val s a else 0) = due1 o s L (val F) a := by
      unfold due1
      rw [← hdue]
    rw [hval]
    generalize due1 o s L (val F) a = v at hN hdb
    with_reducible refine w_putK (f := D.int) hFl inferInstance inferInstance ?_
    walk_at "wt"
    with_reducible refine w_getL ?_
    with_reducible refine w_itemsK ?_
    have hcl : ∀ p ∈ (lkp L a).getD [], p.1 ∈ kn L ∧ p.2.natAbs ≤ 2 ^ 20 := fun p hp => by
      cases e : lkp L a with
      | none => rw [e] at hp; cases hp
      | some ls =>
        rw [e] at hp
        have h1 := (g.li a ls e p hp).2
        have h2 := y.fit.cnt (a, ls) (lkp_mem e) p hp
        exact ⟨kn_cl L a ls e p hp, by omega⟩
    have hFa : lkp (put F a v) a = some v := by rw [lkp_put, if_pos rfl]
    generalize hF' : put F a v = F' at hN hFa
    have hkW := hR.kw
    with_reducible refine w_forI (fun p : Str × Int => D.tup [.str p.1, .int p.2]) ((lkp L a).getD []) (fun pre2 e => ∃ (s6 s7 : Sl), e = [.fz (dL L), .fz (dI o), .fz (dI s), .ow (dI (addAll Wt pre2 v)), .ow (dI F'), .fz (.str a), s6, s7, .un] ∧ ks (addAll Wt pre2 v) = kn L) ?_ (fun pre2 b post2 e hx2 hI => ?_) (fun e hI => ?_)
    · exact ⟨_, _, rfl, hkW⟩
    · obtain ⟨s6, s7, rfl, hk2⟩ := hI
      obtain ⟨hb1, hb2⟩ := hcl b (by rw [hx2]; exact List.mem_append_right _ List.mem_cons_self)
      have e3 : addAll Wt (pre2 ++ [b]) v = put (addAll Wt pre2 v) b.1 (val (addAll Wt pre2 v) b.1 + v * b.2) := by
        unfold addAll
        rw [List.foldl_append]
        rfl
      rw [e3]
      generalize addAll Wt pre2 v = W1 at hk2
      have hbW : lkp W1 b.1 = some (val W1 b.1) := lkp_val (by rw [hk2]; exact hb1)
      have hWl : W1.length < line := by
        have : (ks W1).length = W1.length := List.length_map _
        rw [hk2] at this
        show W1.length < 16777216
        omega
      have hlog : v.natAbs.log2 + b.2.natAbs.log2 < 1000000 := by
        have h1 := log2_le hdb.2
        have h2 := log2_le hb2
        omega
      refine ⟨_, sm_h, ?_⟩
      walk_at "wt"
      with_reducible refine w_agetK (f := D.int) hbW ?_
      walk_at "wt"
      with_reducible refine w_ixK (f := D.int) hFa ?_
      walk_at "wt"
      with_reducible refine w_mulI hlog ?_
      walk_at "wt"
      with_reducible refine w_putK (f := D.int) hWl inferInstance inferInstance ?_
      walk_at "wt"
      exact ⟨_, _, rfl, by rw [ks_put_old (by rw [hk2]; exact hb1)]; exact hk2⟩
    obtain ⟨s6, s7, rfl, _⟩ := hI
    walk_at "wt"
    exact ⟨_, _, _, _, _, rfl, hN⟩
  obtain ⟨Wt, F, s5, s6, s7, rfl, hR⟩ := hI
  have hFl : F.length ≤ 9 := by
    have : (ks F).length = F.length := List.length_map _
    rw [hR.kf] at this
    omega
  have hFnd : (ks F).Nodup := by rw [hR.kf]; exact hond
  have hsnd : (sortS (ks F)).Nodup := (sortS_perm _).nodup_iff.mpr hFnd
  have hsl : (sortS (ks F)).length < line := by
    rw [(sortS_perm _).length_eq]
    have : (ks F).length = F.length := List.length_map _
    show _ < 16777216
    omega
  walk_at "wt"
  with_reducible refine w_sortK (f := D.int) (by omega) ?_
  walk_at "wt"
  with_reducible refine w_iterL ?_
  with_reducible refine w_dcp inferInstance D.int (sortS (ks F)) (fun x => decide (0 < val F x)) (fun x => val F x) hsnd hsl (fun x hx => ⟨_, sm_h, ?_⟩) ?_
  · have hxF : lkp F x = some (val F x) := lkp_val (mem_sortS.mp hx)
    walk_at "wt"
    with_reducible refine w_ixK (f := D.int) hxF ?_
    walk_at "wt"
    intro _
    walk_at "wt"
    with_reducible refine w_ixK (f := D.int) hxF ?_
    exact ⟨rfl, wi_h⟩
  walk_at "wt"
  refine ep_rt rfl ⟨prX F, val F, rfl, rfl, fun x hx => hR.fv x ((hordm x).mpr hx), hR.nn, ?_, ?_, fun p => ?_⟩
  · show ((prX F).map (·.1)).Nodup
    unfold prX
    rw [List.map_map]
    exact (List.map_id'' (fun _ => rfl) _).symm ▸ List.Sublist.nodup List.filter_sublist hsnd
  · unfold prX
    rw [List.pairwise_map]
    exact (sortS_sorted _).filter _
  · unfold prX
    rw [List.mem_map]
    constructor
    · rintro ⟨z, hz, rfl⟩
      obtain ⟨h1, h2⟩ := List.mem_filter.mp hz
      have h3 := mem_sortS.mp h1
      rw [hR.kf] at h3
      exact ⟨(hordm z).mp h3, of_decide_eq_true h2, rfl⟩
    · rintro ⟨h1, h2, h3⟩
      refine ⟨p.1, List.mem_filter.mpr ⟨mem_sortS.mpr (by rw [hR.kf]; exact (hordm _).mpr h1), decide_eq_true h2⟩, Prod.ext rfl h3.symm⟩
end
end VL
namespace VL
open PySem PySem.Spec PyProof.Rows L2
variable [Tb]
local macro_rules | `(tactic| walk_at "w") => `(tactic| first | with_reducible refine St'.h ?_ | with_reducible refine len_of (by with_unfolding_all rfl) ?_ | with_reducible refine ⟨(by with_unfolding_all exact Eq.refl _), ?_⟩ | with_reducible refine w_ixL (by with_unfolding_all rfl) ?_ | with_reducible refine w_mulI (by decide) ?_ | with_reducible refine w_divI (by decide) ?_ | with_reducible refine w_modI (by decide) ?_ | with_reducible refine w_powI (by decide) ?_)
local macro_rules | `(tactic| walk_at "ws") => `(tactic| repeat (walk_at "w"))
local macro_rules | `(tactic| walk_at "wt") => `(tactic| repeat (first | walk_at "w" | with_reducible refine w_ifT (by with_unfolding_all exact Eq.refl _) ?_ | with_reducible refine w_ifF (by with_unfolding_all exact Eq.refl _) ?_))
theorem w_sumP {γ : Type} {xs : List γ} {e : En} {P : D → En → Prop} {X : Xn → En → Prop} (b : γ → Int) (p : P (.int (xs.map b).sum) e) : W (sumD [.lst (xs.map fun a => D.int (b a))] e) P X := by
  have e1 : (xs.map fun a => D.int (b a)) = (xs.map b).map D.int := by rw [List.map_map]; rfl
  rw [e1]
  exact w_sumL p
section
variable {nm : List Str} {r : Str → Nat} {L : LL} {T : Ls} {K2 : List Str} {T2 : Ls}
theorem need_ks {f : Str → Int} {x : Str} (hn : (ks L).Nodup) : ((ks L).map fun k => f k * val ((lkp L k).getD []) x).sum = need L f x := by
  unfold need
  refine congrArg List.sum ?_
  show List.map _ (L.map (·.1)) = _
  rw [List.map_map]
  refine List.map_congr_left fun p hp => ?_
  show f p.1 * val ((lkp L p.1).getD []) x = _
  rw [lkp_of hn hp]
  rfl
theorem ev_needs (y : Lay nm r L T K2 T2) {o t : Ls} {c : Nat} (hb : ∀ x, (val t x).natAbs ≤ 2 ^ c) (hc : c ≤ 500000) :
    FW (m__law_needs [dL L, dI o, dI t]) (fun r os => ∃ N : Ls, r = dI N ∧ os = [] ∧ ks N = K2 ∧ ∀ x ∈ K2, val N x = val o x + need L (val t) x) QX0 := by
  have g := y.fit.toGood
  have hK2 := y.hK2
  have hk9 : K2.length ≤ 9 := Nat.le_trans (nd_len y.k2nd fun x hx => (y.k2 x).mp hx) y.kn9
  have hk2nd := y.k2nd
  unfold m__law_needs
  with_reducible refine fw_run ?_
  show W (b__law_needs [.fz (dL L), .fz (dI o), .fz (dI t), .un, .un, .un]) _ _
  unfold b__law_needs
  walk_at "wt"
  with_reducible refine w_dok hK2 ?_
  walk_at "wt"
  with_reducible refine w_iterL ?_
  with_reducible refine w_forI D.str K2 (fun pre e => ∃ (N : Ls) (s4 s5 : Sl), e = [.fz (dL L), .fz (dI o), .fz (dI t), .ow (dI N), s4, s5] ∧ ks N = pre ∧ ∀ x ∈ pre, val N x = val o x + need L (val t) x) ?_ (fun pre a post e hx hI => ?_) (fun e hI => ?_)
  · exact ⟨[], _, _, rfl, rfl, fun x hx => (by cases hx)⟩
  · obtain ⟨N, s4, s5, rfl, hkN, hvN⟩ := hI
    have hpl : pre.length + 1 ≤ 9 := by
      have := congrArg List.length hx
      rw [List.length_append, List.length_cons] at this
      omega
    have ha : a ∉ pre := fun z => by
      rw [hx] at hk2nd
      exact (List.nodup_append.mp hk2nd).2.2 a z a List.mem_cons_self rfl
    refine ⟨_, sm_h, ?_⟩
    walk_at "wt"
    with_reducible refine w_getI ?_
    walk_at "wt"
    with_reducible refine w_iterK ?_
    with_reducible refine w_lcm inferInstance D.str (fun k => D.int (val t k * val ((lkp L k).getD []) a)) (ks L) (fun k hk => ⟨_, sm_h, wi_h, ?_⟩) ?_
    · obtain ⟨ls, hls⟩ := lkp_of_mem_ks hk
      walk_at "wt"
      with_reducible refine w_getI ?_
      walk_at "wt"
      with_reducible refine w_ixK (f := dI) hls ?_
      walk_at "wt"
      with_reducible refine w_getI ?_
      walk_at "wt"
      have hlog : (val t k).natAbs.log2 + (val ls a).natAbs.log2 < 1000000 := by
        have h1 := log2_le (hb k)
        have h2 := log2_le (y.v20 (k, ls) (lkp_mem hls) a)
        dsimp only at h2
        omega
      with_reducible refine w_mulI hlog ?_
      refine ⟨?_, wi_h⟩
      rw [hls]
      rfl
    have hLl : L.length ≤ 8 := y.few
    refine ⟨by rw [List.length_map, show (ks L).length = L.length from List.length_map _]; show _ ≤ 16777216; omega, ?_⟩
    walk_at "wt"
    with_reducible refine w_sumP (fun k => val t k * val ((lkp L k).getD []) a) ?_
    rw [need_ks g.nd]
    walk_at "wt"
    have hNl : N.length < line := by
      have : (ks N).length = N.length := List.length_map _
      rw [hkN] at this
      show N.length < 16777216
      omega
    with_reducible refine w_putK (f := D.int) hNl inferInstance inferInstance ?_
    walk_at "wt"
    refine ⟨_, _, _, rfl, by rw [ks_put_new (by rw [hkN]; exact ha), hkN], fun x hx => ?_⟩
    rw [val_put]
    by_cases e : x = a
    · rw [if_pos e, e]
    · rw [if_neg e]
      rcases List.mem_append.mp hx with q | q
      · exact hvN x q
      · exact absurd (List.mem_singleton.mp q) e
  obtain ⟨N, s4, s5, rfl, hkN, hvN⟩ := hI
  walk_at "wt"
  exact ep_rt rfl ⟨N, rfl, rfl, hkN, hvN⟩
theorem ev_needs_L (y : Lay nm r L T K2 T2) {o t : Ls} {c : Nat} (hb : ∀ x, (val t x).natAbs ≤ 2 ^ c) (hc : c ≤ 500000) :
    FW (m__law_needs_L [dL L, dI o, dI t]) (fun r os => ∃ N : Ls, r = dI N ∧ os = [dI t] ∧ ks N = K2 ∧ ∀ x ∈ K2, val N x = val o x + need L (val t) x) QX0 := by
  have g := y.fit.toGood
  have hK2 := y.hK2
  have hk9 : K2.length ≤ 9 := Nat.le_trans (nd_len y.k2nd fun x hx => (y.k2 x).mp hx) y.kn9
  have hk2nd := y.k2nd
  unfold m__law_needs_L
  with_reducible refine fw_run ?_
  show W (b__law_needs_L [.fz (dL L), .fz (dI o), .ow (dI t), .un, .un, .un]) _ _
  unfold b__law_needs_L
  walk_at "wt"
  with_reducible refine w_dok hK2 ?_
  walk_at "wt"
  with_reducible refine w_iterL ?_
  with_reducible refine w_forI D.str K2 (fun pre e => ∃ (N : Ls) (s4 s5 : Sl), e = [.fz (dL L), .fz (dI o), .ow (dI t), .ow (dI N), s4, s5] ∧ ks N = pre ∧ ∀ x ∈ pre, val N x = val o x + need L (val t) x) ?_ (fun pre a post e hx hI => ?_) (fun e hI => ?_)
  · exact ⟨[], _, _, rfl, rfl, fun x hx => (by cases hx)⟩
  · obtain ⟨N, s4, s5, rfl, hkN, hvN⟩ := hI
    have hpl : pre.length + 1 ≤ 9 := by
      have := congrArg List.length hx
      rw [List.length_append, List.length_cons] at this
      omega
    have ha : a ∉ pre := fun z => by
      rw [hx] at hk2nd
      exact (List.nodup_append.mp hk2nd).2.2 a z a List.mem_cons_self rfl
    refine ⟨_, sm_h, ?_⟩
    walk_at "wt"
    with_reducible refine w_getI ?_
    walk_at "wt"
    with_reducible refine w_iterK ?_
    with_reducible refine w_lcm inferInstance D.str (fun k => D.int (val t k * val ((lkp L k).getD []) a)) (ks L) (fun k hk => ⟨_, sm_h, wi_h, ?_⟩) ?_
    · obtain ⟨ls, hls⟩ := lkp_of_mem_ks hk
      walk_at "wt"
      with_reducible refine w_getI ?_
      walk_at "wt"
      with_reducible refine w_ixK (f := dI) hls ?_
      walk_at "wt"
      with_reducible refine w_getI ?_
      walk_at "wt"
      have hlog : (val t k).natAbs.log2 + (val ls a).natAbs.log2 < 1000000 := by
        have h1 := log2_le (hb k)
        have h2 := log2_le (y.v20 (k, ls) (lkp_mem hls) a)
        dsimp only at h2
        omega
      with_reducible refine w_mulI hlog ?_
      refine ⟨?_, wi_h⟩
      rw [hls]
      rfl
    have hLl : L.length ≤ 8 := y.few
    refine ⟨by rw [List.length_map, show (ks L).length = L.length from List.length_map _]; show _ ≤ 16777216; omega, ?_⟩
    walk_at "wt"
    with_reducible refine w_sumP (fun k => val t k * val ((lkp L k).getD []) a) ?_
    rw [need_ks g.nd]
    walk_at "wt"
    have hNl : N.length < line := by
      have : (ks N).length = N.length := List.length_map _
      rw [hkN] at this
      show N.length < 16777216
      omega
    with_reducible refine w_putK (f := D.int) hNl inferInstance inferInstance ?_
    walk_at "wt"
    refine ⟨_, _, _, rfl, by rw [ks_put_new (by rw [hkN]; exact ha), hkN], fun x hx => ?_⟩
    rw [val_put]
    by_cases e : x = a
    · rw [if_pos e, e]
    · rw [if_neg e]
      rcases List.mem_append.mp hx with q | q
      · exact hvN x q
      · exact absurd (List.mem_singleton.mp q) e
  obtain ⟨N, s4, s5, rfl, hkN, hvN⟩ := hI
  walk_at "wt"
  exact ep_rt rfl ⟨N, rfl, rfl, hkN, hvN⟩
/-! ### sorted([(levels[one], one) ..]) -/
theorem pOf_lev (p : Str × Int) : pOf (.tup [.int p.2, .str p.1]) = keyT p := by
  unfold pOf
  have : toP (.tup [.int p.2, .str p.1]) = some (.tuple [.int p.2, .str p.1]) := by
    unfold toP toPs toPs toPs toP
    rfl
  rw [this]
  rfl
theorem sortP_lev (T : Ls) : sortP (T.map fun p => D.tup [.int p.2, .str p.1]) = (bySnd T).map fun p => D.tup [.int p.2, .str p.1] := by
  unfold sortP bySnd
  refine (List.map_mergeSort (r := PySem.W.dataLe false keyT) (s := PySem.W.dataLe false pOf) (f := fun p : Str × Int => D.tup [.int p.2, .str p.1]) (l := T) (fun a _ b _ => ?_)).symm
  have e1 : ∀ p : Str × Int, PySem.W.keyToks (pOf (.tup [.int p.2, .str p.1])) = PySem.W.keyToks (keyT p) := fun p => by rw [pOf_lev]
  have e2 : ∀ (k : D → PyData) (x y : D), PySem.W.dataLe false k x y = !(PyProof.Rows.listOrd PyProof.Rows.itemOrd).blt (PySem.W.keyToks (k y)) (PySem.W.keyToks (k x)) := fun _ _ _ => rfl
  have e3 : ∀ (k : Str × Int → PyData) (x y : Str × Int), PySem.W.dataLe false k x y = !(PyProof.Rows.listOrd PyProof.Rows.itemOrd).blt (PySem.W.keyToks (k y)) (PySem.W.keyToks (k x)) := fun _ _ _ => rfl
  rw [e2, e3, e1 a, e1 b]
theorem okSort_lev {T : Ls} (h : T.length ≤ line) : okSort (T.map fun p => D.tup [.int p.2, .str p.1]) = true := by
  unfold okSort
  rw [Bool.and_eq_true, Bool.and_eq_true]
  refine ⟨⟨decide_eq_true (by rw [List.length_map]; exact h), List.all_eq_true.mpr fun d hd => ?_⟩, List.all_eq_true.mpr fun d hd => List.all_eq_true.mpr fun d' hd' => ?_⟩
  · obtain ⟨p, _, rfl⟩ := List.mem_map.mp hd
    rw [pOf_lev]
    have : toP (.tup [.int p.2, .str p.1]) = some (.tuple [.int p.2, .str p.1]) := by
      unfold toP toPs toPs toPs toP
      rfl
    rw [this]
    have hd : (keyT p).depth ≤ 64 := by simp [keyT, PyData.depth, PyData.depthAll]
    rw [decide_eq_true hd]
    rfl
  · obtain ⟨p, _, rfl⟩ := List.mem_map.mp hd
    obtain ⟨p', _, rfl⟩ := List.mem_map.mp hd'
    rw [pOf_lev, pOf_lev]
    exact keyT_alike p p'
end
end VL
namespace VL
open PySem PySem.Spec PyProof.Rows L2
variable [Tb]
local macro_rules | `(tactic| walk_at "w") => `(tactic| first | with_reducible refine St'.h ?_ | with_reducible refine len_of (by with_unfolding_all rfl) ?_ | with_reducible refine ⟨(by with_unfolding_all exact Eq.refl _), ?_⟩ | with_reducible refine w_ixL (by with_unfolding_all rfl) ?_ | with_reducible refine w_mulI (by decide) ?_ | with_reducible refine w_divI (by decide) ?_ | with_reducible refine w_modI (by decide) ?_ | with_reducible refine w_powI (by decide) ?_)
local macro_rules | `(tactic| walk_at "ws") => `(tactic| repeat (walk_at "w"))
local macro_rules | `(tactic| walk_at "wt") => `(tactic| repeat (first | walk_at "w" | with_reducible refine w_ifT (by with_unfolding_all exact Eq.refl _) ?_ | with_reducible refine w_ifF (by with_unfolding_all exact Eq.refl _) ?_))
section
variable {nm : List Str} {r : Str → Nat} {L : LL} {T : Ls} {K2 : List Str} {T2 : Ls}
theorem Lay.k9 (y : Lay nm r L T K2 T2) : K2.length ≤ 9 := Nat.le_trans (nd_len y.k2nd fun x hx => (y.k2 x).mp hx) y.kn9
theorem Lay.t29 (y : Lay nm r L T K2 T2) : T2.length ≤ 9 := by
  have h1 := nd_len y.lw.nd y.lw.sub
  have h2 : (ks T2).length = T2.length := List.length_map _
  have := y.k9
  omega
theorem Lay.cl2 (y : Lay nm r L T K2 T2) : Cl L K2 := fun x ls e p hp => (y.k2 _).mpr (kn_cl L x ls e p hp)
theorem Lay.topo2 (y : Lay nm r L T K2 T2) : Topo L [] (ordT T2) := ordT_topo y.lw.lv y.all2 y.cl2
theorem topo_at {L : LL} : ∀ (ord done : List Str), Topo L done ord → ∀ (pre : List Str) (a : Str) (post : List Str), ord = pre ++ a :: post → (a ∉ done ∧ a ∉ pre) ∧ ∀ ls, lkp L a = some ls → ∀ p ∈ ls, (p.1 ∉ done ∧ p.1 ∉ pre) ∧ p.1 ≠ a := by
  intro ord
  induction ord with
  | nil => intro done _ pre a post e; cases pre <;> cases e
  | cons k ord ih =>
    intro done ht pre a post e
    obtain ⟨t1, t2, t3⟩ := ht
    cases pre with
    | nil =>
      cases e
      exact ⟨⟨t1, fun z => (by cases z)⟩, fun ls e2 p hp => ⟨⟨(t2 ls e2 p hp).1, fun z => (by cases z)⟩, (t2 ls e2 p hp).2⟩⟩
    | cons k' pre =>
      cases e
      obtain ⟨q1, q2⟩ := ih (k :: done) t3 pre a post rfl
      refine ⟨⟨fun z => q1.1 (List.mem_cons_of_mem _ z), fun z => ?_⟩, fun ls e2 p hp => ⟨⟨fun z => (q2 ls e2 p hp).1.1 (List.mem_cons_of_mem _ z), fun z => ?_⟩, (q2 ls e2 p hp).2⟩⟩
      · rcases List.mem_cons.mp z with rfl | z
        · exact q1.1 List.mem_cons_self
        · exact q1.2 z
      · rcases List.mem_cons.mp z with z | z
        · exact (q2 ls e2 p hp).1.1 (by rw [z]; exact List.mem_cons_self)
        · exact (q2 ls e2 p hp).1.2 z
/-- how far the law's own run has come -/
structure Run2 (L : LL) (o s : Ls) (pre : List Str) (F : Ls) : Prop where
  nd : (ks F).Nodup
  sub : ∀ x ∈ ks F, x ∈ pre
  pos : ∀ p ∈ F, 1 ≤ p.2
  fv : ∀ x ∈ pre, val F x = due1 o s L (val F) x
  bd : ∀ x, (val F x).natAbs ≤ 2 ^ (31 + 24 * pre.length)
theorem Run2.next (y : Lay nm r L T K2 T2) {o s F : Ls} {pre : List Str} {a : Str} (ho : ∀ x, 0 ≤ val o x ∧ val o x ≤ 2 ^ 31) (hs : ∀ x, 0 ≤ val s x) (h : Run2 L o s pre F) (hpre : a ∉ pre) (htop : ∀ ls, lkp L a = some ls → ∀ p ∈ ls, p.1 ∉ pre ∧ p.1 ≠ a) :
    Run2 L o s (pre ++ [a]) (if 0 < val o a + need L (val F) a - val s a then put F a (val o a + need L (val F) a - val s a) else F) := by
  have g := y.fit.toGood
  have haF : a ∉ ks F := fun z => hpre (h.sub a z)
  have hb : (due1 o s L (val F) a).natAbs ≤ 2 ^ (31 + 24 * (pre.length + 1)) ∧ 0 ≤ due1 o s L (val F) a := by
    have h1 := need_bd (x := a) h.bd (fun p hp => y.v20 p hp a) y.few
    have h2 := ho a
    have h3 := hs a
    have h5 : (2 : Nat) ^ 31 ≤ 2 ^ (31 + 24 * pre.length + 23) := Nat.pow_le_pow_right (by decide) (by omega)
    have h6 : (2 : Nat) ^ (31 + 24 * (pre.length + 1)) = 2 * 2 ^ (31 + 24 * pre.length + 23) := by
      rw [show 31 + 24 * (pre.length + 1) = 1 + (31 + 24 * pre.length + 23) by omega, Nat.pow_add 2 1]
    rw [h6]
    generalize (2 : Nat) ^ (31 + 24 * pre.length + 23) = z at h1 h5 ⊢
    unfold due1
    split <;> omega
  have hfv : ∀ x, val (if 0 < val o a + need L (val F) a - val s a then put F a (val o a + need L (val F) a - val s a) else F) x = val (put F a (due1 o s L (val F) a)) x := fun x => by
    unfold due1
    by_cases hp : 0 < val o a + need L (val F) a - val s a
    · rw [if_pos hp, if_pos hp]
    · rw [if_neg hp, if_neg hp, val_put]
      by_cases e : x = a
      · rw [if_pos e, e, val_none haF]
      · rw [if_neg e]
  have hfe : val (if 0 < val o a + need L (val F) a - val s a then put F a (val o a + need L (val F) a - val s a) else F) = val (put F a (due1 o s L (val F) a)) := funext hfv
  have hz : ∀ x, x ∈ pre ∨ x = a → val ((lkp L a).getD []) x = 0 := fun x hx => by
    cases e : lkp L a with
    | none => rfl
    | some ls =>
      show val ls x = 0
      refine val_none fun z => ?_
      obtain ⟨p, hp, rfl⟩ := List.mem_map.mp z
      obtain ⟨q1, q2⟩ := htop ls e p hp
      rcases hx with hx | hx
      · exact q1 hx
      · exact q2 hx
  have hpow : (2 : Nat) ^ (31 + 24 * pre.length) ≤ 2 ^ (31 + 24 * (pre.length + 1)) := Nat.pow_le_pow_right (by decide) (by omega)
  refine ⟨?_, fun x hx => ?_, fun p hp => ?_, fun x hx => ?_, fun x => ?_⟩
  · split
    · exact ks_put_nd h.nd
    · exact h.nd
  · split at hx
    · rcases mem_ks_put.mp hx with q | q
      · exact List.mem_append_left _ (h.sub x q)
      · rw [q]; exact List.mem_append_right _ List.mem_cons_self
    · exact List.mem_append_left _ (h.sub x hx)
  · split at hp
    · exact pos_put h.pos (by omega) p hp
    · exact h.pos p hp
  · rw [hfe]
    have e1 : need L (val (put F a (due1 o s L (val F) a))) x = need L (val F) x := by
      rw [need_put g.nd haF, hz x (by
        rcases List.mem_append.mp hx with q | q
        · exact .inl q
        · exact .inr (List.mem_singleton.mp q))]
      omega
    rw [val_put]
    by_cases e : x = a
    · rw [if_pos e]
      rw [e] at e1 ⊢
      generalize hd : due1 o s L (val F) a = dd at e1 ⊢
      unfold due1
      rw [e1]
      exact hd.symm
    · rw [if_neg e]
      have hxp : x ∈ pre := by
        rcases List.mem_append.mp hx with q | q
        · exact q
        · exact absurd (List.mem_singleton.mp q) e
      rw [h.fv x hxp]
      generalize due1 o s L (val F) a = dd at e1 ⊢
      unfold due1
      rw [e1]
  · rw [hfe, val_put, List.length_append]
    split
    · exact hb.1
    · exact Nat.le_trans (h.bd x) hpow
theorem ev_least (y : Lay nm r L T K2 T2) {o s : Ls} (ho : ∀ x, 0 ≤ val o x ∧ val o x ≤ 2 ^ 31) (hs : ∀ x, 0 ≤ val s x) :
    FW (m__law_least [dL L, dI o, dI s]) (fun r os => ∃ R : Ls, r = dI R ∧ os = [] ∧ Pv (kn L) o s L (val R) ∧ (ks R).Nodup ∧ (∀ x ∈ ks R, x ∈ kn L) ∧ (∀ p ∈ R, 1 ≤ p.2) ∧ ∀ x, (val R x).natAbs ≤ 2 ^ 260) QX0 := by
  have g := y.fit.toGood
  have hT2 := y.hT2
  have t9 := y.t29
  have hT2nd := y.lw.nd
  unfold m__law_least
  with_reducible refine fw_run ?_
  show W (b__law_least [.fz (dL L), .fz (dI o), .fz (dI s), .un, .un, .un, .un, .un, .un]) _ _
  unfold b__law_least
  walk_at "wt"
  with_reducible refine w_dok hT2 ?_
  walk_at "wt"
  with_reducible refine w_iterK ?_
  with_reducible refine w_lcm inferInstance D.str (fun x => D.tup [.int (val T2 x), .str x]) (ks T2) (fun x hx => ⟨_, sm_h, wi_h, ?_⟩) ?_
  · have hxT := lkp_val hx
    walk_at "wt"
    with_reducible refine w_ixK (f := D.int) hxT ?_
    walk_at "wt"
    exact wi_h
  have e1 : (ks T2).map (fun x => D.tup [.int (val T2 x), .str x]) = T2.map fun p => D.tup [.int p.2, .str p.1] := by
    show List.map _ (T2.map (·.1)) = _
    rw [List.map_map]
    refine List.map_congr_left fun p hp => ?_
    show D.tup [.int (val T2 p.1), .str p.1] = _
    rw [val_of hT2nd hp]
  have hl : T2.length ≤ line := by show T2.length ≤ 16777216; omega
  rw [e1]
  refine ⟨by rw [List.length_map]; exact hl, ?_⟩
  walk_at "wt"
  have hsd : ∀ (e : En) (P : D → En → Prop) (X : Xn → En → Prop), P (.lst ((bySnd T2).map fun p => D.tup [.int p.2, .str p.1])) e → W (sortTD [.lst (T2.map fun p => D.tup [.int p.2, .str p.1])] e) P X := fun e P X hq => by
    refine w_chk (m := ret _) (okSort_lev hl) ?_
    rw [sortP_lev]
    exact hq
  refine hsd _ _ _ ?_
  with_reducible refine w_iterL ?_
  have htopo := y.topo2
  have hbp := bySnd_perm T2
  have hbl : (bySnd T2).length ≤ 9 := by rw [hbp.length_eq]; exact t9
  have hbm : ∀ x, x ∈ (bySnd T2).map (·.1) ↔ x ∈ kn L := fun x => by
    have h1 : ((bySnd T2).map (·.1)).Perm (ks T2) := hbp.map _
    exact (h1.mem_iff.trans ⟨y.lw.sub x, y.all2 x⟩).trans (y.k2 x)
  unfold ordT at htopo
  generalize bySnd T2 = bs at htopo hbl hbm
  with_reducible refine w_forI (fun p : Str × Int => D.tup [.int p.2, .str p.1]) bs (fun pre e => ∃ (F : Ls) (s5 s6 s7 : Sl), e = [.fz (dL L), .fz (dI o), .fz (dI s), .fz (dI T2), .ow (dI F), s5, s6, s7, .un] ∧ Run2 L o s (pre.map (·.1)) F) ?_ (fun pre a post e hx hI => ?_) (fun e hI => ?_)
  · exact ⟨[], _, _, _, rfl, List.nodup_nil, fun x hx => (by cases hx), fun p hp => (by cases hp), fun x hx => (by cases hx), fun x => Nat.zero_le _⟩
  · obtain ⟨F, s5, s6, s7, rfl, hR⟩ := hI
    have hx2 : bs.map (·.1) = pre.map (·.1) ++ a.1 :: post.map (·.1) := by rw [hx, List.map_append, List.map_cons]
    obtain ⟨⟨_, hpre⟩, htop⟩ := topo_at _ [] htopo _ _ _ hx2
    have ha : a.1 ∈ kn L := (hbm _).mp (by rw [hx2]; exact List.mem_append_right _ List.mem_cons_self)
    have hpl : pre.length + 1 ≤ 9 := by
      have := congrArg List.length hx
      rw [List.length_append, List.length_cons] at this
      omega
    have hN := hR.next y ho hs hpre fun ls e p hp => ⟨(htop ls e p hp).1.2, (htop ls e p hp).2⟩
    have hbF : ∀ x, (val F x).natAbs ≤ 2 ^ 300 := fun x => by
      refine Nat.le_trans (hR.bd x) (Nat.pow_le_pow_right (by decide) ?_)
      rw [List.length_map]
      omega
    refine ⟨_, sm_h, ?_⟩
    walk_at "wt"
    with_reducible refine w_dow (ev_needs_L y (o := o) hbF (by decide)) fun r os z => ?_
    obtain ⟨N, rfl, rfl, hkN, hvN⟩ := z
    have haN : lkp N a.1 = some (val o a.1 + need L (val F) a.1) := by
      rw [← hvN a.1 ((y.k2 _).mpr ha)]
      exact lkp_val (by rw [hkN]; exact (y.k2 _).mpr ha)
    refine ⟨_, inferInstance, ?_⟩
    walk_at "wt"
    with_reducible refine w_ixK (f := D.int) haN ?_
    walk_at "wt"
    with_reducible refine w_getI ?_
    walk_at "wt"
    have hFl : F.length < line := by
      have h1 := nd_len hR.nd hR.sub
      have : (ks F).length = F.length := List.length_map _
      have h2 : (pre.map fun p : Str × Int => p.1).length = pre.length := List.length_map _
      show F.length < 16777216
      omega
    refine w_ifM (fun hb => ?_) fun hb => ?_
    · have hb := of_decide_eq_true hb
      rw [if_pos hb] at hN
      walk_at "wt"
      with_reducible refine w_putK (f := D.int) hFl inferInstance inferInstance ?_
      walk_at "wt"
      exact ⟨_, _, _, _, rfl, by rw [List.map_append]; exact hN⟩
    · have hb := of_decide_eq_false hb
      rw [if_neg hb] at hN
      walk_at "wt"
      exact ⟨_, _, _, _, rfl, by rw [List.map_append]; exact hN⟩
  obtain ⟨F, s5, s6, s7, rfl, hR⟩ := hI
  walk_at "wt"
  refine ep_rt rfl ⟨F, rfl, rfl, fun x hx => hR.fv x ((hbm x).mpr hx), hR.nd, fun x hx => (hbm x).mp (hR.sub x hx), hR.pos, fun x => Nat.le_trans (hR.bd x) (Nat.pow_le_pow_right (by decide) ?_)⟩
  rw [List.length_map]
  omega
end
end VL
namespace VL
open PySem PySem.Spec PyProof.Rows L2
variable [Tb]
local macro_rules | `(tactic| walk_at "w") => `(tactic| first | with_reducible refine St'.h ?_ | with_reducible refine len_of (by with_unfolding_all rfl) ?_ | with_reducible refine ⟨(by with_unfolding_all exact Eq.refl _), ?_⟩ | with_reducible refine w_ixL (by with_unfolding_all rfl) ?_ | with_reducible refine w_mulI (by decide) ?_ | with_reducible refine w_divI (by decide) ?_ | with_reducible refine w_modI (by decide) ?_ | with_reducible refine w_powI (by decide) ?_)
local macro_rules | `(tactic| walk_at "ws") => `(tactic| repeat (walk_at "w"))
local macro_rules | `(tactic| walk_at "wt") => `(tactic| repeat (first | walk_at "w" | with_reducible refine w_ifT (by with_unfolding_all exact Eq.refl _) ?_ | with_reducible refine w_ifF (by with_unfolding_all exact Eq.refl _) ?_))
/-! ### values near provisions -/
def SimV (d : D) : Prop := (∃ i : Int, d = .int i ∧ i.natAbs ≤ 2 ^ 300) ∨ (∃ b, d = .bl b) ∨ d = .non ∨ (∃ x, d = .str x) ∨ ∃ xs, d = .tup xs
def isInt' : D → Bool
  | .int _ => true
  | _ => false
def posI' : D → Bool
  | .int i => decide (0 < i)
  | _ => false
def keyIn (ns : List Str) : Key → Bool
  | .inl _ => false
  | .inr x => decide (x ∈ ns)
def KeyOk : Key → Prop
  | .inl _ => True
  | .inr x => PyData.strOk x = true
def toLs : List (Key × D) → Ls
  | [] => []
  | (.inr x, .int i) :: r => (x, i) :: toLs r
  | _ :: r => toLs r
structure VD (kvs : List (Key × D)) : Prop where
  nd : (kvs.map (·.1)).Nodup
  few : kvs.length ≤ 100
  ok : ∀ p ∈ kvs, KeyOk p.1 ∧ SimV p.2
theorem toLs_dk : ∀ {kvs : List (Key × D)} {ns : List Str}, (kvs.all fun p => keyIn ns p.1) = true → (kvs.all fun p => posI' p.2) = true → kvs = dk D.int (toLs kvs) ∧ (∀ x ∈ ks (toLs kvs), x ∈ ns) ∧ ∀ p ∈ toLs kvs, 1 ≤ p.2
  | [], _, _, _ => ⟨rfl, fun x h => (by cases h), fun x h => (by cases h)⟩
  | (k, d) :: r, ns, h1, h2 => by
    rw [List.all_cons, Bool.and_eq_true] at h1 h2
    obtain ⟨i1, i2, i3⟩ := toLs_dk h1.2 h2.2
    cases k with
    | inl i => cases h1.1
    | inr x =>
      cases d with
      | int i =>
        have hx : x ∈ ns := of_decide_eq_true h1.1
        have hi : 0 < i := of_decide_eq_true h2.1
        refine ⟨?_, fun y hy => ?_, fun p hp => ?_⟩
        · show (Sum.inr x, D.int i) :: r = (Sum.inr x, D.int i) :: dk D.int (toLs r)
          rw [← i1]
        · rcases List.mem_cons.mp (show y ∈ x :: ks (toLs r) from hy) with rfl | hy
          · exact hx
          · exact i2 y hy
        · rcases List.mem_cons.mp (show p ∈ (x, i) :: toLs r from hp) with rfl | hp
          · show 1 ≤ i; omega
          · exact i3 p hp
      | _ => cases h2.1
theorem ev_isInt {d : D} (h : SimV d) : m_is_integer [d] = .ok (.bl (isInt' d)) [] := by
  rcases h with ⟨i, rfl, _⟩ | ⟨b, rfl⟩ | rfl | ⟨x, rfl⟩ | ⟨xs, rfl⟩ <;> rfl
/-- whether a value is a provision -/
def isPr (L : LL) (o s : Ls) : D → Bool
  | .dk kvs => (kvs.all fun p => keyIn (kn L) p.1) && (kvs.all fun p => posI' p.2) && (kn L).all fun x => decide (val o x + need L (val (toLs kvs)) x ≤ val s x + val (toLs kvs) x)
  | _ => false
theorem empI (ns : List Int) : eqO (.lst (ns.map .int)) (.lst []) = some ns.isEmpty := by
  have h1 : ∀ ns : List Int, toPs (ns.map .int) = some (ns.map .int) := by
    intro ns
    induction ns with
    | nil => unfold toPs; rfl
    | cons n ns ih =>
      show toPs (.int n :: ns.map .int) = _
      unfold toPs
      rw [ih]
      have : toP (.int n) = some (.int n) := by unfold toP; rfl
      rw [this]
      rfl
  have h2 : ∀ ns : List Int, shp (.list (ns.map .int)) = true := by
    intro ns
    have a : PyData.canLayAll0 (ns.map .int) = true := by
      induction ns with
      | nil => rfl
      | cons n ns ih => simp only [List.map_cons, PyData.canLayAll0, PyData.canLay0, ih, Bool.and_true]
    have b : PyData.depthAll (ns.map .int) = 0 := by
      clear a
      induction ns with
      | nil => rfl
      | cons n ns ih => simp only [List.map_cons, PyData.depthAll, PyData.depth, ih, Nat.max_self]
    unfold shp SeqAt.shaped
    unfold PyData.canLay0 PyData.depth
    rw [a, b]
    rfl
  show eqPO _ _ = _
  unfold eqPO
  have e1 : toP (.lst (ns.map .int)) = some (.list (ns.map .int)) := by unfold toP; rw [h1]; rfl
  have e2 : toP (.lst []) = some (.list []) := by unfold toP; unfold toPs; rfl
  rw [e1, e2]
  show (if (shp (.list (ns.map .int)) && shp (.list [])) = true then _ else _) = _
  rw [h2 ns, show shp (.list []) = true from h2 [], if_pos (show (true && true) = true from rfl)]
  cases ns with
  | nil => unfold PyData.eqv; unfold PyData.eqvAll; rfl
  | cons n ns => unfold PyData.eqv; unfold PyData.eqvAll; rfl
theorem inO_int {xs : List Str} {i : Int} (h : okS xs) : inO (.int i) (sL xs) = some false := by
  show inSeq (.int i) (xs.map .str) .list = _
  unfold inSeq
  have : toP (.int i) = some (.int i) := by unfold toP; rfl
  rw [this, toPs_str]
  show (if (shp (.int i) && shp (.list (xs.map .str))) = true then _ else _) = _
  rw [show shp (.int i) = true from rfl, shp_strs h, if_pos (show (true && true) = true from rfl)]
  refine congrArg some ?_
  induction xs with
  | nil => rfl
  | cons x xs ih =>
    rw [List.map_cons, List.any_cons, ih fun y hy => h y (List.mem_cons_of_mem _ hy), Bool.or_false]
    unfold PyData.eqv
    rfl
section
variable {e : En} {P : D → En → Prop} {X : Xn → En → Prop}
theorem w_geI {a b : Int} (p : P (.bl (decide (b ≤ a))) e) : W (cmpD .GtE (.int a) (.int b) e) P X := p
theorem w_iterD {kvs : List (Key × D)} {P : List D → En → Prop} (p : P (kvs.map fun p => keyV p.1) e) : W (lift (itemsD (.dk kvs)) e) P X := p
theorem w_valsD {kvs : List (Key × D)} {P : List D → En → Prop} (p : P (kvs.map fun p => p.2) e) : W (lift (valuesD (.dk kvs)) e) P X := p
end
end VL
namespace VL
open PySem PySem.Spec PyProof.Rows L2
variable [Tb]
local macro_rules | `(tactic| walk_at "w") => `(tactic| first | with_reducible refine St'.h ?_ | with_reducible refine len_of (by with_unfolding_all rfl) ?_ | with_reducible refine ⟨(by with_unfolding_all exact Eq.refl _), ?_⟩ | with_reducible refine w_ixL (by with_unfolding_all rfl) ?_ | with_reducible refine w_mulI (by decide) ?_ | with_reducible refine w_divI (by decide) ?_ | with_reducible refine w_modI (by decide) ?_ | with_reducible refine w_powI (by decide) ?_)
local macro_rules | `(tactic| walk_at "ws") => `(tactic| repeat (walk_at "w"))
local macro_rules | `(tactic| walk_at "wt") => `(tactic| repeat (first | walk_at "w" | with_reducible refine w_ifT (by with_unfolding_all exact Eq.refl _) ?_ | with_reducible refine w_ifF (by with_unfolding_all exact Eq.refl _) ?_))
section
variable {nm : List Str} {r : Str → Nat} {L : LL} {T : Ls} {K2 : List Str} {T2 : Ls}
theorem need_app {f : Str → Int} {x : Str} (A B : LL) : need (A ++ B) f x = need A f x + need B f x := by
  unfold need
  rw [List.map_append, List.sum_append]
theorem vd_bd {kvs : List (Key × D)} (h : VD kvs) (x : Str) : (val (toLs kvs) x).natAbs ≤ 2 ^ 300 := by
  have key : ∀ kvs : List (Key × D), (∀ p ∈ kvs, SimV p.2) → ∀ q ∈ toLs kvs, q.2.natAbs ≤ 2 ^ 300 := by
    intro kvs
    induction kvs with
    | nil => intro _ q hq; cases hq
    | cons p kvs ih =>
      intro h q hq
      have ih' := ih fun z hz => h z (List.mem_cons_of_mem _ hz)
      have hp := h p List.mem_cons_self
      obtain ⟨k, d⟩ := p
      cases k with
      | inl i => exact ih' q hq
      | inr y =>
        cases d with
        | int i =>
          rcases List.mem_cons.mp (show q ∈ (y, i) :: toLs kvs from hq) with rfl | hq
          · rcases hp with ⟨j, e, hj⟩ | ⟨b, e⟩ | e | ⟨z, e⟩ | ⟨z, e⟩ <;> cases e
            exact hj
          · exact ih' q hq
        | _ => exact ih' q hq
  unfold val
  cases e : lkp (toLs kvs) x with
  | none => exact Nat.zero_le _
  | some v => exact key kvs (fun p hp => (h.ok p hp).2) (x, v) (lkp_mem e)
theorem ev_isprov (y : Lay nm r L T K2 T2) {o s : Ls} (ho : Cnt L o) (hs : Cnt L s) {kvs : List (Key × D)} (hv : VD kvs) :
    FW (m_is_provision [dL L, dI o, dI s, .dk kvs]) (fun r os => r = .bl (isPr L o s (.dk kvs)) ∧ os = []) QX0 := by
  have g := y.fit.toGood
  have hr := ev_reqP y ho hs
  have hkn := y.hkn
  have okK := y.ok
  have k9 := y.kn9
  have knd := kn_nd L
  have hkl : kvs.length ≤ line := by have := hv.few; show _ ≤ 16777216; omega
  have knl : (kn L).length < line := by show _ < 16777216; omega
  unfold m_is_provision
  with_reducible refine fw_run ?_
  show W (b_is_provision [.fz (dL L), .fz (dI o), .fz (dI s), .fz (.dk kvs), .un, .un, .un, .un, .un, .un, .un, .un]) _ _
  unfold b_is_provision
  walk_at "wt"
  with_reducible refine w_dok hr ?_
  walk_at "wt"
  with_reducible refine w_dok hkn ?_
  walk_at "wt"
  with_reducible refine w_iterD ?_
  with_reducible refine w_lcm inferInstance (fun p : Key × D => keyV p.1) (fun p => D.bl (keyIn (kn L) p.1)) kvs (fun p hp => ?_) ?_
  · refine ⟨_, sm_h, wi_h, ?_⟩
    obtain ⟨hk, _⟩ := hv.ok p hp
    obtain ⟨k, d⟩ := p
    cases k with
    | inl i =>
      show W (andV _ _ [.fz (dL L), .fz (dI o), .fz (dI s), .fz (.dk kvs), .fz (sL (kn L)), .un, .un, .un, .un, .un, .fz (.int i), .un]) _ _
      walk_at "wt"
      exact wi_h
    | inr x =>
      show W (andV _ _ [.fz (dL L), .fz (dI o), .fz (dI s), .fz (.dk kvs), .fz (sL (kn L)), .un, .un, .un, .un, .un, .fz (.str x), .un]) _ _
      have hk : PyData.strOk x = true := hk
      walk_at "wt"
      with_reducible refine w_in (inO_sL okK hk) ?_
      exact ⟨rfl, wi_h⟩
  refine ⟨by rw [List.length_map]; exact hkl, ?_⟩
  walk_at "wt"
  with_reducible refine w_allP (fun p : Key × D => keyIn (kn L) p.1) ?_
  walk_at "wt"
  by_cases hb : (kvs.all fun p => keyIn (kn L) p.1) = true
  case neg =>
    have hb : (kvs.all fun p => keyIn (kn L) p.1) = false := by
      cases h : kvs.all fun p => keyIn (kn L) p.1 with
      | true => exact absurd h hb
      | false => rfl
    rw [hb]
    walk_at "wt"
    refine ep_rt rfl ⟨?_, rfl⟩
    show D.bl false = .bl ((kvs.all fun p => keyIn (kn L) p.1) && _ && _)
    rw [hb]
    rfl
  rw [hb]
  walk_at "wt"
  with_reducible refine w_valsD ?_
  with_reducible refine w_lcm inferInstance (fun p : Key × D => p.2) (fun p => D.bl (posI' p.2)) kvs (fun p hp => ?_) ?_
  · obtain ⟨_, hd⟩ := hv.ok p hp
    have hi := ev_isInt hd
    refine ⟨_, sm_h, wi_h, ?_⟩
    walk_at "wt"
    with_reducible refine w_dok hi ?_
    walk_at "wt"
    rcases hd with ⟨i, e, _⟩ | ⟨b, e⟩ | e | ⟨z, e⟩ | ⟨z, e⟩ <;> rw [e] <;> walk_at "wt" <;> exact wi_h
  refine ⟨by rw [List.length_map]; exact hkl, ?_⟩
  walk_at "wt"
  with_reducible refine w_allP (fun p : Key × D => posI' p.2) ?_
  walk_at "wt"
  by_cases hb2 : (kvs.all fun p => posI' p.2) = true
  case neg =>
    have hb2 : (kvs.all fun p => posI' p.2) = false := by
      cases h : kvs.all fun p => posI' p.2 with
      | true => exact absurd h hb2
      | false => rfl
    rw [hb2]
    walk_at "wt"
    refine ep_rt rfl ⟨?_, rfl⟩
    show D.bl false = .bl ((kvs.all fun p => keyIn (kn L) p.1) && (kvs.all fun p => posI' p.2) && _)
    rw [hb, hb2]
    rfl
  rw [hb2]
  have hbd := vd_bd hv
  have hres : isPr L o s (.dk kvs) = (kn L).all fun x => decide (val o x + need L (val (toLs kvs)) x ≤ val s x + val (toLs kvs) x) := by
    show ((kvs.all fun p => keyIn (kn L) p.1) && (kvs.all fun p => posI' p.2) && _) = _
    rw [hb, hb2]
    rfl
  rw [hres]
  have hdk := (toLs_dk hb hb2).1
  generalize toLs kvs = l at hbd hdk
  subst hdk
  walk_at "wt"
  with_reducible refine w_iterL ?_
  with_reducible refine w_dcp inferInstance D.int (kn L) (fun _ => true) (fun x => val o x) knd knl (fun x hx => ⟨_, sm_h, ?_⟩) ?_
  · refine ⟨rfl, wi_h, fun _ => ?_⟩
    walk_at "wt"
    with_reducible refine w_getI ?_
    exact ⟨rfl, wi_h⟩
  rw [filter_tt]
  walk_at "wt"
  with_reducible refine w_itemsK ?_
  with_reducible refine w_forI (fun p : Str × Ls => D.tup [.str p.1, dI p.2]) L (fun pre e => ∃ (Wt : Ls) (s6 s7 s8 s9 : Sl), e = [.fz (dL L), .fz (dI o), .fz (dI s), .fz (dI l), .fz (sL (kn L)), .ow (dI Wt), s6, s7, s8, s9, .un, .un] ∧ ks Wt = kn L ∧ ∀ x ∈ kn L, val Wt x = val o x + need pre (val l) x) ?_ (fun pre a post e hx hI => ?_) (fun e hI => ?_)
  · refine ⟨(kn L).map fun a => (a, val o a), _, _, _, _, rfl, ?_, fun x hx => ?_⟩
    · show ((kn L).map fun a => (a, val o a)).map (·.1) = _
      rw [List.map_map]
      exact List.map_id'' (fun _ => rfl) _
    · have hm : (x, val o x) ∈ (kn L).map fun a => (a, val o a) := List.mem_map.mpr ⟨x, hx, rfl⟩
      have hnd : (ks ((kn L).map fun a => (a, val o a))).Nodup := by
        show (((kn L).map fun a => (a, val o a)).map (·.1)).Nodup
        rw [List.map_map]
        exact (List.map_id'' (fun _ => rfl) (kn L)).symm ▸ knd
      have := val_of hnd hm
      rw [this]
      show val o x = val o x + 0
      omega
  · obtain ⟨Wt, s6, s7, s8, s9, rfl, hkW, hvW⟩ := hI
    have haL : a ∈ L := by rw [hx]; exact List.mem_append_right _ List.mem_cons_self
    have hal := lkp_of g.nd haL
    have hln := g.ln _ _ hal
    refine ⟨_, sm_h, ?_⟩
    walk_at "wt"
    with_reducible refine w_itemsK ?_
    with_reducible refine w_forI (fun p : Str × Int => D.tup [.str p.1, .int p.2]) a.2 (fun pre2 e => ∃ (s8 s9 : Sl), e = [.fz (dL L), .fz (dI o), .fz (dI s), .fz (dI l), .fz (sL (kn L)), .ow (dI (addAll Wt pre2 (val l a.1))), .fz (.str a.1), .fz (dI a.2), s8, s9, .un, .un] ∧ ks (addAll Wt pre2 (val l a.1)) = kn L) ?_ (fun pre2 b post2 e hx2 hI => ?_) (fun e hI => ?_)
    · exact ⟨_, _, rfl, hkW⟩
    · obtain ⟨s8, s9, rfl, hk2⟩ := hI
      have hbm : b ∈ a.2 := by rw [hx2]; exact List.mem_append_right _ List.mem_cons_self
      have hb1 : b.1 ∈ kn L := kn_cl L _ _ hal b hbm
      have hb2 : b.2.natAbs ≤ 2 ^ 20 := by
        have h1 := (g.li _ _ hal b hbm).2
        have h2 := y.fit.cnt a haL b hbm
        omega
      have e3 : addAll Wt (pre2 ++ [b]) (val l a.1) = put (addAll Wt pre2 (val l a.1)) b.1 (val (addAll Wt pre2 (val l a.1)) b.1 + val l a.1 * b.2) := by
        unfold addAll
        rw [List.foldl_append]
        rfl
      rw [e3]
      generalize addAll Wt pre2 (val l a.1) = W1 at hk2
      have hbW : lkp W1 b.1 = some (val W1 b.1) := lkp_val (by rw [hk2]; exact hb1)
      have hWl : W1.length < line := by
        have : (ks W1).length = W1.length := List.length_map _
        rw [hk2] at this
        show W1.length < 16777216
        omega
      have hlog : (val l a.1).natAbs.log2 + b.2.natAbs.log2 < 1000000 := by
        have h1 := log2_le (hbd a.1)
        have h2 := log2_le hb2
        omega
      refine ⟨_, sm_h, ?_⟩
      walk_at "wt"
      with_reducible refine w_agetK (f := D.int) hbW ?_
      walk_at "wt"
      with_reducible refine w_getI ?_
      walk_at "wt"
      with_reducible refine w_mulI hlog ?_
      walk_at "wt"
      with_reducible refine w_putK (f := D.int) hWl inferInstance inferInstance ?_
      walk_at "wt"
      exact ⟨_, _, rfl, by rw [ks_put_old (by rw [hk2]; exact hb1)]; exact hk2⟩
    obtain ⟨s8, s9, rfl, hk2⟩ := hI
    walk_at "wt"
    refine ⟨_, _, _, _, _, rfl, hk2, fun x hx => ?_⟩
    rw [val_addAll' hln, hvW x hx, need_app]
    show val o x + need pre (val l) x + val l a.1 * val a.2 x = val o x + (need pre (val l) x + (val l a.1 * val a.2 x + 0))
    omega
  obtain ⟨Wt, s6, s7, s8, s9, rfl, hkW, hvW⟩ := hI
  walk_at "wt"
  with_reducible refine w_iterL ?_
  with_reducible refine w_lcm inferInstance D.str (fun x => D.bl (decide (val o x + need L (val l) x ≤ val s x + val l x))) (kn L) (fun x hx => ⟨_, sm_h, wi_h, ?_⟩) ?_
  · have hxW : lkp Wt x = some (val o x + need L (val l) x) := by
      rw [← hvW x hx]
      exact lkp_val (by rw [hkW]; exact hx)
    walk_at "wt"
    with_reducible refine w_getI ?_
    walk_at "wt"
    with_reducible refine w_getI ?_
    walk_at "wt"
    with_reducible refine w_ixK (f := D.int) hxW ?_
    walk_at "wt"
    with_reducible refine w_geI ?_
    exact ⟨rfl, wi_h⟩
  refine ⟨by rw [List.length_map]; show _ ≤ 16777216; omega, ?_⟩
  walk_at "wt"
  with_reducible refine w_allP (fun x => decide (val o x + need L (val l) x ≤ val s x + val l x)) ?_
  walk_at "wt"
  exact ep_rt rfl ⟨rfl, rfl⟩
/-- a value that is no dict -/
theorem ev_isprov0 (y : Lay nm r L T K2 T2) {o s : Ls} (ho : Cnt L o) (hs : Cnt L s) {d : D} (hd : d = .non ∨ (∃ xs, d = .tup xs) ∨ ∃ xs, d = .lst xs) :
    FW (m_is_provision [dL L, dI o, dI s, d]) (fun r os => r = .bl false ∧ os = []) QX0 := by
  have hr := ev_reqP y ho hs
  have hkn := y.hkn
  unfold m_is_provision
  with_reducible refine fw_run ?_
  show W (b_is_provision [.fz (dL L), .fz (dI o), .fz (dI s), .fz d, .un, .un, .un, .un, .un, .un, .un, .un]) _ _
  unfold b_is_provision
  rcases hd with e | ⟨xs, e⟩ | ⟨xs, e⟩ <;> rw [e] <;> walk_at "wt" <;> (with_reducible refine w_dok hr ?_) <;> walk_at "wt" <;> (with_reducible refine w_dok hkn ?_) <;> walk_at "wt" <;> exact ep_rt rfl ⟨rfl, rfl⟩
end
end VL
namespace VL
open PySem PySem.Spec PyProof.Rows L2
variable [Tb]
local macro_rules | `(tactic| walk_at "w") => `(tactic| first | with_reducible refine St'.h ?_ | with_reducible refine len_of (by with_unfolding_all rfl) ?_ | with_reducible refine ⟨(by with_unfolding_all exact Eq.refl _), ?_⟩ | with_reducible refine w_ixL (by with_unfolding_all rfl) ?_ | with_reducible refine w_mulI (by decide) ?_ | with_reducible refine w_divI (by decide) ?_ | with_reducible refine w_modI (by decide) ?_ | with_reducible refine w_powI (by decide) ?_)
local macro_rules | `(tactic| walk_at "ws") => `(tactic| repeat (walk_at "w"))
local macro_rules | `(tactic| walk_at "wt") => `(tactic| repeat (first | walk_at "w" | with_reducible refine w_ifT (by with_unfolding_all exact Eq.refl _) ?_ | with_reducible refine w_ifF (by with_unfolding_all exact Eq.refl _) ?_))
theorem filter_nil_all {α : Type} {p q : α → Bool} (h : ∀ a, q a = !p a) : ∀ xs : List α, ((xs.filter q).map fun _ => (1 : Int)).isEmpty = xs.all p
  | [] => rfl
  | x :: xs => by
    rw [List.all_cons, ← filter_nil_all h xs]
    cases hp : p x with
    | true => rw [List.filter_cons_of_neg (by rw [h, hp]; simp)]; rfl
    | false => rw [List.filter_cons_of_pos (by rw [h, hp]; rfl)]; rfl
theorem map_ones {α : Type} (xs : List α) : xs.map (fun _ => D.int 1) = (xs.map fun _ => (1 : Int)).map D.int := by rw [List.map_map]; rfl
section
variable {nm : List Str} {r : Str → Nat} {L : LL} {T : Ls} {K2 : List Str} {T2 : Ls}
theorem ev_lawprov (y : Lay nm r L T K2 T2) {o s : Ls} {kvs : List (Key × D)} (hv : VD kvs) :
    FW (m__law_is_provision [dL L, dI o, dI s, .dk kvs]) (fun r os => r = .bl (isPr L o s (.dk kvs)) ∧ os = []) QX0 := by
  have hK2 := y.hK2
  have k9 := y.k9
  have okK2 : okS K2 := fun x hx => y.ok x ((y.k2 x).mp hx)
  have hkl : kvs.length ≤ line := by have := hv.few; show _ ≤ 16777216; omega
  have hin : ∀ k : Key, keyIn K2 k = keyIn (kn L) k := fun k => by
    cases k with
    | inl i => rfl
    | inr x => exact decide_eq_decide.mpr (y.k2 x)
  unfold m__law_is_provision
  with_reducible refine fw_run ?_
  show W (b__law_is_provision [.fz (dL L), .fz (dI o), .fz (dI s), .fz (.dk kvs), .un, .un, .un]) _ _
  unfold b__law_is_provision
  walk_at "wt"
  with_reducible refine w_iterD ?_
  with_reducible refine w_lcp inferInstance (fun p : Key × D => keyV p.1) (fun p => !keyIn (kn L) p.1) (fun _ => D.int 1) kvs (fun p hp => ?_) ?_
  · refine ⟨_, sm_h, wi_h, ?_⟩
    obtain ⟨hk, _⟩ := hv.ok p hp
    obtain ⟨k, d⟩ := p
    cases k with
    | inl i =>
      show W ((bnd _ asB) [.fz (dL L), .fz (dI o), .fz (dI s), .fz (.dk kvs), .un, .un, .fz (.int i)]) _ _
      walk_at "wt"
      with_reducible refine w_dok hK2 ?_
      walk_at "wt"
      with_reducible refine w_nin (inO_int okK2) ?_
      walk_at "wt"
      intro _
      walk_at "wt"
      exact wi_h
    | inr x =>
      have hk : PyData.strOk x = true := hk
      show W ((bnd _ asB) [.fz (dL L), .fz (dI o), .fz (dI s), .fz (.dk kvs), .un, .un, .fz (.str x)]) _ _
      walk_at "wt"
      with_reducible refine w_dok hK2 ?_
      walk_at "wt"
      with_reducible refine w_nin (inO_sL okK2 hk) ?_
      walk_at "wt"
      refine ⟨congrArg not (hin (Sum.inr x)), wi_h, fun _ => ?_⟩
      walk_at "wt"
      exact wi_h
  refine ⟨by rw [List.length_map]; exact Nat.le_trans (List.length_filter_le _ _) hkl, ?_⟩
  walk_at "wt"
  rw [map_ones]
  with_reducible refine w_ne (empI _) ?_
  rw [filter_nil_all (p := fun p : Key × D => keyIn (kn L) p.1) (fun _ => rfl)]
  walk_at "wt"
  by_cases hb : (kvs.all fun p => keyIn (kn L) p.1) = true
  case neg =>
    have hb : (kvs.all fun p => keyIn (kn L) p.1) = false := by
      cases h : kvs.all fun p => keyIn (kn L) p.1 with
      | true => exact absurd h hb
      | false => rfl
    rw [hb]
    walk_at "wt"
    refine ep_rt rfl ⟨?_, rfl⟩
    show D.bl false = .bl ((kvs.all fun p => keyIn (kn L) p.1) && _ && _)
    rw [hb]
    rfl
  rw [hb]
  walk_at "wt"
  with_reducible refine w_valsD ?_
  with_reducible refine w_lcp inferInstance (fun p : Key × D => p.2) (fun p => !posI' p.2) (fun _ => D.int 1) kvs (fun p hp => ?_) ?_
  · obtain ⟨_, hd⟩ := hv.ok p hp
    refine ⟨_, sm_h, wi_h, ?_⟩
    rcases hd with ⟨i, e, _⟩ | ⟨b, e⟩ | e | ⟨z, e⟩ | ⟨z, e⟩ <;> rw [e] <;> walk_at "wt"
    · refine ⟨?_, wi_h, fun _ => ?_⟩
      · show decide (i < 1) = !decide (0 < i)
        by_cases h : 0 < i
        · rw [decide_eq_true h, decide_eq_false (by omega)]; rfl
        · rw [decide_eq_false h, decide_eq_true (by omega)]; rfl
      · walk_at "wt"
        exact wi_h
    all_goals (intro _; walk_at "wt"; exact wi_h)
  refine ⟨by rw [List.length_map]; exact Nat.le_trans (List.length_filter_le _ _) hkl, ?_⟩
  walk_at "wt"
  rw [map_ones]
  with_reducible refine w_ne (empI _) ?_
  rw [filter_nil_all (p := fun p : Key × D => posI' p.2) (fun _ => rfl)]
  walk_at "wt"
  by_cases hb2 : (kvs.all fun p => posI' p.2) = true
  case neg =>
    have hb2 : (kvs.all fun p => posI' p.2) = false := by
      cases h : kvs.all fun p => posI' p.2 with
      | true => exact absurd h hb2
      | false => rfl
    rw [hb2]
    walk_at "wt"
    refine ep_rt rfl ⟨?_, rfl⟩
    show D.bl false = .bl ((kvs.all fun p => keyIn (kn L) p.1) && (kvs.all fun p => posI' p.2) && _)
    rw [hb, hb2]
    rfl
  rw [hb2]
  have hbd := vd_bd hv
  have hres : isPr L o s (.dk kvs) = (kn L).all fun x => decide (val o x + need L (val (toLs kvs)) x ≤ val s x + val (toLs kvs) x) := by
    show ((kvs.all fun p => keyIn (kn L) p.1) && (kvs.all fun p => posI' p.2) && _) = _
    rw [hb, hb2]
    rfl
  rw [hres]
  have hdk := (toLs_dk hb hb2).1
  generalize toLs kvs = l at hbd hdk
  subst hdk
  walk_at "wt"
  with_reducible refine w_dow (ev_needs y (o := o) hbd (by decide)) fun r os z => ?_
  obtain ⟨N, rfl, rfl, hkN, hvN⟩ := z
  refine ⟨_, inferInstance, ?_⟩
  walk_at "wt"
  with_reducible refine w_iterK ?_
  rw [hkN]
  with_reducible refine w_lcp inferInstance D.str (fun x => !decide (val o x + need L (val l) x ≤ val s x + val l x)) (fun _ => D.int 1) K2 (fun x hx => ⟨_, sm_h, wi_h, ?_⟩) ?_
  · have hxN : lkp N x = some (val o x + need L (val l) x) := by
      rw [← hvN x hx]
      exact lkp_val (by rw [hkN]; exact hx)
    walk_at "wt"
    with_reducible refine w_getI ?_
    walk_at "wt"
    with_reducible refine w_getI ?_
    walk_at "wt"
    with_reducible refine w_ixK (f := D.int) hxN ?_
    walk_at "wt"
    refine ⟨?_, wi_h, fun _ => ?_⟩
    · by_cases h : val o x + need L (val l) x ≤ val s x + val l x
      · rw [decide_eq_true h, decide_eq_false (by omega)]; rfl
      · rw [decide_eq_false h, decide_eq_true (by omega)]; rfl
    · walk_at "wt"
      exact wi_h
  refine ⟨by rw [List.length_map]; have := List.length_filter_le (fun x => !decide (val o x + need L (val l) x ≤ val s x + val l x)) K2; show _ ≤ 16777216; omega, ?_⟩
  walk_at "wt"
  rw [map_ones]
  with_reducible refine w_eq (empI _) ?_
  rw [filter_nil_all (p := fun x => decide (val o x + need L (val l) x ≤ val s x + val l x)) (fun _ => rfl)]
  refine ep_rt rfl ⟨?_, rfl⟩
  refine congrArg D.bl (Bool.eq_iff_iff.mpr ?_)
  rw [List.all_eq_true, List.all_eq_true]
  exact ⟨fun h x hx => h x ((y.k2 x).mpr hx), fun h x hx => h x ((y.k2 x).mp hx)⟩
theorem ev_lawprov0 {o s : Ls} {d : D} (hd : d = .non ∨ (∃ xs, d = .tup xs) ∨ ∃ xs, d = .lst xs) :
    FW (m__law_is_provision [dL L, dI o, dI s, d]) (fun r os => r = .bl false ∧ os = []) QX0 := by
  unfold m__law_is_provision
  with_reducible refine fw_run ?_
  show W (b__law_is_provision [.fz (dL L), .fz (dI o), .fz (dI s), .fz d, .un, .un, .un]) _ _
  unfold b__law_is_provision
  rcases hd with e | ⟨xs, e⟩ | ⟨xs, e⟩ <;> rw [e] <;> walk_at "wt" <;> exact ep_rt rfl ⟨rfl, rfl⟩
end
end VL
namespace VL
open PySem PySem.Spec PyProof.Rows L2
variable [Tb]
local macro_rules | `(tactic| walk_at "w") => `(tactic| first | with_reducible refine St'.h ?_ | with_reducible refine len_of (by with_unfolding_all rfl) ?_ | with_reducible refine ⟨(by with_unfolding_all exact Eq.refl _), ?_⟩ | with_reducible refine w_ixL (by with_unfolding_all rfl) ?_ | with_reducible refine w_mulI (by decide) ?_ | with_reducible refine w_divI (by decide) ?_ | with_reducible refine w_modI (by decide) ?_ | with_reducible refine w_powI (by decide) ?_)
local macro_rules | `(tactic| walk_at "ws") => `(tactic| repeat (walk_at "w"))
local macro_rules | `(tactic| walk_at "wt") => `(tactic| repeat (first | walk_at "w" | with_reducible refine w_ifT (by with_unfolding_all exact Eq.refl _) ?_ | with_reducible refine w_ifF (by with_unfolding_all exact Eq.refl _) ?_))
/-! ### drawn lists, with all that is told of them -/
theorem lay_of {ns : List Str} {L : LL} {k : Nat} (hk9 : k ≤ 9) (hperm : ns.Perm (nmK k)) (hdr : Dr ns L) (hne : L ≠ []) : ∃ r T K2 T2, Lay ns r L T K2 T2 := by
  have g := dr_good hdr
  have nsnd : ns.Nodup := hperm.nodup_iff.mpr (nmK_nd hk9)
  have nslen : ns.length = k := hperm.length_eq.trans (nmK_len _)
  have hnm : NmOk ns := fun x hx => nm9 x (nmK_sub hk9 x (hperm.mem_iff.mp hx))
  have hok : okS ns := fun x hx => (hnm x hx).1
  have hcnt : ∀ p ∈ L, ∀ q ∈ p.2, q.2 ≤ 1000000 := fun p hp q hq => ((hdr.ln p hp).later q hq).2.2.2
  have hLlen : L.length ≤ 8 := by
    rcases dr_len hdr nsnd with z | z
    · omega
    · rw [z]; exact Nat.zero_le _
  have hfit : Fit ns (rk ns) L := fit_of g (by omega) hcnt hne (c := 4) (by omega) (fun p hp => (hdr.ln p hp).hi) (by decide)
  have hrk9 : ∀ x, rk ns x ≤ 9 := fun x => by unfold rk; omega
  have hks : ∀ x ∈ ks L, x ∈ kn L := fun x hx => mem_kn.mpr (.inl hx)
  have hokn : okS (kn L) := fun x hx => hok x (kn_sub g x hx)
  have hk := ev_known hfit.all
  obtain ⟨T, hT, hLv, hall⟩ := ev_levels g.rk hks hokn (by omega) hfit.kh (kn_nd L) hk
  obtain ⟨K2, hk2, k2nd, k2mem⟩ := ev_ls_known g hok (Nat.lt_of_le_of_lt hfit.kh (by decide))
  have k2sub : ∀ x ∈ K2, x ∈ ns := fun x hx => kn_sub g x ((k2mem x).mp hx)
  have okK2 : okS K2 := fun x hx => hok x (k2sub x hx)
  have k2len : K2.length ≤ 9 := Nat.le_trans (nd_len k2nd k2sub) (by omega)
  have hksK : ∀ x ∈ ks L, x ∈ K2 := fun x hx => (k2mem x).mpr (mem_kn.mpr (.inl hx))
  obtain ⟨T2, hT2, hLw, hTall⟩ := ev_ls_levels g.rk okK2 hksK (by omega) (by omega) k2nd hk2
  exact ⟨rk ns, T, K2, T2, hnm, hfit, hLlen, by omega, hrk9, hk, hT, hLv, hall, hk2, k2nd, k2mem, hT2, hLw, hTall⟩
/-! ### dicts out of pairs -/
theorem keyD_keyV (k : Key) : keyD (keyV k) = some k := by cases k <;> rfl
theorem pairsD_gen : ∀ ps : List (Key × D), pairsD (ps.map fun p => D.tup [keyV p.1, p.2]) = some ps
  | [] => rfl
  | p :: ps => by
    show (match pairD (.tup [keyV p.1, p.2]), pairsD (ps.map fun p => D.tup [keyV p.1, p.2]) with
      | some p, some q => some (p :: q)
      | _, _ => none) = _
    rw [pairsD_gen ps]
    show (match (keyD (keyV p.1)).map fun k => (k, p.2), some ps with
      | some p, some q => some (p :: q)
      | _, _ => none) = _
    rw [keyD_keyV]
    rfl
theorem w_dictP {ps : List (Key × D)} {ds : List D} {e : En} {P : D → En → Prop} {X : Xn → En → Prop} (h : ds = ps.map fun p => D.tup [keyV p.1, p.2]) (p : P (.dk (mergeD [] ps)) e) : W (dictD [.lst ds] e) P X := by
  subst h
  show W (lift ((pairsD (ps.map fun p => D.tup [keyV p.1, p.2])).map fun ps => .dk (mergeD [] ps)) e) P X
  rw [pairsD_gen]
  exact p
theorem pairs_dk (R : Ls) : (R.map fun p => D.tup [.str p.1, .int p.2]) = (dk D.int R).map fun p => D.tup [keyV p.1, p.2] := by
  unfold dk
  rw [List.map_map]
  rfl
theorem pairs_one (R : Ls) (k : Key) (v : D) : (R.map fun p => D.tup [.str p.1, .int p.2]) ++ [D.tup [keyV k, v]] = (dk D.int R ++ [(k, v)]).map fun p => D.tup [keyV p.1, p.2] := by
  rw [List.map_append, pairs_dk]
  rfl
def EntOk (p : Key × D) : Prop := KeyOk p.1 ∧ SimV p.2
theorem put_vd {kvs : List (Key × D)} {k : Key} {v : D} (nd : (kvs.map (·.1)).Nodup) (ok : ∀ p ∈ kvs, EntOk p) (h : EntOk (k, v)) : ((putD kvs k v).map (·.1)).Nodup ∧ (∀ p ∈ putD kvs k v, EntOk p) ∧ (putD kvs k v).length ≤ kvs.length + 1 := by
  unfold putD
  split
  · rename_i hk
    refine ⟨?_, fun p hp => ?_, by rw [List.length_map]; omega⟩
    · have : (kvs.map fun p => if p.1 = k then (p.1, v) else p).map (·.1) = kvs.map (·.1) := by
        rw [List.map_map]
        refine List.map_congr_left fun p _ => ?_
        show (if p.1 = k then (p.1, v) else p).1 = p.1
        split <;> rfl
      rw [this]
      exact nd
    · obtain ⟨q, hq, rfl⟩ := List.mem_map.mp hp
      split
      · rename_i e
        exact ⟨by rw [e]; exact h.1, h.2⟩
      · exact ok q hq
  · rename_i hk
    refine ⟨?_, fun p hp => ?_, by rw [List.length_append]; exact Nat.le_refl _⟩
    · rw [List.map_append]
      refine List.nodup_append.mpr ⟨nd, List.nodup_cons.mpr ⟨fun z => (by cases z), List.nodup_nil⟩, fun a ha b hb => ?_⟩
      rw [List.mem_singleton.mp (show b ∈ [k] from hb)]
      rintro rfl
      refine hk (List.any_eq_true.mpr ?_)
      obtain ⟨p, hp, e⟩ := List.mem_map.mp ha
      exact ⟨p, hp, decide_eq_true e⟩
    · rcases List.mem_append.mp hp with hp | hp
      · exact ok p hp
      · rw [List.mem_singleton.mp hp]; exact h
theorem merge_vd : ∀ (ps kvs : List (Key × D)), (kvs.map (·.1)).Nodup → (∀ p ∈ kvs, EntOk p) → (∀ p ∈ ps, EntOk p) → ((mergeD kvs ps).map (·.1)).Nodup ∧ (∀ p ∈ mergeD kvs ps, EntOk p) ∧ (mergeD kvs ps).length ≤ kvs.length + ps.length
  | [], kvs, h1, h2, _ => ⟨h1, h2, Nat.le_refl _⟩
  | (k, v) :: ps, kvs, h1, h2, h3 => by
    obtain ⟨a1, a2, a3⟩ := put_vd h1 h2 (h3 (k, v) List.mem_cons_self)
    obtain ⟨b1, b2, b3⟩ := merge_vd ps (putD kvs k v) a1 a2 fun p hp => h3 p (List.mem_cons_of_mem _ hp)
    refine ⟨b1, b2, ?_⟩
    show (mergeD (putD kvs k v) ps).length ≤ kvs.length + (ps.length + 1)
    omega
theorem vd_merge {ps : List (Key × D)} (h : ∀ p ∈ ps, EntOk p) (hl : ps.length ≤ 100) : VD (mergeD [] ps) := by
  obtain ⟨a, b, c⟩ := merge_vd ps [] List.nodup_nil (fun p hp => (by cases hp)) h
  exact ⟨a, by rw [List.length_nil] at c; omega, b⟩
/-- a value that one may ask of -/
def VV (d : D) : Prop := (d = .non ∨ (∃ xs, d = .tup xs) ∨ ∃ xs, d = .lst xs) ∨ ∃ kvs, d = .dk kvs ∧ VD kvs
theorem ent_dk {R : Ls} (h1 : okS (ks R)) (h2 : ∀ x, (val R x).natAbs ≤ 2 ^ 260) (hn : (ks R).Nodup) : ∀ p ∈ dk D.int R, EntOk p := fun p hp => by
  obtain ⟨q, hq, rfl⟩ := List.mem_map.mp hp
  refine ⟨h1 _ (ks_mem hq), .inl ⟨q.2, rfl, ?_⟩⟩
  have := h2 q.1
  rw [val_of hn hq] at this
  exact Nat.le_trans this (Nat.pow_le_pow_right (by decide) (by decide))
section
variable {e : En} {X : Xn → En → Prop}
/-- loops over given values -/
theorem w_forD {S : Fl → En → Prop} {sm : D → En → Option En} {gb : M Fl} (ds : List D) (Inv : List D → En → Prop) (h0 : Inv [] e) (h : ∀ pre a post e, ds = pre ++ a :: post → Inv pre e → ∃ e0, sm a e = some e0 ∧ W (gb e0) (TurnP S (Inv (pre ++ [a]))) X) (hend : ∀ e, Inv ds e → S .nx e) : W (forL sm gb ds e) S X := by
  have := w_forI (X := X) (S := S) (sm := sm) (gb := gb) (fun d : D => d) ds Inv h0 h hend
  rw [List.map_id'] at this
  exact this
theorem w_lcD {sm : D → En → Option En} {ft : M Bool} {fe : M D} {vs : List Nat} {P : List D → En → Prop} (ds : List D) (Inv : List D → List D → En → Prop) (h0 : Inv [] [] e)
    (h : ∀ pre a post ys e, ds = pre ++ a :: post → Inv pre ys e → ∃ e0, sm a (wipeE e vs) = some e0 ∧ W (ft e0) (LcP (fun y e2 => Inv (pre ++ [a]) (ys ++ [y]) e2) (Inv (pre ++ [a]) ys) fe) X0)
    (hend : ∀ ys e, Inv ds ys e → P ys (wipeE e vs)) : W (lcL sm ft fe vs ds e) P X := by
  have := w_lcI (X := X) (P := P) (sm := sm) (ft := ft) (fe := fe) (vs := vs) (fun d : D => d) ds Inv h0 h hend
  rw [List.map_id'] at this
  exact this
theorem w_iterT {ds : List D} {P : List D → En → Prop} (p : P ds e) : W (lift (itemsD (.tup ds)) e) P X := p
theorem w_itemK {α : Type} {f : α → D} {l : List (Str × α)} {e : En} {P : D → En → Prop} {X : Xn → En → Prop} (p : P (.lst (l.map fun p => .tup [.str p.1, f p.2])) e) : W (itemL (.dk (dk f l)) e) P X := by
  have e1 : (l.map fun p => D.tup [.str p.1, f p.2]) = (dk f l).map fun p => D.tup [keyV p.1, p.2] := by
    unfold dk
    rw [List.map_map]
    rfl
  rw [e1] at p
  exact p
theorem w_sortIt {l : Ls} (hl : l.length ≤ line) {e : En} {P : D → En → Prop} {X : Xn → En → Prop} (p : P (.lst ((byKey l).map fun p => .tup [.str p.1, .int p.2])) e) : W (sortItD (dI l) e) P X := by
  show W (lift ((toSI (dk D.int l)).bind fun ps => if ps.length ≤ line then some (.lst ((byKey ps).map fun p => .tup [.str p.1, .int p.2])) else none) e) P X
  rw [toSI_dk]
  show W (lift (if l.length ≤ line then some (.lst ((byKey l).map fun p => .tup [.str p.1, .int p.2])) else none) e) P X
  rw [if_pos hl]
  exact p
theorem w_reprB {b : Bool} {P : D → En → Prop} (p : P (.str (if b then "True" else "False")) e) : W (reprD [.bl b] e) P X := p
theorem w_addLD {xs ys : List D} {P : D → En → Prop} (h : xs.length + ys.length ≤ line) (p : P (.lst (xs ++ ys)) e) : W (addLD (.lst xs) (.lst ys) e) P X := w_chkd (m := ret _) h p
end
end VL
namespace VL
open PySem PySem.Spec PyProof.Rows L2
variable [Tb]
local macro_rules | `(tactic| walk_at "w") => `(tactic| first | with_reducible refine St'.h ?_ | with_reducible refine len_of (by with_unfolding_all rfl) ?_ | with_reducible refine ⟨(by with_unfolding_all exact Eq.refl _), ?_⟩ | with_reducible refine w_ixL (by with_unfolding_all rfl) ?_ | with_reducible refine w_mulI (by decide) ?_ | with_reducible refine w_divI (by decide) ?_ | with_reducible refine w_modI (by decide) ?_ | with_reducible refine w_powI (by decide) ?_)
local macro_rules | `(tactic| walk_at "ws") => `(tactic| repeat (walk_at "w"))
local macro_rules | `(tactic| walk_at "wt") => `(tactic| repeat (first | walk_at "w" | with_reducible refine w_ifT (by with_unfolding_all exact Eq.refl _) ?_ | with_reducible refine w_ifF (by with_unfolding_all exact Eq.refl _) ?_))
theorem w_app {e e' : En} {i : Nat} {vs : List D} {x : D} {P : D → En → Prop} {X : Xn → En → Prop} (hl : vs.length < line) (ha : At e i (.ow (.lst vs))) (hp : Pu e i (.ow (.lst (vs ++ [x]))) e') (p : P .non e') : W (modS i (fun c => appD c [x]) e) P X :=
  w_modS ha (if_pos hl) hp p
theorem vv_app {vs : List D} {x : D} (h : ∀ v ∈ vs, VV v) (hx : VV x) : ∀ v ∈ vs ++ [x], VV v := fun v hv => by
  rcases List.mem_append.mp hv with hv | hv
  · exact h v hv
  · rw [List.mem_singleton.mp hv]; exact hx
theorem merge_fold : ∀ (l acc : Ls), mergeD (dk D.int acc) (dk D.int l) = dk D.int (l.foldl (fun a p => put a p.1 p.2) acc)
  | [], _ => rfl
  | p :: l, acc => by
    show mergeD (putD (dk D.int acc) (Sum.inr p.1) (D.int p.2)) (dk D.int l) = _
    rw [putD_dk, merge_fold l]
    rfl
theorem fold_bd {c : Int} (hc : 0 ≤ c) : ∀ (l acc : Ls), (∀ x, 0 ≤ val acc x ∧ val acc x ≤ c) → (∀ p ∈ l, 0 ≤ p.2 ∧ p.2 ≤ c) → ∀ x, 0 ≤ val (l.foldl (fun a p => put a p.1 p.2) acc) x ∧ val (l.foldl (fun a p => put a p.1 p.2) acc) x ≤ c
  | [], _, h, _, x => h x
  | p :: l, acc, h, h2, x => fold_bd hc l (put acc p.1 p.2) (fun y => by
      rw [val_put]
      split
      · exact h2 p List.mem_cons_self
      · exact h y) (fun q hq => h2 q (List.mem_cons_of_mem _ hq)) x
theorem pairs_oneS (R : Ls) (x : Str) (v : D) : (R.map fun p => D.tup [.str p.1, .int p.2]) ++ [D.tup [.str x, v]] = (dk D.int R ++ [((Sum.inr x : Key), v)]).map fun p : Key × D => D.tup [keyV p.1, p.2] := pairs_one R (Sum.inr x) v
theorem pairs_oneI (R : Ls) (i : Int) (v : D) : (R.map fun p => D.tup [.str p.1, .int p.2]) ++ [D.tup [.int i, v]] = (dk D.int R ++ [((Sum.inl i : Key), v)]).map fun p : Key × D => D.tup [keyV p.1, p.2] := pairs_one R (Sum.inl i) v
theorem ev_right {n N : Nat} {d : D} (h : Dice n d) (hn : n < 2 ^ 61) (hN : n + 700 ≤ N) : FW (m__law_right [d]) (fun r os => ∃ d', r = .bl true ∧ os = [d'] ∧ Dice N d') QX0 := by
  unfold m__law_right
  with_reducible refine fw_run ?_
  show W (b__law_right [.ow d, .un, .un, .un, .un, .un, .un, .un, .un, .un, .un, .un, .un, .un, .un, .un]) _ _
  unfold b__law_right
  walk_at "wt"
  with_reducible refine w_dow (ev_roll h (by omega) (t := 8) (by decide) (by decide)) fun r os z => ?_
  obtain ⟨i, d1, rfl, rfl, hi0, hi8, hd1⟩ := z
  refine ⟨_, inferInstance, ?_⟩
  walk_at "wt"
  rw [show (2 : Int) + i = ((2 + i.toNat : Nat) : Int) by omega]
  with_reducible refine w_dow (ev_drawn hd1 (by omega) (N := n + 501) (by omega) (k := 2 + i.toNat) (by omega) (by omega)) fun r os z => ?_
  obtain ⟨ns, L, d2, rfl, hperm, hdr, hne, rfl, hd2⟩ := z
  obtain ⟨r, T, K2, T2, y⟩ := lay_of (by omega) hperm hdr hne
  have hK2 := y.hK2
  have hT2 := y.hT2
  have k9 := y.k9
  have k2nd := y.k2nd
  have okK2 : okS K2 := fun x hx => y.ok x ((y.k2 x).mp hx)
  have hkl : K2.length ≤ line := by show _ ≤ 16777216; omega
  refine ⟨_, inferInstance, ?_⟩
  walk_at "wt"
  with_reducible refine w_dok hK2 ?_
  walk_at "wt"
  with_reducible refine w_dow (ev_pick hd2 (by omega) (xs := [.int 20, .int (10 ^ (9 : Int).toNat)]) (by decide) (by decide)) fun r os z => ?_
  obtain ⟨d3, hr, rfl, hd3⟩ := z
  have hr2 : ∃ v : Int, r = .int v ∧ 0 < v ∧ v ≤ 1000000000 := by
    simp only [List.mem_cons, List.not_mem_nil, or_false] at hr
    rcases hr with h | h <;> exact ⟨_, h, by decide, by decide⟩
  obtain ⟨great, rfl, hg0, hg1⟩ := hr2
  have hglog : great.natAbs.log2 < 100 := log2_small (by omega) (by omega)
  refine ⟨_, inferInstance, ?_⟩
  walk_at "wt"
  -- orders
  with_reducible refine w_iterL ?_
  with_reducible refine w_lcI D.str K2 (fun pre ys e => ∃ (d' : D) (s8 : Sl) (o : Ls), e = [.ow d', .fz (dL L), .fz (sL K2), .fz (.int great), .un, .un, .un, .un, s8, .un, .un, .un, .un, .un, .un, .un] ∧ Dice (n + 510 + 2 * pre.length) d' ∧ ys = o.map (fun p : Str × Int => D.tup [.str p.1, .int p.2]) ∧ (ks o).Nodup ∧ o.length ≤ pre.length ∧ (∀ x ∈ ks o, x ∈ pre) ∧ ∀ p ∈ o, 0 ≤ p.2 ∧ p.2 ≤ 1000000000) ?_ (fun pre a post ys e hx hI => ?_) (fun ys e hI => ?_)
  · exact ⟨d3, _, [], rfl, hd3.mono (by show _ ≤ n + 510 + 2 * 0; omega), rfl, List.nodup_nil, Nat.le_refl _, fun x hx => (by cases hx), fun p hp => (by cases hp)⟩
  · obtain ⟨d', s8, o, rfl, q1, rfl, q2, q5, q3, q4⟩ := hI
    have hpl : pre.length ≤ 9 := by
      have := congrArg List.length hx
      rw [List.length_append] at this
      omega
    have ha : a ∉ pre := fun z => by
      rw [hx] at k2nd
      exact (List.nodup_append.mp k2nd).2.2 a z a List.mem_cons_self rfl
    refine ⟨_, sm_wi, ?_⟩
    walk_at "wt"
    with_reducible refine w_dow (ev_roll q1 (by omega) (t := 3) (by decide) (by decide)) fun r os z => ?_
    obtain ⟨i, d5, rfl, rfl, _, _, q6⟩ := z
    refine ⟨_, inferInstance, ?_⟩
    walk_at "wt"
    with_reducible refine w_eqI ?_
    walk_at "wt"
    refine ⟨fun _ => ?_, fun _ => ?_⟩
    · walk_at "wt"
      with_reducible refine w_dow (ev_roll q6 (by omega) hg0 hglog) fun r os z => ?_
      obtain ⟨v, d6, rfl, rfl, hv0, hv1, q7⟩ := z
      refine ⟨_, inferInstance, ?_⟩
      walk_at "wt"
      refine ⟨d6, _, o ++ [(a, v)], rfl, q7.mono (by rw [List.length_append]; show _ ≤ n + 510 + 2 * (pre.length + 1); omega), by rw [List.map_append]; rfl, ?_, by rw [List.length_append, List.length_append]; exact Nat.succ_le_succ q5, fun x hx => ?_, fun p hp => ?_⟩
      · show ((o ++ [(a, v)]).map (·.1)).Nodup
        rw [List.map_append]
        refine List.nodup_append.mpr ⟨q2, List.nodup_cons.mpr ⟨fun z => (by cases z), List.nodup_nil⟩, fun x hxo b hb => ?_⟩
        rw [List.mem_singleton.mp (show b ∈ [a] from hb)]
        exact fun z => ha (by rw [← z]; exact q3 x hxo)
      · have hx : x ∈ (o ++ [(a, v)]).map (·.1) := hx
        rw [List.map_append] at hx
        rcases List.mem_append.mp hx with hx | hx
        · exact List.mem_append_left _ (q3 x hx)
        · exact List.mem_append_right _ hx
      · rcases List.mem_append.mp hp with hp | hp
        · exact q4 p hp
        · rw [List.mem_singleton.mp hp]
          show 0 ≤ v ∧ v ≤ 1000000000
          omega
    · exact ⟨d5, _, o, rfl, q6.mono (by rw [List.length_append]; show _ ≤ n + 510 + 2 * (pre.length + 1); omega), rfl, q2, by rw [List.length_append]; omega, fun x hx => List.mem_append_left _ (q3 x hx), q4⟩
  obtain ⟨d4, s8, o, rfl, hd4, rfl, o1, o4, o2, o3⟩ := hI
  rw [wi_h (e := [.ow d4, .fz (dL L), .fz (sL K2), .fz (.int great), .un, .un, .un, .un, s8, .un, .un, .un, .un, .un, .un, .un]) (vs := [8])]
  have ho : Cnt L o := ⟨o1, fun x hx => (y.k2 x).mp (o2 x hx), o3⟩
  have hol : o.length ≤ 9 := Nat.le_trans o4 k9
  refine ⟨by rw [List.length_map]; show _ ≤ 16777216; omega, ?_⟩
  walk_at "wt"
  with_reducible refine w_dictK (f := D.int) o1 ?_
  walk_at "wt"
  -- stock
  with_reducible refine w_iterL ?_
  with_reducible refine w_lcI D.str K2 (fun pre ys e => ∃ (d' : D) (s8 : Sl) (o' : Ls), e = [.ow d', .fz (dL L), .fz (sL K2), .fz (.int great), .fz (dI o), .un, .un, .un, s8, .un, .un, .un, .un, .un, .un, .un] ∧ Dice (n + 530 + 3 * pre.length) d' ∧ ys = o'.map (fun p : Str × Int => D.tup [.str p.1, .int p.2]) ∧ (ks o').Nodup ∧ o'.length ≤ pre.length ∧ (∀ x ∈ ks o', x ∈ pre) ∧ ∀ p ∈ o', 0 ≤ p.2 ∧ p.2 ≤ 1000000000) ?_ (fun pre a post ys e hx hI => ?_) (fun ys e hI => ?_)
  · exact ⟨d4, _, [], rfl, hd4.mono (by show _ ≤ n + 530 + 3 * 0; omega), rfl, List.nodup_nil, Nat.le_refl _, fun x hx => (by cases hx), fun p hp => (by cases hp)⟩
  · obtain ⟨d', s8, o', rfl, q1, rfl, q2, q5, q3, q4⟩ := hI
    have hpl : pre.length ≤ 9 := by
      have := congrArg List.length hx
      rw [List.length_append] at this
      omega
    have ha : a ∉ pre := fun z => by
      rw [hx] at k2nd
      exact (List.nodup_append.mp k2nd).2.2 a z a List.mem_cons_self rfl
    refine ⟨_, sm_wi, ?_⟩
    walk_at "wt"
    with_reducible refine w_dow (ev_roll q1 (by omega) (t := 2) (by decide) (by decide)) fun r os z => ?_
    obtain ⟨i, d5, rfl, rfl, _, _, q6⟩ := z
    refine ⟨_, inferInstance, ?_⟩
    walk_at "wt"
    with_reducible refine w_eqI ?_
    walk_at "wt"
    refine ⟨fun _ => ?_, fun _ => ?_⟩
    · walk_at "wt"
      with_reducible refine w_dow (ev_roll q6 (by omega) hg0 hglog) fun r os z => ?_
      obtain ⟨v, d6, rfl, rfl, hv0, hv1, q7⟩ := z
      refine ⟨_, inferInstance, ?_⟩
      walk_at "wt"
      have hp1 : 0 < ([D.int 0, D.int 3, D.int great, D.int v] : List D).length := Nat.succ_pos _
      have hp2 : ([D.int 0, D.int 3, D.int great, D.int v] : List D).length ≤ 2 ^ 60 := by show 4 ≤ 2 ^ 60; decide
      with_reducible refine w_dow (ev_pick q7 (by omega) hp1 hp2) fun r os z => ?_
      obtain ⟨d7, hr, rfl, q8⟩ := z
      have hr2 : ∃ u : Int, r = .int u ∧ 0 ≤ u ∧ u ≤ 1000000000 := by
        simp only [List.mem_cons, List.not_mem_nil, or_false] at hr
        rcases hr with h | h | h | h
        · exact ⟨_, h, by decide, by decide⟩
        · exact ⟨_, h, by decide, by decide⟩
        · exact ⟨_, h, by omega, hg1⟩
        · exact ⟨_, h, hv0, by omega⟩
      obtain ⟨u, rfl, hu0, hu1⟩ := hr2
      refine ⟨_, inferInstance, ?_⟩
      walk_at "wt"
      refine ⟨d7, _, o' ++ [(a, u)], rfl, q8.mono (by rw [List.length_append]; show _ ≤ n + 530 + 3 * (pre.length + 1); omega), by rw [List.map_append]; rfl, ?_, by rw [List.length_append, List.length_append]; exact Nat.succ_le_succ q5, fun x hx => ?_, fun p hp => ?_⟩
      · show ((o' ++ [(a, u)]).map (·.1)).Nodup
        rw [List.map_append]
        refine List.nodup_append.mpr ⟨q2, List.nodup_cons.mpr ⟨fun z => (by cases z), List.nodup_nil⟩, fun x hxo b hb => ?_⟩
        rw [List.mem_singleton.mp (show b ∈ [a] from hb)]
        exact fun z => ha (by rw [← z]; exact q3 x hxo)
      · have hx : x ∈ (o' ++ [(a, u)]).map (·.1) := hx
        rw [List.map_append] at hx
        rcases List.mem_append.mp hx with hx | hx
        · exact List.mem_append_left _ (q3 x hx)
        · exact List.mem_append_right _ hx
      · rcases List.mem_append.mp hp with hp | hp
        · exact q4 p hp
        · rw [List.mem_singleton.mp hp]
          exact ⟨hu0, hu1⟩
    · exact ⟨d5, _, o', rfl, q6.mono (by rw [List.length_append]; show _ ≤ n + 530 + 3 * (pre.length + 1); omega), rfl, q2, by rw [List.length_append]; omega, fun x hx => List.mem_append_left _ (q3 x hx), q4⟩
  obtain ⟨d5, s8b, s, rfl, hd5, rfl, t1, t4, t2, t3⟩ := hI
  rw [wi_h (e := [.ow d5, .fz (dL L), .fz (sL K2), .fz (.int great), .fz (dI o), .un, .un, .un, s8b, .un, .un, .un, .un, .un, .un, .un]) (vs := [8])]
  have hs : Cnt L s := ⟨t1, fun x hx => (y.k2 x).mp (t2 x hx), t3⟩
  have hsl : s.length ≤ 9 := Nat.le_trans t4 k9
  refine ⟨by rw [List.length_map]; show _ ≤ 16777216; omega, ?_⟩
  walk_at "wt"
  with_reducible refine w_dictK (f := D.int) t1 ?_
  walk_at "wt"
  -- the least provision, twice
  have hov : ∀ x, 0 ≤ val o x ∧ val o x ≤ 2 ^ 31 := fun x => by have := ho.val x; omega
  have hsv : ∀ x, 0 ≤ val s x := fun x => (hs.val x).1
  with_reducible refine w_dow (ev_least y hov hsv) fun r os z => ?_
  obtain ⟨R, rfl, rfl, hRpv, hRnd, hRsub, hRpos, hRbd⟩ := z
  refine ⟨_, inferInstance, ?_⟩
  walk_at "wt"
  with_reducible refine w_dow (ev_provision y ho hs) fun r os z => ?_
  obtain ⟨Y, f, rfl, rfl, hYpv, hYnn, hYnd, hYsrt, hYmem⟩ := z
  refine ⟨_, inferInstance, ?_⟩
  walk_at "wt"
  with_reducible refine w_itemK (f := D.int) ?_
  walk_at "wt"
  have hRl : R.length ≤ 9 := by
    have h1 := nd_len hRnd hRsub
    have h2 : (ks R).length = R.length := List.length_map _
    have := y.kn9
    omega
  have hRline : R.length ≤ line := by show R.length ≤ 16777216; omega
  with_reducible refine w_sortIt hRline ?_
  have huniq : ∀ x ∈ kn L, f x = val R x := fun x hx => pv_uniq y.fit.nd y.fit.rk y.r9 y.sub hYpv hRpv 10 x (by omega) hx
  have hYR : Y = byKey R := by
    have hbp := byKey_perm R
    refine sorted_eq hYsrt (byKey_sorted R) hYnd ((hbp.map (fun p : Str × Int => p.1)).nodup_iff.mpr hRnd) fun p => ?_
    rw [hYmem, hbp.mem_iff]
    constructor
    · rintro ⟨a1, a2, a3⟩
      rw [huniq _ a1] at a2 a3
      by_cases e : p.1 ∈ ks R
      · obtain ⟨q, hq, e2⟩ := List.mem_map.mp e
        have := val_of hRnd hq
        rw [e2] at this
        rw [this] at a3
        have : p = q := Prod.ext e2.symm a3
        rw [this]
        exact hq
      · rw [val_none e] at a2
        omega
    · intro hp
      have h1 := hRsub _ (ks_mem hp)
      have h2 := val_of hRnd hp
      have h3 := hRpos p hp
      rw [huniq _ h1, h2]
      exact ⟨h1, by omega, rfl⟩
  rw [hYR]
  walk_at "wt"
  have okR : okS (ks (byKey R)) := fun x hx => by
    obtain ⟨p, hp, rfl⟩ := List.mem_map.mp hx
    exact y.ok _ (hRsub _ (ks_mem ((byKey_perm R).mem_iff.mp hp)))
  have hEq := eq_pairs okR
  with_reducible refine w_ne hEq ?_
  walk_at "wt"
  -- a name, values near the told provision
  have hK2p : 0 < K2.length := by
    cases hL : L with
    | nil => exact absurd hL hne
    | cons p L' =>
      have : p.1 ∈ kn L := y.sub _ (by rw [hL]; exact List.mem_cons_self)
      exact List.length_pos_of_mem ((y.k2 _).mpr this)
  with_reducible refine w_dow (ev_pick hd5 (by omega) (xs := K2.map D.str) (by rw [List.length_map]; exact hK2p) (by rw [List.length_map]; omega)) fun r os z => ?_
  obtain ⟨d6, hr, rfl, hd6⟩ := z
  obtain ⟨nam, hnam, rfl⟩ := List.mem_map.mp hr
  have hnamok : PyData.strOk nam = true := okK2 nam hnam
  refine ⟨_, inferInstance, ?_⟩
  walk_at "wt"
  have okKR : okS (ks R) := fun x hx => y.ok x (hRsub x hx)
  have entR : ∀ p ∈ dk D.int R, EntOk p := ent_dk okKR hRbd hRnd
  have vdR : VD (dk D.int R) := ⟨by
    have : (dk D.int R).map (·.1) = (ks R).map Sum.inr := by unfold dk; rw [List.map_map, List.map_map]; rfl
    rw [this]
    exact List.Pairwise.map Sum.inr (fun a b h e => h (Sum.inr.inj e)) hRnd, by rw [dk_len]; omega, entR⟩
  have ent1 : ∀ {k : Key} {v : D}, KeyOk k → SimV v → ∀ p ∈ dk D.int R ++ [(k, v)], EntOk p := fun {k v} h1 h2 p hp => by
    rcases List.mem_append.mp hp with hp | hp
    · exact entR p hp
    · rw [List.mem_singleton.mp hp]; exact ⟨h1, h2⟩
  have vv1 : ∀ {k : Key} {v : D}, KeyOk k → SimV v → VV (.dk (mergeD [] (dk D.int R ++ [(k, v)]))) := fun {k v} h1 h2 => .inr ⟨_, rfl, vd_merge (ent1 h1 h2) (by rw [List.length_append, dk_len]; show R.length + 1 ≤ 100; omega)⟩
  have adl : ∀ x : D, (R.map fun p => D.tup [.str p.1, .int p.2]).length + [x].length ≤ line := fun x => by rw [List.length_map]; show R.length + 1 ≤ 16777216; omega
  have sim1 : ∀ {i : Int}, i.natAbs ≤ 2 ^ 300 → SimV (.int i) := fun {i} h => .inl ⟨i, rfl, h⟩
  with_reducible refine w_itemK (f := D.int) ?_
  walk_at "wt"
  with_reducible refine w_itemK (f := D.int) ?_
  walk_at "wt"
  with_reducible refine w_addL (adl _) ?_
  walk_at "wt"
  with_reducible refine w_dictP (pairs_oneS R _ _) ?_
  walk_at "wt"
  have hv6 : ∀ v ∈ [dI R, D.dk [], D.non, D.tup [], D.lst (R.map fun p => D.tup [.str p.1, .int p.2]), D.dk (mergeD [] (dk D.int R ++ [((Sum.inr "zz" : Key), D.int 1)]))], VV v := fun v hv => by
    simp only [List.mem_cons, List.not_mem_nil, or_false] at hv
    rcases hv with rfl | rfl | rfl | rfl | rfl | rfl
    · exact .inr ⟨_, rfl, vdR⟩
    · exact .inr ⟨[], rfl, List.nodup_nil, Nat.zero_le _, fun p hp => (by cases hp)⟩
    · exact .inl (.inl rfl)
    · exact .inl (.inr (.inl ⟨_, rfl⟩))
    · exact .inl (.inr (.inr ⟨_, rfl⟩))
    · exact vv1 (by show PyData.strOk "zz" = true; decide +kernel) (sim1 (by decide))
  have hl6 : [dI R, D.dk [], D.non, D.tup [], D.lst (R.map fun p => D.tup [.str p.1, .int p.2]), D.dk (mergeD [] (dk D.int R ++ [((Sum.inr "zz" : Key), D.int 1)]))].length = 6 := rfl
  generalize [dI R, D.dk [], D.non, D.tup [], D.lst (R.map fun p => D.tup [.str p.1, .int p.2]), D.dk (mergeD [] (dk D.int R ++ [((Sum.inr "zz" : Key), D.int 1)]))] = vs at hv6 hl6 ⊢
  with_reducible refine w_itemK (f := D.int) ?_
  walk_at "wt"
  with_reducible refine w_addL (adl _) ?_
  walk_at "wt"
  with_reducible refine w_dictP (pairs_oneI R _ _) ?_
  walk_at "wt"
  have hvsl : vs.length < line := by rw [hl6]; decide
  with_reducible refine w_app hvsl inferInstance inferInstance ?_
  walk_at "wt"
  have hv7 := vv_app hv6 (vv1 (k := Sum.inl 0) (v := .int 1) trivial (sim1 (by decide)))
  have hl7 : (vs ++ [D.dk (mergeD [] (dk D.int R ++ [((Sum.inl 0 : Key), D.int 1)]))]).length = 7 := by rw [List.length_append, hl6]; rfl
  generalize vs ++ [D.dk (mergeD [] (dk D.int R ++ [((Sum.inl 0 : Key), D.int 1)]))] = vs7 at hv7 hl7 ⊢
  with_reducible refine w_iterT ?_
  have hby : [D.int 1, D.int (-1), D.int (10 ^ (12 : Int).toNat)] = [1, -1, 10 ^ (12 : Int).toNat].map D.int := rfl
  rw [hby]
  with_reducible refine w_forI D.int [1, -1, 10 ^ (12 : Int).toNat] (fun pre e => ∃ (s10 : Sl) (vs : List D), e = [.ow d6, .fz (dL L), .fz (sL K2), .fz (.int great), .fz (dI o), .fz (dI s), .fz (dI R), .fz (dI (byKey R)), .fz (.str nam), .ow (.lst vs), s10, .un, .un, .un, .un, .un] ∧ (∀ v ∈ vs, VV v) ∧ vs.length = 7 + pre.length) ?_ (fun pre a post e hx hI => ?_) (fun e hI => ?_)
  · exact ⟨_, _, rfl, hv7, hl7⟩
  · obtain ⟨s10, vs, rfl, q1, q2⟩ := hI
    have ha : a.natAbs ≤ 2 ^ 60 := by
      have : a ∈ [1, -1, (10 : Int) ^ (12 : Int).toNat] := by rw [hx]; exact List.mem_append_right _ List.mem_cons_self
      simp only [List.mem_cons, List.not_mem_nil, or_false] at this
      rcases this with rfl | rfl | rfl <;> decide
    have hpl : pre.length ≤ 3 := by
      have := congrArg List.length hx
      rw [List.length_append] at this
      have e3 : [1, -1, (10 : Int) ^ (12 : Int).toNat].length = 3 := rfl
      omega
    refine ⟨_, sm_h, ?_⟩
    walk_at "wt"
    with_reducible refine w_itemK (f := D.int) ?_
    walk_at "wt"
    with_reducible refine w_getI ?_
    walk_at "wt"
    with_reducible refine w_addL (adl _) ?_
    walk_at "wt"
    with_reducible refine w_dictP (pairs_oneS R _ _) ?_
    walk_at "wt"
    have hvsl : vs.length < line := by rw [q2]; show _ < 16777216; omega
    with_reducible refine w_app hvsl inferInstance inferInstance ?_
    walk_at "wt"
    refine ⟨_, _, rfl, vv_app q1 (vv1 hnamok (sim1 ?_)), by rw [List.length_append, List.length_append, q2]; rfl⟩
    have h1 := Int.natAbs_add_le (val R nam) a
    have h2 := hRbd nam
    have h3 : (2 : Nat) ^ 260 + 2 ^ 60 ≤ 2 ^ 300 := by decide +kernel
    omega
  obtain ⟨s10, vs10, rfl, hv10, hl10⟩ := hI
  walk_at "wt"
  have hl10 : vs10.length = 10 := hl10
  with_reducible refine w_iterT ?_
  with_reducible refine w_lcD [D.int 0, D.bl true, D.non, D.str "1", D.tup [D.int 1]] (fun pre ys e => ∃ (s14 : Sl), e = [.ow d6, .fz (dL L), .fz (sL K2), .fz (.int great), .fz (dI o), .fz (dI s), .fz (dI R), .fz (dI (byKey R)), .fz (.str nam), .ow (.lst vs10), s10, .un, .un, .un, s14, .un] ∧ (∀ v ∈ ys, VV v) ∧ ys.length = pre.length) ?_ (fun pre a post ys e hx hI => ?_) (fun ys e hI => ?_)
  · exact ⟨_, rfl, fun v hv => (by cases hv), rfl⟩
  · obtain ⟨s14, rfl, q1, q2⟩ := hI
    have ha : SimV a := by
      have : a ∈ [D.int 0, D.bl true, D.non, D.str "1", D.tup [D.int 1]] := by rw [hx]; exact List.mem_append_right _ List.mem_cons_self
      simp only [List.mem_cons, List.not_mem_nil, or_false] at this
      rcases this with rfl | rfl | rfl | rfl | rfl
      · exact sim1 (by decide)
      · exact .inr (.inl ⟨_, rfl⟩)
      · exact .inr (.inr (.inl rfl))
      · exact .inr (.inr (.inr (.inl ⟨_, rfl⟩)))
      · exact .inr (.inr (.inr (.inr ⟨_, rfl⟩)))
    refine ⟨_, sm_wi, ?_⟩
    walk_at "wt"
    refine ⟨fun _ => ?_, fun hb => (by cases hb)⟩
    walk_at "wt"
    with_reducible refine w_itemK (f := D.int) ?_
    walk_at "wt"
    with_reducible refine w_addL (adl _) ?_
    walk_at "wt"
    with_reducible refine w_dictP (pairs_oneS R _ _) ?_
    exact ⟨_, rfl, vv_app q1 (vv1 hnamok ha), by rw [List.length_append, List.length_append, q2]; rfl⟩
  obtain ⟨s14, rfl, hv5, hl5⟩ := hI
  have hl5 : ys.length = 5 := hl5
  rw [wi_h (e := [.ow d6, .fz (dL L), .fz (sL K2), .fz (.int great), .fz (dI o), .fz (dI s), .fz (dI R), .fz (dI (byKey R)), .fz (.str nam), .ow (.lst vs10), s10, .un, .un, .un, s14, .un]) (vs := [14])]
  refine ⟨by rw [hl5]; decide, ?_⟩
  walk_at "wt"
  with_reducible refine w_addLD (by rw [hl5, hl10]; decide) ?_
  have hv15 : ∀ v ∈ vs10 ++ ys, VV v := fun v hv => by
    rcases List.mem_append.mp hv with hv | hv
    · exact hv10 v hv
    · exact hv5 v hv
  have hl15 : (vs10 ++ ys).length = 15 := by rw [List.length_append, hl5, hl10]
  generalize vs10 ++ ys = vs15 at hv15 hl15 ⊢
  walk_at "wt"
  -- great counts of all that stands in a list
  with_reducible refine w_iterL ?_
  with_reducible refine w_lcp inferInstance D.str (fun x => decide (0 < val T2 x)) (fun x => D.tup [.str x, .int (10 ^ (60 : Int).toNat)]) K2 (fun x hx => ⟨_, sm_h, wi_h, ?_⟩) ?_
  · have hxT := lkp_val (y.all2 x hx)
    walk_at "wt"
    with_reducible refine w_dok hT2 ?_
    walk_at "wt"
    with_reducible refine w_ixK (f := D.int) hxT ?_
    walk_at "wt"
    intro _
    walk_at "wt"
    exact wi_h
  have hfl1 := List.length_filter_le (fun x => decide (0 < val T2 x)) K2
  refine ⟨by rw [List.length_map]; exact Nat.le_trans hfl1 hkl, ?_⟩
  walk_at "wt"
  have hp60 : (K2.filter fun x => decide (0 < val T2 x)).map (fun x => D.tup [.str x, .int (10 ^ (60 : Int).toNat)]) = ((K2.filter fun x => decide (0 < val T2 x)).map fun x => ((Sum.inr x : Key), D.int (10 ^ (60 : Int).toNat))).map fun p : Key × D => D.tup [keyV p.1, p.2] := by rw [List.map_map]; rfl
  with_reducible refine w_dictP hp60 ?_
  have hvd60 : VV (.dk (mergeD [] ((K2.filter fun x => decide (0 < val T2 x)).map fun x => ((Sum.inr x : Key), D.int (10 ^ (60 : Int).toNat))))) := .inr ⟨_, rfl, vd_merge (fun p hp => by
    obtain ⟨x, hx, rfl⟩ := List.mem_map.mp hp
    exact ⟨okK2 x (List.mem_filter.mp hx).1, sim1 (by decide +kernel)⟩) (by rw [List.length_map]; omega)⟩
  generalize D.dk (mergeD [] ((K2.filter fun x => decide (0 < val T2 x)).map fun x => ((Sum.inr x : Key), D.int (10 ^ (60 : Int).toNat)))) = x16 at hvd60 ⊢
  walk_at "wt"
  have hvsl15 : vs15.length < line := by rw [hl15]; decide
  with_reducible refine w_app hvsl15 inferInstance inferInstance ?_
  walk_at "wt"
  have hv16 := vv_app hv15 hvd60
  have hl16 : (vs15 ++ [x16]).length = 16 := by rw [List.length_append, hl15]; rfl
  generalize vs15 ++ [x16] = vs16 at hv16 hl16 ⊢
  -- rows, more
  with_reducible refine w_iterL ?_
  with_reducible refine w_lcp inferInstance D.str (fun x => decide (val T2 x = 0)) (fun x => D.tup [.str x, .int (val R x + 5)]) K2 (fun x hx => ⟨_, sm_h, wi_h, ?_⟩) ?_
  · have hxT := lkp_val (y.all2 x hx)
    walk_at "wt"
    with_reducible refine w_dok hT2 ?_
    walk_at "wt"
    with_reducible refine w_ixK (f := D.int) hxT ?_
    walk_at "wt"
    with_reducible refine w_eqI ?_
    walk_at "wt"
    intro _
    walk_at "wt"
    with_reducible refine w_getI ?_
    walk_at "wt"
    exact wi_h
  have hfl2 := List.length_filter_le (fun x => decide (val T2 x = 0)) K2
  have hfsub : ∀ x ∈ K2.filter (fun x => decide (val T2 x = 0)), x ∈ K2 := fun x hx => (List.mem_filter.mp hx).1
  have hfnd : (K2.filter fun x => decide (val T2 x = 0)).Nodup := List.Sublist.nodup List.filter_sublist k2nd
  generalize K2.filter (fun x => decide (val T2 x = 0)) = rows at hfl2 hfsub hfnd ⊢
  refine ⟨by rw [List.length_map]; exact Nat.le_trans hfl2 hkl, ?_⟩
  walk_at "wt"
  have hrow : rows.map (fun x => D.tup [.str x, .int (val R x + 5)]) = (rows.map fun x => (x, val R x + 5)).map fun p => D.tup [.str p.1, .int p.2] := by rw [List.map_map]; rfl
  rw [hrow]
  have hrnd : (ks (rows.map fun x => (x, val R x + 5))).Nodup := by
    show ((rows.map fun x => (x, val R x + 5)).map (·.1)).Nodup
    rw [List.map_map]
    exact (List.map_id'' (fun _ => rfl) rows).symm ▸ hfnd
  have hrks : ks (rows.map fun x => (x, val R x + 5)) = rows := by
    show (rows.map fun x => (x, val R x + 5)).map (·.1) = _
    rw [List.map_map]
    exact List.map_id'' (fun _ => rfl) rows
  with_reducible refine w_dictK (f := D.int) hrnd ?_
  walk_at "wt"
  with_reducible refine w_itemK (f := D.int) ?_
  walk_at "wt"
  with_reducible refine w_iterK ?_
  rw [hrks]
  with_reducible refine w_lcm inferInstance D.str (fun x => D.tup [.str x, .int (val o x + 5)]) rows (fun x hx => ⟨_, sm_h, wi_h, ?_⟩) ?_
  · walk_at "wt"
    with_reducible refine w_getI ?_
    walk_at "wt"
    exact wi_h
  refine ⟨by rw [List.length_map]; exact Nat.le_trans hfl2 hkl, ?_⟩
  walk_at "wt"
  with_reducible refine w_addL (by rw [List.length_map, List.length_map]; show _ ≤ 16777216; omega) ?_
  walk_at "wt"
  have hmore : (o.map fun p => D.tup [.str p.1, .int p.2]) ++ rows.map (fun x => D.tup [.str x, .int (val o x + 5)]) = (dk D.int (o ++ rows.map fun x => (x, val o x + 5))).map fun p : Key × D => D.tup [keyV p.1, p.2] := by
    unfold dk
    rw [List.map_map, List.map_append, List.map_map]
    rfl
  with_reducible refine w_dictP hmore ?_
  have hmf : D.dk (mergeD [] (dk D.int (o ++ rows.map fun x => (x, val o x + 5)))) = dI ((o ++ rows.map fun x => (x, val o x + 5)).foldl (fun a p => put a p.1 p.2) []) := congrArg D.dk (merge_fold _ [])
  rw [hmf]
  have hmb := fold_bd (c := 2 ^ 31) (by decide) (o ++ rows.map fun x => (x, val o x + 5)) [] (fun x => ⟨Int.le_refl _, by show (0 : Int) ≤ 2 ^ 31; decide⟩) (fun p hp => by
    rcases List.mem_append.mp hp with hp | hp
    · have := o3 p hp
      omega
    · obtain ⟨x, _, rfl⟩ := List.mem_map.mp hp
      have := ho.val x
      show 0 ≤ val o x + 5 ∧ val o x + 5 ≤ 2 ^ 31
      omega)
  generalize (o ++ rows.map fun x => (x, val o x + 5)).foldl (fun a p => put a p.1 p.2) [] = o2 at hmb ⊢
  walk_at "wt"
  with_reducible refine w_dow (ev_least y hmb hsv) fun r os z => ?_
  obtain ⟨R2, rfl, rfl, _, hR2nd, hR2sub, _, hR2bd⟩ := z
  refine ⟨_, inferInstance, ?_⟩
  walk_at "wt"
  with_reducible refine w_itemK (f := D.int) ?_
  walk_at "wt"
  with_reducible refine w_dictK (f := D.int) hR2nd ?_
  have hR2l : R2.length ≤ 9 := by
    have h1 := nd_len hR2nd hR2sub
    have h2 : (ks R2).length = R2.length := List.length_map _
    have := y.kn9
    omega
  have hvR2 : VV (dI R2) := .inr ⟨_, rfl, by
    have : (dk D.int R2).map (·.1) = (ks R2).map Sum.inr := by unfold dk; rw [List.map_map, List.map_map]; rfl
    rw [this]
    exact List.Pairwise.map Sum.inr (fun a b h e => h (Sum.inr.inj e)) hR2nd, by rw [dk_len]; omega, ent_dk (fun x hx => y.ok x (hR2sub x hx)) hR2bd hR2nd⟩
  walk_at "wt"
  have hvsl16 : vs16.length < line := by rw [hl16]; decide
  with_reducible refine w_app hvsl16 inferInstance inferInstance ?_
  walk_at "wt"
  have hv17 := vv_app hv16 hvR2
  have hl17 : (vs16 ++ [dI R2]).length = 17 := by rw [List.length_append, hl16]; rfl
  generalize vs16 ++ [dI R2] = vs17 at hv17 hl17 ⊢
  -- one name left out
  with_reducible refine w_iterK ?_
  with_reducible refine w_lcp inferInstance D.str (fun x => !decide (x = nam)) (fun x => D.tup [.str x, .int (val R x)]) (ks R) (fun x hx => ⟨_, sm_h, wi_h, ?_⟩) ?_
  · have hxR := lkp_val hx
    have hxok := okKR x hx
    walk_at "wt"
    with_reducible refine w_neS hxok hnamok ?_
    walk_at "wt"
    intro _
    walk_at "wt"
    with_reducible refine w_ixK (f := D.int) hxR ?_
    walk_at "wt"
    exact wi_h
  have hfl3 := List.length_filter_le (fun x => !decide (x = nam)) (ks R)
  have hksR : (ks R).length = R.length := List.length_map _
  refine ⟨by rw [List.length_map]; show _ ≤ 16777216; omega, ?_⟩
  walk_at "wt"
  have hpl : ((ks R).filter fun x => !decide (x = nam)).map (fun x => D.tup [.str x, .int (val R x)]) = (((ks R).filter fun x => !decide (x = nam)).map fun x => ((Sum.inr x : Key), D.int (val R x))).map fun p : Key × D => D.tup [keyV p.1, p.2] := by rw [List.map_map]; rfl
  with_reducible refine w_dictP hpl ?_
  have hvdl : VV (.dk (mergeD [] (((ks R).filter fun x => !decide (x = nam)).map fun x => ((Sum.inr x : Key), D.int (val R x))))) := .inr ⟨_, rfl, vd_merge (fun p hp => by
    obtain ⟨x, hx, rfl⟩ := List.mem_map.mp hp
    exact ⟨okKR x (List.mem_filter.mp hx).1, sim1 (Nat.le_trans (hRbd x) (Nat.pow_le_pow_right (by decide) (by decide)))⟩) (by rw [List.length_map]; omega)⟩
  generalize D.dk (mergeD [] (((ks R).filter fun x => !decide (x = nam)).map fun x => ((Sum.inr x : Key), D.int (val R x)))) = x18 at hvdl ⊢
  walk_at "wt"
  have hvsl17 : vs17.length < line := by rw [hl17]; decide
  with_reducible refine w_app hvsl17 inferInstance inferInstance ?_
  walk_at "wt"
  have hv18 := vv_app hv17 hvdl
  generalize vs17 ++ [x18] = vs18 at hv18 ⊢
  -- each value, twice
  with_reducible refine w_iterL ?_
  with_reducible refine w_forD vs18 (fun pre e => ∃ (s13 : Sl), e = [.ow d6, .fz (dL L), .fz (sL K2), .fz (.int great), .fz (dI o), .fz (dI s), .fz (dI R), .fz (dI (byKey R)), .fz (.str nam), .fz (.lst vs18), s10, .fz (dI (rows.map fun x => (x, val R x + 5))), .fz (dI o2), s13, .un, .un]) ?_ (fun pre a post e hx hI => ?_) (fun e hI => ?_)
  · exact ⟨_, rfl⟩
  · obtain ⟨s13, rfl⟩ := hI
    have ha : VV a := hv18 a (by rw [hx]; exact List.mem_append_right _ List.mem_cons_self)
    have h2 : ∃ b : Bool, m_is_provision [dL L, dI o, dI s, a] = .ok (.bl b) [] ∧ m__law_is_provision [dL L, dI o, dI s, a] = .ok (.bl b) [] := by
      rcases ha with ha | ⟨kvs, rfl, hv⟩
      · obtain ⟨r1, os1, z1, rfl, rfl⟩ := (ev_isprov0 y ho hs ha).of
        obtain ⟨r2, os2, z2, rfl, rfl⟩ := (ev_lawprov0 (L := L) (o := o) (s := s) ha).of
        exact ⟨false, z1, z2⟩
      · obtain ⟨r1, os1, z1, rfl, rfl⟩ := (ev_isprov y ho hs hv).of
        obtain ⟨r2, os2, z2, rfl, rfl⟩ := (ev_lawprov y (o := o) (s := s) hv).of
        exact ⟨_, z1, z2⟩
    obtain ⟨b, z1, z2⟩ := h2
    refine ⟨_, sm_h, ?_⟩
    walk_at "wt"
    with_reducible refine w_dok z1 ?_
    walk_at "wt"
    with_reducible refine w_reprB ?_
    walk_at "wt"
    with_reducible refine w_dok z2 ?_
    walk_at "wt"
    with_reducible refine w_reprB ?_
    walk_at "wt"
    have hst : PyData.strOk (if b = true then "True" else "False") = true := by cases b <;> decide +kernel
    with_reducible refine w_neS hst hst ?_
    rw [decide_eq_true rfl]
    walk_at "wt"
    exact ⟨_, rfl⟩
  obtain ⟨s13, rfl⟩ := hI
  walk_at "wt"
  exact ep_rt rfl ⟨_, rfl, rfl, hd6.mono (by omega)⟩
end VL
namespace VL
open PySem PySem.Spec PyProof.Rows L2
variable [Tb]
local macro_rules | `(tactic| walk_at "w") => `(tactic| first | with_reducible refine St'.h ?_ | with_reducible refine len_of (by with_unfolding_all rfl) ?_ | with_reducible refine ⟨(by with_unfolding_all exact Eq.refl _), ?_⟩ | with_reducible refine w_ixL (by with_unfolding_all rfl) ?_ | with_reducible refine w_mulI (by decide) ?_ | with_reducible refine w_divI (by decide) ?_ | with_reducible refine w_modI (by decide) ?_ | with_reducible refine w_powI (by decide) ?_)
local macro_rules | `(tactic| walk_at "ws") => `(tactic| repeat (walk_at "w"))
local macro_rules | `(tactic| walk_at "wt") => `(tactic| repeat (first | walk_at "w" | with_reducible refine w_ifT (by with_unfolding_all exact Eq.refl _) ?_ | with_reducible refine w_ifF (by with_unfolding_all exact Eq.refl _) ?_))
abbrev iL (ns : List Int) : D := .frl (ns.map .int)
theorem ev_dice {ns : List Int} {j : Nat} (hj : j < 64) : FWF (m__law_dice [iL ns, .int (j : Int)]) (fun r os => os = [] ∧ Dice 0 r) QX0 := by
  unfold m__law_dice
  with_reducible refine fw_runF ?_
  show W (b__law_dice [.fz (iL ns), .fz (.int (j : Int)), .un, .un, .un]) _ _
  unfold b__law_dice
  have key : ∀ (S : Fl → En → Prop), (∀ c : Int, S .nx [.fz (iL ns), .fz (.int (j : Int)), .fz (.int c), .un, .un]) → W (setM 2 (ifE (bnd (op2 (nmB 1) (bnd (callM (opsM (nmB 0) (ret [])) lenD) fun d => ret (.val d)) (cmpD .Lt)) asB) (callM (opsM (bnd (op2 (nmB 0) (nmB 1) ixD) fun d => ret (.val d)) (ret [])) intD) (op2 (bnd (op2 (bnd (ret (.int 131)) fun d => ret (.val d)) (nmB 1) mulD) fun d => ret (.val d)) (bnd (ret (.int 37)) fun d => ret (.val d)) addD)) [.fz (iL ns), .fz (.int (j : Int)), .un, .un, .un]) S (EndX [false, false] QX0) := by
    intro S hS
    walk_at "ws"
    refine w_ifM (fun hb => ?_) fun hb => ?_
    · have hb : (j : Int) < ((ns.map D.int).length : Nat) := of_decide_eq_true hb
      rw [List.length_map] at hb
      have hx : L2.atI (ns.map D.int) (j : Int) = some (D.int (ns.getD j 0)) := by
        refine atI_nat ?_
        rw [List.getElem?_map, List.getElem?_eq_getElem (by omega), List.getD_eq_getElem?_getD, List.getElem?_eq_getElem (by omega)]
        rfl
      walk_at "ws"
      with_reducible refine w_ixF hx ?_
      walk_at "ws"
      exact hS _
    · walk_at "ws"
      have h1 : (131 : Int).natAbs.log2 ≤ 30 := by decide
      have h2 : (j : Int).natAbs.log2 ≤ 30 := log2_le (by omega)
      with_reducible refine w_mulI (by omega) ?_
      walk_at "ws"
      exact hS _
  with_reducible refine w_seq (key _ fun c => ?_)
  walk_at "ws"
  have hM : (0 : Int) < (10 ^ Int.toNat 53) ^ Int.toNat 6 ∧ ((10 ^ Int.toNat 53) ^ Int.toNat 6 : Int).natAbs ≤ 2 ^ 1100 := by decide +kernel
  generalize hMM : ((10 ^ Int.toNat 53) ^ Int.toNat 6 : Int) = MM at hM
  have hg0 : 0 ≤ (if c < 0 then -c else c) % MM := Int.emod_nonneg _ (by omega)
  have hg1 : ((if c < 0 then -c else c) % MM).natAbs.log2 ≤ 1100 := log2_mod hM.1 hM.2
  generalize (if c < 0 then -c else c) % MM = gr at hg0 hg1
  have hs1 : (gr % 2305843009213693907).natAbs.log2 ≤ 70 := log2_mod (by decide) (by decide)
  have hs2 : (gr % 2305843009213693907).natAbs < 2 ^ 62 := by omega
  generalize gr % 2305843009213693907 = s1 at hs1 hs2
  have h73 : (73 : Int).natAbs.log2 ≤ 30 := by decide
  have h619 : (619 : Int).natAbs.log2 ≤ 30 := by decide
  have h41 : (41 : Int).natAbs.log2 ≤ 30 := by decide
  have h2 : (j : Int).natAbs.log2 ≤ 30 := log2_le (by omega)
  with_reducible refine w_mulI (by omega) ?_
  walk_at "ws"
  with_reducible refine w_mulI (by omega) ?_
  walk_at "ws"
  have h3 : (if decide (c < 0) = true then (1 : Int) else 0).natAbs ≤ 1 := by split <;> decide
  generalize (if decide (c < 0) = true then (1 : Int) else 0) = bb at h3 ⊢
  have h4 : bb.natAbs.log2 ≤ 30 := log2_le (by omega)
  with_reducible refine w_mulI (by omega) ?_
  walk_at "ws"
  refine ⟨_, rfl, rfl, _, _, _, rfl, ?_, ?_, ?_, Int.le_refl _, Nat.le_refl _⟩
  · split <;> omega
  · refine Nat.le_trans (log2_mono (n := gr.natAbs) ?_) (by omega)
    have : (0 : Int) < 10 ^ Int.toNat 16 := by decide
    split <;> omega
  · exact log2_le (by omega)
theorem w_rangeI {k : Int} {n : Nat} (hk : k = (n : Int)) (hn : n < 2 ^ 60) {e : En} {P : List D → En → Prop} {X : Xn → En → Prop} (p : P ((List.range n).map fun i => D.int (0 + (i : Nat))) e) : W (lift (rng1D (.int k)) e) P X := by
  subst hk
  rw [rng1_nat hn]
  exact p
theorem w_dowF {e : En} {X : Xn → En → Prop} {P : D → En → Prop} {ms : List Bool} {as : List Ar} {f : Fm} {os : List Nat} {ds : List D} [hr : Rd' as e ms os ds] {Q : D → List D → Prop} (hf : FWF (f ds) Q QX0) (p : ∀ r os', Q r os' → ∃ e', Pa e os os' e' ∧ P r e') (hn : os.Nodup := by decide) : W (doCall true ms f as e) P X := w_doF hr hn (hf.imp p fun _ _ z => z.elim)
theorem ev_law {ns : List Int} (hlen : ns.length ≤ 63) : FW (m_law [iL ns]) (fun r os => r = .bl true ∧ os = []) QX0 := by
  unfold m_law
  with_reducible refine fw_run ?_
  show W (b_law [.fz (iL ns), .un, .un, .un]) _ _
  unfold b_law
  walk_at "ws"
  have hk : (if (if ((List.map D.int ns).length : Int) < 6 then ((List.map D.int ns).length : Int) else 6) > 1 then (if ((List.map D.int ns).length : Int) < 6 then ((List.map D.int ns).length : Int) else 6) else 1) = ((max 1 (min 6 ns.length) : Nat) : Int) := by
    rw [List.length_map]
    split <;> split <;> omega
  rw [hk]
  have hk6 : max 1 (min 6 ns.length) ≤ 6 := by omega
  generalize max 1 (min 6 ns.length) = kk at hk6
  with_reducible refine w_range (n := kk) (by omega) ?_
  with_reducible refine w_forI _ (List.range kk) (fun pre e => ∃ (s1 s2 s3 : Sl), e = [.fz (iL ns), s1, s2, s3]) ?_ (fun pre a post e hx hI => ?_) (fun e hI => ?_)
  · exact ⟨_, _, _, rfl⟩
  · obtain ⟨s1, s2, s3, rfl⟩ := hI
    have ha : a < kk := List.mem_range.mp (by rw [hx]; exact List.mem_append_right _ List.mem_cons_self)
    refine ⟨_, sm_h, ?_⟩
    walk_at "ws"
    rw [Int.zero_add]
    with_reducible refine w_dowF (ev_dice (ns := ns) (j := a) (by omega)) fun r os z => ?_
    obtain ⟨rfl, hd⟩ := z
    refine ⟨_, inferInstance, ?_⟩
    walk_at "ws"
    have i2 : (2 : Int) = ((2 : Nat) : Int) := rfl
    with_reducible refine w_rangeI i2 (by decide) ?_
    with_reducible refine w_forI _ (List.range 2) (fun pre e => ∃ (d : D) (s3 : Sl), e = [.fz (iL ns), .fz (.int (a : Int)), .ow d, s3] ∧ Dice (1000 * pre.length) d) ?_ (fun pre b post e hx hI => ?_) (fun e hI => ?_)
    · exact ⟨_, _, rfl, hd⟩
    · obtain ⟨d, s3, rfl, hd⟩ := hI
      have hpl : pre.length ≤ 2 := by
        have := congrArg List.length hx
        rw [List.length_range, List.length_append] at this
        omega
      refine ⟨_, sm_h, ?_⟩
      walk_at "ws"
      with_reducible refine w_dow (ev_right hd (N := 1000 * (pre.length + 1)) (by omega) (by omega)) fun r os z => ?_
      obtain ⟨d', rfl, rfl, hd'⟩ := z
      refine ⟨_, inferInstance, ?_⟩
      walk_at "ws"
      refine w_ifF rfl ?_
      walk_at "ws"
      exact ⟨_, _, rfl, by rw [List.length_append]; exact hd'⟩
    obtain ⟨d, s3, rfl, _⟩ := hI
    walk_at "ws"
    exact ⟨_, _, _, rfl⟩
  obtain ⟨s1, s2, s3, rfl⟩ := hI
  walk_at "ws"
  exact ep_rt rfl ⟨rfl, rfl⟩
end VL
namespace VL
open PySem PySem.Spec PyProof.Rows L2
theorem lookup_of {K : PySem.W.Frag} {a : Addr} {o : Obj} (h : List.lookup a K = some o) : ∃ p ∈ K, p.2 = o := by
  induction K with
  | nil => cases h
  | cons p K ih =>
    rw [List.lookup_cons] at h
    split at h
    · cases h
      exact ⟨p, List.mem_cons_self, rfl⟩
    · obtain ⟨q, h1, h2⟩ := ih h
      exact ⟨q, List.mem_cons_of_mem _ h1, h2⟩
def noList (K : PySem.W.Frag) : Bool := K.all fun p => match p.2.cls with
  | .type x => !(x == "list")
  | _ => true
theorem noList_of {K : PySem.W.Frag} (h : noList K = true) {a : Addr} {o : Obj} (e : List.lookup a K = some o) (c : o.cls = .type "list") : False := by
  obtain ⟨p, h1, rfl⟩ := lookup_of e
  have := List.all_eq_true.mp h p h1
  rw [c] at this
  cases this
theorem all_mk {l : PySem.W.OpenLaw} {w : World} {K : PySem.W.Frag} {h : Heap} {mg : Str → Option Value} {fa : Addr} (X : K.In h) (GG : h.Ns mainGlobals mg) (hfa : mg "law" = some (.ref fa))
    {a1 : Addr} {od1 an1 : Option Addr} {sl1 : Array (Option Value)} {oc1 kV1 dc1 pm1 cd1 ct1 : Value}
    {a2 : Addr} {od2 an2 : Option Addr} {sl2 : Array (Option Value)} {oc2 kV2 dc2 pm2 cd2 ct2 : Value}
    {a3 : Addr} {od3 an3 : Option Addr} {sl3 : Array (Option Value)} {oc3 kV3 dc3 pm3 cd3 ct3 : Value}
    {a4 : Addr} {od4 an4 : Option Addr} {sl4 : Array (Option Value)} {oc4 kV4 dc4 pm4 cd4 ct4 : Value}
    {a5 : Addr} {od5 an5 : Option Addr} {sl5 : Array (Option Value)} {oc5 kV5 dc5 pm5 cd5 ct5 : Value}
    {a6 : Addr} {od6 an6 : Option Addr} {sl6 : Array (Option Value)} {oc6 kV6 dc6 pm6 cd6 ct6 : Value}
    {a7 : Addr} {od7 an7 : Option Addr} {sl7 : Array (Option Value)} {oc7 kV7 dc7 pm7 cd7 ct7 : Value}
    {a8 : Addr} {od8 an8 : Option Addr} {sl8 : Array (Option Value)} {oc8 kV8 dc8 pm8 cd8 ct8 : Value}
    {a9 : Addr} {od9 an9 : Option Addr} {sl9 : Array (Option Value)} {oc9 kV9 dc9 pm9 cd9 ct9 : Value}
    {a10 : Addr} {od10 an10 : Option Addr} {sl10 : Array (Option Value)} {oc10 kV10 dc10 pm10 cd10 ct10 : Value}
    {a11 : Addr} {od11 an11 : Option Addr} {sl11 : Array (Option Value)} {oc11 kV11 dc11 pm11 cd11 ct11 : Value}
    {a12 : Addr} {od12 an12 : Option Addr} {sl12 : Array (Option Value)} {oc12 kV12 dc12 pm12 cd12 ct12 : Value}
    {a13 : Addr} {od13 an13 : Option Addr} {sl13 : Array (Option Value)} {oc13 kV13 dc13 pm13 cd13 ct13 : Value}
    {a14 : Addr} {od14 an14 : Option Addr} {sl14 : Array (Option Value)} {oc14 kV14 dc14 pm14 cd14 ct14 : Value}
    {a15 : Addr} {od15 an15 : Option Addr} {sl15 : Array (Option Value)} {oc15 kV15 dc15 pm15 cd15 ct15 : Value}
    {a16 : Addr} {od16 an16 : Option Addr} {sl16 : Array (Option Value)} {oc16 kV16 dc16 pm16 cd16 ct16 : Value}
    {a17 : Addr} {od17 an17 : Option Addr} {sl17 : Array (Option Value)} {oc17 kV17 dc17 pm17 cd17 ct17 : Value}
    {a18 : Addr} {od18 an18 : Option Addr} {sl18 : Array (Option Value)} {oc18 kV18 dc18 pm18 cd18 ct18 : Value}
    {a19 : Addr} {od19 an19 : Option Addr} {sl19 : Array (Option Value)} {oc19 kV19 dc19 pm19 cd19 ct19 : Value}
    {a20 : Addr} {od20 an20 : Option Addr} {sl20 : Array (Option Value)} {oc20 kV20 dc20 pm20 cd20 ct20 : Value}
    {a21 : Addr} {od21 an21 : Option Addr} {sl21 : Array (Option Value)} {oc21 kV21 dc21 pm21 cd21 ct21 : Value}
    {a22 : Addr} {od22 an22 : Option Addr} {sl22 : Array (Option Value)} {oc22 kV22 dc22 pm22 cd22 ct22 : Value}
    {a23 : Addr} {od23 an23 : Option Addr} {sl23 : Array (Option Value)} {oc23 kV23 dc23 pm23 cd23 ct23 : Value}
    {a24 : Addr} {od24 an24 : Option Addr} {sl24 : Array (Option Value)} {oc24 kV24 dc24 pm24 cd24 ct24 : Value}
    {a25 : Addr} {od25 an25 : Option Addr} {sl25 : Array (Option Value)} {oc25 kV25 dc25 pm25 cd25 ct25 : Value}
    {a26 : Addr} {od26 an26 : Option Addr} {sl26 : Array (Option Value)} {oc26 kV26 dc26 pm26 cd26 ct26 : Value}
    {a27 : Addr} {od27 an27 : Option Addr} {sl27 : Array (Option Value)} {oc27 kV27 dc27 pm27 cd27 ct27 : Value}
    {t1 : Tok}
    {t2 : Tok}
    {t3 : Tok}
    {t4 : Tok}
    {t5 : Tok}
    {t6 : Tok}
    {t7 : Tok}
    {c P : Addr}
    (a_1 : PySem.W.nsIn K mainGlobals "is_integer" = some (some (.ref a1))) (l_1 : List.lookup a1 K = some ⟨oc1, od1, .func (PySem.W.fnOf "is_integer" "is_integer" (defArgs s_is_integer) (defBody s_is_integer) (defScope s_is_integer) .none kV1 dc1 pm1 an1 cd1 ct1), sl1⟩) (c_1 : PySem.W.codeIn K cd1 "is_integer" = true) (k_1 : PySem.W.keepIn K (.ref a1) = true)
    (a_2 : PySem.W.nsIn K mainGlobals "is_name" = some (some (.ref a2))) (l_2 : List.lookup a2 K = some ⟨oc2, od2, .func (PySem.W.fnOf "is_name" "is_name" (defArgs s_is_name) (defBody s_is_name) (defScope s_is_name) .none kV2 dc2 pm2 an2 cd2 ct2), sl2⟩) (c_2 : PySem.W.codeIn K cd2 "is_name" = true) (k_2 : PySem.W.keepIn K (.ref a2) = true)
    (a_3 : PySem.W.nsIn K mainGlobals "is_list" = some (some (.ref a3))) (l_3 : List.lookup a3 K = some ⟨oc3, od3, .func (PySem.W.fnOf "is_list" "is_list" (defArgs s_is_list) (defBody s_is_list) (defScope s_is_list) .none kV3 dc3 pm3 an3 cd3 ct3), sl3⟩) (c_3 : PySem.W.codeIn K cd3 "is_list" = true) (k_3 : PySem.W.keepIn K (.ref a3) = true)
    (a_4 : PySem.W.nsIn K mainGlobals "are_lists" = some (some (.ref a4))) (l_4 : List.lookup a4 K = some ⟨oc4, od4, .func (PySem.W.fnOf "are_lists" "are_lists" (defArgs s_are_lists) (defBody s_are_lists) (defScope s_are_lists) .none kV4 dc4 pm4 an4 cd4 ct4), sl4⟩) (c_4 : PySem.W.codeIn K cd4 "are_lists" = true) (k_4 : PySem.W.keepIn K (.ref a4) = true)
    (a_5 : PySem.W.nsIn K mainGlobals "require_lists" = some (some (.ref a5))) (l_5 : List.lookup a5 K = some ⟨oc5, od5, .func (PySem.W.fnOf "require_lists" "require_lists" (defArgs s_require_lists) (defBody s_require_lists) (defScope s_require_lists) .none kV5 dc5 pm5 an5 cd5 ct5), sl5⟩) (c_5 : PySem.W.codeIn K cd5 "require_lists" = true) (k_5 : PySem.W.keepIn K (.ref a5) = true)
    (a_6 : PySem.W.nsIn K mainGlobals "known_in" = some (some (.ref a6))) (l_6 : List.lookup a6 K = some ⟨oc6, od6, .func (PySem.W.fnOf "known_in" "known_in" (defArgs s_known_in) (defBody s_known_in) (defScope s_known_in) .none kV6 dc6 pm6 an6 cd6 ct6), sl6⟩) (c_6 : PySem.W.codeIn K cd6 "known_in" = true) (k_6 : PySem.W.keepIn K (.ref a6) = true)
    (a_7 : PySem.W.nsIn K mainGlobals "keys_with" = some (some (.ref a7))) (l_7 : List.lookup a7 K = some ⟨oc7, od7, .func (PySem.W.fnOf "keys_with" "keys_with" (defArgs s_keys_with) (defBody s_keys_with) (defScope s_keys_with) .none kV7 dc7 pm7 an7 cd7 ct7), sl7⟩) (c_7 : PySem.W.codeIn K cd7 "keys_with" = true) (k_7 : PySem.W.keepIn K (.ref a7) = true)
    (a_8 : PySem.W.nsIn K mainGlobals "levels_in" = some (some (.ref a8))) (l_8 : List.lookup a8 K = some ⟨oc8, od8, .func (PySem.W.fnOf "levels_in" "levels_in" (defArgs s_levels_in) (defBody s_levels_in) (defScope s_levels_in) .none kV8 dc8 pm8 an8 cd8 ct8), sl8⟩) (c_8 : PySem.W.codeIn K cd8 "levels_in" = true) (k_8 : PySem.W.keepIn K (.ref a8) = true)
    (a_9 : PySem.W.nsIn K mainGlobals "ring_in" = some (some (.ref a9))) (l_9 : List.lookup a9 K = some ⟨oc9, od9, .func (PySem.W.fnOf "ring_in" "ring_in" (defArgs s_ring_in) (defBody s_ring_in) (defScope s_ring_in) .none kV9 dc9 pm9 an9 cd9 ct9), sl9⟩) (c_9 : PySem.W.codeIn K cd9 "ring_in" = true) (k_9 : PySem.W.keepIn K (.ref a9) = true)
    (a_10 : PySem.W.nsIn K mainGlobals "require_no_ring" = some (some (.ref a10))) (l_10 : List.lookup a10 K = some ⟨oc10, od10, .func (PySem.W.fnOf "require_no_ring" "require_no_ring" (defArgs s_require_no_ring) (defBody s_require_no_ring) (defScope s_require_no_ring) .none kV10 dc10 pm10 an10 cd10 ct10), sl10⟩) (c_10 : PySem.W.codeIn K cd10 "require_no_ring" = true) (k_10 : PySem.W.keepIn K (.ref a10) = true)
    (a_11 : PySem.W.nsIn K mainGlobals "by_levels" = some (some (.ref a11))) (l_11 : List.lookup a11 K = some ⟨oc11, od11, .func (PySem.W.fnOf "by_levels" "by_levels" (defArgs s_by_levels) (defBody s_by_levels) (defScope s_by_levels) .none kV11 dc11 pm11 an11 cd11 ct11), sl11⟩) (c_11 : PySem.W.codeIn K cd11 "by_levels" = true) (k_11 : PySem.W.keepIn K (.ref a11) = true)
    (a_12 : PySem.W.nsIn K mainGlobals "are_counts" = some (some (.ref a12))) (l_12 : List.lookup a12 K = some ⟨oc12, od12, .func (PySem.W.fnOf "are_counts" "are_counts" (defArgs s_are_counts) (defBody s_are_counts) (defScope s_are_counts) .none kV12 dc12 pm12 an12 cd12 ct12), sl12⟩) (c_12 : PySem.W.codeIn K cd12 "are_counts" = true) (k_12 : PySem.W.keepIn K (.ref a12) = true)
    (a_13 : PySem.W.nsIn K mainGlobals "require_provision" = some (some (.ref a13))) (l_13 : List.lookup a13 K = some ⟨oc13, od13, .func (PySem.W.fnOf "require_provision" "require_provision" (defArgs s_require_provision) (defBody s_require_provision) (defScope s_require_provision) .none kV13 dc13 pm13 an13 cd13 ct13), sl13⟩) (c_13 : PySem.W.codeIn K cd13 "require_provision" = true) (k_13 : PySem.W.keepIn K (.ref a13) = true)
    (a_14 : PySem.W.nsIn K mainGlobals "provision" = some (some (.ref a14))) (l_14 : List.lookup a14 K = some ⟨oc14, od14, .func (PySem.W.fnOf "provision" "provision" (defArgs s_provision) (defBody s_provision) (defScope s_provision) .none kV14 dc14 pm14 an14 cd14 ct14), sl14⟩) (c_14 : PySem.W.codeIn K cd14 "provision" = true) (k_14 : PySem.W.keepIn K (.ref a14) = true)
    (a_15 : PySem.W.nsIn K mainGlobals "is_provision" = some (some (.ref a15))) (l_15 : List.lookup a15 K = some ⟨oc15, od15, .func (PySem.W.fnOf "is_provision" "is_provision" (defArgs s_is_provision) (defBody s_is_provision) (defScope s_is_provision) .none kV15 dc15 pm15 an15 cd15 ct15), sl15⟩) (c_15 : PySem.W.codeIn K cd15 "is_provision" = true) (k_15 : PySem.W.keepIn K (.ref a15) = true)
    (a_16 : PySem.W.nsIn K mainGlobals "_law_dice" = some (some (.ref a16))) (l_16 : List.lookup a16 K = some ⟨oc16, od16, .func (PySem.W.fnOf "_law_dice" "_law_dice" (defArgs s__law_dice) (defBody s__law_dice) (defScope s__law_dice) .none kV16 dc16 pm16 an16 cd16 ct16), sl16⟩) (c_16 : PySem.W.codeIn K cd16 "_law_dice" = true) (k_16 : PySem.W.keepIn K (.ref a16) = true)
    (a_17 : PySem.W.nsIn K mainGlobals "_law_roll" = some (some (.ref a17))) (l_17 : List.lookup a17 K = some ⟨oc17, od17, .func (PySem.W.fnOf "_law_roll" "_law_roll" (defArgs s__law_roll) (defBody s__law_roll) (defScope s__law_roll) .none kV17 dc17 pm17 an17 cd17 ct17), sl17⟩) (c_17 : PySem.W.codeIn K cd17 "_law_roll" = true) (k_17 : PySem.W.keepIn K (.ref a17) = true)
    (a_18 : PySem.W.nsIn K mainGlobals "_law_pick" = some (some (.ref a18))) (l_18 : List.lookup a18 K = some ⟨oc18, od18, .func (PySem.W.fnOf "_law_pick" "_law_pick" (defArgs s__law_pick) (defBody s__law_pick) (defScope s__law_pick) .none kV18 dc18 pm18 an18 cd18 ct18), sl18⟩) (c_18 : PySem.W.codeIn K cd18 "_law_pick" = true) (k_18 : PySem.W.keepIn K (.ref a18) = true)
    (a_19 : PySem.W.nsIn K mainGlobals "_law_shuffled" = some (some (.ref a19))) (l_19 : List.lookup a19 K = some ⟨oc19, od19, .func (PySem.W.fnOf "_law_shuffled" "_law_shuffled" (defArgs s__law_shuffled) (defBody s__law_shuffled) (defScope s__law_shuffled) .none kV19 dc19 pm19 an19 cd19 ct19), sl19⟩) (c_19 : PySem.W.codeIn K cd19 "_law_shuffled" = true) (k_19 : PySem.W.keepIn K (.ref a19) = true)
    (a_20 : PySem.W.nsIn K mainGlobals "_law_ls_known" = some (some (.ref a20))) (l_20 : List.lookup a20 K = some ⟨oc20, od20, .func (PySem.W.fnOf "_law_ls_known" "_law_ls_known" (defArgs s__law_ls_known) (defBody s__law_ls_known) (defScope s__law_ls_known) .none kV20 dc20 pm20 an20 cd20 ct20), sl20⟩) (c_20 : PySem.W.codeIn K cd20 "_law_ls_known" = true) (k_20 : PySem.W.keepIn K (.ref a20) = true)
    (a_21 : PySem.W.nsIn K mainGlobals "_law_ls_drawn" = some (some (.ref a21))) (l_21 : List.lookup a21 K = some ⟨oc21, od21, .func (PySem.W.fnOf "_law_ls_drawn" "_law_ls_drawn" (defArgs s__law_ls_drawn) (defBody s__law_ls_drawn) (defScope s__law_ls_drawn) .none kV21 dc21 pm21 an21 cd21 ct21), sl21⟩) (c_21 : PySem.W.codeIn K cd21 "_law_ls_drawn" = true) (k_21 : PySem.W.keepIn K (.ref a21) = true)
    (a_22 : PySem.W.nsIn K mainGlobals "_law_ls_levels" = some (some (.ref a22))) (l_22 : List.lookup a22 K = some ⟨oc22, od22, .func (PySem.W.fnOf "_law_ls_levels" "_law_ls_levels" (defArgs s__law_ls_levels) (defBody s__law_ls_levels) (defScope s__law_ls_levels) .none kV22 dc22 pm22 an22 cd22 ct22), sl22⟩) (c_22 : PySem.W.codeIn K cd22 "_law_ls_levels" = true) (k_22 : PySem.W.keepIn K (.ref a22) = true)
    (a_23 : PySem.W.nsIn K mainGlobals "_law_needs" = some (some (.ref a23))) (l_23 : List.lookup a23 K = some ⟨oc23, od23, .func (PySem.W.fnOf "_law_needs" "_law_needs" (defArgs s__law_needs) (defBody s__law_needs) (defScope s__law_needs) .none kV23 dc23 pm23 an23 cd23 ct23), sl23⟩) (c_23 : PySem.W.codeIn K cd23 "_law_needs" = true) (k_23 : PySem.W.keepIn K (.ref a23) = true)
    (a_24 : PySem.W.nsIn K mainGlobals "_law_least" = some (some (.ref a24))) (l_24 : List.lookup a24 K = some ⟨oc24, od24, .func (PySem.W.fnOf "_law_least" "_law_least" (defArgs s__law_least) (defBody s__law_least) (defScope s__law_least) .none kV24 dc24 pm24 an24 cd24 ct24), sl24⟩) (c_24 : PySem.W.codeIn K cd24 "_law_least" = true) (k_24 : PySem.W.keepIn K (.ref a24) = true)
    (a_25 : PySem.W.nsIn K mainGlobals "_law_is_provision" = some (some (.ref a25))) (l_25 : List.lookup a25 K = some ⟨oc25, od25, .func (PySem.W.fnOf "_law_is_provision" "_law_is_provision" (defArgs s__law_is_provision) (defBody s__law_is_provision) (defScope s__law_is_provision) .none kV25 dc25 pm25 an25 cd25 ct25), sl25⟩) (c_25 : PySem.W.codeIn K cd25 "_law_is_provision" = true) (k_25 : PySem.W.keepIn K (.ref a25) = true)
    (a_26 : PySem.W.nsIn K mainGlobals "_law_right" = some (some (.ref a26))) (l_26 : List.lookup a26 K = some ⟨oc26, od26, .func (PySem.W.fnOf "_law_right" "_law_right" (defArgs s__law_right) (defBody s__law_right) (defScope s__law_right) .none kV26 dc26 pm26 an26 cd26 ct26), sl26⟩) (c_26 : PySem.W.codeIn K cd26 "_law_right" = true) (k_26 : PySem.W.keepIn K (.ref a26) = true)
    (a_27 : PySem.W.nsIn K mainGlobals "law" = some (some (.ref a27))) (l_27 : List.lookup a27 K = some ⟨oc27, od27, .func (PySem.W.fnOf "law" "law" (defArgs s_law) (defBody s_law) (defScope s_law) .none kV27 dc27 pm27 an27 cd27 ct27), sl27⟩) (c_27 : PySem.W.codeIn K cd27 "law" = true) (k_27 : PySem.W.keepIn K (.ref a27) = true)
    (z_abs : PySem.W.nsIn K mainGlobals "abs" = some none)
    (z_all : PySem.W.nsIn K mainGlobals "all" = some none)
    (z_bool : PySem.W.nsIn K mainGlobals "bool" = some none)
    (z_dict : PySem.W.nsIn K mainGlobals "dict" = some none)
    (z_int : PySem.W.nsIn K mainGlobals "int" = some none)
    (z_isinstance : PySem.W.nsIn K mainGlobals "isinstance" = some none)
    (z_len : PySem.W.nsIn K mainGlobals "len" = some none)
    (z_list : PySem.W.nsIn K mainGlobals "list" = some none)
    (z_max : PySem.W.nsIn K mainGlobals "max" = some none)
    (z_min : PySem.W.nsIn K mainGlobals "min" = some none)
    (z_range : PySem.W.nsIn K mainGlobals "range" = some none)
    (z_repr : PySem.W.nsIn K mainGlobals "repr" = some none)
    (z_set : PySem.W.nsIn K mainGlobals "set" = some none)
    (z_sorted : PySem.W.nsIn K mainGlobals "sorted" = some none)
    (z_str : PySem.W.nsIn K mainGlobals "str" = some none)
    (z_sum : PySem.W.nsIn K mainGlobals "sum" = some none)
    (v_1 : PySem.W.nsIn K mainGlobals "FIRST_SIGNS" = some (some (.str "abcdefghijklmnopqrstuvwxyz" t1)))
    (v_2 : PySem.W.nsIn K mainGlobals "MAX_LINES" = some (some (.int 50 t2)))
    (v_3 : PySem.W.nsIn K mainGlobals "MAX_LISTS" = some (some (.int 40 t3)))
    (v_4 : PySem.W.nsIn K mainGlobals "MAX_NAME" = some (some (.int 12 t4)))
    (v_5 : PySem.W.nsIn K mainGlobals "MOST_EACH" = some (some (.int 1000000 t5)))
    (v_6 : PySem.W.nsIn K mainGlobals "MOST_ORDERED" = some (some (.int 1000000000 t6)))
    (v_7 : PySem.W.nsIn K mainGlobals "NEXT_SIGNS" = some (some (.str "abcdefghijklmnopqrstuvwxyz0123456789." t7)))
    (nl : noList K = true) (e_c : cd11 = .ref c) (hC : PySem.W.codeHdIn K c P = true) (hT : h.get? P = some { cls := .none, data := .fields #[] }) (nT : List.lookup P K = none) : LamX.LawAtS l w K (L2.CX l.prog w) 8 63 "script" mg fa h := by
  have e := hfa.symm.trans (PySem.W.mg_of X GG a_27)
  cases e
  letI : Tb := ⟨[(P, "by_levels.<locals>.<lambda>")]⟩
  let GS : Gs K mg := {
    is_integer := ⟨_, _, fun_mk (st := s_is_integer) l_1 c_1 k_1, PySem.W.mg_of X GG a_1, (fun_mk (st := s_is_integer) l_1 c_1 k_1).binds (ps := ["value"]) fun _ _ _ _ _ _ us hl => match us, hl with | [_], _ => rfl⟩
    is_name := ⟨_, _, fun_mk (st := s_is_name) l_2 c_2 k_2, PySem.W.mg_of X GG a_2, (fun_mk (st := s_is_name) l_2 c_2 k_2).binds (ps := ["value"]) fun _ _ _ _ _ _ us hl => match us, hl with | [_], _ => rfl⟩
    is_list := ⟨_, _, fun_mk (st := s_is_list) l_3 c_3 k_3, PySem.W.mg_of X GG a_3, (fun_mk (st := s_is_list) l_3 c_3 k_3).binds (ps := ["value"]) fun _ _ _ _ _ _ us hl => match us, hl with | [_], _ => rfl⟩
    are_lists := ⟨_, _, fun_mk (st := s_are_lists) l_4 c_4 k_4, PySem.W.mg_of X GG a_4, (fun_mk (st := s_are_lists) l_4 c_4 k_4).binds (ps := ["value"]) fun _ _ _ _ _ _ us hl => match us, hl with | [_], _ => rfl⟩
    require_lists := ⟨_, _, fun_mk (st := s_require_lists) l_5 c_5 k_5, PySem.W.mg_of X GG a_5, (fun_mk (st := s_require_lists) l_5 c_5 k_5).binds (ps := ["lists"]) fun _ _ _ _ _ _ us hl => match us, hl with | [_], _ => rfl⟩
    known_in := ⟨_, _, fun_mk (st := s_known_in) l_6 c_6 k_6, PySem.W.mg_of X GG a_6, (fun_mk (st := s_known_in) l_6 c_6 k_6).binds (ps := ["lists"]) fun _ _ _ _ _ _ us hl => match us, hl with | [_], _ => rfl⟩
    keys_with := ⟨_, _, fun_mk (st := s_keys_with) l_7 c_7 k_7, PySem.W.mg_of X GG a_7, (fun_mk (st := s_keys_with) l_7 c_7 k_7).binds (ps := ["lists", "name"]) fun _ _ _ _ _ _ us hl => match us, hl with | [_, _], _ => rfl⟩
    levels_in := ⟨_, _, fun_mk (st := s_levels_in) l_8 c_8 k_8, PySem.W.mg_of X GG a_8, (fun_mk (st := s_levels_in) l_8 c_8 k_8).binds (ps := ["lists"]) fun _ _ _ _ _ _ us hl => match us, hl with | [_], _ => rfl⟩
    ring_in := ⟨_, _, fun_mk (st := s_ring_in) l_9 c_9 k_9, PySem.W.mg_of X GG a_9, (fun_mk (st := s_ring_in) l_9 c_9 k_9).binds (ps := ["lists"]) fun _ _ _ _ _ _ us hl => match us, hl with | [_], _ => rfl⟩
    require_no_ring := ⟨_, _, fun_mk (st := s_require_no_ring) l_10 c_10 k_10, PySem.W.mg_of X GG a_10, (fun_mk (st := s_require_no_ring) l_10 c_10 k_10).binds (ps := ["lists"]) fun _ _ _ _ _ _ us hl => match us, hl with | [_], _ => rfl⟩
    by_levels := ⟨_, _, fun_mk (st := s_by_levels) l_11 c_11 k_11, PySem.W.mg_of X GG a_11, (fun_mk (st := s_by_levels) l_11 c_11 k_11).binds (ps := ["lists"]) fun _ _ _ _ _ _ us hl => match us, hl with | [_], _ => rfl⟩
    are_counts := ⟨_, _, fun_mk (st := s_are_counts) l_12 c_12 k_12, PySem.W.mg_of X GG a_12, (fun_mk (st := s_are_counts) l_12 c_12 k_12).binds (ps := ["lists", "value"]) fun _ _ _ _ _ _ us hl => match us, hl with | [_, _], _ => rfl⟩
    require_provision := ⟨_, _, fun_mk (st := s_require_provision) l_13 c_13 k_13, PySem.W.mg_of X GG a_13, (fun_mk (st := s_require_provision) l_13 c_13 k_13).binds (ps := ["lists", "orders", "stock"]) fun _ _ _ _ _ _ us hl => match us, hl with | [_, _, _], _ => rfl⟩
    provision := ⟨_, _, fun_mk (st := s_provision) l_14 c_14 k_14, PySem.W.mg_of X GG a_14, (fun_mk (st := s_provision) l_14 c_14 k_14).binds (ps := ["lists", "orders", "stock"]) fun _ _ _ _ _ _ us hl => match us, hl with | [_, _, _], _ => rfl⟩
    is_provision := ⟨_, _, fun_mk (st := s_is_provision) l_15 c_15 k_15, PySem.W.mg_of X GG a_15, (fun_mk (st := s_is_provision) l_15 c_15 k_15).binds (ps := ["lists", "orders", "stock", "value"]) fun _ _ _ _ _ _ us hl => match us, hl with | [_, _, _, _], _ => rfl⟩
    _law_dice := ⟨_, _, fun_mk (st := s__law_dice) l_16 c_16 k_16, PySem.W.mg_of X GG a_16, (fun_mk (st := s__law_dice) l_16 c_16 k_16).binds (ps := ["script", "spot"]) fun _ _ _ _ _ _ us hl => match us, hl with | [_, _], _ => rfl⟩
    _law_roll := ⟨_, _, fun_mk (st := s__law_roll) l_17 c_17 k_17, PySem.W.mg_of X GG a_17, (fun_mk (st := s__law_roll) l_17 c_17 k_17).binds (ps := ["dice", "total"]) fun _ _ _ _ _ _ us hl => match us, hl with | [_, _], _ => rfl⟩
    _law_pick := ⟨_, _, fun_mk (st := s__law_pick) l_18 c_18 k_18, PySem.W.mg_of X GG a_18, (fun_mk (st := s__law_pick) l_18 c_18 k_18).binds (ps := ["dice", "items"]) fun _ _ _ _ _ _ us hl => match us, hl with | [_, _], _ => rfl⟩
    _law_shuffled := ⟨_, _, fun_mk (st := s__law_shuffled) l_19 c_19 k_19, PySem.W.mg_of X GG a_19, (fun_mk (st := s__law_shuffled) l_19 c_19 k_19).binds (ps := ["dice", "items"]) fun _ _ _ _ _ _ us hl => match us, hl with | [_, _], _ => rfl⟩
    _law_ls_known := ⟨_, _, fun_mk (st := s__law_ls_known) l_20 c_20 k_20, PySem.W.mg_of X GG a_20, (fun_mk (st := s__law_ls_known) l_20 c_20 k_20).binds (ps := ["lists"]) fun _ _ _ _ _ _ us hl => match us, hl with | [_], _ => rfl⟩
    _law_ls_drawn := ⟨_, _, fun_mk (st := s__law_ls_drawn) l_21 c_21 k_21, PySem.W.mg_of X GG a_21, (fun_mk (st := s__law_ls_drawn) l_21 c_21 k_21).binds (ps := ["dice", "many"]) fun _ _ _ _ _ _ us hl => match us, hl with | [_, _], _ => rfl⟩
    _law_ls_levels := ⟨_, _, fun_mk (st := s__law_ls_levels) l_22 c_22 k_22, PySem.W.mg_of X GG a_22, (fun_mk (st := s__law_ls_levels) l_22 c_22 k_22).binds (ps := ["lists"]) fun _ _ _ _ _ _ us hl => match us, hl with | [_], _ => rfl⟩
    _law_needs := ⟨_, _, fun_mk (st := s__law_needs) l_23 c_23 k_23, PySem.W.mg_of X GG a_23, (fun_mk (st := s__law_needs) l_23 c_23 k_23).binds (ps := ["lists", "orders", "told"]) fun _ _ _ _ _ _ us hl => match us, hl with | [_, _, _], _ => rfl⟩
    _law_least := ⟨_, _, fun_mk (st := s__law_least) l_24 c_24 k_24, PySem.W.mg_of X GG a_24, (fun_mk (st := s__law_least) l_24 c_24 k_24).binds (ps := ["lists", "orders", "stock"]) fun _ _ _ _ _ _ us hl => match us, hl with | [_, _, _], _ => rfl⟩
    _law_is_provision := ⟨_, _, fun_mk (st := s__law_is_provision) l_25 c_25 k_25, PySem.W.mg_of X GG a_25, (fun_mk (st := s__law_is_provision) l_25 c_25 k_25).binds (ps := ["lists", "orders", "stock", "value"]) fun _ _ _ _ _ _ us hl => match us, hl with | [_, _, _, _], _ => rfl⟩
    _law_right := ⟨_, _, fun_mk (st := s__law_right) l_26 c_26 k_26, PySem.W.mg_of X GG a_26, (fun_mk (st := s__law_right) l_26 c_26 k_26).binds (ps := ["dice"]) fun _ _ _ _ _ _ us hl => match us, hl with | [_], _ => rfl⟩
    law := ⟨_, _, fun_mk (st := s_law) l_27 c_27 k_27, PySem.W.mg_of X GG a_27, (fun_mk (st := s_law) l_27 c_27 k_27).binds (ps := ["script"]) fun _ _ _ _ _ _ us hl => match us, hl with | [_], _ => rfl⟩
    b_abs := PySem.W.mg_none_of X GG z_abs
    b_all := PySem.W.mg_none_of X GG z_all
    b_bool := PySem.W.mg_none_of X GG z_bool
    b_dict := PySem.W.mg_none_of X GG z_dict
    b_int := PySem.W.mg_none_of X GG z_int
    b_isinstance := PySem.W.mg_none_of X GG z_isinstance
    b_len := PySem.W.mg_none_of X GG z_len
    b_list := PySem.W.mg_none_of X GG z_list
    b_max := PySem.W.mg_none_of X GG z_max
    b_min := PySem.W.mg_none_of X GG z_min
    b_range := PySem.W.mg_none_of X GG z_range
    b_repr := PySem.W.mg_none_of X GG z_repr
    b_set := PySem.W.mg_none_of X GG z_set
    b_sorted := PySem.W.mg_none_of X GG z_sorted
    b_str := PySem.W.mg_none_of X GG z_str
    b_sum := PySem.W.mg_none_of X GG z_sum
    FIRST_SIGNS := ⟨_, PySem.W.mg_of X GG v_1⟩
    MAX_LINES := ⟨_, PySem.W.mg_of X GG v_2⟩
    MAX_LISTS := ⟨_, PySem.W.mg_of X GG v_3⟩
    MAX_NAME := ⟨_, PySem.W.mg_of X GG v_4⟩
    MOST_EACH := ⟨_, PySem.W.mg_of X GG v_5⟩
    MOST_ORDERED := ⟨_, PySem.W.mg_of X GG v_6⟩
    NEXT_SIGNS := ⟨_, PySem.W.mg_of X GG v_7⟩ }
  refine ⟨GS.law.fd, [(c, P)], spV K mg [false] m_law, ?_, ?_, ?_, fun s v => .of_eq rfl, ?_, ?_⟩
  · exact fun p hp => by rw [List.mem_singleton.mp hp]; exact hT
  · exact fun p hp => by rw [List.mem_singleton.mp hp]; exact nT
  · exact fun p hp => by rw [List.mem_singleton.mp hp]; exact PySem.W.codeHd_of_K X hC
  · intro H a ns hlen hbits hC2 hS
    have rd : Rd H a (.lst (ns.map V.int)) := by
      rcases hS with z | ⟨o, its, m, e1, e2, _⟩
      · exact z
      · exact (noList_of nl e1 e2).elim
    have hne : H a ≠ none := by
      rcases rd with z | ⟨o, z⟩ <;> (rw [z]; exact fun q => nomatch q)
    have hw : Wf (⟨fun b => b = a, fun _ => False, H⟩ : Wd) := ⟨fun _ _ z => z, fun b hb => by rw [show b = a from hb]; exact hne, fun b hb => hb.elim, fun p hp => by
      rw [List.mem_singleton.mp hp]
      exact ⟨#[], hC2 _ List.mem_cons_self, trivial, fun pos cv z => by cases z⟩⟩
    obtain ⟨r, os, he, hr, ho⟩ := (ev_law (ns := ns) hlen).of
    subst hr
    subst ho
    refine ⟨⟨fun b => b = a, fun _ => False, H⟩, [iL ns], [], rfl, hw, .fz (.frl rd rfl (ints_den ns)) .nil, fun b hb => hb.elim, ?_⟩
    rw [he]
    intro w' v _ _ _ q
    cases q
    rfl
  · exact fun base hb hns TBs => ok_law GS ⟨c, P, TBs _ List.mem_cons_self, e_c, List.mem_cons_self, fun p hp _ => by rw [List.mem_singleton.mp hp]⟩
end VL
open PySem PySem.W PyProof.Rows in
set_option maxRecDepth 100000 in
set_option maxHeartbeats 0 in
theorem PySem.Challenge.cw_anywaybuilt_k67_whole_least_provisions_holds : PySem.Challenge.rw_anywaybuilt_k67_whole_least_provisions.Holds := by
  w_on; o_law; k_head; (case hw => w_witness2)
  k_fill
  refine LamX.walk_ofTs (l := PySem.Challenge.rw_anywaybuilt_k67_whole_least_provisions) (n := 63) (k := 8) (x := "script") (CX := fun w => L2.CX PySem.Challenge.rw_anywaybuilt_k67_whole_least_provisions.prog w) rfl (by decide) rfl ⟨rfl, by decide, by decide⟩ (fun w h Y => PySem.W.km_in_of Y) ?F ?CX
  case CX =>
    rintro w H s e s' ⟨_, _, _, _, _, _, _, _, _, _, _, _, z⟩
    exact z
  case F =>
    intro w mg fa h Y KX G hmg
    have hT8 := km_tabs_of Y
    refine' VL.all_mk KX G hmg ?a_1 ?l_1 ?c_1 ?k_1 ?a_2 ?l_2 ?c_2 ?k_2 ?a_3 ?l_3 ?c_3 ?k_3 ?a_4 ?l_4 ?c_4 ?k_4 ?a_5 ?l_5 ?c_5 ?k_5 ?a_6 ?l_6 ?c_6 ?k_6 ?a_7 ?l_7 ?c_7 ?k_7 ?a_8 ?l_8 ?c_8 ?k_8 ?a_9 ?l_9 ?c_9 ?k_9 ?a_10 ?l_10 ?c_10 ?k_10 ?a_11 ?l_11 ?c_11 ?k_11 ?a_12 ?l_12 ?c_12 ?k_12 ?a_13 ?l_13 ?c_13 ?k_13 ?a_14 ?l_14 ?c_14 ?k_14 ?a_15 ?l_15 ?c_15 ?k_15 ?a_16 ?l_16 ?c_16 ?k_16 ?a_17 ?l_17 ?c_17 ?k_17 ?a_18 ?l_18 ?c_18 ?k_18 ?a_19 ?l_19 ?c_19 ?k_19 ?a_20 ?l_20 ?c_20 ?k_20 ?a_21 ?l_21 ?c_21 ?k_21 ?a_22 ?l_22 ?c_22 ?k_22 ?a_23 ?l_23 ?c_23 ?k_23 ?a_24 ?l_24 ?c_24 ?k_24 ?a_25 ?l_25 ?c_25 ?k_25 ?a_26 ?l_26 ?c_26 ?k_26 ?a_27 ?l_27 ?c_27 ?k_27 ?z_abs ?z_all ?z_bool ?z_dict ?z_int ?z_isinstance ?z_len ?z_list ?z_max ?z_min ?z_range ?z_repr ?z_set ?z_sorted ?z_str ?z_sum ?v_1 ?v_2 ?v_3 ?v_4 ?v_5 ?v_6 ?v_7 ?nl ?e_c ?hC ?hT ?nT
    (case a_1 => k_is); (case l_1 => k_is); (case c_1 => k_is); (case k_1 => k_is); (case a_2 => k_is); (case l_2 => k_is); (case c_2 => k_is); (case k_2 => k_is)
    (case a_3 => k_is); (case l_3 => k_is); (case c_3 => k_is); (case k_3 => k_is); (case a_4 => k_is); (case l_4 => k_is); (case c_4 => k_is); (case k_4 => k_is)
    (case a_5 => k_is); (case l_5 => k_is); (case c_5 => k_is); (case k_5 => k_is); (case a_6 => k_is); (case l_6 => k_is); (case c_6 => k_is); (case k_6 => k_is)
    (case a_7 => k_is); (case l_7 => k_is); (case c_7 => k_is); (case k_7 => k_is); (case a_8 => k_is); (case l_8 => k_is); (case c_8 => k_is); (case k_8 => k_is)
    (case a_9 => k_is); (case l_9 => k_is); (case c_9 => k_is); (case k_9 => k_is); (case a_10 => k_is); (case l_10 => k_is); (case c_10 => k_is); (case k_10 => k_is)
    (case a_11 => k_is); (case l_11 => k_is); (case c_11 => k_is); (case k_11 => k_is); (case a_12 => k_is); (case l_12 => k_is); (case c_12 => k_is); (case k_12 => k_is)
    (case a_13 => k_is); (case l_13 => k_is); (case c_13 => k_is); (case k_13 => k_is); (case a_14 => k_is); (case l_14 => k_is); (case c_14 => k_is); (case k_14 => k_is)
    (case a_15 => k_is); (case l_15 => k_is); (case c_15 => k_is); (case k_15 => k_is); (case a_16 => k_is); (case l_16 => k_is); (case c_16 => k_is); (case k_16 => k_is)
    (case a_17 => k_is); (case l_17 => k_is); (case c_17 => k_is); (case k_17 => k_is); (case a_18 => k_is); (case l_18 => k_is); (case c_18 => k_is); (case k_18 => k_is)
    (case a_19 => k_is); (case l_19 => k_is); (case c_19 => k_is); (case k_19 => k_is); (case a_20 => k_is); (case l_20 => k_is); (case c_20 => k_is); (case k_20 => k_is)
    (case a_21 => k_is); (case l_21 => k_is); (case c_21 => k_is); (case k_21 => k_is); (case a_22 => k_is); (case l_22 => k_is); (case c_22 => k_is); (case k_22 => k_is)
    (case a_23 => k_is); (case l_23 => k_is); (case c_23 => k_is); (case k_23 => k_is); (case a_24 => k_is); (case l_24 => k_is); (case c_24 => k_is); (case k_24 => k_is)
    (case a_25 => k_is); (case l_25 => k_is); (case c_25 => k_is); (case k_25 => k_is); (case a_26 => k_is); (case l_26 => k_is); (case c_26 => k_is); (case k_26 => k_is)
    (case a_27 => k_is); (case l_27 => k_is); (case c_27 => k_is); (case k_27 => k_is); (case z_abs => k_is); (case z_all => k_is); (case z_bool => k_is); (case z_dict => k_is)
    (case z_int => k_is); (case z_isinstance => k_is); (case z_len => k_is); (case z_list => k_is); (case z_max => k_is); (case z_min => k_is); (case z_range => k_is); (case z_repr => k_is)
    (case z_set => k_is); (case z_sorted => k_is); (case z_str => k_is); (case z_sum => k_is); (case v_1 => k_is); (case v_2 => k_is); (case v_3 => k_is); (case v_4 => k_is)
    (case v_5 => k_is); (case v_6 => k_is); (case v_7 => k_is)
    (case nl => kernel_rfl)
    (case e_c => exact Eq.refl _)
    (case hT => exact hT8 _ (by k_mem))
    (case hC => kernel_rfl)
    (case nT => kernel_rfl)
#print axioms PySem.Challenge.cw_anywaybuilt_k67_whole_least_provisions_holds
