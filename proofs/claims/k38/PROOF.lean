import PyProof.Rows.All
import HandS.ForMost
import HandS.ForExc
import HandS.HeadHook2
import HandS.TupAny
import HandS.IsInst
import HandS.Deep
import HandS.Style
import HandS.Walk
import HandS.NoneIn
import HandS.Defaults
import KE.SortData
import KE.GoesNew
import HandS.Dict
import HandS.Conv
import HandS.TupLen
import KE.DataCmp
import HandS.Iter
import HandS.Text
import HandS.RaiseMore
import HandS.Strs
import HandS.SetFor
import HandS.More
import HandS.HeadHook3
import HandS.HeadHook4
import HandS.HeadEnd
import PyProof.StrLawsRepr
import PyProof.FitsInt
import KE.DataMinMax
import KE.GoesMore
import PyProof.CallType
import PyProof.Rows.StrFit
import HandS.ExcInit
import KE.KTryMore
import KE.KExcInit
import HandS.HotCalls
import KE.KExcIs
import OpenK.Lit
import PySem.Challenge.RW_stakecrates_k38_rounds_and_their_room
import Wide.All
import OpenK.AllK
import Wide.FinOn
import KE.KStateDown
import Lean
import HandS.Head0
import HandS.Head1
import HandS.Head2
import HandS.HeadHook1
set_option Elab.async false
set_option linter.all false
set_option maxRecDepth 100000
set_option maxHeartbeats 4000000
/-! Qd1: pure values over the hand layer: what they stand for, readings of expressions as functions on them. -/
namespace Qd
open PySem L2

/-- a pure value; obj k: the k-th changing object of the store; glo x: what the module's name x holds -/
inductive D where
  | non | bl (b : Bool) | int (i : Int) | str (x : Str)
  | tup (xs : List D) | lst (xs : List D) | scr (xs : List D)
  | dk (ks : List Key) (vs : List D) | dt (ks : List (List Key)) (vs : List D)
  | ins (C : Str) (ns : List Str) (vs : List D)
  | exc (C : Str) (ns : List Str) (vs : List D)
  | obj (k : Nat) | glo (x : Str) | ty (n : String)
  deriving Inhabited

/-- an exception that was caught: of the class cls, its own dict d, at a -/
def ExV (cls : Value) (d : Option Addr) (a : Addr) : HO := .ext fun h => ∃ (oe : Obj) (vs : Array Value), h.get? a = some oe ∧ Zc cls d oe ∧ oe.data = .fields vs
/-- where the changing objects lie, and a part of the heap that is left alone -/
structure Tb where
  l : List Addr
  F : Hp
/-- a tuple that stands -/
def TpB (K : PySem.W.Frag) (B : Hp) (a : Addr) (xs : List V) : Prop := B a = some (.tup xs)
mutual
def rep (K : PySem.W.Frag) (B : Hp) (tb : Tb) : D → V → Prop
  | .non, v => v = .non
  | .bl b, v => v = .bl b
  | .int i, v => v = .int i
  | .str x, v => v = .str x
  | .tup ds, v => ∃ a vs, v = .ref a ∧ TpB K B a vs ∧ reps K B tb ds vs
  | .lst ds, v => ∃ a vs, v = .ref a ∧ B a = some (.lst vs) ∧ reps K B tb ds vs
  | .scr ds, v => ∃ a vs, v = .ref a ∧ SqL K B a vs ∧ reps K B tb ds vs
  | .dk ks ds, v => ∃ a vs, v = .ref a ∧ B a = some (.dK (ks.zip vs)) ∧ ks.length = vs.length ∧ reps K B tb ds vs
  | .dt ks ds, v => ∃ a vs, v = .ref a ∧ B a = some (.dT (ks.zip vs)) ∧ ks.length = vs.length ∧ reps K B tb ds vs
  | .ins C ns ds, v => ∃ a dx vs, v = .ref a ∧ B a = some (.ins (He.ga K C) dx (ns.zip vs)) ∧ ns.length = vs.length ∧ reps K B tb ds vs
  | .exc C ns ds, v => ∃ a d vs, v = .ref a ∧ B a = some (ExV (.ref (He.ga K C)) d a) ∧ ((ns = [] ∧ d = none) ∨ ∃ dd, d = some dd ∧ B dd = some (.xd (ns.zip vs))) ∧ ns.length = vs.length ∧ reps K B tb ds vs
  | .obj k, v => ∃ a, v = .ref a ∧ tb.l[k]? = some a
  | .glo x, v => v = .ref (He.ga K x)
  | .ty n, v => v = .ty n
def reps (K : PySem.W.Frag) (B : Hp) (tb : Tb) : List D → List V → Prop
  | [], vs => vs = []
  | d :: ds, vs => ∃ v r, vs = v :: r ∧ rep K B tb d v ∧ reps K B tb ds r
end

/-- more is known, nothing known changes -/
structure Ex (B : Hp) (tb : Tb) (B' : Hp) (tb' : Tb) : Prop where
  sub : ∀ a o, B a = some o → B' a = some o
  tab : ∃ r, tb'.l = tb.l ++ r
  fr : tb'.F = tb.F
theorem Ex.refl (B : Hp) (tb : Tb) : Ex B tb B tb := ⟨fun _ _ h => h, ⟨[], by simp⟩, rfl⟩
theorem Ex.trans {B B' B'' : Hp} {tb tb' tb'' : Tb} (a : Ex B tb B' tb') (b : Ex B' tb' B'' tb'') : Ex B tb B'' tb'' := by
  obtain ⟨r, e⟩ := a.tab
  obtain ⟨r', e'⟩ := b.tab
  exact ⟨fun x o h => b.sub x o (a.sub x o h), ⟨r ++ r', by rw [e', e, List.append_assoc]⟩, b.fr.trans a.fr⟩
theorem Ex.at_ {B B' : Hp} {tb tb' : Tb} (e : Ex B tb B' tb') {k : Nat} {a : Addr} (h : tb.l[k]? = some a) : tb'.l[k]? = some a := by
  obtain ⟨r, q⟩ := e.tab
  rw [q, List.getElem?_append_left (List.getElem?_eq_some_iff.mp h).1]; exact h
theorem Rd.ex {B B' : Hp} (s : ∀ a o, B a = some o → B' a = some o) {a : Addr} {u : HO} (h : Rd B a u) : Rd B' a u := by
  rcases h with h | ⟨o, h⟩
  · exact .inl (s _ _ h)
  · exact .inr ⟨o, s _ _ h⟩
theorem SqL.ex {K : PySem.W.Frag} {B B' : Hp} (s : ∀ a o, B a = some o → B' a = some o) {a : Addr} {xs : List V} (h : SqL K B a xs) : SqL K B' a xs := h.imp (Rd.ex s) id
theorem TpB.ex {K : PySem.W.Frag} {B B' : Hp} (s : ∀ a o, B a = some o → B' a = some o) {a : Addr} {xs : List V} (h : TpB K B a xs) : TpB K B' a xs := s _ _ h
theorem SqT.ex {K : PySem.W.Frag} {B B' : Hp} (s : ∀ a o, B a = some o → B' a = some o) {a : Addr} {xs : List V} (h : TpB K B a xs) : SqT K B' a xs := .inl (.inl (s _ _ h))

mutual
theorem rep_mono {K : PySem.W.Frag} {B B' : Hp} {tb tb' : Tb} (s : ∀ a o, B a = some o → B' a = some o) (t : ∀ (k : Nat) (a : Addr), tb.l[k]? = some a → tb'.l[k]? = some a) : ∀ (d : D) (v : V), rep K B tb d v → rep K B' tb' d v
  | .non, v, h => by simpa only [rep] using h
  | .bl b, v, h => by simpa only [rep] using h
  | .int i, v, h => by simpa only [rep] using h
  | .str x, v, h => by simpa only [rep] using h
  | .tup ds, v, h => by
    simp only [rep] at h ⊢
    obtain ⟨a, vs, h1, h2, h3⟩ := h
    exact ⟨a, vs, h1, TpB.ex s h2, reps_mono s t ds vs h3⟩
  | .lst ds, v, h => by
    simp only [rep] at h ⊢
    obtain ⟨a, vs, h1, h2, h3⟩ := h
    exact ⟨a, vs, h1, s _ _ h2, reps_mono s t ds vs h3⟩
  | .scr ds, v, h => by
    simp only [rep] at h ⊢
    obtain ⟨a, vs, h1, h2, h3⟩ := h
    exact ⟨a, vs, h1, SqL.ex s h2, reps_mono s t ds vs h3⟩
  | .dk ks ds, v, h => by
    simp only [rep] at h ⊢
    obtain ⟨a, vs, h1, h2, h4, h3⟩ := h
    exact ⟨a, vs, h1, s _ _ h2, h4, reps_mono s t ds vs h3⟩
  | .dt ks ds, v, h => by
    simp only [rep] at h ⊢
    obtain ⟨a, vs, h1, h2, h4, h3⟩ := h
    exact ⟨a, vs, h1, s _ _ h2, h4, reps_mono s t ds vs h3⟩
  | .ins C ns ds, v, h => by
    simp only [rep] at h ⊢
    obtain ⟨a, dx, vs, h1, h2, h4, h3⟩ := h
    exact ⟨a, dx, vs, h1, s _ _ h2, h4, reps_mono s t ds vs h3⟩
  | .exc C ns ds, v, h => by
    simp only [rep] at h ⊢
    obtain ⟨a, d, vs, h1, h2, h4, h5, h3⟩ := h
    exact ⟨a, d, vs, h1, s _ _ h2, h4.imp id fun ⟨dd, e, q⟩ => ⟨dd, e, s _ _ q⟩, h5, reps_mono s t ds vs h3⟩
  | .obj k, v, h => by
    simp only [rep] at h ⊢
    obtain ⟨a, h1, h2⟩ := h
    exact ⟨a, h1, t _ _ h2⟩
  | .glo x, v, h => by simpa only [rep] using h
  | .ty n, v, h => by simpa only [rep] using h
theorem reps_mono {K : PySem.W.Frag} {B B' : Hp} {tb tb' : Tb} (s : ∀ a o, B a = some o → B' a = some o) (t : ∀ (k : Nat) (a : Addr), tb.l[k]? = some a → tb'.l[k]? = some a) : ∀ (ds : List D) (vs : List V), reps K B tb ds vs → reps K B' tb' ds vs
  | [], vs, h => by simpa only [reps] using h
  | d :: ds, vs, h => by
    simp only [reps] at h ⊢
    obtain ⟨v, r, h1, h2, h3⟩ := h
    exact ⟨v, r, h1, rep_mono s t d v h2, reps_mono s t ds r h3⟩
end

theorem rep_ex {K : PySem.W.Frag} {B B' : Hp} {tb tb' : Tb} (e : Ex B tb B' tb') (d : D) (v : V) (h : rep K B tb d v) : rep K B' tb' d v := rep_mono e.sub (fun _ _ => e.at_) d v h
theorem reps_ex {K : PySem.W.Frag} {B B' : Hp} {tb tb' : Tb} (e : Ex B tb B' tb') (ds : List D) (vs : List V) (h : reps K B tb ds vs) : reps K B' tb' ds vs := reps_mono e.sub (fun _ _ => e.at_) ds vs h
section
variable {K : PySem.W.Frag} {B : Hp} {tb : Tb}
theorem reps_len : ∀ {ds : List D} {vs : List V}, reps K B tb ds vs → vs.length = ds.length
  | [], vs, h => by simp only [reps] at h; subst h; rfl
  | d :: ds, vs, h => by
    simp only [reps] at h
    obtain ⟨v, r, rfl, _, h3⟩ := h
    simp [reps_len h3]
theorem reps_nil : reps K B tb [] [] := by simp only [reps]
theorem reps_cons {d : D} {ds : List D} {v : V} {vs : List V} (h : rep K B tb d v) (t : reps K B tb ds vs) : reps K B tb (d :: ds) (v :: vs) := by
  simp only [reps]; exact ⟨v, vs, rfl, h, t⟩
theorem reps_append : ∀ {ds es : List D} {vs us : List V}, reps K B tb ds vs → reps K B tb es us → reps K B tb (ds ++ es) (vs ++ us)
  | [], es, vs, us, h, t => by simp only [reps] at h; subst h; exact t
  | d :: ds, es, vs, us, h, t => by
    simp only [reps] at h
    obtain ⟨v, r, rfl, h2, h3⟩ := h
    exact reps_cons h2 (reps_append h3 t)
theorem reps_get : ∀ {ds : List D} {vs : List V} {i : Nat} {d : D}, reps K B tb ds vs → ds[i]? = some d → ∃ v, vs[i]? = some v ∧ rep K B tb d v
  | [], vs, i, d, h, e => by simp at e
  | d :: ds, vs, 0, d', h, e => by
    simp only [reps] at h
    obtain ⟨v, r, rfl, h2, h3⟩ := h
    simp at e; subst e
    exact ⟨v, rfl, h2⟩
  | d :: ds, vs, i + 1, d', h, e => by
    simp only [reps] at h
    obtain ⟨v, r, rfl, h2, h3⟩ := h
    simp at e
    obtain ⟨u, e1, e2⟩ := reps_get h3 e
    exact ⟨u, by simpa using e1, e2⟩
theorem reps_get' : ∀ {ds : List D} {vs : List V} {i : Nat} {v : V}, reps K B tb ds vs → vs[i]? = some v → ∃ d, ds[i]? = some d ∧ rep K B tb d v := fun {ds vs i v} h e => by
  have l := reps_len h
  have hi : i < ds.length := by rw [← l]; exact (List.getElem?_eq_some_iff.mp e).1
  obtain ⟨u, e1, e2⟩ := reps_get (i := i) (d := ds[i]) h (by simp [hi])
  rw [e] at e1; cases e1
  exact ⟨ds[i], by simp [hi], e2⟩
theorem reps_set : ∀ {ds : List D} {vs : List V} (i : Nat) {d : D} {v : V}, reps K B tb ds vs → rep K B tb d v → reps K B tb (ds.set i d) (vs.set i v)
  | [], vs, i, d, v, h, t => by simp only [reps] at h; subst h; simp only [List.set, reps]
  | e :: ds, vs, i, d, v, h, t => by
    simp only [reps] at h
    obtain ⟨u, r, rfl, h2, h3⟩ := h
    cases i with
    | zero => exact reps_cons t h3
    | succ i => exact reps_cons h2 (reps_set i h3 t)
theorem reps_take : ∀ {ds : List D} {vs : List V} (n : Nat), reps K B tb ds vs → reps K B tb (ds.take n) (vs.take n)
  | ds, vs, 0, h => by simp only [List.take_zero, reps]
  | [], vs, n + 1, h => by simp only [reps] at h; subst h; simp only [List.take_nil, reps]
  | d :: ds, vs, n + 1, h => by
    simp only [reps] at h
    obtain ⟨v, r, rfl, h2, h3⟩ := h
    exact reps_cons h2 (reps_take n h3)
theorem reps_drop : ∀ {ds : List D} {vs : List V} (n : Nat), reps K B tb ds vs → reps K B tb (ds.drop n) (vs.drop n)
  | ds, vs, 0, h => h
  | [], vs, n + 1, h => by simp only [reps] at h; subst h; simp only [List.drop_nil, reps]
  | d :: ds, vs, n + 1, h => by
    simp only [reps] at h
    obtain ⟨v, r, rfl, h2, h3⟩ := h
    exact reps_drop n h3
theorem reps_reverse : ∀ {ds : List D} {vs : List V}, reps K B tb ds vs → reps K B tb ds.reverse vs.reverse
  | [], vs, h => by simp only [reps] at h; subst h; simp only [List.reverse_nil, reps]
  | d :: ds, vs, h => by
    simp only [reps] at h
    obtain ⟨v, r, rfl, h2, h3⟩ := h
    rw [List.reverse_cons, List.reverse_cons]
    exact reps_append (reps_reverse h3) (reps_cons h2 reps_nil)
theorem reps_rep {ds : List D} {vs : List V} (h : reps K B tb ds vs) : ∀ k : Nat, reps K B tb (List.replicate k ds).flatten (List.replicate k vs).flatten
  | 0 => reps_nil
  | k + 1 => by
    rw [List.replicate_succ, List.replicate_succ, List.flatten_cons, List.flatten_cons]
    exact reps_append h (reps_rep h k)
theorem reps_map {α : Type} (f : α → D) (g : α → V) : ∀ (l : List α), (∀ x ∈ l, rep K B tb (f x) (g x)) → reps K B tb (l.map f) (l.map g)
  | [], _ => reps_nil
  | x :: l, h => reps_cons (h x List.mem_cons_self) (reps_map f g l fun y hy => h y (List.mem_cons_of_mem _ hy))
end

/-! ### the store -/
/-- the changing objects (none: no more known), and how many were told beyond them -/
structure Sto where
  m : List (Option D)
  g : Nat
def orep (K : PySem.W.Frag) (H B : Hp) (tb : Tb) : D → Addr → Prop
  | .lst ds, a => ∃ vs, H a = some (.lst vs) ∧ reps K B tb ds vs
  | .dk ks ds, a => ∃ vs, H a = some (.dK (ks.zip vs)) ∧ ks.length = vs.length ∧ reps K B tb ds vs
  | .dt ks ds, a => ∃ vs, H a = some (.dT (ks.zip vs)) ∧ ks.length = vs.length ∧ reps K B tb ds vs
  | .ins C ns ds, a => ∃ dx vs, H a = some (.ins (He.ga K C) dx (ns.zip vs)) ∧ ns.length = vs.length ∧ reps K B tb ds vs
  | _, _ => False
theorem orep_ex {K : PySem.W.Frag} {H H' B B' : Hp} {tb tb' : Tb} (e : Ex B tb B' tb') {d : D} {a : Addr} (hH : H' a = H a) (h : orep K H B tb d a) : orep K H' B' tb' d a := by
  cases d with
  | lst ds => obtain ⟨vs, h1, h2⟩ := h; exact ⟨vs, by rw [hH]; exact h1, reps_ex e _ _ h2⟩
  | dk ks ds => obtain ⟨vs, h1, l, h2⟩ := h; exact ⟨vs, by rw [hH]; exact h1, l, reps_ex e _ _ h2⟩
  | dt ks ds => obtain ⟨vs, h1, l, h2⟩ := h; exact ⟨vs, by rw [hH]; exact h1, l, reps_ex e _ _ h2⟩
  | ins C ns ds => obtain ⟨dx, vs, h1, l, h2⟩ := h; exact ⟨dx, vs, by rw [hH]; exact h1, l, reps_ex e _ _ h2⟩
  | _ => exact h
theorem orep_some {K : PySem.W.Frag} {H B : Hp} {tb : Tb} {d : D} {a : Addr} (h : orep K H B tb d a) : ∃ o, H a = some o := by
  cases d with
  | lst ds => obtain ⟨vs, h1, _⟩ := h; exact ⟨_, h1⟩
  | dk ks ds => obtain ⟨vs, h1, _⟩ := h; exact ⟨_, h1⟩
  | dt ks ds => obtain ⟨vs, h1, _⟩ := h; exact ⟨_, h1⟩
  | ins C ns ds => obtain ⟨dx, vs, h1, _⟩ := h; exact ⟨_, h1⟩
  | _ => exact h.elim
theorem orep_tab {K : PySem.W.Frag} {H B : Hp} {tb tb' : Tb} (e : tb'.l = tb.l) {d : D} {a : Addr} (h : orep K H B tb d a) : orep K H B tb' d a := by
  have r : ∀ {ds : List D} {vs : List V}, reps K B tb ds vs → reps K B tb' ds vs := fun h => reps_mono (fun _ _ h => h) (fun k a h => by rw [e]; exact h) _ _ h
  cases d with
  | lst ds => obtain ⟨vs, h1, h2⟩ := h; exact ⟨vs, h1, r h2⟩
  | dk ks ds => obtain ⟨vs, h1, l, h2⟩ := h; exact ⟨vs, h1, l, r h2⟩
  | dt ks ds => obtain ⟨vs, h1, l, h2⟩ := h; exact ⟨vs, h1, l, r h2⟩
  | ins C ns ds => obtain ⟨dx, vs, h1, l, h2⟩ := h; exact ⟨dx, vs, h1, l, r h2⟩
  | _ => exact h
structure Wd (K : PySem.W.Frag) (H B : Hp) (tb : Tb) (S : Sto) : Prop where
  sub : ∀ a o, B a = some o → H a = some o
  len : tb.l.length = S.m.length + S.g
  at_ : ∀ (k : Nat) (d : D), S.m[k]? = some (some d) → ∃ a, tb.l[k]? = some a ∧ B a = none ∧ orep K H B tb d a
  fr : ∀ a o, tb.F a = some o → H a = some o ∧ B a = none ∧ ∀ (k : Nat) (d : D), S.m[k]? = some (some d) → tb.l[k]? ≠ some a
  inj : ∀ (j k : Nat) (a : Addr) (d e : D), S.m[j]? = some (some d) → S.m[k]? = some (some e) → tb.l[j]? = some a → tb.l[k]? = some a → j = k
  fl : ∀ a o, tb.F a = some o → ∃ vs, o = .lst vs
section
variable {K : PySem.W.Frag} {H B : Hp} {tb : Tb} {S : Sto}
/-- one more changing object's place -/
def Tb.add (tb : Tb) (p : Addr) : Tb := ⟨tb.l ++ [p], tb.F⟩
/-- another part left alone -/
def Tb.hold (tb : Tb) (p : Addr) (o : HO) : Tb := ⟨tb.l, upd tb.F p o⟩
theorem Wd.none_of (w : Wd K H B tb S) {p : Addr} (hp : H p = none) : B p = none := by
  cases e : B p with
  | none => rfl
  | some u => rw [w.sub _ _ e] at hp; cases hp
theorem Wd.live (w : Wd K H B tb S) {k : Nat} {d : D} {a : Addr} (hk : S.m[k]? = some (some d)) (ha : tb.l[k]? = some a) : B a = none ∧ orep K H B tb d a ∧ ∃ o, H a = some o := by
  obtain ⟨a', h1, h2, h3⟩ := w.at_ k d hk
  rw [ha] at h1; cases h1
  exact ⟨h2, h3, orep_some h3⟩
/-- a new object that never changes -/
theorem Wd.new (w : Wd K H B tb S) {p : Addr} (hp : H p = none) (o : HO) : Wd K (upd H p o) (upd B p o) tb S ∧ Ex B tb (upd B p o) tb := by
  have hB := w.none_of hp
  have ex : Ex B tb (upd B p o) tb := ⟨fun a u h => by rw [upd_ne (ne_of_none h hB)]; exact h, ⟨[], by simp⟩, rfl⟩
  refine ⟨⟨fun a u h => ?_, w.len, fun k d h => ?_, fun a u h => ?_, w.inj, w.fl⟩, ex⟩
  · by_cases e : a = p
    · subst e; rw [upd_same] at h ⊢; exact h
    · rw [upd_ne e] at h ⊢; exact w.sub _ _ h
  · obtain ⟨a, h1, h2, h3⟩ := w.at_ k d h
    obtain ⟨u, hu⟩ := orep_some h3
    have ne : a ≠ p := ne_of_none hu hp
    exact ⟨a, h1, by rw [upd_ne ne]; exact h2, orep_ex ex (upd_ne ne) h3⟩
  · obtain ⟨h1, h2, h3⟩ := w.fr a u h
    have ne : a ≠ p := ne_of_none h1 hp
    exact ⟨by rw [upd_ne ne]; exact h1, by rw [upd_ne ne]; exact h2, h3⟩
/-- the heap grows beside -/
theorem Wd.more (w : Wd K H B tb S) {p : Addr} (hp : H p = none) (o : HO) : Wd K (upd H p o) B tb S := by
  refine ⟨fun a u h => ?_, w.len, fun k d h => ?_, fun a u h => ?_, w.inj, w.fl⟩
  · rw [upd_ne (ne_of_none (w.sub _ _ h) hp)]; exact w.sub _ _ h
  · obtain ⟨a, h1, h2, h3⟩ := w.at_ k d h
    obtain ⟨u, hu⟩ := orep_some h3
    exact ⟨a, h1, h2, orep_ex (Ex.refl _ _) (upd_ne (ne_of_none hu hp)) h3⟩
  · obtain ⟨h1, h2, h3⟩ := w.fr a u h
    exact ⟨by rw [upd_ne (ne_of_none h1 hp)]; exact h1, h2, h3⟩
/-- the next object's number; a new changing object -/
def Sto.next (S : Sto) : Nat := S.m.length + S.g
def Sto.push (S : Sto) (d : D) : Sto := ⟨S.m ++ List.replicate S.g none ++ [some d], 0⟩
theorem push_get {S : Sto} {d : D} {k : Nat} {e : D} (h : (S.push d).m[k]? = some (some e)) : S.m[k]? = some (some e) ∨ (k = S.next ∧ e = d) := by
  unfold Sto.push at h
  simp only [List.append_assoc] at h
  by_cases h1 : k < S.m.length
  · rw [List.getElem?_append_left h1] at h; exact .inl h
  · rw [List.getElem?_append_right (by omega)] at h
    by_cases h2 : k - S.m.length < S.g
    · rw [List.getElem?_append_left (by simpa using h2), List.getElem?_replicate_of_lt h2] at h; cases h
    · rw [List.getElem?_append_right (by simp; omega)] at h
      simp only [List.length_replicate] at h
      have h3 : k - S.m.length - S.g = 0 := by
        cases q : k - S.m.length - S.g with
        | zero => rfl
        | succ n => rw [q] at h; simp at h
      rw [h3] at h
      simp at h
      exact .inr ⟨by unfold Sto.next; omega, h.symm⟩
theorem Wd.push (w : Wd K H B tb S) {p : Addr} (hp : H p = none) {o : HO} {d : D} (h : orep K (upd H p o) B (tb.add p) d p) : Wd K (upd H p o) B (tb.add p) (S.push d) ∧ Ex B tb B (tb.add p) ∧ (tb.add p).l[S.next]? = some p := by
  have ex : Ex B tb B (tb.add p) := ⟨fun _ _ h => h, ⟨[p], rfl⟩, rfl⟩
  have hB := w.none_of hp
  have hn : (tb.add p).l[S.next]? = some p := by
    unfold Sto.next Tb.add
    rw [← w.len]
    simp
  have old : ∀ {i : Nat} {e : D} {b : Addr}, S.m[i]? = some (some e) → (tb.add p).l[i]? = some b → tb.l[i]? = some b ∧ b ≠ p := fun {i e b} q r => by
    obtain ⟨b', q1, _, q3⟩ := w.at_ i e q
    have q4 := ex.at_ q1
    rw [q4] at r; cases r
    obtain ⟨u, hu⟩ := orep_some q3
    exact ⟨q1, ne_of_none hu hp⟩
  refine ⟨⟨fun a u h => ?_, ?_, fun k e h' => ?_, fun a u h' => ?_, fun j k a e1 e2 h1 h2 h3 h4 => ?_, w.fl⟩, ex, hn⟩
  · rw [upd_ne (ne_of_none (w.sub _ _ h) hp)]; exact w.sub _ _ h
  · unfold Sto.push Tb.add; simp [w.len]; omega
  · rcases push_get h' with h' | ⟨rfl, rfl⟩
    · obtain ⟨a, h1, h2, h3⟩ := w.at_ k e h'
      obtain ⟨u, hu⟩ := orep_some h3
      exact ⟨a, ex.at_ h1, h2, orep_ex ex (upd_ne (ne_of_none hu hp)) h3⟩
    · exact ⟨p, hn, hB, h⟩
  · obtain ⟨h1, h2, h3⟩ := w.fr a u h'
    have ne : a ≠ p := ne_of_none h1 hp
    refine ⟨by rw [upd_ne ne]; exact h1, h2, fun k e hk ha => ?_⟩
    rcases push_get hk with hk | ⟨rfl, rfl⟩
    · exact h3 k e hk (old hk ha).1
    · rw [hn] at ha; cases ha; exact ne rfl
  · rcases push_get h1 with q1 | ⟨rfl, rfl⟩
    · rcases push_get h2 with q2 | ⟨rfl, rfl⟩
      · exact w.inj _ _ _ _ _ q1 q2 (old q1 h3).1 (old q2 h4).1
      · rw [hn] at h4; cases h4; exact absurd rfl (old q1 h3).2
    · rcases push_get h2 with q2 | ⟨rfl, rfl⟩
      · rw [hn] at h3; cases h3; exact absurd rfl (old q2 h4).2
      · rfl
/-- an object changes -/
def Sto.put (S : Sto) (k : Nat) (d : D) : Sto := ⟨S.m.set k (some d), S.g⟩
theorem put_get {S : Sto} {k i : Nat} {d d' e : D} (hk : S.m[k]? = some (some d)) (q : (S.put k d').m[i]? = some (some e)) : (i = k ∧ e = d') ∨ (i ≠ k ∧ S.m[i]? = some (some e)) := by
  unfold Sto.put at q
  by_cases hi : i = k
  · subst hi
    have hl : i < S.m.length := (List.getElem?_eq_some_iff.mp hk).1
    simp only [List.getElem?_set_self hl, Option.some.injEq] at q
    exact .inl ⟨rfl, q.symm⟩
  · simp only [List.getElem?_set_ne (Ne.symm hi)] at q
    exact .inr ⟨hi, q⟩
theorem Wd.put (w : Wd K H B tb S) {k : Nat} {d d' : D} {a : Addr} (hk : S.m[k]? = some (some d)) (ha : tb.l[k]? = some a) {o : HO} (h : orep K (upd H a o) B tb d' a) : Wd K (upd H a o) B tb (S.put k d') := by
  obtain ⟨h2, h3, _⟩ := w.live hk ha
  have some_of : ∀ {i : Nat} {e : D}, (S.put k d').m[i]? = some (some e) → ∃ e', S.m[i]? = some (some e') := fun {i e} q => by
    rcases put_get hk q with ⟨rfl, _⟩ | ⟨_, q⟩
    · exact ⟨d, hk⟩
    · exact ⟨e, q⟩
  refine ⟨fun b u q => ?_, by unfold Sto.put; simpa using w.len, fun j e q => ?_, fun b u q => ?_, fun i j b e1 e2 q1 q2 q3 q4 => ?_, w.fl⟩
  · rw [upd_ne (ne_of_none q h2)]; exact w.sub _ _ q
  · rcases put_get hk q with ⟨rfl, rfl⟩ | ⟨hj, q⟩
    · exact ⟨a, ha, h2, h⟩
    · obtain ⟨b, r1, r2, r3⟩ := w.at_ j e q
      have ne : b ≠ a := fun z => hj (w.inj _ _ _ _ _ q hk (z ▸ r1) ha)
      exact ⟨b, r1, r2, orep_ex (Ex.refl _ _) (upd_ne ne) r3⟩
  · obtain ⟨r1, r2, r3⟩ := w.fr b u q
    have ne : b ≠ a := fun z => r3 k d hk (z ▸ ha)
    refine ⟨by rw [upd_ne ne]; exact r1, r2, fun j e hj hb => ?_⟩
    obtain ⟨e', he'⟩ := some_of hj
    exact r3 j e' he' hb
  · obtain ⟨f1, r1⟩ := some_of q1
    obtain ⟨f2, r2⟩ := some_of q2
    exact w.inj _ _ _ _ _ r1 r2 q3 q4
/-- an object is told to change no more -/
def Sto.drop (S : Sto) (k : Nat) : Sto := ⟨S.m.set k none, S.g⟩
theorem drop_get {S : Sto} {k j : Nat} {e : D} (h : (S.drop k).m[j]? = some (some e)) : j ≠ k ∧ S.m[j]? = some (some e) := by
  unfold Sto.drop at h
  by_cases hj : j = k
  · subst hj
    by_cases hl : j < S.m.length
    · simp [List.getElem?_set_self hl] at h
    · rw [List.getElem?_eq_none (by simpa using hl)] at h; cases h
  · simp only [List.getElem?_set_ne (Ne.symm hj)] at h
    exact ⟨hj, h⟩
theorem Wd.drop (w : Wd K H B tb S) {k : Nat} {d : D} {a : Addr} {o : HO} (hk : S.m[k]? = some (some d)) (ha : tb.l[k]? = some a) (ho : H a = some o) : Wd K H (upd B a o) tb (S.drop k) ∧ Ex B tb (upd B a o) tb := by
  obtain ⟨h2, h3, _⟩ := w.live hk ha
  have ex : Ex B tb (upd B a o) tb := ⟨fun b u h => by rw [upd_ne (ne_of_none h h2)]; exact h, ⟨[], by simp⟩, rfl⟩
  refine ⟨⟨fun b u q => ?_, by unfold Sto.drop; simpa using w.len, fun j e q => ?_, fun b u q => ?_, fun i j b e1 e2 q1 q2 q3 q4 => w.inj _ _ _ _ _ (drop_get q1).2 (drop_get q2).2 q3 q4, w.fl⟩, ex⟩
  · by_cases e : b = a
    · subst e; rw [upd_same] at q; cases q; exact ho
    · rw [upd_ne e] at q; exact w.sub _ _ q
  · obtain ⟨hj, q⟩ := drop_get q
    obtain ⟨b, r1, r2, r3⟩ := w.at_ j e q
    have ne : b ≠ a := fun z => hj (w.inj _ _ _ _ _ q hk (z ▸ r1) ha)
    exact ⟨b, r1, by rw [upd_ne ne]; exact r2, orep_ex ex rfl r3⟩
  · obtain ⟨r1, r2, r3⟩ := w.fr b u q
    have ne : b ≠ a := fun z => r3 k d hk (z ▸ ha)
    exact ⟨r1, by rw [upd_ne ne]; exact r2, fun j e hj => r3 j e (drop_get hj).2⟩
/-- behind a call: what was made since is forgotten -/
def Sto.back (S : Sto) (n : Nat) : Sto := ⟨S.m.take n, S.m.length + S.g - (S.m.take n).length⟩
theorem Wd.back (w : Wd K H B tb S) (n : Nat) : Wd K H B tb (S.back n) := by
  have g : ∀ {j : Nat} {e : D}, (S.back n).m[j]? = some (some e) → S.m[j]? = some (some e) := fun {j e} q => by
    unfold Sto.back at q
    rw [List.getElem?_take] at q
    split at q
    · exact q
    · cases q
  refine ⟨w.sub, ?_, fun j e q => w.at_ j e (g q), fun a o h => ?_, fun i j b e1 e2 q1 q2 => w.inj _ _ _ _ _ (g q1) (g q2), w.fl⟩
  · unfold Sto.back
    rw [w.len]
    simp only [List.length_take]
    omega
  · obtain ⟨h1, h2, h3⟩ := w.fr a o h
    exact ⟨h1, h2, fun k d hk => h3 k d (g hk)⟩
/-- an object beside is held: nothing touches it -/
theorem Wd.hold (w : Wd K H B tb S) {p : Addr} {xs : List V} (hp : H p = some (.lst xs)) (hB : B p = none) (hl : ∀ (k : Nat) (d : D), S.m[k]? = some (some d) → tb.l[k]? ≠ some p) : Wd K H B (tb.hold p (.lst xs)) S := by
  refine ⟨w.sub, w.len, fun k d h => ?_, fun a u h => ?_, w.inj, fun a u h => ?_⟩
  · obtain ⟨a, h1, h2, h3⟩ := w.at_ k d h
    exact ⟨a, h1, h2, orep_tab (tb := tb) (tb' := tb.hold p (.lst xs)) (show (tb.hold p (.lst xs)).l = tb.l from rfl) h3⟩
  · by_cases e : a = p
    · subst e
      have h' : upd tb.F a (.lst xs) a = some u := h
      rw [upd_same] at h'; cases h'
      exact ⟨hp, hB, hl⟩
    · have h' : upd tb.F p (.lst xs) a = some u := h
      rw [upd_ne e] at h'
      exact w.fr a u h'
  · by_cases e : a = p
    · subst e
      have h' : upd tb.F a (.lst xs) a = some u := h
      rw [upd_same] at h'; cases h'
      exact ⟨_, rfl⟩
    · have h' : upd tb.F p (.lst xs) a = some u := h
      rw [upd_ne e] at h'
      exact w.fl a u h'
theorem orep_notTup {d : D} {a : Addr} {xs : List V} (h : orep K H B tb d a) (e : H a = some (.tup xs)) : False := by
  cases d with
  | lst ds => obtain ⟨vs, h1, _⟩ := h; rw [e] at h1; cases h1
  | dk ks ds => obtain ⟨vs, h1, _⟩ := h; rw [e] at h1; cases h1
  | dt ks ds => obtain ⟨vs, h1, _⟩ := h; rw [e] at h1; cases h1
  | ins C ns ds => obtain ⟨dx, vs, h1, _⟩ := h; rw [e] at h1; cases h1
  | _ => exact h.elim
/-- a tuple that stands in the heap may be told of -/
theorem Wd.adopt (w : Wd K H B tb S) {p : Addr} {xs : List V} (hp : H p = some (.tup xs)) : ∃ B', Ex B tb B' tb ∧ Wd K H B' tb S ∧ B' p = some (.tup xs) := by
  have ex : Ex B tb (upd B p (.tup xs)) tb := ⟨fun a u h => by
    by_cases e : a = p
    · subst e
      have := w.sub _ _ h
      rw [hp] at this; rw [upd_same]; exact this
    · rw [upd_ne e]; exact h, ⟨[], by simp⟩, rfl⟩
  refine ⟨_, ex, ⟨fun a u h => ?_, w.len, fun k d h => ?_, fun a u h => ?_, w.inj, w.fl⟩, upd_same⟩
  · by_cases e : a = p
    · subst e; rw [upd_same] at h; cases h; exact hp
    · rw [upd_ne e] at h; exact w.sub _ _ h
  · obtain ⟨a, h1, h2, h3⟩ := w.at_ k d h
    have ne : a ≠ p := fun z => orep_notTup h3 (by rw [z]; exact hp)
    exact ⟨a, h1, by rw [upd_ne ne]; exact h2, orep_ex ex rfl h3⟩
  · obtain ⟨h1, h2, h3⟩ := w.fr a u h
    have ne : a ≠ p := fun z => by
      obtain ⟨vs, rfl⟩ := w.fl a u h
      rw [z, hp] at h1; cases h1
    exact ⟨h1, by rw [upd_ne ne]; exact h2, h3⟩
end
theorem rep_tab {K : PySem.W.Frag} {B : Hp} {tb tb' : Tb} (e : tb'.l = tb.l) {d : D} {v : V} (h : rep K B tb d v) : rep K B tb' d v := rep_mono (fun _ _ h => h) (fun k a h => by rw [e]; exact h) d v h
theorem reps_tab {K : PySem.W.Frag} {B : Hp} {tb tb' : Tb} (e : tb'.l = tb.l) {d : List D} {v : List V} (h : reps K B tb d v) : reps K B tb' d v := reps_mono (fun _ _ h => h) (fun k a h => by rw [e]; exact h) d v h
end Qd

namespace Qd
open PySem L2

/-! ### results -/
inductive R (α : Type) where
  | ok (a : α) (S : Sto)
  | er (C : Str) (ns : List Str) (vs : List D) (S : Sto)
  | no
def R.bind {α β : Type} (r : R α) (k : α → Sto → R β) : R β := match r with
  | .ok a S => k a S
  | .er C ns vs S => .er C ns vs S
  | .no => .no
abbrev Rho := List (Option D)
abbrev FE := Rho → Sto → R D
abbrev FT := Rho → Sto → R Bool
abbrev FA := Rho → Sto → R (List D)
@[simp] theorem bind_ok {α β : Type} (a : α) (S : Sto) (k : α → Sto → R β) : (R.ok a S).bind k = k a S := rfl
@[simp] theorem bind_er {α β : Type} (C : Str) (ns : List Str) (vs : List D) (S : Sto) (k : α → Sto → R β) : (R.er C ns vs S : R α).bind k = .er C ns vs S := rfl
@[simp] theorem bind_no {α β : Type} (k : α → Sto → R β) : (R.no : R α).bind k = .no := rfl
theorem bind_assoc {α β γ : Type} (r : R α) (f : α → Sto → R β) (g : β → Sto → R γ) : (r.bind f).bind g = r.bind fun a S => (f a S).bind g := by cases r <;> rfl

def repE (K : PySem.W.Frag) (B : Hp) (tb : Tb) (ρ : Rho) (σ : St) : Prop :=
  ρ.length = σ.length ∧ ∀ (i : Nat) (d : D), ρ[i]? = some (some d) → ∃ v, σ[i]? = some (some v) ∧ rep K B tb d v
theorem repE.ex {K : PySem.W.Frag} {B B' : Hp} {tb tb' : Tb} (e : Ex B tb B' tb') {ρ : Rho} {σ : St} (h : repE K B tb ρ σ) : repE K B' tb' ρ σ :=
  ⟨h.1, fun i d hi => let ⟨v, h1, h2⟩ := h.2 i d hi; ⟨v, h1, rep_ex e d v h2⟩⟩
theorem repE.set {K : PySem.W.Frag} {B : Hp} {tb : Tb} {ρ : Rho} {σ : St} (h : repE K B tb ρ σ) (i : Nat) {d : D} {v : V} (r : rep K B tb d v) : repE K B tb (ρ.set i (some d)) (σ.set i (some v)) := by
  refine ⟨by simpa using h.1, fun j e hj => ?_⟩
  by_cases q : j = i
  · subst q
    by_cases hl : j < ρ.length
    · rw [List.getElem?_set_self hl] at hj; cases hj
      exact ⟨v, by rw [List.getElem?_set_self (by rw [← h.1]; exact hl)], r⟩
    · rw [List.getElem?_eq_none (by simpa using hl)] at hj; cases hj
  · rw [List.getElem?_set_ne (Ne.symm q)] at hj
    obtain ⟨u, h1, h2⟩ := h.2 j e hj
    exact ⟨u, by rw [List.getElem?_set_ne (Ne.symm q)]; exact h1, h2⟩
theorem repE.forget {K : PySem.W.Frag} {B : Hp} {tb : Tb} {ρ : Rho} {σ : St} (h : repE K B tb ρ σ) (i : Nat) (o : Option V) : repE K B tb (ρ.set i none) (σ.set i o) := by
  refine ⟨by simpa using h.1, fun j e hj => ?_⟩
  by_cases q : j = i
  · subst q
    by_cases hl : j < ρ.length
    · rw [List.getElem?_set_self hl] at hj; cases hj
    · rw [List.getElem?_eq_none (by simpa using hl)] at hj; cases hj
  · rw [List.getElem?_set_ne (Ne.symm q)] at hj
    obtain ⟨u, h1, h2⟩ := h.2 j e hj
    exact ⟨u, by rw [List.getElem?_set_ne (Ne.symm q)]; exact h1, h2⟩

/-- what is wanted behind a result -/
def Post (K : PySem.W.Frag) (B : Hp) (tb : Tb) {α : Type} (W : WX) (σ : St) (r : R α) (k : α → Sto → Hp → Tb → Hp → Prop) : Prop := match r with
  | .ok a S => ∀ B' tb' H', Ex B tb B' tb' → Wd K H' B' tb' S → k a S B' tb' H'
  | .er C ns vs S => ∀ B' tb' H', Ex B tb B' tb' → Wd K H' B' tb' S → (ns = [] → W (.ref (He.ga K C)) none σ H') ∧
      ∀ dd xs, H' dd = some (.xd (ns.zip xs)) → ns.length = xs.length → reps K B' tb' vs xs → W (.ref (He.ga K C)) (some dd) σ H'
  | .no => False
section
variable {K : PySem.W.Frag} {B B' : Hp} {tb tb' : Tb} {W : WX} {σ : St}
theorem Post.mono {α : Type} {r : R α} {k : α → Sto → Hp → Tb → Hp → Prop} (e : Ex B tb B' tb') (h : Post K B tb W σ r k) : Post K B' tb' W σ r k := by
  cases r with
  | ok a S => exact fun B2 tb2 H2 e2 w2 => h B2 tb2 H2 (e.trans e2) w2
  | er C ns vs S => exact fun B2 tb2 H2 e2 w2 => h B2 tb2 H2 (e.trans e2) w2
  | no => exact h
theorem Post.ok {α : Type} {a : α} {S : Sto} {k : α → Sto → Hp → Tb → Hp → Prop} {H : Hp} (h : Post K B tb W σ (.ok a S) k) (w : Wd K H B tb S) : k a S B tb H := h B tb H (Ex.refl _ _) w
end
def LE (K : PySem.W.Frag) (W : WX) (f : FE) : TE := fun σ H Q => ∃ B tb ρ S, Wd K H B tb S ∧ repE K B tb ρ σ ∧ Post K B tb W σ (f ρ S) fun d _ B' tb' H' => ∀ v, rep K B' tb' d v → Q v H'
def LT (K : PySem.W.Frag) (W : WX) (f : FT) : TT := fun σ H Q => ∃ B tb ρ S, Wd K H B tb S ∧ repE K B tb ρ σ ∧ Post K B tb W σ (f ρ S) fun b _ B' tb' H' => Q b H'
def LA (K : PySem.W.Frag) (W : WX) (f : FA) : TA := fun σ H Q => ∃ B tb ρ S, Wd K H B tb S ∧ repE K B tb ρ σ ∧ Post K B tb W σ (f ρ S) fun ds _ B' tb' H' => ∀ vs, reps K B' tb' ds vs → Q vs H'
section
variable {K : PySem.W.Frag} {H B : Hp} {tb : Tb} {W : WX} {σ : St} {ρ : Rho} {S : Sto}
/-- the first part of a reading -/
theorem LE.step {β : Type} {f : FE} {g : D → Sto → R β} {k : β → Sto → Hp → Tb → Hp → Prop} (w : Wd K H B tb S) (e : repE K B tb ρ σ) (h : Post K B tb W σ ((f ρ S).bind g) k) {Q : V → Hp → Prop}
    (hq : ∀ d S1 B1 tb1 H1 v, Ex B tb B1 tb1 → Wd K H1 B1 tb1 S1 → repE K B1 tb1 ρ σ → rep K B1 tb1 d v → Post K B1 tb1 W σ (g d S1) k → Q v H1) : LE K W f σ H Q := by
  refine ⟨B, tb, ρ, S, w, e, ?_⟩
  cases q : f ρ S with
  | ok d S1 => rw [q] at h; exact fun B1 tb1 H1 e1 w1 v r => hq d S1 B1 tb1 H1 v e1 w1 (e.ex e1) r (h.mono e1)
  | er C ns vs S1 => rw [q] at h; exact h
  | no => rw [q] at h; exact h
theorem LT.step {β : Type} {f : FT} {g : Bool → Sto → R β} {k : β → Sto → Hp → Tb → Hp → Prop} (w : Wd K H B tb S) (e : repE K B tb ρ σ) (h : Post K B tb W σ ((f ρ S).bind g) k) {Q : Bool → Hp → Prop}
    (hq : ∀ d S1 B1 tb1 H1, Ex B tb B1 tb1 → Wd K H1 B1 tb1 S1 → repE K B1 tb1 ρ σ → Post K B1 tb1 W σ (g d S1) k → Q d H1) : LT K W f σ H Q := by
  refine ⟨B, tb, ρ, S, w, e, ?_⟩
  cases q : f ρ S with
  | ok d S1 => rw [q] at h; exact fun B1 tb1 H1 e1 w1 => hq d S1 B1 tb1 H1 e1 w1 (e.ex e1) (h.mono e1)
  | er C ns vs S1 => rw [q] at h; exact h
  | no => rw [q] at h; exact h
theorem LA.step {β : Type} {f : FA} {g : List D → Sto → R β} {k : β → Sto → Hp → Tb → Hp → Prop} (w : Wd K H B tb S) (e : repE K B tb ρ σ) (h : Post K B tb W σ ((f ρ S).bind g) k) {Q : List V → Hp → Prop}
    (hq : ∀ d S1 B1 tb1 H1 v, Ex B tb B1 tb1 → Wd K H1 B1 tb1 S1 → repE K B1 tb1 ρ σ → reps K B1 tb1 d v → Post K B1 tb1 W σ (g d S1) k → Q v H1) : LA K W f σ H Q := by
  refine ⟨B, tb, ρ, S, w, e, ?_⟩
  cases q : f ρ S with
  | ok d S1 => rw [q] at h; exact fun B1 tb1 H1 e1 w1 v r => hq d S1 B1 tb1 H1 v e1 w1 (e.ex e1) r (h.mono e1)
  | er C ns vs S1 => rw [q] at h; exact h
  | no => rw [q] at h; exact h
/-- the last part: the whole is one reading -/
theorem LE.last {f : FE} {Q : V → Hp → Prop} (w : Wd K H B tb S) (e : repE K B tb ρ σ) (h : Post K B tb W σ (f ρ S) fun d _ B' tb' H' => ∀ v, rep K B' tb' d v → Q v H') : LE K W f σ H Q := ⟨B, tb, ρ, S, w, e, h⟩
end
section
variable {X : Cx}
theorem _root_.L2.PE.imp {e : Expr} {t t' : TE} (h : PE X e t) (i : ∀ σ H Q, t' σ H Q → t σ H Q) : PE X e t' := ⟨fun pins s σ H Q I q => h.run pins s σ H Q I (i σ H Q q)⟩
theorem _root_.L2.PT.imp {e : Expr} {t t' : TT} (h : PT X e t) (i : ∀ σ H Q, t' σ H Q → t σ H Q) : PT X e t' := ⟨fun pins s σ H Q I q => h.run pins s σ H Q I (i σ H Q q)⟩
theorem _root_.L2.PA.imp {e : List Expr} {t t' : TA} (h : PA X e t) (i : ∀ σ H Q, t' σ H Q → t σ H Q) : PA X e t' := ⟨fun po pins s σ H Q I q => h.run po pins s σ H Q I (i σ H Q q)⟩
theorem _root_.L2.PS.imp {e : Stmt} {t t' : TS} (h : PS X e t) (i : ∀ D σ H, t' D σ H → t D σ H) : PS X e t' := ⟨fun pins s σ H D I q => h.run pins s σ H D I (i D σ H q)⟩
theorem _root_.L2.PSs.imp {e : List Stmt} {t t' : TS} (h : PSs X e t) (i : ∀ D σ H, t' D σ H → t D σ H) : PSs X e t' := ⟨fun pins s σ H D I q => h.run pins s σ H D I (i D σ H q)⟩
theorem _root_.L2.PE.or {e : Expr} {t t' : TE} (h : PE X e t) (h' : PE X e t') : PE X e (fun σ H Q => t σ H Q ∨ t' σ H Q) := ⟨fun pins s σ H Q I q => q.elim (h.run pins s σ H Q I) (h'.run pins s σ H Q I)⟩
end

/-! ### names, constants -/
abbrev DE (X : Cx) (W : WX) (e : Expr) (f : FE) : Prop := PE X e (LE X.K W f)
abbrev DT (X : Cx) (W : WX) (e : Expr) (f : FT) : Prop := PT X e (LT X.K W f)
abbrev DA (X : Cx) (W : WX) (e : List Expr) (f : FA) : Prop := PA X e (LA X.K W f)
def eVar (i : Nat) : FE := fun ρ S => match ρ[i]? with
  | some (some d) => .ok d S
  | _ => .no
def eC (d : D) : FE := fun _ S => .ok d S
section
variable {X : Cx} {W : WX}
theorem d_var {e : Expr} {i : Nat} (h : PE X e (tVar i)) : DE X W e (eVar i) := h.imp fun σ H Q ⟨B, tb, ρ, S, w, r, h⟩ => by
  unfold eVar at h
  split at h
  · rename_i d hd
    obtain ⟨v, h1, h2⟩ := r.2 i d hd
    exact ⟨v, h1, h.ok w v h2⟩
  · exact h.elim
theorem d_c {e : Expr} {d : D} {v : V} (h : PE X e (tC v)) (hd : ∀ B tb, rep X.K B tb d v) : DE X W e (eC d) := h.imp fun σ H Q ⟨B, tb, ρ, S, w, r, h⟩ => h.ok w v (hd B tb)
theorem d_int {i : Int} {j : Nat} {pos : Pos} : DE X W (.Constant (.int i) j pos) (eC (.int i)) := d_c pe_int fun _ _ => by simp only [rep]
theorem d_str {x : Str} {j : Nat} {pos : Pos} : DE X W (.Constant (.str x) j pos) (eC (.str x)) := d_c pe_str fun _ _ => by simp only [rep]
theorem d_bl {b : Bool} {j : Nat} {pos : Pos} : DE X W (.Constant (.bool b) j pos) (eC (.bl b)) := d_c pe_bl fun _ _ => by simp only [rep]
theorem d_non {j : Nat} {pos : Pos} : DE X W (.Constant .none j pos) (eC .non) := d_c pe_non fun _ _ => by simp only [rep]

/-! ### operators -/
/-- a function on values and store fits a reading -/
def Fit2 (K : PySem.W.Frag) (r : R2) (k : D → D → Sto → R D) : Prop := ∀ (B : Hp) (tb : Tb) (W : WX) (σ : St) (H : Hp) (S : Sto) (x y : D) (v u : V) (Q : VK), Wd K H B tb S → rep K B tb x v → rep K B tb y u →
  Post K B tb W σ (k x y S) (fun d _ B' tb' H' => ∀ z, rep K B' tb' d z → Q z H') → r v u H Q
def e2 (k : D → D → Sto → R D) (f g : FE) : FE := fun ρ S => (f ρ S).bind fun x S => (g ρ S).bind fun y S => k x y S
theorem fit2_step {K : PySem.W.Frag} {r : R2} {k : D → D → Sto → R D} (ft : Fit2 K r k) {f g : FE} {σ : St} {H : Hp} {Q : VK} (h : LE K W (e2 k f g) σ H Q) : tOp r (LE K W f) (LE K W g) σ H Q := by
  obtain ⟨B, tb, ρ, S, w, e, h⟩ := h
  refine LE.step w e h fun d S1 B1 tb1 H1 v x1 w1 e1 r1 h1 => ?_
  refine LE.step w1 e1 h1 fun d2 S2 B2 tb2 H2 u x2 w2 e2 r2 h2 => ?_
  exact ft B2 tb2 W σ H2 S2 d d2 v u Q w2 (rep_ex x2 _ _ r1) r2 h2
theorem d_op {op : Operator} {a b : Expr} {pos : Pos} {r : R2} {k : D → D → Sto → R D} {f g : FE} (ho : OpR X (binaryOp op) r) (ft : Fit2 X.K r k) (ha : DE X W a f) (hb : DE X W b g) : DE X W (.BinOp a op b pos) (e2 k f g) :=
  (pe_op ho ha hb).imp fun _ _ _ h => fit2_step ft h
theorem d_cmp {op : CmpOp} {a b : Expr} {pos : Pos} {r : R2} {k : D → D → Sto → R D} {f g : FE} (ho : OpR X (compareOp op) r) (ft : Fit2 X.K r k) (ha : DE X W a f) (hb : DE X W b g) (hm : behindInMarks op b = false) : DE X W (.Compare a [op] [b] pos) (e2 k f g) :=
  (pe_cmpR ho ha hb hm).imp fun _ _ _ h => fit2_step ft h
/-- a value that is a bool, as a test -/
def tV (f : FE) : FT := fun ρ S => (f ρ S).bind fun d S => match d with
  | .bl b => .ok b S
  | _ => .no
theorem tV_step {f : FE} {σ : St} {H : Hp} {Q : Bool → Hp → Prop} {K : PySem.W.Frag} (h : LT K W (tV f) σ H Q) : LE K W f σ H fun x H' => ∃ k, x = .bl k ∧ Q k H' := by
  obtain ⟨B, tb, ρ, S, w, e, h⟩ := h
  refine LE.step w e h fun d S1 B1 tb1 H1 v x1 w1 e1 r1 h1 => ?_
  cases d with
  | bl b => simp only [rep] at r1; subst r1; exact ⟨b, rfl, h1.ok w1⟩
  | _ => exact h1.elim
theorem t_cmp {op : CmpOp} {a b : Expr} {pos : Pos} {r : R2} {k : D → D → Sto → R D} {f g : FE} (ho : OpR X (compareOp op) r) (ft : Fit2 X.K r k) (ha : DE X W a f) (hb : DE X W b g) (hm : behindInMarks op b = false) : DT X W (.Compare a [op] [b] pos) (tV (e2 k f g)) :=
  (pt_cmpR ho ha hb hm).imp fun _ _ _ h => by
    have q := tV_step h
    exact fit2_step ft q
theorem t_val {e : Expr} {f : FE} (h : DE X W e f) (he : ∀ whole, isTrue e X.env whole = (do let v ← whole; standAt e.pos; holding [v] (truthy v)) := by intro _; rfl) : DT X W e (tV f) :=
  (pt_val h he).imp fun _ _ _ h => tV_step h
end
end Qd

namespace Qd
open PySem L2

/-! ### what a value reads as -/
def lstOf (S : Sto) : D → Option (List D)
  | .lst ds => some ds
  | .obj k => match S.m[k]? with
    | some (some (.lst ds)) => some ds
    | _ => none
  | _ => none
section
variable {K : PySem.W.Frag} {H B : Hp} {tb : Tb} {S : Sto} {W : WX} {σ : St} {ρ : Rho}
theorem lstOf_ok (w : Wd K H B tb S) {d : D} {ds : List D} {v : V} (e : lstOf S d = some ds) (r : rep K B tb d v) : ∃ a vs, v = .ref a ∧ H a = some (.lst vs) ∧ reps K B tb ds vs := by
  cases d with
  | lst es =>
    cases e
    simp only [rep] at r
    obtain ⟨a, vs, rfl, h1, h2⟩ := r
    exact ⟨a, vs, rfl, w.sub _ _ h1, h2⟩
  | obj k =>
    simp only [lstOf] at e
    simp only [rep] at r
    obtain ⟨a, rfl, ha⟩ := r
    split at e
    · rename_i es hk
      cases e
      obtain ⟨a', h1, _, h2⟩ := w.at_ k _ hk
      rw [ha] at h1; cases h1
      obtain ⟨vs, h3, h4⟩ := h2
      exact ⟨a, vs, rfl, h3, h4⟩
    · cases e
  | _ => cases e
/-- a list or a tuple, to be read -/
def seqOf (S : Sto) : D → Option (List D)
  | .tup ds => some ds
  | .scr ds => some ds
  | d => lstOf S d
theorem seqOf_ok (w : Wd K H B tb S) {d : D} {ds : List D} {v : V} (e : seqOf S d = some ds) (r : rep K B tb d v) : ∃ a vs, v = .ref a ∧ (SqL K H a vs ∨ SqT K H a vs) ∧ reps K B tb ds vs := by
  cases d with
  | tup es =>
    cases e
    simp only [rep] at r
    obtain ⟨a, vs, rfl, h1, h2⟩ := r
    exact ⟨a, vs, rfl, .inr (SqT.ex w.sub h1), h2⟩
  | scr es =>
    cases e
    simp only [rep] at r
    obtain ⟨a, vs, rfl, h1, h2⟩ := r
    exact ⟨a, vs, rfl, .inl (SqL.ex w.sub h1), h2⟩
  | lst es =>
    obtain ⟨a, vs, h1, h2, h3⟩ := lstOf_ok w (d := .lst es) e r
    exact ⟨a, vs, h1, .inl (SqL.of h2), h3⟩
  | obj k =>
    obtain ⟨a, vs, h1, h2, h3⟩ := lstOf_ok w (d := .obj k) e r
    exact ⟨a, vs, h1, .inl (SqL.of h2), h3⟩
  | _ => cases e
/-- a new list, a new tuple that never changes -/
theorem new_lst (w : Wd K H B tb S) {ds : List D} {vs : List V} (r : reps K B tb ds vs) {p : Addr} (hp : H p = none) : ∃ B', Ex B tb B' tb ∧ Wd K (upd H p (.lst vs)) B' tb S ∧ rep K B' tb (.lst ds) (.ref p) := by
  obtain ⟨w', e⟩ := w.new hp (.lst vs)
  refine ⟨_, e, w', ?_⟩
  simp only [rep]
  exact ⟨p, vs, rfl, upd_same, reps_ex e _ _ r⟩
theorem new_tup (w : Wd K H B tb S) {ds : List D} {vs : List V} (r : reps K B tb ds vs) {p : Addr} (hp : H p = none) : ∃ B', Ex B tb B' tb ∧ Wd K (upd H p (.tup vs)) B' tb S ∧ rep K B' tb (.tup ds) (.ref p) := by
  obtain ⟨w', e⟩ := w.new hp (.tup vs)
  refine ⟨_, e, w', ?_⟩
  simp only [rep]
  exact ⟨p, vs, rfl, upd_same, reps_ex e _ _ r⟩
/-- a new list that changes -/
theorem new_obj (w : Wd K H B tb S) {ds : List D} {vs : List V} (r : reps K B tb ds vs) {p : Addr} (hp : H p = none) : ∃ tb', Ex B tb B tb' ∧ Wd K (upd H p (.lst vs)) B tb' (S.push (.lst ds)) ∧ rep K B tb' (.obj S.next) (.ref p) := by
  have e0 : Ex B tb B (tb.add p) := ⟨fun _ _ h => h, ⟨[p], rfl⟩, rfl⟩
  obtain ⟨w', e, n⟩ := w.push hp (o := .lst vs) (d := .lst ds) ⟨vs, upd_same, reps_ex e0 _ _ r⟩
  refine ⟨_, e, w', ?_⟩
  simp only [rep]
  exact ⟨p, rfl, n⟩
end

abbrev line : Nat := 16777216
theorem line_eq : sizeLine = line := sizeLine_eq
def chk {α : Type} (c : Bool) (r : R α) : R α := if c = true then r else .no
theorem chk_ok {K : PySem.W.Frag} {B : Hp} {tb : Tb} {W : WX} {σ : St} {α : Type} {c : Bool} {r : R α} {k : α → Sto → Hp → Tb → Hp → Prop} (h : Post K B tb W σ (chk c r) k) : c = true ∧ Post K B tb W σ r k := by
  unfold chk at h
  split at h
  · rename_i hc; exact ⟨hc, h⟩
  · exact h.elim

/-! ### arithmetic -/
def kAdd (x y : D) (S : Sto) : R D := match x, y with
  | .int i, .int j => .ok (.int (i + j)) S
  | .str a, .str b => chk (decide (a.length + b.length ≤ line)) (.ok (.str (a ++ b)) S)
  | .tup a, .tup b => chk (decide (a.length + b.length ≤ line)) (.ok (.tup (a ++ b)) S)
  | x, y => match lstOf S x, lstOf S y with
    | some a, some b => chk (decide (a.length + b.length ≤ line)) (.ok (.lst (a ++ b)) S)
    | _, _ => .no
def rAdd (K : PySem.W.Frag) : R2 := fun x y H Q => (rI0 (fun i j => .int (i + j)) x y H Q ∨ (∃ i j, x = .str i ∧ y = .str j ∧ i.length + j.length ≤ sizeLine ∧ Q (.str (i ++ j)) H)) ∨
  (rCatT K x y H Q ∨ rCat x y H Q) ∨ (∃ a b, x = .ref a ∧ y = .ref b ∧ SqT K H a [] ∧ False)
theorem fit_add_ {K : PySem.W.Frag} (r : R2) (hI : ∀ x y H Q, rI0 (fun i j => .int (i + j)) x y H Q → r x y H Q)
    (hS : ∀ x y H Q, (∃ i j, x = .str i ∧ y = .str j ∧ i.length + j.length ≤ sizeLine ∧ Q (.str (i ++ j)) H) → r x y H Q)
    (hT : ∀ x y H Q, (∃ a b xs ys, x = .ref a ∧ y = .ref b ∧ SqT K H a xs ∧ SqT K H b ys ∧ xs.length + ys.length ≤ sizeLine ∧ (xs = [] → Q (.ref b) H) ∧ (xs ≠ [] → ys = [] → Q (.ref a) H) ∧ (xs ≠ [] → ys ≠ [] → ∀ p, H p = none → Q (.ref p) (upd H p (.tup (xs ++ ys))))) → r x y H Q)
    (hL : ∀ x y H Q, rCat x y H Q → r x y H Q) : Fit2 K r kAdd := by
  intro B tb W σ H S x y v u Q w rx ry h
  have lists : ∀ {a b : List D}, lstOf S x = some a → lstOf S y = some b → Post K B tb W σ (chk (decide (a.length + b.length ≤ line)) (.ok (.lst (a ++ b)) S)) (fun d _ B' tb' H' => ∀ z, rep K B' tb' d z → Q z H') → r v u H Q := by
    intro a b ea eb h
    obtain ⟨hc, h⟩ := chk_ok h
    obtain ⟨p, vs, rfl, h1, r1⟩ := lstOf_ok w ea rx
    obtain ⟨q, us, rfl, h2, r2⟩ := lstOf_ok w eb ry
    refine hL _ _ _ _ ⟨p, q, vs, us, rfl, rfl, h1, h2, ?_, fun l hl => ?_⟩
    · rw [reps_len r1, reps_len r2, line_eq]; exact of_decide_eq_true hc
    · obtain ⟨B', e', w', r'⟩ := new_lst w (reps_append r1 r2) hl
      exact h B' tb _ e' w' _ r'
  unfold kAdd at h
  split at h
  · rename_i i j
    simp only [rep] at rx ry; subst rx ry
    exact hI _ _ _ _ ⟨i, j, rfl, rfl, h.ok w _ (by simp only [rep])⟩
  · rename_i a b
    obtain ⟨hc, h⟩ := chk_ok h
    simp only [rep] at rx ry; subst rx ry
    exact hS _ _ _ _ ⟨a, b, rfl, rfl, by rw [line_eq]; exact of_decide_eq_true hc, h.ok w _ (by simp only [rep])⟩
  · rename_i a b
    obtain ⟨hc, h⟩ := chk_ok h
    simp only [rep] at rx ry
    obtain ⟨p, vs, rfl, h1, r1⟩ := rx
    obtain ⟨q, us, rfl, h2, r2⟩ := ry
    have l1 := reps_len r1
    have l2 := reps_len r2
    refine hT _ _ _ _ ⟨p, q, vs, us, rfl, rfl, SqT.ex w.sub h1, SqT.ex w.sub h2, by rw [l1, l2, line_eq]; exact of_decide_eq_true hc, fun e => ?_, fun _ e => ?_, fun _ _ l hl => ?_⟩
    · subst e
      have : a = [] := List.length_eq_zero_iff.mp (by rw [← l1]; rfl)
      subst this
      exact h.ok w _ (by simp only [rep]; exact ⟨q, us, rfl, h2, r2⟩)
    · subst e
      have : b = [] := List.length_eq_zero_iff.mp (by rw [← l2]; rfl)
      subst this
      rw [List.append_nil] at h
      exact h.ok w _ (by simp only [rep]; exact ⟨p, vs, rfl, h1, r1⟩)
    · obtain ⟨B', e', w', r'⟩ := new_tup w (reps_append r1 r2) hl
      exact h B' tb _ e' w' _ r'
  · split at h
    · rename_i a b ea eb
      exact lists ea eb h
    · exact h.elim
end Qd

namespace Qd
open PySem L2

section
variable {X : Cx} {W : WX}
theorem opr_add : OpR X (binaryOp .Add) (fun x y H Q => ((rI0 (fun i j => .int (i + j)) x y H Q) ∨ (∃ i j, x = .str i ∧ y = .str j ∧ i.length + j.length ≤ sizeLine ∧ Q (.str (i ++ j)) H)) ∨ (rCatA X.K x y H Q ∨ rCat x y H Q)) :=
  OpR.or (OpR.or op_add op_add_str) (OpR.or op_catA op_cat)
theorem fit_add {K : PySem.W.Frag} : Fit2 K (fun x y H Q => ((rI0 (fun i j => .int (i + j)) x y H Q) ∨ (∃ i j, x = .str i ∧ y = .str j ∧ i.length + j.length ≤ sizeLine ∧ Q (.str (i ++ j)) H)) ∨ (rCatA K x y H Q ∨ rCat x y H Q)) kAdd :=
  fit_add_ _ (fun _ _ _ _ h => .inl (.inl h)) (fun _ _ _ _ h => .inl (.inr h)) (fun _ _ _ _ h => .inr (.inl h)) (fun _ _ _ _ h => .inr (.inr h))
theorem d_add {a b : Expr} {pos : Pos} {f g : FE} (ha : DE X W a f) (hb : DE X W b g) : DE X W (.BinOp a .Add b pos) (e2 kAdd f g) := d_op opr_add fit_add ha hb
end

/-- two ints under a test, to a value -/
def kI (c : Int → Int → Bool) (g : Int → Int → D) (x y : D) (S : Sto) : R D := match x, y with
  | .int i, .int j => chk (c i j) (.ok (g i j) S)
  | _, _ => .no
theorem fit_I {K : PySem.W.Frag} {r : R2} {c : Int → Int → Bool} {g : Int → Int → D} {gv : Int → Int → V} (hg : ∀ i j B tb, rep K B tb (g i j) (gv i j)) (h : ∀ i j H Q, c i j = true → Q (gv i j) H → r (.int i) (.int j) H Q) : Fit2 K r (kI c g) := by
  intro B tb W σ H S x y v u Q w rx ry q
  unfold kI at q
  split at q
  · obtain ⟨hc, q⟩ := chk_ok q
    simp only [rep] at rx ry; subst rx ry
    exact h _ _ _ _ hc (q.ok w _ (hg _ _ _ _))
  · exact q.elim
abbrev yes2 : Int → Int → Bool := fun _ _ => true
def mulOk (i j : Int) : Bool := (decide (-(2 ^ 64) < i) && decide (i < 2 ^ 64)) || (decide (-(2 ^ 64) < j) && decide (j < 2 ^ 64))
abbrev kSub := kI yes2 fun i j => .int (i - j)
abbrev kMulI := kI mulOk fun i j => .int (i * j)
abbrev kDiv := kI (fun _ j => decide (0 < j) && decide (j < 1073741824)) fun i j => .int (i / j)
abbrev kMod := kI (fun _ j => decide (0 < j)) fun i j => .int (i % j)
abbrev kPow := kI (fun i j => decide (0 ≤ j) && decide (j ≤ 1000000) && decide (i.natAbs < 2 ^ 64)) fun i j => .int (i ^ j.toNat)
/-- a list so many times -/
def kMul (x y : D) (S : Sto) : R D := match x, y with
  | .int i, .int j => kMulI (.int i) (.int j) S
  | x, .int k => (match lstOf S x with
    | some ds => chk (decide (-(2 ^ 63) ≤ k) && decide (k < 2 ^ 63) && decide (ds.length * k.toNat ≤ line)) (.ok (.lst (List.replicate k.toNat ds).flatten) S)
    | none => .no)
  | _, _ => .no
section
variable {X : Cx} {W : WX} {a b : Expr} {pos : Pos} {f g : FE}
theorem rep_int {K : PySem.W.Frag} {B : Hp} {tb : Tb} {i : Int} : rep K B tb (.int i) (.int i) := by simp only [rep]
theorem rep_bl {K : PySem.W.Frag} {B : Hp} {tb : Tb} {i : Bool} : rep K B tb (.bl i) (.bl i) := by simp only [rep]
theorem rep_str {K : PySem.W.Frag} {B : Hp} {tb : Tb} {i : Str} : rep K B tb (.str i) (.str i) := by simp only [rep]
theorem rep_non {K : PySem.W.Frag} {B : Hp} {tb : Tb} : rep K B tb .non .non := by simp only [rep]
theorem d_sub (ha : DE X W a f) (hb : DE X W b g) : DE X W (.BinOp a .Sub b pos) (e2 kSub f g) := d_op op_sub (fit_I (gv := fun i j => .int (i - j)) (fun _ _ _ _ => rep_int) fun i j H Q _ q => ⟨i, j, rfl, rfl, q⟩) ha hb
theorem d_div (ha : DE X W a f) (hb : DE X W b g) : DE X W (.BinOp a .FloorDiv b pos) (e2 kDiv f g) := d_op op_fdiv (fit_I (gv := fun i j => .int (i / j)) (fun _ _ _ _ => rep_int) fun i j H Q c q => by
  simp only [Bool.and_eq_true, decide_eq_true_eq] at c; exact ⟨i, j, rfl, rfl, ⟨c.1, c.2⟩, q⟩) ha hb
theorem d_mod (ha : DE X W a f) (hb : DE X W b g) : DE X W (.BinOp a .Mod b pos) (e2 kMod f g) := d_op op_mod (fit_I (gv := fun i j => .int (i % j)) (fun _ _ _ _ => rep_int) fun i j H Q c q => ⟨i, j, rfl, rfl, of_decide_eq_true c, q⟩) ha hb
theorem d_pow (ha : DE X W a f) (hb : DE X W b g) : DE X W (.BinOp a .Pow b pos) (e2 kPow f g) := d_op op_pow (fit_I (gv := fun i j => .int (i ^ j.toNat)) (fun _ _ _ _ => rep_int) fun i j H Q c q => by
  simp only [Bool.and_eq_true, decide_eq_true_eq] at c; exact ⟨i, j, rfl, rfl, ⟨c.1.1, c.1.2, c.2⟩, q⟩) ha hb
theorem fit_mulI {K : PySem.W.Frag} : Fit2 K (rI CMul fun i j => .int (i * j)) kMulI := fit_I (gv := fun i j => .int (i * j)) (fun _ _ _ _ => rep_int) fun i j H Q c q => by
  unfold mulOk at c
  simp only [Bool.or_eq_true, Bool.and_eq_true, decide_eq_true_eq] at c
  exact ⟨i, j, rfl, rfl, c, q⟩
theorem fit_mul {K : PySem.W.Frag} : Fit2 K (fun x y H Q => rI CMul (fun i j => .int (i * j)) x y H Q ∨ rRep x y H Q) kMul := by
  intro B tb W σ H S x y v u Q w rx ry q
  unfold kMul at q
  split at q
  · exact .inl (fit_mulI B tb W σ H S _ _ v u Q w rx ry q)
  · split at q
    · rename_i ds e
      obtain ⟨c, q⟩ := chk_ok q
      simp only [Bool.and_eq_true, decide_eq_true_eq] at c
      obtain ⟨p, vs, rfl, h1, r1⟩ := lstOf_ok w e rx
      simp only [rep] at ry; subst ry
      refine .inr ⟨p, _, vs, rfl, rfl, h1, c.1.1, c.1.2, by rw [reps_len r1, line_eq]; exact c.2, fun l hl => ?_⟩
      obtain ⟨B', e', w', r'⟩ := new_lst w (reps_rep r1 _) hl
      exact q B' tb _ e' w' _ r'
    · exact q.elim
  · exact q.elim
theorem d_mul (ha : DE X W a f) (hb : DE X W b g) : DE X W (.BinOp a .Mult b pos) (e2 kMul f g) := d_op (OpR.or op_mul op_rep) fit_mul ha hb

/-! ### comparisons -/
def intsD : List D → Option (List Int)
  | [] => some []
  | .int i :: r => (intsD r).map (i :: ·)
  | _ => none
theorem intsD_ok {K : PySem.W.Frag} {B : Hp} {tb : Tb} : ∀ {ds : List D} {vs : List V} {ns : List Int}, reps K B tb ds vs → intsD ds = some ns → vs = ns.map V.int
  | [], vs, ns, r, e => by
    simp only [reps] at r; subst r
    simp only [intsD, Option.some.injEq] at e; subst e; rfl
  | d :: ds, vs, ns, r, e => by
    simp only [reps] at r
    obtain ⟨v, t, rfl, h1, h2⟩ := r
    cases d with
    | int i =>
      simp only [intsD] at e
      cases q : intsD ds with
      | none => rw [q] at e; cases e
      | some ms =>
        rw [q] at e; cases e
        simp only [rep] at h1; subst h1
        rw [intsD_ok h2 q]; rfl
    | _ => simp only [intsD] at e; cases e
def kLt (x y : D) (S : Sto) : R D := match x, y with
  | .tup a, .tup b => (match intsD a, intsD b with
    | some ns, some ms => .ok (.bl (HT.lexLt ns ms)) S
    | _, _ => .no)
  | x, y => kI yes2 (fun i j => .bl (decide (i < j))) x y S
abbrev kLe := kI yes2 fun i j => .bl (decide (i ≤ j))
abbrev kGt := kI yes2 fun i j => .bl (decide (j < i))
abbrev kGe := kI yes2 fun i j => .bl (decide (j ≤ i))
abbrev rLtD (K : PySem.W.Frag) : R2 := fun x y H Q => rI0 (fun i j => .bl (decide (i < j))) x y H Q ∨ rLtT K x y H Q
theorem fit_lt {K : PySem.W.Frag} : Fit2 K (rLtD K) kLt := by
  intro B tb W σ H S x y v u Q w rx ry q
  unfold kLt at q
  split at q
  · split at q
    · rename_i ns ms e1 e2
      simp only [rep] at rx ry
      obtain ⟨p, vs, rfl, h1, r1⟩ := rx
      obtain ⟨p', us, rfl, h2, r2⟩ := ry
      have z1 := intsD_ok r1 e1
      have z2 := intsD_ok r2 e2
      subst z1 z2
      exact .inr ⟨p, p', ns, ms, rfl, rfl, SqT.ex w.sub h1, SqT.ex w.sub h2, q.ok w _ rep_bl⟩
    · exact q.elim
  · exact .inl (fit_I (gv := fun i j => .bl (decide (i < j))) (fun _ _ _ _ => rep_bl) (fun i j H Q _ q => ⟨i, j, rfl, rfl, q⟩) B tb W σ H S _ _ v u Q w rx ry q)
theorem opr_lt (hu : X.A.units < cLine) : OpR X (compareOp .Lt) (rLtD X.K) := OpR.or op_lt (op_ltT hu)
theorem fit_le {K : PySem.W.Frag} : Fit2 K (rI0 fun i j => .bl (decide (i ≤ j))) kLe := fit_I (gv := fun i j => .bl (decide (i ≤ j))) (fun _ _ _ _ => rep_bl) fun i j H Q _ q => ⟨i, j, rfl, rfl, q⟩
theorem fit_gt {K : PySem.W.Frag} : Fit2 K (rI0 fun i j => .bl (decide (j < i))) kGt := fit_I (gv := fun i j => .bl (decide (j < i))) (fun _ _ _ _ => rep_bl) fun i j H Q _ q => ⟨i, j, rfl, rfl, q⟩
theorem fit_ge {K : PySem.W.Frag} : Fit2 K (rI0 fun i j => .bl (decide (j ≤ i))) kGe := fit_I (gv := fun i j => .bl (decide (j ≤ i))) (fun _ _ _ _ => rep_bl) fun i j H Q _ q => ⟨i, j, rfl, rfl, q⟩
theorem d_lt (hr : X.A.units + 64 < cLine) (ha : DE X W a f) (hb : DE X W b g) : DE X W (.Compare a [.Lt] [b] pos) (e2 kLt f g) := d_cmp (opr_lt (by omega)) fit_lt ha hb (nomark _)
theorem d_le (hr : X.A.units + 64 < cLine) (ha : DE X W a f) (hb : DE X W b g) : DE X W (.Compare a [.LtE] [b] pos) (e2 kLe f g) := d_cmp op_le fit_le ha hb (nomark _)
theorem d_gt (hr : X.A.units + 64 < cLine) (ha : DE X W a f) (hb : DE X W b g) : DE X W (.Compare a [.Gt] [b] pos) (e2 kGt f g) := d_cmp op_gt fit_gt ha hb (nomark _)
theorem d_ge (hr : X.A.units + 64 < cLine) (ha : DE X W a f) (hb : DE X W b g) : DE X W (.Compare a [.GtE] [b] pos) (e2 kGe f g) := d_cmp op_ge fit_ge ha hb (nomark _)
theorem t_lt (hr : X.A.units + 64 < cLine) (ha : DE X W a f) (hb : DE X W b g) : DT X W (.Compare a [.Lt] [b] pos) (tV (e2 kLt f g)) := t_cmp (opr_lt (by omega)) fit_lt ha hb (nomark _)
theorem t_le (hr : X.A.units + 64 < cLine) (ha : DE X W a f) (hb : DE X W b g) : DT X W (.Compare a [.LtE] [b] pos) (tV (e2 kLe f g)) := t_cmp op_le fit_le ha hb (nomark _)
theorem t_gt (hr : X.A.units + 64 < cLine) (ha : DE X W a f) (hb : DE X W b g) : DT X W (.Compare a [.Gt] [b] pos) (tV (e2 kGt f g)) := t_cmp op_gt fit_gt ha hb (nomark _)
theorem t_ge (hr : X.A.units + 64 < cLine) (ha : DE X W a f) (hb : DE X W b g) : DT X W (.Compare a [.GtE] [b] pos) (tV (e2 kGe f g)) := t_cmp op_ge fit_ge ha hb (nomark _)

/-! ### equality of data -/
mutual
def py : D → Option PyData
  | .non => some .none
  | .bl b => some (.bool b)
  | .int i => some (.int i)
  | .str x => some (.str x)
  | .tup ds => (pys ds).map .tuple
  | .lst ds => (pys ds).map .list
  | .scr ds => (pys ds).map .list
  | _ => none
def pys : List D → Option (List PyData)
  | [] => some []
  | d :: ds => match py d, pys ds with
    | some a, some r => some (a :: r)
    | _, _ => none
end
mutual
theorem py_ok {K : PySem.W.Frag} {H B : Hp} {tb : Tb} (s : ∀ a o, B a = some o → H a = some o) : ∀ (d : D) (v : V) (e : PyData), rep K B tb d v → py d = some e → Dp K H v e
  | .non, v, e, r, q => by simp only [rep] at r; simp only [py, Option.some.injEq] at q; subst r q; exact .non
  | .bl b, v, e, r, q => by simp only [rep] at r; simp only [py, Option.some.injEq] at q; subst r q; exact .bl b
  | .int i, v, e, r, q => by simp only [rep] at r; simp only [py, Option.some.injEq] at q; subst r q; exact .int i
  | .str x, v, e, r, q => by simp only [rep] at r; simp only [py, Option.some.injEq] at q; subst r q; exact .str x
  | .tup ds, v, e, r, q => by
    simp only [rep] at r
    obtain ⟨a, vs, rfl, h1, h2⟩ := r
    simp only [py] at q
    cases z : pys ds with
    | none => rw [z] at q; cases q
    | some es => rw [z] at q; cases q; exact .tup (SqT.ex s h1) (pys_ok s ds vs es h2 z)
  | .lst ds, v, e, r, q => by
    simp only [rep] at r
    obtain ⟨a, vs, rfl, h1, h2⟩ := r
    simp only [py] at q
    cases z : pys ds with
    | none => rw [z] at q; cases q
    | some es => rw [z] at q; cases q; exact .lst (SqL.of (s _ _ h1)) (pys_ok s ds vs es h2 z)
  | .scr ds, v, e, r, q => by
    simp only [rep] at r
    obtain ⟨a, vs, rfl, h1, h2⟩ := r
    simp only [py] at q
    cases z : pys ds with
    | none => rw [z] at q; cases q
    | some es => rw [z] at q; cases q; exact .lst (SqL.ex s h1) (pys_ok s ds vs es h2 z)
  | .dk ks ds, v, e, r, q => by simp only [py] at q; cases q
  | .dt ks ds, v, e, r, q => by simp only [py] at q; cases q
  | .ins C ns ds, v, e, r, q => by simp only [py] at q; cases q
  | .obj k, v, e, r, q => by simp only [py] at q; cases q
  | .glo x, v, e, r, q => by simp only [py] at q; cases q
  | .ty n, v, e, r, q => by simp only [py] at q; cases q
theorem pys_ok {K : PySem.W.Frag} {H B : Hp} {tb : Tb} (s : ∀ a o, B a = some o → H a = some o) : ∀ (ds : List D) (vs : List V) (es : List PyData), reps K B tb ds vs → pys ds = some es → DpAll K H vs es
  | [], vs, es, r, q => by simp only [reps] at r; simp only [pys, Option.some.injEq] at q; subst r q; exact .nil
  | d :: ds, vs, es, r, q => by
    simp only [reps] at r
    obtain ⟨v, t, rfl, h1, h2⟩ := r
    simp only [pys] at q
    split at q
    · rename_i a r' e1 e2
      cases q
      exact .cons (py_ok s d v a h1 e1) (pys_ok s ds t r' h2 e2)
    · cases q
end
def pyOf (S : Sto) : D → Option PyData
  | .obj k => match S.m[k]? with
    | some (some (.lst ds)) => (pys ds).map .list
    | _ => none
  | d => py d
theorem pyOf_ok {K : PySem.W.Frag} {H B : Hp} {tb : Tb} {S : Sto} (w : Wd K H B tb S) {d : D} {v : V} {e : PyData} (r : rep K B tb d v) (q : pyOf S d = some e) : Dp K H v e := by
  unfold pyOf at q
  split at q
  · rename_i k
    simp only [rep] at r
    obtain ⟨a, rfl, ha⟩ := r
    split at q
    · rename_i ds hk
      obtain ⟨a', h1, _, h2⟩ := w.at_ k _ hk
      rw [ha] at h1; cases h1
      obtain ⟨vs, h3, h4⟩ := h2
      cases z : pys ds with
      | none => rw [z] at q; cases q
      | some es => rw [z] at q; cases q; exact .lst (SqL.of h3) (pys_ok w.sub ds vs es h4 z)
    · cases q
  · exact py_ok w.sub _ _ _ r q
def kEqB (n : Bool) (x y : D) (S : Sto) : R D := match x, y with
  | .str a, .str b => .ok (.bl (if n then !decide (a = b) else decide (a = b))) S
  | x, y => match pyOf S x, pyOf S y with
    | some a, some b => chk (SeqAt.shaped a && SeqAt.shaped b) (.ok (.bl (if n then !PyData.eqv a b else PyData.eqv a b)) S)
    | _, _ => .no
abbrev kEq := kEqB false
abbrev kNe := kEqB true
theorem dec_strV {a b : Str} : decide (V.str a = V.str b) = decide (a = b) := by
  by_cases h : a = b
  · subst h; simp
  · rw [decide_eq_false h, decide_eq_false (fun z => h (V.str.inj z))]
theorem fit_eq {K : PySem.W.Frag} : Fit2 K (fun x y H Q => rEq x y H Q ∨ rEqD K x y H Q) kEq := by
  intro B tb W σ H S x y v u Q w rx ry q
  unfold kEq kEqB at q
  split at q
  · simp only [rep] at rx ry; subst rx ry
    refine .inl ⟨rfl, ?_⟩
    rw [dec_strV]
    exact q.ok w _ rep_bl
  · split at q
    · rename_i a b ea eb
      obtain ⟨c, q⟩ := chk_ok q
      simp only [Bool.and_eq_true] at c
      exact .inr ⟨a, b, pyOf_ok w rx ea, pyOf_ok w ry eb, c.1, c.2, q.ok w _ rep_bl⟩
    · exact q.elim
theorem fit_ne {K : PySem.W.Frag} : Fit2 K (fun x y H Q => rNe x y H Q ∨ rNeD K x y H Q) kNe := by
  intro B tb W σ H S x y v u Q w rx ry q
  unfold kNe kEqB at q
  split at q
  · simp only [rep] at rx ry; subst rx ry
    refine .inl ⟨rfl, ?_⟩
    rw [dec_strV]
    exact q.ok w _ rep_bl
  · split at q
    · rename_i a b ea eb
      obtain ⟨c, q⟩ := chk_ok q
      simp only [Bool.and_eq_true] at c
      exact .inr ⟨a, b, pyOf_ok w rx ea, pyOf_ok w ry eb, c.1, c.2, q.ok w _ rep_bl⟩
    · exact q.elim
theorem d_eq (hr : X.A.units + 64 < cLine) (ha : DE X W a f) (hb : DE X W b g) : DE X W (.Compare a [.Eq] [b] pos) (e2 kEq f g) := d_cmp (OpR.or op_eq (op_eqD hr)) fit_eq ha hb (nomark _)
theorem d_ne (hr : X.A.units + 64 < cLine) (ha : DE X W a f) (hb : DE X W b g) : DE X W (.Compare a [.NotEq] [b] pos) (e2 kNe f g) := d_cmp (OpR.or op_ne (op_neD hr)) fit_ne ha hb (nomark _)
theorem t_eq (hr : X.A.units + 64 < cLine) (ha : DE X W a f) (hb : DE X W b g) : DT X W (.Compare a [.Eq] [b] pos) (tV (e2 kEq f g)) := t_cmp (OpR.or op_eq (op_eqD hr)) fit_eq ha hb (nomark _)
theorem t_ne (hr : X.A.units + 64 < cLine) (ha : DE X W a f) (hb : DE X W b g) : DT X W (.Compare a [.NotEq] [b] pos) (tV (e2 kNe f g)) := t_cmp (OpR.or op_ne (op_neD hr)) fit_ne ha hb (nomark _)

/-! ### chains -/
/-- a < b < c -/
def e3 (k k' : D → D → Sto → R D) (f g h : FE) : FE := fun ρ S => (f ρ S).bind fun x S => (g ρ S).bind fun y S => (k x y S).bind fun z S => match z with
  | .bl true => (h ρ S).bind fun u S => k' y u S
  | .bl false => .ok (.bl false) S
  | _ => .no
/-- a fit whose value is told -/
theorem chain_step {K : PySem.W.Frag} {r r' : R2} {k k' : D → D → Sto → R D} (ft : Fit2 K r k) (ft' : Fit2 K r' k') (pure : ∀ x y S d S', k x y S = .ok d S' → S' = S ∧ ∃ b, d = .bl b) (ner : ∀ x y S C ns vs S', k x y S ≠ .er C ns vs S') {f g h : FE} {σ : St} {H : Hp} {Q : VK} (q : LE K W (e3 k k' f g h) σ H Q) : tChain r r' (LE K W f) (LE K W g) (LE K W h) σ H Q := by
  obtain ⟨B, tb, ρ, S, w, e, q⟩ := q
  refine LE.step w e q fun d S1 B1 tb1 H1 v x1 w1 e1 r1 h1 => ?_
  refine LE.step w1 e1 h1 fun d2 S2 B2 tb2 H2 u x2 w2 e2 r2 h2 => ?_
  have r1' := rep_ex x2 _ _ r1
  refine ft B2 tb2 W σ H2 S2 d d2 v u _ w2 r1' r2 ?_
  cases z : k d d2 S2 with
  | er C ns vs S' => exact (ner _ _ _ _ _ _ _ z).elim
  | no => rw [z] at h2; exact h2
  | ok d3 S3 =>
    rw [z] at h2
    obtain ⟨rfl, b, rfl⟩ := pure _ _ _ _ _ z
    intro B3 tb3 H3 x3 w3 zv rz
    simp only [rep] at rz; subst rz
    refine ⟨b, rfl, ?_⟩
    cases b with
    | false =>
      rw [if_neg (by decide)]
      have h3 : Post K B2 tb2 W σ (.ok (.bl false) S3) fun d _ B' tb' H' => ∀ v, rep K B' tb' d v → Q v H' := h2
      exact (h3.mono x3).ok w3 _ rep_bl
    | true =>
      rw [if_pos rfl]
      have h3 : Post K B2 tb2 W σ ((h ρ S3).bind fun u S => k' d2 u S) fun d _ B' tb' H' => ∀ v, rep K B' tb' d v → Q v H' := h2
      refine LE.step w3 (e2.ex x3) (h3.mono x3) fun d4 S4 B4 tb4 H4 v4 x4 w4 e4 r4 h4 => ?_
      exact ft' B4 tb4 W σ H4 S4 d2 d4 u v4 Q w4 (rep_ex (x3.trans x4) _ _ r2) r4 h4
theorem pure_I {c : Int → Int → Bool} {gb : Int → Int → Bool} : ∀ x y S d S', kI c (fun i j => .bl (gb i j)) x y S = .ok d S' → S' = S ∧ ∃ b, d = .bl b := by
  intro x y S d S' h
  unfold kI at h
  split at h
  · unfold chk at h
    split at h
    · cases h; exact ⟨rfl, _, rfl⟩
    · cases h
  · cases h
theorem ner_I {c : Int → Int → Bool} {g : Int → Int → D} : ∀ x y S C ns vs S', kI c g x y S ≠ .er C ns vs S' := by
  intro x y S C ns vs S' h
  unfold kI at h
  split at h
  · unfold chk at h
    split at h <;> cases h
  · cases h
theorem d_leLe {c : Expr} {h : FE} (hr : X.A.units + 64 < cLine) (ha : DE X W a f) (hb : DE X W b g) (hc : DE X W c h) (hm : lastMarks [CmpOp.LtE, CmpOp.LtE] [b, c] = false := by with_unfolding_all rfl) : DE X W (.Compare a [.LtE, .LtE] [b, c] pos) (e3 kLe kLe f g h) :=
  (pe_chain op_le op_le ha hb hc hm).imp fun _ _ _ q => chain_step fit_le fit_le pure_I ner_I q
theorem d_leLt {c : Expr} {h : FE} (hr : X.A.units + 64 < cLine) (ha : DE X W a f) (hb : DE X W b g) (hc : DE X W c h) (hm : lastMarks [CmpOp.LtE, CmpOp.Lt] [b, c] = false := by with_unfolding_all rfl) : DE X W (.Compare a [.LtE, .Lt] [b, c] pos) (e3 kLe kLt f g h) :=
  (pe_chain op_le (opr_lt (by omega)) ha hb hc hm).imp fun _ _ _ q => chain_step fit_le fit_lt pure_I ner_I q
theorem t_leLe {c : Expr} {h : FE} (hr : X.A.units + 64 < cLine) (ha : DE X W a f) (hb : DE X W b g) (hc : DE X W c h) (hm : lastMarks [CmpOp.LtE, CmpOp.LtE] [b, c] = false := by with_unfolding_all rfl) : DT X W (.Compare a [.LtE, .LtE] [b, c] pos) (tV (e3 kLe kLe f g h)) :=
  (pt_chain op_le op_le ha hb hc hm).imp fun _ _ _ q => chain_step fit_le fit_le pure_I ner_I (tV_step q)
theorem t_leLt {c : Expr} {h : FE} (hr : X.A.units + 64 < cLine) (ha : DE X W a f) (hb : DE X W b g) (hc : DE X W c h) (hm : lastMarks [CmpOp.LtE, CmpOp.Lt] [b, c] = false := by with_unfolding_all rfl) : DT X W (.Compare a [.LtE, .Lt] [b, c] pos) (tV (e3 kLe kLt f g h)) :=
  (pt_chain op_le (opr_lt (by omega)) ha hb hc hm).imp fun _ _ _ q => chain_step fit_le fit_lt pure_I ner_I (tV_step q)
end
end Qd

namespace Qd
open PySem L2

section
variable {X : Cx} {W : WX} {a b : Expr} {pos : Pos} {f g : FE}
/-! ### subscripts -/
def kIx (x y : D) (S : Sto) : R D := match x, y with
  | .str z, .int i => chk (decide (z.length ≤ line)) (match atI z.cps.toList i with
    | some c => .ok (.str ⟨#[c]⟩) S
    | none => .no)
  | x, .int i => (match seqOf S x with
    | some ds => (match atI ds i with
      | some d => .ok d S
      | none => .no)
    | none => .no)
  | _, _ => .no
theorem reps_atI {K : PySem.W.Frag} {B : Hp} {tb : Tb} {ds : List D} {vs : List V} {i : Int} {d : D} (r : reps K B tb ds vs) (e : atI ds i = some d) : ∃ v, atI vs i = some v ∧ rep K B tb d v := by
  unfold atI at e ⊢
  rw [reps_len r]
  cases q : ixN ds.length i with
  | none => rw [q] at e; cases e
  | some j => rw [q] at e; exact reps_get r e
theorem fit_ix {K : PySem.W.Frag} : Fit2 K (rIx K) kIx := by
  intro B tb W σ H S x y v u Q w rx ry q
  unfold kIx at q
  split at q
  · obtain ⟨c, q⟩ := chk_ok q
    simp only [rep] at rx ry; subst rx ry
    split at q
    · rename_i ch e
      exact .inr (.inr ⟨_, _, ch, rfl, rfl, by rw [line_eq]; exact of_decide_eq_true c, e, q.ok w _ rep_str⟩)
    · exact q.elim
  · split at q
    · rename_i ds e
      split at q
      · rename_i d ed
        obtain ⟨p, vs, rfl, h1, r1⟩ := seqOf_ok w e rx
        obtain ⟨z, e2, r2⟩ := reps_atI r1 ed
        simp only [rep] at ry; subst ry
        rcases h1 with h1 | h1
        · exact .inl ⟨p, vs, _, z, rfl, rfl, h1, e2, q.ok w _ r2⟩
        · exact .inr (.inl ⟨p, vs, _, z, rfl, rfl, h1, e2, q.ok w _ r2⟩)
      · exact q.elim
    · exact q.elim
  · exact q.elim
theorem d_ix (ha : DE X W a f) (hb : DE X W b g) (hs : PlainIx b) : DE X W (.Subscript a b pos) (e2 kIx f g) := (pe_ix ix_seq ha hb hs).imp fun _ _ _ h => fit2_step fit_ix h
abbrev FO := Rho → Sto → R (Option Int)
def LO (K : PySem.W.Frag) (W : WX) (f : FO) : TO := fun σ H Q => ∃ B tb ρ S, Wd K H B tb S ∧ repE K B tb ρ σ ∧ Post K B tb W σ (f ρ S) fun o _ B' tb' H' => Q o H'
def oNone : FO := fun _ S => .ok none S
def oSome (f : FE) : FO := fun ρ S => (f ρ S).bind fun d S => match d with
  | .int i => .ok (some i) S
  | _ => .no
theorem _root_.L2.PO.imp {e : Option Expr} {t t' : TO} (h : PO X e t) (i : ∀ σ H Q, t' σ H Q → t σ H Q) : PO X e t' := ⟨fun pins s σ H Q I q => h.run pins s σ H Q I (i σ H Q q)⟩
theorem do_none : PO X none (LO X.K W oNone) := po_none.imp fun σ H Q ⟨B, tb, ρ, S, w, e, q⟩ => q.ok w
theorem do_some (ha : DE X W a f) : PO X (some a) (LO X.K W (oSome f)) := (po_some ha).imp fun σ H Q ⟨B, tb, ρ, S, w, e, q⟩ =>
  LE.step w e q fun d S1 B1 tb1 H1 v x1 w1 e1 r1 h1 => by
    cases d with
    | int i => simp only [rep] at r1; subst r1; exact ⟨i, rfl, h1.ok w1⟩
    | _ => exact h1.elim
theorem LO.step {K : PySem.W.Frag} {H B : Hp} {tb : Tb} {σ : L2.St} {ρ : Rho} {S : Sto} {β : Type} {f : FO} {g : Option Int → Sto → R β} {k : β → Sto → Hp → Tb → Hp → Prop} (w : Wd K H B tb S) (e : repE K B tb ρ σ) (h : Post K B tb W σ ((f ρ S).bind g) k) {Q : Option Int → Hp → Prop}
    (hq : ∀ d S1 B1 tb1 H1, Ex B tb B1 tb1 → Wd K H1 B1 tb1 S1 → repE K B1 tb1 ρ σ → Post K B1 tb1 W σ (g d S1) k → Q d H1) : LO K W f σ H Q := by
  refine ⟨B, tb, ρ, S, w, e, ?_⟩
  cases q : f ρ S with
  | ok d S1 => rw [q] at h; exact fun B1 tb1 H1 e1 w1 => hq d S1 B1 tb1 H1 e1 w1 (e.ex e1) (h.mono e1)
  | er C ns vs S1 => rw [q] at h; exact h
  | no => rw [q] at h; exact h
def cutD (xs : List D) (lo hi : Option Int) : List D := (xs.drop (HT.sIx xs.length 0 lo)).take (HT.sIx xs.length xs.length hi - HT.sIx xs.length 0 lo)
def kSl (x : D) (lo hi : Option Int) (S : Sto) : R D := match x with
  | .tup ds => .ok (.tup (cutD ds lo hi)) S
  | .scr ds => .ok (.lst (cutD ds lo hi)) S
  | x => match lstOf S x with
    | some ds => .ok (.lst (cutD ds lo hi)) S
    | none => .no
def eSl (f : FE) (lo hi : FO) : FE := fun ρ S => (f ρ S).bind fun x S => (lo ρ S).bind fun l S => (hi ρ S).bind fun h S => kSl x l h S
theorem reps_cut {K : PySem.W.Frag} {B : Hp} {tb : Tb} {ds : List D} {vs : List V} (r : reps K B tb ds vs) (lo hi : Option Int) : reps K B tb (cutD ds lo hi) (cutV vs lo hi) := by
  unfold cutD cutV
  rw [reps_len r]
  exact reps_take _ (reps_drop _ r)
theorem d_sl {lo hi : Option Expr} {p2 : Pos} {fl fh : FO} (ha : DE X W a f) (hl : PO X lo (LO X.K W fl)) (hh : PO X hi (LO X.K W fh)) : DE X W (.Subscript a (.Slice lo hi none p2) pos) (eSl f fl fh) :=
  (pe_slice (SlR.or sl_list sl_tupA) ha hl hh).imp fun σ H Q ⟨B, tb, ρ, S, w, e, q⟩ => by
    refine LE.step w e q fun d S1 B1 tb1 H1 v x1 w1 e1 r1 h1 => ?_
    refine LO.step w1 e1 h1 fun l S2 B2 tb2 H2 x2 w2 e2 h2 => ?_
    refine LO.step w2 e2 h2 fun h S3 B3 tb3 H3 x3 w3 e3 h3 => ?_
    have r3 := rep_ex (x2.trans x3) _ _ r1
    have lists : ∀ {ds : List D} {p : Addr} {vs : List V}, SqL X.K H3 p vs → reps X.K B3 tb3 ds vs → v = .ref p → Post X.K B3 tb3 W σ (.ok (.lst (cutD ds l h)) S3) (fun d _ B' tb' H' => ∀ z, rep X.K B' tb' d z → Q z H') → rSlL X.K v l h H3 Q := by
      intro ds p vs q1 q2 q3 q4
      refine ⟨p, vs, q3, q1, fun pn hp => ?_⟩
      obtain ⟨B', e', w', r'⟩ := new_lst w3 (reps_cut q2 l h) hp
      exact q4 B' tb3 _ e' w' _ r'
    unfold kSl at h3
    split at h3
    · rename_i ds
      simp only [rep] at r3
      obtain ⟨p, vs, rfl, q1, q2⟩ := r3
      refine .inr ⟨p, vs, rfl, SqT.ex w3.sub q1, fun hc => ?_, fun _ pn hp => ?_⟩
      · refine h3.ok w3 _ ?_
        have l2 := reps_len q2
        have eq : cutD ds l h = ds := by
          unfold cutD
          rw [← l2, hc.1, hc.2, List.drop_zero, Nat.sub_zero, l2, List.take_length]
        rw [eq]
        simp only [rep]
        exact ⟨p, vs, rfl, q1, q2⟩
      · obtain ⟨B', e', w', r'⟩ := new_tup w3 (reps_cut q2 l h) hp
        exact h3 B' tb3 _ e' w' _ r'
    · rename_i ds
      simp only [rep] at r3
      obtain ⟨p, vs, rfl, q1, q2⟩ := r3
      exact .inl (lists (SqL.ex w3.sub q1) q2 rfl h3)
    · split at h3
      · rename_i ds e'
        obtain ⟨p, vs, rfl, q1, q2⟩ := lstOf_ok w3 e' r3
        exact .inl (lists (SqL.of q1) q2 rfl h3)
      · exact h3.elim

/-! ### arguments, displays -/
def aNil : FA := fun _ S => .ok [] S
def aCons (f : FE) (fa : FA) : FA := fun ρ S => (f ρ S).bind fun x S => (fa ρ S).bind fun xs S => .ok (x :: xs) S
theorem da_nil : DA X W [] aNil := pa_nil.imp fun σ H Q ⟨B, tb, ρ, S, w, e, q⟩ => q.ok w _ reps_nil
theorem da_cons {es : List Expr} {fa : FA} (ha : DE X W a f) (hr : DA X W es fa) (hs : starEach (a :: es) X.env = (false, eval a X.env) :: starEach es X.env := by rfl) : DA X W (a :: es) (aCons f fa) :=
  (pa_cons ha hr hs).imp fun σ H Q ⟨B, tb, ρ, S, w, e, q⟩ =>
    LE.step w e q fun d S1 B1 tb1 H1 v x1 w1 e1 r1 h1 => LA.step w1 e1 h1 fun ds S2 B2 tb2 H2 vs x2 w2 e2 r2 h2 => h2.ok w2 _ (reps_cons (rep_ex x2 _ _ r1) r2)
def eTup (fa : FA) : FE := fun ρ S => (fa ρ S).bind fun ds S => chk (decide (ds.length ≤ line)) (.ok (.tup ds) S)
def eLst (fa : FA) : FE := fun ρ S => (fa ρ S).bind fun ds S => chk (decide (ds.length ≤ line)) (.ok (.lst ds) S)
/-- a list that will change -/
def eLstM (fa : FA) : FE := fun ρ S => (fa ρ S).bind fun ds S => chk (decide (ds.length ≤ line)) (.ok (.obj S.next) (S.push (.lst ds)))
theorem d_tup {es : List Expr} {fa : FA} {k : Nat} (ha : DA X W es fa) : DE X W (.Tuple es k pos) (eTup fa) := (pe_tup ha).imp fun σ H Q ⟨B, tb, ρ, S, w, e, q⟩ =>
  LA.step w e q fun ds S1 B1 tb1 H1 vs x1 w1 e1 r1 h1 => by
    obtain ⟨c, h1⟩ := chk_ok h1
    refine ⟨by rw [reps_len r1, line_eq]; exact of_decide_eq_true c, fun p hp => ?_⟩
    obtain ⟨B', e', w', r'⟩ := new_tup w1 r1 hp
    exact h1 B' tb1 _ e' w' _ r'
theorem d_lst {es : List Expr} {fa : FA} (ha : DA X W es fa) : DE X W (.List es pos) (eLst fa) := (pe_lst ha).imp fun σ H Q ⟨B, tb, ρ, S, w, e, q⟩ =>
  LA.step w e q fun ds S1 B1 tb1 H1 vs x1 w1 e1 r1 h1 => by
    obtain ⟨c, h1⟩ := chk_ok h1
    refine ⟨by rw [reps_len r1, line_eq]; exact of_decide_eq_true c, fun p hp => ?_⟩
    obtain ⟨B', e', w', r'⟩ := new_lst w1 r1 hp
    exact h1 B' tb1 _ e' w' _ r'
theorem d_lstM {es : List Expr} {fa : FA} (ha : DA X W es fa) : DE X W (.List es pos) (eLstM fa) := (pe_lst ha).imp fun σ H Q ⟨B, tb, ρ, S, w, e, q⟩ =>
  LA.step w e q fun ds S1 B1 tb1 H1 vs x1 w1 e1 r1 h1 => by
    obtain ⟨c, h1⟩ := chk_ok h1
    refine ⟨by rw [reps_len r1, line_eq]; exact of_decide_eq_true c, fun p hp => ?_⟩
    obtain ⟨tb', e', w', r'⟩ := new_obj w1 r1 hp
    exact h1 B1 tb' _ e' w' _ r'
/-- from here on it changes no more -/
def fz (f : FE) : FE := fun ρ S => (f ρ S).bind fun d S => match d with
  | .obj k => (match S.m[k]? with
    | some (some o) => .ok o (S.drop k)
    | _ => .no)
  | d => .ok d S
theorem d_fz (ha : DE X W a f) : DE X W a (fz f) := ha.imp fun σ H Q ⟨B, tb, ρ, S, w, e, q⟩ =>
  LE.step w e q fun d S1 B1 tb1 H1 v x1 w1 e1 r1 h1 => by
    split at h1
    · rename_i k
      split at h1
      · rename_i o ho
        simp only [rep] at r1
        obtain ⟨p, rfl, hp⟩ := r1
        obtain ⟨p', q1, q2, q3⟩ := w1.at_ k _ ho
        rw [hp] at q1; cases q1
        cases o with
        | lst ds =>
          obtain ⟨vs, z1, z2⟩ := q3
          obtain ⟨w2, x2⟩ := w1.drop ho hp z1
          exact h1 _ _ _ x2 w2 _ (by simp only [rep]; exact ⟨p, vs, rfl, upd_same, reps_ex x2 _ _ z2⟩)
        | dk ks ds =>
          obtain ⟨vs, z1, z3, z2⟩ := q3
          obtain ⟨w2, x2⟩ := w1.drop ho hp z1
          exact h1 _ _ _ x2 w2 _ (by simp only [rep]; exact ⟨p, vs, rfl, upd_same, z3, reps_ex x2 _ _ z2⟩)
        | dt ks ds =>
          obtain ⟨vs, z1, z3, z2⟩ := q3
          obtain ⟨w2, x2⟩ := w1.drop ho hp z1
          exact h1 _ _ _ x2 w2 _ (by simp only [rep]; exact ⟨p, vs, rfl, upd_same, z3, reps_ex x2 _ _ z2⟩)
        | ins C ns ds =>
          obtain ⟨dx, vs, z1, z3, z2⟩ := q3
          obtain ⟨w2, x2⟩ := w1.drop ho hp z1
          exact h1 _ _ _ x2 w2 _ (by simp only [rep]; exact ⟨p, dx, vs, rfl, upd_same, z3, reps_ex x2 _ _ z2⟩)
        | _ => exact q3.elim
      · exact h1.elim
    · exact h1.ok w1 _ r1

/-! ### and, or, not, if -/
def tAnd2 (t u : FT) : FT := fun ρ S => (t ρ S).bind fun b S => if b = true then u ρ S else .ok false S
def tOr2 (t u : FT) : FT := fun ρ S => (t ρ S).bind fun b S => if b = true then .ok true S else u ρ S
def tNot1 (t : FT) : FT := fun ρ S => (t ρ S).bind fun b S => .ok (!b) S
abbrev DW (X : Cx) (W : WX) (e : Expr) (f : FT) : Prop := PW X e (LT X.K W f)
theorem _root_.L2.PW.imp {e : Expr} {t t' : TT} (h : PW X e t) (i : ∀ σ H Q, t' σ H Q → t σ H Q) : PW X e t' := ⟨fun wh pins s σ H Q I q => h.run wh pins s σ H Q I (i σ H Q q)⟩
variable {t u : FT} {rest : List Expr}
theorem LT.last {K : PySem.W.Frag} {H B : Hp} {tb : Tb} {σ : L2.St} {ρ : Rho} {S : Sto} {f : FT} {Q : Bool → Hp → Prop} (w : Wd K H B tb S) (e : repE K B tb ρ σ) (h : Post K B tb W σ (f ρ S) fun d _ B' tb' H' => Q d H') : LT K W f σ H Q := ⟨B, tb, ρ, S, w, e, h⟩
theorem dw_and1 (ha : DT X W a t) : DW X W (.BoolOp .And [a] pos) t := pw_and1 ha
theorem dw_or1 (ha : DT X W a t) : DW X W (.BoolOp .Or [a] pos) t := pw_or1 ha
theorem dw_and (ha : DT X W a t) (hb : DW X W (.BoolOp .And (b :: rest) pos) u) : DW X W (.BoolOp .And (a :: b :: rest) pos) (tAnd2 t u) := (pw_and ha hb).imp fun σ H Q ⟨B, tb, ρ, S, w, e, q⟩ =>
  LT.step w e q fun c S1 B1 tb1 H1 x1 w1 e1 h1 => by
    cases c with
    | true => rw [if_pos rfl] at h1 ⊢; exact LT.last w1 e1 h1
    | false => rw [if_neg (by decide)] at h1 ⊢; exact h1.ok w1
theorem dw_or (ha : DT X W a t) (hb : DW X W (.BoolOp .Or (b :: rest) pos) u) : DW X W (.BoolOp .Or (a :: b :: rest) pos) (tOr2 t u) := (pw_or ha hb).imp fun σ H Q ⟨B, tb, ρ, S, w, e, q⟩ =>
  LT.step w e q fun c S1 B1 tb1 H1 x1 w1 e1 h1 => by
    cases c with
    | true => rw [if_pos rfl] at h1 ⊢; exact h1.ok w1
    | false => rw [if_neg (by decide)] at h1 ⊢; exact LT.last w1 e1 h1
theorem t_w {e : Expr} (h : DW X W e t) : DT X W e t := PW.pt h
theorem t_not (ha : DT X W a t) : DT X W (.UnaryOp .Not a pos) (tNot1 t) := (pt_not ha).imp fun σ H Q ⟨B, tb, ρ, S, w, e, q⟩ => LT.step w e q fun c S1 B1 tb1 H1 x1 w1 e1 h1 => h1.ok w1
/-- .. as values: bools -/
def bAnd (f g : FE) : FE := fun ρ S => (f ρ S).bind fun d S => match d with
  | .bl b => if b = true then g ρ S else .ok (.bl false) S
  | _ => .no
def bOr (f g : FE) : FE := fun ρ S => (f ρ S).bind fun d S => match d with
  | .bl b => if b = true then .ok (.bl true) S else g ρ S
  | _ => .no
def bNot (f : FE) : FE := fun ρ S => (f ρ S).bind fun d S => match d with
  | .bl b => .ok (.bl (!b)) S
  | _ => .no
theorem d_one {op : BoolOp} (ha : DE X W a f) : DE X W (.BoolOp op [a] pos) f := pe_one ha
theorem d_and (ha : DE X W a f) (hb : DE X W (.BoolOp .And (b :: rest) pos) g) : DE X W (.BoolOp .And (a :: b :: rest) pos) (bAnd f g) := (pe_and ha hb).imp fun σ H Q ⟨B, tb, ρ, S, w, e, q⟩ =>
  LE.step w e q fun d S1 B1 tb1 H1 v x1 w1 e1 r1 h1 => by
    cases d with
    | bl c =>
      simp only [rep] at r1; subst r1
      refine ⟨c, rfl, ?_⟩
      cases c with
      | true => rw [if_pos rfl]; exact LE.last w1 e1 h1
      | false => rw [if_neg (by decide)]; exact Post.ok (k := fun d _ B' tb' H' => ∀ v, rep X.K B' tb' d v → Q v H') h1 w1 _ rep_bl
    | _ => exact h1.elim
theorem d_or (ha : DE X W a f) (hb : DE X W (.BoolOp .Or (b :: rest) pos) g) : DE X W (.BoolOp .Or (a :: b :: rest) pos) (bOr f g) := (pe_or ha hb).imp fun σ H Q ⟨B, tb, ρ, S, w, e, q⟩ =>
  LE.step w e q fun d S1 B1 tb1 H1 v x1 w1 e1 r1 h1 => by
    cases d with
    | bl c =>
      simp only [rep] at r1; subst r1
      refine ⟨c, rfl, ?_⟩
      cases c with
      | false => rw [if_neg (by decide)]; exact LE.last w1 e1 h1
      | true => rw [if_pos rfl]; exact Post.ok (k := fun d _ B' tb' H' => ∀ v, rep X.K B' tb' d v → Q v H') h1 w1 _ rep_bl
    | _ => exact h1.elim
theorem d_not (ha : DE X W a f) : DE X W (.UnaryOp .Not a pos) (bNot f) := (pe_not ha).imp fun σ H Q ⟨B, tb, ρ, S, w, e, q⟩ =>
  LE.step w e q fun d S1 B1 tb1 H1 v x1 w1 e1 r1 h1 => by
    cases d with
    | bl c => simp only [rep] at r1; subst r1; exact ⟨c, rfl, h1.ok w1 _ rep_bl⟩
    | _ => exact h1.elim
def eIf (t : FT) (f g : FE) : FE := fun ρ S => (t ρ S).bind fun b S => if b = true then f ρ S else g ρ S
theorem d_if {c : Expr} (hc : DT X W c t) (ha : DE X W a f) (hb : DE X W b g) : DE X W (.IfExp c a b pos) (eIf t f g) := (pe_ifExp hc ha hb).imp fun σ H Q ⟨B, tb, ρ, S, w, e, q⟩ =>
  LT.step w e q fun c S1 B1 tb1 H1 x1 w1 e1 h1 => by
    cases c with
    | true => rw [if_pos rfl] at h1 ⊢; exact LE.last w1 e1 h1
    | false => rw [if_neg (by decide)] at h1 ⊢; exact LE.last w1 e1 h1
/-- is None -/
def isNon : D → Bool
  | .non => true
  | _ => false
theorem rep_isNon {K : PySem.W.Frag} {B : Hp} {tb : Tb} {d : D} {v : V} (r : rep K B tb d v) : decide (v = .non) = isNon d := by
  cases d <;> simp only [rep] at r
  all_goals first
    | (subst r; rfl)
    | (obtain ⟨_, rfl, _⟩ := r; rfl)
    | (obtain ⟨_, _, rfl, _⟩ := r; rfl)
    | (obtain ⟨_, _, _, rfl, _⟩ := r; rfl)
def eIsN (f : FE) : FE := fun ρ S => (f ρ S).bind fun d S => .ok (.bl (isNon d)) S
def eNotN (f : FE) : FE := fun ρ S => (f ρ S).bind fun d S => .ok (.bl (!isNon d)) S
theorem isN_step {σ : L2.St} {H : Hp} {Q : VK} (h : LE X.K W (eIsN f) σ H Q) : tIsN (LE X.K W f) σ H Q := by
  obtain ⟨B, tb, ρ, S, w, e, q⟩ := h
  exact LE.step w e q fun d S1 B1 tb1 H1 v x1 w1 e1 r1 h1 => h1.ok w1 _ (by rw [rep_isNon r1]; exact rep_bl)
theorem notN_step {σ : L2.St} {H : Hp} {Q : VK} (h : LE X.K W (eNotN f) σ H Q) : tNotN (LE X.K W f) σ H Q := by
  obtain ⟨B, tb, ρ, S, w, e, q⟩ := h
  exact LE.step w e q fun d S1 B1 tb1 H1 v x1 w1 e1 r1 h1 => h1.ok w1 _ (by rw [rep_isNon r1]; exact rep_bl)
theorem d_isN {j : Nat} {p : Pos} (ha : DE X W a f) : DE X W (.Compare a [.Is] [.Constant .none j p] pos) (eIsN f) := (pe_cmp (pc_isN ha)).imp fun _ _ _ h => isN_step h
theorem d_notN {j : Nat} {p : Pos} (ha : DE X W a f) : DE X W (.Compare a [.IsNot] [.Constant .none j p] pos) (eNotN f) := (pe_cmp (pc_notN ha)).imp fun _ _ _ h => notN_step h
theorem t_isN {j : Nat} {p : Pos} (ha : DE X W a f) : DT X W (.Compare a [.Is] [.Constant .none j p] pos) (tV (eIsN f)) := (pt_cmp (pc_isN ha)).imp fun _ _ _ h => isN_step (tV_step h)
theorem t_notN {j : Nat} {p : Pos} (ha : DE X W a f) : DT X W (.Compare a [.IsNot] [.Constant .none j p] pos) (tV (eNotN f)) := (pt_cmp (pc_notN ha)).imp fun _ _ _ h => notN_step (tV_step h)
end
end Qd

namespace Qd
open PySem L2

/-! ### built-ins by their names -/
def FitC (K : PySem.W.Frag) (r : List V → Hp → VK → Prop) (k : List D → Sto → R D) : Prop := ∀ (B : Hp) (tb : Tb) (W : WX) (σ : L2.St) (H : Hp) (S : Sto) (ds : List D) (vs : List V) (Q : VK), Wd K H B tb S → reps K B tb ds vs →
  Post K B tb W σ (k ds S) (fun d _ B' tb' H' => ∀ z, rep K B' tb' d z → Q z H') → r vs H Q
def eCall (k : List D → Sto → R D) (fa : FA) : FE := fun ρ S => (fa ρ S).bind fun ds S => k ds S
theorem fitC_step {K : PySem.W.Frag} {W : WX} {r : List V → Hp → VK → Prop} {k : List D → Sto → R D} (ft : FitC K r k) {fa : FA} {σ : L2.St} {H : Hp} {Q : VK} (h : LE K W (eCall k fa) σ H Q) : tCB r (LA K W fa) σ H Q := by
  obtain ⟨B, tb, ρ, S, w, e, q⟩ := h
  exact LA.step w e q fun ds S1 B1 tb1 H1 vs x1 w1 e1 r1 h1 => ft B1 tb1 W σ H1 S1 ds vs Q w1 r1 h1
/-- one argument -/
def k1 (k : D → Sto → R D) (ds : List D) (S : Sto) : R D := match ds with
  | [d] => k d S
  | _ => .no
def k2 (k : D → D → Sto → R D) (ds : List D) (S : Sto) : R D := match ds with
  | [d, e] => k d e S
  | _ => .no
theorem fit_k1 {K : PySem.W.Frag} {r : List V → Hp → VK → Prop} {k : D → Sto → R D} (h : ∀ (B : Hp) (tb : Tb) (W : WX) (σ : L2.St) (H : Hp) (S : Sto) (d : D) (v : V) (Q : VK), Wd K H B tb S → rep K B tb d v →
    Post K B tb W σ (k d S) (fun d _ B' tb' H' => ∀ z, rep K B' tb' d z → Q z H') → r [v] H Q) : FitC K r (k1 k) := by
  intro B tb W σ H S ds vs Q w rs q
  unfold k1 at q
  split at q
  · simp only [reps] at rs
    obtain ⟨v, t, rfl, r1, rfl⟩ := rs
    exact h B tb W σ H S _ v Q w r1 q
  · exact q.elim
theorem fit_k2 {K : PySem.W.Frag} {r : List V → Hp → VK → Prop} {k : D → D → Sto → R D} (h : ∀ (B : Hp) (tb : Tb) (W : WX) (σ : L2.St) (H : Hp) (S : Sto) (d e : D) (v u : V) (Q : VK), Wd K H B tb S → rep K B tb d v → rep K B tb e u →
    Post K B tb W σ (k d e S) (fun d _ B' tb' H' => ∀ z, rep K B' tb' d z → Q z H') → r [v, u] H Q) : FitC K r (k2 k) := by
  intro B tb W σ H S ds vs Q w rs q
  unfold k2 at q
  split at q
  · simp only [reps] at rs
    obtain ⟨v, t, rfl, r1, u, t', rfl, r2, rfl⟩ := rs
    exact h B tb W σ H S _ _ v u Q w r1 r2 q
  · exact q.elim
def kLen : List D → Sto → R D := k1 fun d S => match d with
  | .str z => chk (decide (z.length ≤ line)) (.ok (.int z.length) S)
  | d => match seqOf S d with
    | some ds => .ok (.int ds.length) S
    | none => .no
theorem fit_len {K : PySem.W.Frag} : FitC K (fun xs H Q => ∃ x n, xs = [x] ∧ LenV K x H n ∧ Q (.int n) H) kLen := fit_k1 fun B tb W σ H S d v Q w r q => by
  split at q
  · obtain ⟨c, q⟩ := chk_ok q
    simp only [rep] at r; subst r
    exact ⟨_, _, rfl, ⟨by rw [line_eq]; exact of_decide_eq_true c, rfl⟩, q.ok w _ rep_int⟩
  · split at q
    · rename_i ds e
      obtain ⟨p, vs, rfl, h1, r1⟩ := seqOf_ok w e r
      refine ⟨_, vs.length, rfl, ?_, q.ok w _ (by rw [reps_len r1]; exact rep_int)⟩
      exact h1.elim (fun h => .inl ⟨vs, h, rfl⟩) fun h => .inr ⟨vs, h, rfl⟩
    · exact q.elim
/-- a list to be read (the script too) -/
def lsOf (S : Sto) : D → Option (List D)
  | .scr ds => some ds
  | d => lstOf S d
theorem lsOf_ok {K : PySem.W.Frag} {H B : Hp} {tb : Tb} {S : Sto} (w : Wd K H B tb S) {d : D} {ds : List D} {v : V} (e : lsOf S d = some ds) (r : rep K B tb d v) : ∃ a vs, v = .ref a ∧ SqL K H a vs ∧ reps K B tb ds vs := by
  cases d with
  | scr es =>
    cases e
    simp only [rep] at r
    obtain ⟨a, vs, rfl, h1, h2⟩ := r
    exact ⟨a, vs, rfl, SqL.ex w.sub h1, h2⟩
  | lst es =>
    obtain ⟨a, vs, h1, h2, h3⟩ := lstOf_ok w (d := .lst es) e r
    exact ⟨a, vs, h1, SqL.of h2, h3⟩
  | obj k =>
    obtain ⟨a, vs, h1, h2, h3⟩ := lstOf_ok w (d := .obj k) e r
    exact ⟨a, vs, h1, SqL.of h2, h3⟩
  | _ => cases e
def kSum : List D → Sto → R D := k1 fun d S => match (lsOf S d).bind intsD with
  | some ns => .ok (.int ns.sum) S
  | none => .no
theorem fit_sum {K : PySem.W.Frag} : FitC K (rSum K) kSum := fit_k1 fun B tb W σ H S d v Q w r q => by
  split at q
  · rename_i ns e
    cases z : lsOf S d with
    | none => rw [z] at e; cases e
    | some ds =>
      rw [z] at e
      obtain ⟨p, vs, rfl, h1, r1⟩ := lsOf_ok w z r
      have := intsD_ok r1 e
      subst this
      exact ⟨p, ns, rfl, h1, q.ok w _ rep_int⟩
  · exact q.elim
def blsD : List D → Option (List Bool)
  | [] => some []
  | .bl i :: r => (blsD r).map (i :: ·)
  | _ => none
theorem blsD_ok {K : PySem.W.Frag} {B : Hp} {tb : Tb} : ∀ {ds : List D} {vs : List V} {ns : List Bool}, reps K B tb ds vs → blsD ds = some ns → vs = ns.map V.bl
  | [], vs, ns, r, e => by
    simp only [reps] at r; subst r
    simp only [blsD, Option.some.injEq] at e; subst e; rfl
  | d :: ds, vs, ns, r, e => by
    simp only [reps] at r
    obtain ⟨v, t, rfl, h1, h2⟩ := r
    cases d with
    | bl i =>
      simp only [blsD] at e
      cases q : blsD ds with
      | none => rw [q] at e; cases e
      | some ms =>
        rw [q] at e; cases e
        simp only [rep] at h1; subst h1
        rw [blsD_ok h2 q]; rfl
    | _ => simp only [blsD] at e; cases e
def kAll : List D → Sto → R D := k1 fun d S => match (lsOf S d).bind blsD with
  | some bs => .ok (.bl (bs.all id)) S
  | none => .no
def kAny : List D → Sto → R D := k1 fun d S => match (lsOf S d).bind blsD with
  | some bs => .ok (.bl (bs.any id)) S
  | none => .no
theorem fit_all {K : PySem.W.Frag} : FitC K (rAll K) kAll := fit_k1 fun B tb W σ H S d v Q w r q => by
  split at q
  · rename_i ns e
    cases z : lsOf S d with
    | none => rw [z] at e; cases e
    | some ds =>
      rw [z] at e
      obtain ⟨p, vs, rfl, h1, r1⟩ := lsOf_ok w z r
      have := blsD_ok r1 e
      subst this
      exact ⟨p, ns, rfl, h1, q.ok w _ rep_bl⟩
  · exact q.elim
theorem fit_any {K : PySem.W.Frag} : FitC K (rAny K) kAny := fit_k1 fun B tb W σ H S d v Q w r q => by
  split at q
  · rename_i ns e
    cases z : lsOf S d with
    | none => rw [z] at e; cases e
    | some ds =>
      rw [z] at e
      obtain ⟨p, vs, rfl, h1, r1⟩ := lsOf_ok w z r
      have := blsD_ok r1 e
      subst this
      exact ⟨p, ns, rfl, h1, q.ok w _ rep_bl⟩
  · exact q.elim
def kMin2 : List D → Sto → R D := k2 (kI yes2 fun i j => .int (if j < i then j else i))
def kMax2 : List D → Sto → R D := k2 (kI yes2 fun i j => .int (if j > i then j else i))
theorem fit_min2 {K : PySem.W.Frag} : FitC K (fun xs H Q => ∃ i j, xs = [.int i, .int j] ∧ Q (.int (if j < i then j else i)) H) kMin2 := fit_k2 fun B tb W σ H S d e v u Q w r1 r2 q => by
  unfold kI at q
  split at q
  · obtain ⟨c, q⟩ := chk_ok q
    simp only [rep] at r1 r2; subst r1 r2
    exact ⟨_, _, rfl, q.ok w _ rep_int⟩
  · exact q.elim
theorem fit_max2 {K : PySem.W.Frag} : FitC K (fun xs H Q => ∃ i j, xs = [.int i, .int j] ∧ Q (.int (if j > i then j else i)) H) kMax2 := fit_k2 fun B tb W σ H S d e v u Q w r1 r2 q => by
  unfold kI at q
  split at q
  · obtain ⟨c, q⟩ := chk_ok q
    simp only [rep] at r1 r2; subst r1 r2
    exact ⟨_, _, rfl, q.ok w _ rep_int⟩
  · exact q.elim
def kAbs : List D → Sto → R D := k1 fun d S => match d with
  | .int i => .ok (.int (if i < 0 then -i else i)) S
  | _ => .no
theorem fit_abs {K : PySem.W.Frag} : FitC K (fun xs H Q => ∃ i, xs = [.int i] ∧ Q (.int (if i < 0 then -i else i)) H) kAbs := fit_k1 fun B tb W σ H S d v Q w r q => by
  cases d with
  | int i => simp only [rep] at r; subst r; exact ⟨i, rfl, Post.ok (k := fun d _ B' tb' H' => ∀ z, rep K B' tb' d z → Q z H') q w _ rep_int⟩
  | _ => exact q.elim
def kInt : List D → Sto → R D := k1 fun d S => match d with
  | .int i => .ok (.int i) S
  | .bl b => .ok (.int (if b then 1 else 0)) S
  | _ => .no
theorem fit_int {K : PySem.W.Frag} : FitC K (fun xs H Q => (∃ i, xs = [.int i] ∧ Q (.int i) H) ∨ ∃ k, xs = [.bl k] ∧ Q (.int (if k then 1 else 0)) H) kInt := fit_k1 fun B tb W σ H S d v Q w r q => by
  cases d with
  | int i => simp only [rep] at r; subst r; exact .inl ⟨i, rfl, Post.ok (k := fun d _ B' tb' H' => ∀ z, rep K B' tb' d z → Q z H') q w _ rep_int⟩
  | bl i => simp only [rep] at r; subst r; exact .inr ⟨i, rfl, Post.ok (k := fun d _ B' tb' H' => ∀ z, rep K B' tb' d z → Q z H') q w _ rep_int⟩
  | _ => exact q.elim
def kTuple : List D → Sto → R D := k1 fun d S => match d with
  | .tup ds => .ok (.tup ds) S
  | d => match lsOf S d with
    | some ds => .ok (.tup ds) S
    | none => .no
theorem fit_tuple {K : PySem.W.Frag} : FitC K (fun xs H Q => ∃ p ys, xs = [.ref p] ∧ ((SqL K H p ys ∧ ∀ l, H l = none → Q (.ref l) (upd H l (.tup ys))) ∨ (SqT K H p ys ∧ Q (.ref p) H))) kTuple := fit_k1 fun B tb W σ H S d v Q w r q => by
  split at q
  · rename_i ds
    have r0 := r
    simp only [rep] at r
    obtain ⟨a, vs, rfl, h1, h2⟩ := r
    exact ⟨a, vs, rfl, .inr ⟨SqT.ex w.sub h1, q.ok w _ r0⟩⟩
  · split at q
    · rename_i ds e
      obtain ⟨p, vs, rfl, h1, r1⟩ := lsOf_ok w e r
      refine ⟨p, vs, rfl, .inl ⟨h1, fun l hl => ?_⟩⟩
      obtain ⟨B', e', w', r'⟩ := new_tup w r1 hl
      exact q B' tb _ e' w' _ r'
    · exact q.elim
def kList : List D → Sto → R D := k1 fun d S => match seqOf S d with
  | some ds => .ok (.lst ds) S
  | none => .no
/-- a list that will change -/
def kListM : List D → Sto → R D := k1 fun d S => match seqOf S d with
  | some ds => .ok (.obj S.next) (S.push (.lst ds))
  | none => .no
theorem fit_list {K : PySem.W.Frag} : FitC K (fun xs H Q => ∃ p ys, xs = [.ref p] ∧ (SqL K H p ys ∨ SqT K H p ys) ∧ ∀ l, H l = none → Q (.ref l) (upd H l (.lst ys))) kList := fit_k1 fun B tb W σ H S d v Q w r q => by
  split at q
  · rename_i ds e
    obtain ⟨p, vs, rfl, h1, r1⟩ := seqOf_ok w e r
    refine ⟨p, vs, rfl, h1, fun l hl => ?_⟩
    obtain ⟨B', e', w', r'⟩ := new_lst w r1 hl
    exact q B' tb _ e' w' _ r'
  · exact q.elim
theorem fit_listM {K : PySem.W.Frag} : FitC K (fun xs H Q => ∃ p ys, xs = [.ref p] ∧ (SqL K H p ys ∨ SqT K H p ys) ∧ ∀ l, H l = none → Q (.ref l) (upd H l (.lst ys))) kListM := fit_k1 fun B tb W σ H S d v Q w r q => by
  split at q
  · rename_i ds e
    obtain ⟨p, vs, rfl, h1, r1⟩ := seqOf_ok w e r
    refine ⟨p, vs, rfl, h1, fun l hl => ?_⟩
    obtain ⟨tb', e', w', r'⟩ := new_obj w r1 hl
    exact q B tb' _ e' w' _ r'
  · exact q.elim
section
variable {X : Cx} {W : WX} {x : Str} {es : List Expr} {e : Expr} {fa : FA} {pos p : Pos}
theorem d_callB {id : String} {r : List V → Hp → VK → Prop} {k : List D → Sto → R D} (hc : CallR X (.builtin id) r) (ft : FitC X.K r k) (hg : Gl X x) (hm : X.mg x = none) (hv : bootBuiltins x = some (.builtin id)) (ha : DA X W (e :: es) fa)
    (hn : x ≠ "__name__" := by decide) (hdb : (x == ("__debug__" : Str)) = false := by decide) (he : starEach (e :: es) X.env = (false, eval e X.env) :: starEach es X.env := by rfl) (hpl : (backTo pos (starEach es X.env)).any (·.1) = false := by rfl) :
    DE X W (.Call (.Name x p) (e :: es) [] pos) (eCall k fa) := (pe_callB hc hg hm hv ha hn hdb he hpl).imp fun _ _ _ h => fitC_step ft h
theorem d_callT {T : String} {r : List V → Hp → VK → Prop} {k : List D → Sto → R D} (hc : CallR X (.type T) r) (ft : FitC X.K r k) (hg : Gl X x) (hm : X.mg x = none) (hv : bootBuiltins x = some (.type T)) (ha : DA X W (e :: es) fa)
    (hn : x ≠ "__name__" := by decide) (hdb : (x == ("__debug__" : Str)) = false := by decide) (he : starEach (e :: es) X.env = (false, eval e X.env) :: starEach es X.env := by rfl) (hpl : (backTo pos (starEach es X.env)).any (·.1) = false := by rfl) :
    DE X W (.Call (.Name x p) (e :: es) [] pos) (eCall k fa) := (pe_callTy hc hg hm hv ha hn hdb he hpl).imp fun _ _ _ h => fitC_step ft h
/-- the name of a built-in class, as a value -/
theorem d_ty {T : String} (hg : Gl X x) (hm : X.mg x = none) (hv : bootBuiltins x = some (.type T)) (hn : x ≠ "__name__" := by decide) (hd : (x == ("__debug__" : Str)) = false := by decide) : DE X W (.Name x pos) (eC (.ty T)) :=
  d_c (pe_bltn (v := .ty T) hg hm hv rfl hn hd) fun _ _ => by simp only [rep]
end

/-! ### isinstance of built-in classes -/
def tyOf (S : Sto) : D → Option String
  | .non => some "NoneType"
  | .bl _ => some "bool"
  | .int _ => some "int"
  | .str _ => some "str"
  | .tup _ => some "tuple"
  | .lst _ => some "list"
  | .dk _ _ => some "dict"
  | .dt _ _ => some "dict"
  | .obj k => (match S.m[k]? with
    | some (some (.lst _)) => some "list"
    | some (some (.dk _ _)) => some "dict"
    | some (some (.dt _ _)) => some "dict"
    | _ => none)
  | _ => none
theorem tyOf_ok {K : PySem.W.Frag} {H B : Hp} {tb : Tb} {S : Sto} (w : Wd K H B tb S) {d : D} {v : V} {T : String} (e : tyOf S d = some T) (r : rep K B tb d v) : TyX K H v (.type T) := by
  cases d with
  | non => cases e; simp only [rep] at r; subst r; exact .base .non
  | bl b => cases e; simp only [rep] at r; subst r; exact .base (.bl b)
  | int i => cases e; simp only [rep] at r; subst r; exact .base (.int i)
  | str x => cases e; simp only [rep] at r; subst r; exact .base (.str x)
  | tup ds =>
    cases e; simp only [rep] at r
    obtain ⟨a, vs, rfl, h1, h2⟩ := r
    rcases SqT.ex w.sub h1 with (h | ⟨o, h⟩) | ⟨o, its, n, h, hc, _⟩
    · exact .base (.tup h)
    · exact .fTuple h
    · exact .kTuple h hc
  | lst ds =>
    cases e; simp only [rep] at r
    obtain ⟨a, vs, rfl, h1, h2⟩ := r
    exact .base (.lst (w.sub _ _ h1))
  | dk ks ds =>
    cases e; simp only [rep] at r
    obtain ⟨a, vs, rfl, h1, h2⟩ := r
    exact .base (.dK (w.sub _ _ h1))
  | dt ks ds =>
    cases e; simp only [rep] at r
    obtain ⟨a, vs, rfl, h1, h2⟩ := r
    exact .base (.dT (w.sub _ _ h1))
  | obj k =>
    simp only [rep] at r
    obtain ⟨a, rfl, ha⟩ := r
    simp only [tyOf] at e
    split at e
    · rename_i ds hk
      cases e
      obtain ⟨a', h1, _, vs, h3, h4⟩ := w.at_ k _ hk
      rw [ha] at h1; cases h1
      exact .base (.lst h3)
    · rename_i ks ds hk
      cases e
      obtain ⟨a', h1, _, vs, h3, h4⟩ := w.at_ k _ hk
      rw [ha] at h1; cases h1
      exact .base (.dK h3)
    · rename_i ks ds hk
      cases e
      obtain ⟨a', h1, _, vs, h3, h4⟩ := w.at_ k _ hk
      rw [ha] at h1; cases h1
      exact .base (.dT h3)
    · cases e
  | _ => cases e
def isaB (a b : String) : Bool := a == b || (a == "bool" && b == "int")
def tyOkB (a : String) : Bool := a == "NoneType" || a == "bool" || a == "int" || a == "str" || a == "tuple" || a == "list" || a == "dict"
theorem tyOf_in {S : Sto} {d : D} {T : String} (e : tyOf S d = some T) : T ∈ ["NoneType", "bool", "int", "str", "tuple", "list", "dict"] := by
  unfold tyOf at e
  split at e
  all_goals first
    | (cases e; decide)
    | skip
  split at e
  all_goals first
    | (cases e; decide)
    | cases e
theorem kit_isa {K : PySem.W.Frag} : ∀ a ∈ ["NoneType", "bool", "int", "str", "tuple", "list", "dict"], ∀ b ∈ ["bool", "int", "str", "tuple", "list", "dict"], PySem.W.kitOne K (.type a) (.type b) = some (isaB a b) := by
  have h : ∀ a ∈ ["NoneType", "bool", "int", "str", "tuple", "list", "dict"], ∀ b ∈ ["bool", "int", "str", "tuple", "list", "dict"], kitB a b = some (isaB a b) := by decide +kernel
  exact fun a ha b hb => kit_ty (h a ha b hb)
def tysD : List D → Option (List String)
  | [] => some []
  | .ty n :: r => (tysD r).map (n :: ·)
  | _ => none
def knownTy (b : String) : Bool := ["bool", "int", "str", "tuple", "list", "dict"].contains b
def kIsi : List D → Sto → R D := k2 fun d c S => match c, tyOf S d with
  | .ty T, some a => chk (knownTy T) (.ok (.bl (isaB a T)) S)
  | .tup cs, some a => (match tysD cs with
    | some Ts => chk (Ts.all knownTy) (.ok (.bl (Ts.any (isaB a))) S)
    | none => .no)
  | _, _ => .no
theorem tysD_ok {K : PySem.W.Frag} {B : Hp} {tb : Tb} : ∀ {ds : List D} {vs : List V} {Ts : List String}, reps K B tb ds vs → tysD ds = some Ts → Paired ClsV vs (Ts.map Value.type)
  | [], vs, ns, r, e => by
    simp only [reps] at r; subst r
    simp only [tysD, Option.some.injEq] at e; subst e; exact .nil
  | d :: ds, vs, ns, r, e => by
    simp only [reps] at r
    obtain ⟨v, t, rfl, h1, h2⟩ := r
    cases d with
    | ty i =>
      simp only [tysD] at e
      cases q : tysD ds with
      | none => rw [q] at e; cases e
      | some ms =>
        rw [q] at e; cases e
        simp only [rep] at h1; subst h1
        exact .cons (.ty i) (tysD_ok h2 q)
    | _ => simp only [tysD] at e; cases e
theorem kitAny_isa {K : PySem.W.Frag} {a : String} (ha : a ∈ ["NoneType", "bool", "int", "str", "tuple", "list", "dict"]) : ∀ {Ts : List String}, Ts.all knownTy = true → PySem.W.kitAny K (.type a) (Ts.map Value.type) = some (Ts.any (isaB a))
  | [], _ => kitAny_nil
  | T :: Ts, h => by
    simp only [List.all_cons, Bool.and_eq_true] at h
    have h1 := kit_isa (K := K) a ha T (by simpa [knownTy] using h.1)
    refine kitAny_cons h1 (fun e => ?_) fun e => by simp [e]
    rw [List.any_cons, e, Bool.false_or]
    exact kitAny_isa ha h.2
theorem fit_isi {K : PySem.W.Frag} : FitC K (fun xs H Q => rIsi K xs H Q ∨ rIsiT K xs H Q ∨ rIsiK K xs H Q) kIsi := fit_k2 fun B tb W σ H S d c v u Q w r1 r2 q => by
  split at q
  · rename_i T a ea
    obtain ⟨hc, q⟩ := chk_ok q
    simp only [rep] at r2; subst r2
    exact .inl ⟨v, _, _, _, _, rfl, .ty T, tyOf_ok w ea r1, kit_isa a (tyOf_in ea) T (by simpa [knownTy] using hc), q.ok w _ rep_bl⟩
  · rename_i cs a ea
    split at q
    · rename_i Ts eT
      obtain ⟨hc, q⟩ := chk_ok q
      simp only [rep] at r2
      obtain ⟨p, vs, rfl, h1, h2⟩ := r2
      exact .inr (.inl ⟨v, p, vs, _, _, _, rfl, w.sub _ _ h1, tysD_ok h2 eT, tyOf_ok w ea r1, kitAny_isa (tyOf_in ea) hc, q.ok w _ rep_bl⟩)
    · exact q.elim
  · exact q.elim
theorem opr_isi {X : Cx} : CallR X (.builtin "isinstance") (fun xs H Q => rIsi X.K xs H Q ∨ rIsiT X.K xs H Q ∨ rIsiK X.K xs H Q) := CallR.or call_isi (CallR.or call_isiT call_isiK)
end Qd

namespace Qd
open PySem L2

/-! ### targets -/
inductive Pt where
  | nm (i : Nat)
  | tp (ps : List Pt)
mutual
def bindP : Pt → D → Rho → Option Rho
  | .nm i, d, ρ => some (ρ.set i (some d))
  | .tp ps, d, ρ => match d with
    | .tup ds => bindPs ps ds ρ
    | .lst ds => bindPs ps ds ρ
    | _ => none
def bindPs : List Pt → List D → Rho → Option Rho
  | [], ds, ρ => match ds with
    | [] => some ρ
    | _ :: _ => none
  | p :: ps, ds, ρ => match ds with
    | [] => none
    | d :: r => match bindP p d ρ with
      | some ρ' => bindPs ps r ρ'
      | none => none
def slotsP : Pt → List Nat
  | .nm i => [i]
  | .tp ps => slotsPs ps
def slotsPs : List Pt → List Nat
  | [] => []
  | p :: ps => slotsP p ++ slotsPs ps
def tgP (K : PySem.W.Frag) : Pt → TG
  | .nm i => gName i
  | .tp ps => fun v σ H Q => gTup K ps.length (tgPs K ps) v σ H Q ∨ gUnl K ps.length (tgPs K ps) v σ H Q
def tgPs (K : PySem.W.Frag) : List Pt → TGs
  | [] => gNil
  | p :: ps => gCons (tgP K p) (tgPs K ps)
end
theorem pg_seq {X : Cx} {pos : Pos} {es : List Expr} {k : Nat} {t : TGs} {n : Nat} (hc : X.calm = true) (h : PGs X es t) (hn : (assignEach es X.env).length = n := by rfl) (hst : (assignEach es X.env).findIdx? (fun x => x.1) = none := by rfl) :
    PG X (.Tuple es k pos) (fun v σ H Q => gTup X.K n t v σ H Q ∨ gUnl X.K n t v σ H Q) := ⟨fun pins s σ H v u Q I r q => q.elim ((pg_tup hc h hn hst).run pins s σ H v u Q I r) ((pg_unl hc h hn hst).run pins s σ H v u Q I r)⟩
theorem wipe_get (σ : L2.St) (j : Nat) : ∀ vs : List Nat, (wipe σ vs)[j]? = if j ∈ vs then (if j < σ.length then some none else none) else σ[j]?
  | [] => by simp [wipe]
  | v :: vs => by
    unfold wipe
    by_cases e : j = v
    · subst e
      by_cases h : j < σ.length
      · rw [List.getElem?_set_self (by rw [wipe_length]; exact h)]; simp [h]
      · rw [List.getElem?_eq_none (by rw [List.length_set, wipe_length]; omega)]; simp [h]
    · rw [List.getElem?_set_ne (Ne.symm e), wipe_get σ j vs]
      simp [e]
theorem wipe_set {σ : L2.St} {own : List Nat} {i : Nat} (h : i ∈ own) (x : Option V) : wipe (σ.set i x) own = wipe σ own := by
  apply List.ext_getElem?
  intro j
  rw [wipe_get, wipe_get, List.length_set]
  by_cases hj : j ∈ own
  · simp [hj]
  · rw [if_neg hj, if_neg hj, List.getElem?_set_ne (fun (e : i = j) => hj (by rw [← e]; exact h))]
mutual
theorem bindP_ok {K : PySem.W.Frag} {H B : Hp} {tb : Tb} (s : ∀ a o, B a = some o → H a = some o) : ∀ (p : Pt) (d : D) (v : V) (ρ ρ' : Rho) (σ : L2.St) (Q : L2.St → Hp → Prop), bindP p d ρ = some ρ' → rep K B tb d v → repE K B tb ρ σ →
    (∀ σ', repE K B tb ρ' σ' → (∀ own : List Nat, (∀ i ∈ slotsP p, i ∈ own) → wipe σ' own = wipe σ own) → Q σ' H) → tgP K p v σ H Q
  | .nm i, d, v, ρ, ρ', σ, Q, e, r, q, k => by
    simp only [bindP, Option.some.injEq] at e; subst e
    exact k _ (q.set i r) fun own h => wipe_set (h i (by simp [slotsP])) _
  | .tp ps, d, v, ρ, ρ', σ, Q, e, r, q, k => by
    cases d with
    | tup ds =>
      simp only [bindP] at e
      simp only [rep] at r
      obtain ⟨a, vs, rfl, h1, h2⟩ := r
      obtain ⟨l, z⟩ := bindPs_ok s ps ds vs ρ ρ' σ Q e h2 q k
      exact .inl ⟨a, vs, rfl, SqT.ex s h1, l, z⟩
    | lst ds =>
      simp only [bindP] at e
      simp only [rep] at r
      obtain ⟨a, vs, rfl, h1, h2⟩ := r
      obtain ⟨l, z⟩ := bindPs_ok s ps ds vs ρ ρ' σ Q e h2 q k
      exact .inr ⟨a, vs, rfl, SqL.of (s _ _ h1), l, z⟩
    | _ => simp only [bindP] at e; cases e
theorem bindPs_ok {K : PySem.W.Frag} {H B : Hp} {tb : Tb} (s : ∀ a o, B a = some o → H a = some o) : ∀ (ps : List Pt) (ds : List D) (vs : List V) (ρ ρ' : Rho) (σ : L2.St) (Q : L2.St → Hp → Prop), bindPs ps ds ρ = some ρ' → reps K B tb ds vs → repE K B tb ρ σ →
    (∀ σ', repE K B tb ρ' σ' → (∀ own : List Nat, (∀ i ∈ slotsPs ps, i ∈ own) → wipe σ' own = wipe σ own) → Q σ' H) → vs.length = ps.length ∧ tgPs K ps vs σ H Q
  | [], ds, vs, ρ, ρ', σ, Q, e, r, q, k => by
    cases ds with
    | nil =>
      simp only [bindPs, Option.some.injEq] at e; subst e
      simp only [reps] at r; subst r
      exact ⟨rfl, rfl, k σ q fun _ _ => rfl⟩
    | cons d ds => simp only [bindPs] at e; cases e
  | p :: ps, ds, vs, ρ, ρ', σ, Q, e, r, q, k => by
    cases ds with
    | nil => simp only [bindPs] at e; cases e
    | cons d ds =>
      simp only [bindPs] at e
      simp only [reps] at r
      obtain ⟨v, t, rfl, h1, h2⟩ := r
      cases z : bindP p d ρ with
      | none => rw [z] at e; cases e
      | some ρ1 =>
        rw [z] at e
        have l : t.length = ps.length := by
          have l1 := reps_len h2
          have l2 : ∀ (ps : List Pt) (ds : List D) (ρ ρ' : Rho), bindPs ps ds ρ = some ρ' → ds.length = ps.length := by
            intro ps
            induction ps with
            | nil => intro ds ρ ρ' e; cases ds with
              | nil => rfl
              | cons _ _ => simp only [bindPs] at e; cases e
            | cons p ps ih => intro ds ρ ρ' e; cases ds with
              | nil => simp only [bindPs] at e; cases e
              | cons d ds =>
                simp only [bindPs] at e
                split at e
                · simp [ih _ _ _ e]
                · cases e
          rw [l1, l2 _ _ _ _ e]
        refine ⟨by simp [l], v, t, rfl, ?_⟩
        refine bindP_ok s p d v ρ ρ1 σ _ z h1 q fun σ1 q1 w1 => ?_
        refine (bindPs_ok s ps ds t ρ1 ρ' σ1 Q e h2 q1 fun σ2 q2 w2 => k σ2 q2 fun own ho => ?_).2
        rw [w2 own fun i hi => ho i (by simp [slotsPs, hi]), w1 own fun i hi => ho i (by simp [slotsPs, hi])]
end
abbrev FG := D → Rho → Sto → R Rho
def LG (K : PySem.W.Frag) (W : WX) (g : FG) : TG := fun v σ H Q => ∃ B tb ρ S d, Wd K H B tb S ∧ repE K B tb ρ σ ∧ rep K B tb d v ∧ Post K B tb W σ (g d ρ S) fun ρ' _ B' tb' H' => ∀ σ', repE K B' tb' ρ' σ' → Q σ' H'
theorem _root_.L2.PG.imp {X : Cx} {e : Expr} {t t' : TG} (h : PG X e t) (i : ∀ v σ H Q, t' v σ H Q → t v σ H Q) : PG X e t' := ⟨fun pins s σ H v u Q I r q => h.run pins s σ H v u Q I r (i v σ H Q q)⟩
def gPt (p : Pt) : FG := fun d ρ S => match bindP p d ρ with
  | some ρ' => .ok ρ' S
  | none => .no
abbrev DG (X : Cx) (W : WX) (e : Expr) (g : FG) : Prop := PG X e (LG X.K W g)
section
variable {X : Cx} {W : WX}
theorem dg_pt {e : Expr} {p : Pt} (h : PG X e (tgP X.K p)) : DG X W e (gPt p) := h.imp fun v σ H Q ⟨B, tb, ρ, S, d, w, e, r, q⟩ => by
  unfold gPt at q
  split at q
  · rename_i ρ' z
    exact bindP_ok w.sub p d v ρ ρ' σ Q z r e fun σ' q' _ => q.ok w σ' q'
  · exact q.elim
theorem pt_nm {i : Nat} {x : Str} {pos : Pos} (hN : X.N.Nodup) (hi : X.N[i]? = some x) (hx : Loc X.env.scope x) (hf : X.fn x = true ∨ X.env.scope.names.lookup x = some .local := by first | exact .inl rfl | exact .inr rfl | assumption) : PG X (.Name x pos) (tgP X.K (.nm i)) := pg_name hN hi hx hf
theorem pts_nil : PGs X [] (tgPs X.K []) := pgs_nil
theorem pts_cons {e : Expr} {es : List Expr} {p : Pt} {ps : List Pt} (h1 : PG X e (tgP X.K p)) (h2 : PGs X es (tgPs X.K ps)) (hs : (assignEach (e :: es) X.env).map (fun x => x.2) = assign e X.env :: (assignEach es X.env).map (fun x => x.2) := by rfl) : PGs X (e :: es) (tgPs X.K (p :: ps)) := pgs_cons h1 h2 hs
end

/-! ### statements -/
inductive Out where
  | nx (ρ : Rho) | rt (d : D) | bk (ρ : Rho) | ct (ρ : Rho) | xx (ρ : Rho) (C : Str) (ns : List Str) (vs : List D)
abbrev FS := Rho → Sto → R Out
def R.st {α : Type} (r : R α) (ρ : Rho) (k : α → Sto → R Out) : R Out := match r with
  | .ok a S => k a S
  | .er C ns vs S => .ok (.xx ρ C ns vs) S
  | .no => .no
@[simp] theorem st_ok {α : Type} (a : α) (S : Sto) (ρ : Rho) (k : α → Sto → R Out) : (R.ok a S).st ρ k = k a S := rfl
@[simp] theorem st_er {α : Type} (C : Str) (ns : List Str) (vs : List D) (S : Sto) (ρ : Rho) (k : α → Sto → R Out) : (R.er C ns vs S : R α).st ρ k = .ok (.xx ρ C ns vs) S := rfl
@[simp] theorem st_no {α : Type} (ρ : Rho) (k : α → Sto → R Out) : (R.no : R α).st ρ k = .no := rfl
/-- what an exception asks -/
def ErP (K : PySem.W.Frag) (B : Hp) (tb : Tb) (W : WX) (C : Str) (ns : List Str) (vs : List D) (σ : L2.St) (H : Hp) : Prop :=
  (ns = [] → W (.ref (He.ga K C)) none σ H) ∧ ∀ dd xs, H dd = some (.xd (ns.zip xs)) → ns.length = xs.length → reps K B tb vs xs → W (.ref (He.ga K C)) (some dd) σ H
def PostS (K : PySem.W.Frag) (B : Hp) (tb : Tb) (W : WX) (Dn : Ends) (r : R Out) : Prop := match r with
  | .ok (.nx ρ) S => ∀ B' tb' H' σ', Ex B tb B' tb' → Wd K H' B' tb' S → repE K B' tb' ρ σ' → Dn.nx σ' H'
  | .ok (.rt d) S => ∀ B' tb' H' v, Ex B tb B' tb' → Wd K H' B' tb' S → rep K B' tb' d v → Dn.rt v H'
  | .ok (.bk ρ) S => ∀ B' tb' H' σ', Ex B tb B' tb' → Wd K H' B' tb' S → repE K B' tb' ρ σ' → Dn.bk σ' H'
  | .ok (.ct ρ) S => ∀ B' tb' H' σ', Ex B tb B' tb' → Wd K H' B' tb' S → repE K B' tb' ρ σ' → Dn.ct σ' H'
  | .ok (.xx ρ C ns vs) S => ∀ B' tb' H' σ', Ex B tb B' tb' → Wd K H' B' tb' S → repE K B' tb' ρ σ' → ErP K B' tb' W C ns vs σ' H'
  | _ => False
theorem PostS.mono {K : PySem.W.Frag} {B B' : Hp} {tb tb' : Tb} {W : WX} {Dn : Ends} {r : R Out} (e : Ex B tb B' tb') (h : PostS K B tb W Dn r) : PostS K B' tb' W Dn r := by
  cases r with
  | ok o S => cases o <;> exact fun B2 tb2 H2 σ' e2 w2 => h B2 tb2 H2 σ' (e.trans e2) w2
  | er C ns vs S => exact h
  | no => exact h
def LS (K : PySem.W.Frag) (W : WX) (f : FS) : TS := fun Dn σ H => ∃ B tb ρ S, Wd K H B tb S ∧ repE K B tb ρ σ ∧ PostS K B tb W Dn (f ρ S)
abbrev DS (X : Cx) (W : WX) (e : Stmt) (f : FS) : Prop := PS X e (LS X.K W f)
abbrev DSs (X : Cx) (W : WX) (e : List Stmt) (f : FS) : Prop := PSs X e (LS X.K W f)
section
variable {K : PySem.W.Frag} {H B : Hp} {tb : Tb} {W : WX} {σ : L2.St} {ρ : Rho} {S : Sto} {Dn : Ends}
theorem LE.stepS {f : FE} {g : D → Sto → R Out} (w : Wd K H B tb S) (e : repE K B tb ρ σ) (h : PostS K B tb W Dn ((f ρ S).st ρ g)) {Q : V → Hp → Prop}
    (hq : ∀ d S1 B1 tb1 H1 v, Ex B tb B1 tb1 → Wd K H1 B1 tb1 S1 → repE K B1 tb1 ρ σ → rep K B1 tb1 d v → PostS K B1 tb1 W Dn (g d S1) → Q v H1) : LE K W f σ H Q := by
  refine ⟨B, tb, ρ, S, w, e, ?_⟩
  cases q : f ρ S with
  | ok d S1 => rw [q] at h; exact fun B1 tb1 H1 e1 w1 v r => hq d S1 B1 tb1 H1 v e1 w1 (e.ex e1) r (h.mono e1)
  | er C ns vs S1 => rw [q] at h; exact fun B1 tb1 H1 e1 w1 => h B1 tb1 H1 σ e1 w1 (e.ex e1)
  | no => rw [q] at h; exact h
theorem LT.stepS {f : FT} {g : Bool → Sto → R Out} (w : Wd K H B tb S) (e : repE K B tb ρ σ) (h : PostS K B tb W Dn ((f ρ S).st ρ g)) {Q : Bool → Hp → Prop}
    (hq : ∀ d S1 B1 tb1 H1, Ex B tb B1 tb1 → Wd K H1 B1 tb1 S1 → repE K B1 tb1 ρ σ → PostS K B1 tb1 W Dn (g d S1) → Q d H1) : LT K W f σ H Q := by
  refine ⟨B, tb, ρ, S, w, e, ?_⟩
  cases q : f ρ S with
  | ok d S1 => rw [q] at h; exact fun B1 tb1 H1 e1 w1 => hq d S1 B1 tb1 H1 e1 w1 (e.ex e1) (h.mono e1)
  | er C ns vs S1 => rw [q] at h; exact fun B1 tb1 H1 e1 w1 => h B1 tb1 H1 σ e1 w1 (e.ex e1)
  | no => rw [q] at h; exact h
theorem LA.stepS {f : FA} {g : List D → Sto → R Out} (w : Wd K H B tb S) (e : repE K B tb ρ σ) (h : PostS K B tb W Dn ((f ρ S).st ρ g)) {Q : List V → Hp → Prop}
    (hq : ∀ d S1 B1 tb1 H1 v, Ex B tb B1 tb1 → Wd K H1 B1 tb1 S1 → repE K B1 tb1 ρ σ → reps K B1 tb1 d v → PostS K B1 tb1 W Dn (g d S1) → Q v H1) : LA K W f σ H Q := by
  refine ⟨B, tb, ρ, S, w, e, ?_⟩
  cases q : f ρ S with
  | ok d S1 => rw [q] at h; exact fun B1 tb1 H1 e1 w1 v r => hq d S1 B1 tb1 H1 v e1 w1 (e.ex e1) r (h.mono e1)
  | er C ns vs S1 => rw [q] at h; exact fun B1 tb1 H1 e1 w1 => h B1 tb1 H1 σ e1 w1 (e.ex e1)
  | no => rw [q] at h; exact h
theorem LG.stepS {f : FG} {g : Rho → Sto → R Out} {d : D} {v : V} (w : Wd K H B tb S) (e : repE K B tb ρ σ) (r : rep K B tb d v) (h : PostS K B tb W Dn ((f d ρ S).st ρ g)) {Q : L2.St → Hp → Prop}
    (hq : ∀ ρ' S1 B1 tb1 H1 σ', Ex B tb B1 tb1 → Wd K H1 B1 tb1 S1 → repE K B1 tb1 ρ' σ' → PostS K B1 tb1 W Dn (g ρ' S1) → Q σ' H1) : LG K W f v σ H Q := by
  refine ⟨B, tb, ρ, S, d, w, e, r, ?_⟩
  cases q : f d ρ S with
  | ok ρ' S1 => rw [q] at h; exact fun B1 tb1 H1 e1 w1 σ' q' => hq ρ' S1 B1 tb1 H1 σ' e1 w1 q' (h.mono e1)
  | er C ns vs S1 => rw [q] at h; exact fun B1 tb1 H1 e1 w1 => h B1 tb1 H1 σ e1 w1 (e.ex e1)
  | no => rw [q] at h; exact h
theorem PostS.nx' (h : PostS K B tb W Dn (.ok (.nx ρ) S)) (w : Wd K H B tb S) (e : repE K B tb ρ σ) : Dn.nx σ H := h B tb H σ (Ex.refl _ _) w e
end
def sNil : FS := fun ρ S => .ok (.nx ρ) S
def sSeq (f g : FS) : FS := fun ρ S => match f ρ S with
  | .ok (.nx ρ') S' => g ρ' S'
  | r => r
def sExpr (f : FE) : FS := fun ρ S => (f ρ S).st ρ fun _ S => .ok (.nx ρ) S
def sRet (f : FE) : FS := fun ρ S => (f ρ S).st ρ fun d S => .ok (.rt d) S
def sAsg (f : FE) (g : FG) : FS := fun ρ S => (f ρ S).st ρ fun d S => (g d ρ S).st ρ fun ρ' S => .ok (.nx ρ') S
def sIf (t : FT) (f g : FS) : FS := fun ρ S => (t ρ S).st ρ fun b S => if b = true then f ρ S else g ρ S
section
variable {X : Cx} {W : WX} {st : Stmt} {rest : List Stmt} {f g : FS} {fe : FE} {e : Expr} {pos : Pos}
theorem dss_nil : DSs X W [] sNil := pss_nil.imp fun Dn σ H ⟨B, tb, ρ, S, w, e, q⟩ => q.nx' w e
theorem dss_cons (h1 : DS X W st f) (h2 : DSs X W rest g) : DSs X W (st :: rest) (sSeq f g) := (pss_cons h1 h2).imp fun Dn σ H ⟨B, tb, ρ, S, w, e, q⟩ => by
  refine ⟨B, tb, ρ, S, w, e, ?_⟩
  unfold sSeq at q
  cases z : f ρ S with
  | ok o S1 =>
    rw [z] at q
    cases o with
    | nx ρ1 => exact fun B1 tb1 H1 σ1 x1 w1 e1 => ⟨B1, tb1, ρ1, S1, w1, e1, PostS.mono x1 q⟩
    | rt d => exact q
    | bk ρ1 => exact q
    | ct ρ1 => exact q
    | xx ρ1 C ns vs => exact q
  | er C ns vs S1 => rw [z] at q; exact q
  | no => rw [z] at q; exact q
theorem dss_one (h1 : DS X W st f) : DSs X W [st] f := pss_one h1
theorem ds_pass : DS X W (.Pass pos) sNil := ps_pass.imp fun Dn σ H ⟨B, tb, ρ, S, w, e, q⟩ => q.nx' w e
theorem ds_expr (he : DE X W e fe) (hs : swapsWith e none pos.line X.env = pure false := by rfl) : DS X W (.Expr e pos) (sExpr fe) := (ps_expr he hs).imp fun Dn σ H ⟨B, tb, ρ, S, w, e, q⟩ =>
  LE.stepS w e q fun d S1 B1 tb1 H1 v x1 w1 e1 r1 h1 => h1.nx' w1 e1
theorem ds_ret (he : DE X W e fe) : DS X W (.Return (some e) pos) (sRet fe) := (ps_ret he).imp fun Dn σ H ⟨B, tb, ρ, S, w, e, q⟩ =>
  LE.stepS w e q fun d S1 B1 tb1 H1 v x1 w1 e1 r1 h1 => h1 B1 tb1 H1 v (Ex.refl _ _) w1 r1
theorem ds_asg {tg : Expr} {fg : FG} (he : DE X W e fe) (hg : DG X W tg fg) (hs : swapsWithSole [tg] e pos.line X.env = pure false := by rfl) (hw : swappedStores [tg] e X.env = pure none := by rfl) (ha : (assignEach [tg] X.env).map (fun x => x.2) = [assign tg X.env] := by rfl) : DS X W (.Assign [tg] e pos) (sAsg fe fg) := (ps_asg he hg hs hw ha).imp fun Dn σ H ⟨B, tb, ρ, S, w, e, q⟩ =>
  LE.stepS w e q fun d S1 B1 tb1 H1 v x1 w1 e1 r1 h1 => LG.stepS w1 e1 r1 h1 fun ρ' S2 B2 tb2 H2 σ2 x2 w2 e2 h2 => h2.nx' w2 e2
theorem ds_if {c : Expr} {p q : List Stmt} {t : FT} (hc : DT X W c t) (ha : DSs X W p f) (hb : DSs X W q g) : DS X W (.If c p q pos) (sIf t f g) := (ps_if hc ha hb).imp fun Dn σ H ⟨B, tb, ρ, S, w, e, q⟩ =>
  LT.stepS w e q fun b S1 B1 tb1 H1 x1 w1 e1 h1 => by
    cases b with
    | true => rw [if_pos rfl] at h1 ⊢; exact ⟨B1, tb1, ρ, S1, w1, e1, h1⟩
    | false => rw [if_neg (by decide)] at h1 ⊢; exact ⟨B1, tb1, ρ, S1, w1, e1, h1⟩
/-- a, b = e1, e2 with both sides written, two local names -/
def sPar (fa : FA) (is : List Nat) : FS := fun ρ S => (fa ρ S).st ρ fun ds S => match bindPs (is.map .nm) ds ρ with
  | some ρ' => .ok (.nx ρ') S
  | none => .no
theorem ds_par2 {i j : Nat} {x y : Str} {a b : Expr} {fa : FA} {px py pt : Pos} {kt k2 pt2} (hc : X.calm = true) (hN : X.N.Nodup) (hi : X.N[i]? = some x) (hj : X.N[j]? = some y) (hij : i ≠ j) (hx : X.env.scope.names.lookup x = some .local) (hy : X.env.scope.names.lookup y = some .local)
    (ha : DA X W [a, b] fa) (hw : swappedStores [.Tuple [.Name x px, .Name y py] kt pt] (.Tuple [a, b] k2 pt2) X.env = pure (some [x, y])) (hs : swapsWithSole [.Tuple [.Name x px, .Name y py] kt pt] (.Tuple [a, b] k2 pt2) pos.line X.env = pure false := by rfl) :
    DS X W (.Assign [.Tuple [.Name x px, .Name y py] kt pt] (.Tuple [a, b] k2 pt2) pos) (sPar fa [i, j]) := (ps_par hc hN hi hj hij hx hy ha hw hs).imp fun Dn σ H ⟨B, tb, ρ, S, w, e, q⟩ =>
  LA.stepS w e q fun ds S1 B1 tb1 H1 vs x1 w1 e1 r1 h1 => by
    cases ds with
    | nil => exact h1.elim
    | cons d ds =>
      cases ds with
      | nil => exact h1.elim
      | cons d2 ds =>
        cases ds with
        | cons d3 ds => exact h1.elim
        | nil =>
          simp only [reps] at r1
          obtain ⟨v, t, rfl, q1, v2, t2, rfl, q2, rfl⟩ := r1
          exact ⟨v, v2, rfl, PostS.nx' (ρ := (ρ.set i (some d)).set j (some d2)) h1 w1 ((e1.set i q1).set j q2)⟩
end
end Qd

namespace Qd
open PySem L2

/-! ### what is walked -/
/-- an iterator that gives just these -/
def ItOk (K : PySem.W.Frag) (J : It) (ds : List D) (B0 : Hp) (tb0 : Tb) : Prop := ∀ (i : Nat) (B : Hp) (tb : Tb) (H : Hp) (S : Sto), (∀ a o, B0 a = some o → B a = some o) → (∀ (k : Nat) (a : Addr), tb0.l[k]? = some a → tb.l[k]? = some a) → Wd K H B tb S →
  (∀ d, ds[i]? = some d → J.go i H ∧ ∀ x H', J.yld i H x H' → ∃ B', Ex B tb B' tb ∧ Wd K H' B' tb S ∧ rep K B' tb d x) ∧ (i = ds.length → J.stop i H)
abbrev FI := Rho → Sto → R (List D)
def LI (K : PySem.W.Frag) (W : WX) (f : FI) : TI := fun σ H Rk => ∃ B tb ρ S, Wd K H B tb S ∧ repE K B tb ρ σ ∧ Post K B tb W σ (f ρ S) fun ds _ B' tb' H' => ∀ J, ItOk K J ds B' tb' → Rk J H'
theorem _root_.L2.PI.imp {X : Cx} {tg e : Expr} {t t' : TI} (h : PI X tg e t) (i : ∀ σ H Rk, t' σ H Rk → t σ H Rk) : PI X tg e t' := ⟨fun pins s σ H Rk I q => h.run pins s σ H Rk I (i σ H Rk q)⟩
theorem _root_.L2.PI.or {X : Cx} {tg e : Expr} {t t' : TI} (h : PI X tg e t) (h' : PI X tg e t') : PI X tg e (fun σ H Rk => t σ H Rk ∨ t' σ H Rk) := ⟨fun pins s σ H Rk I q => q.elim (h.run pins s σ H Rk I) (h'.run pins s σ H Rk I)⟩
abbrev DI (X : Cx) (W : WX) (tg e : Expr) (f : FI) : Prop := PI X tg e (LI X.K W f)
section
variable {K : PySem.W.Frag} {H B : Hp} {tb : Tb} {W : WX} {σ : L2.St} {ρ : Rho} {S : Sto}
theorem LI.step {β : Type} {f : FI} {g : List D → Sto → R β} {k : β → Sto → Hp → Tb → Hp → Prop} (w : Wd K H B tb S) (e : repE K B tb ρ σ) (h : Post K B tb W σ ((f ρ S).bind g) k) {Q : It → Hp → Prop}
    (hq : ∀ d S1 B1 tb1 H1 J, Ex B tb B1 tb1 → Wd K H1 B1 tb1 S1 → repE K B1 tb1 ρ σ → ItOk K J d B1 tb1 → Post K B1 tb1 W σ (g d S1) k → Q J H1) : LI K W f σ H Q := by
  refine ⟨B, tb, ρ, S, w, e, ?_⟩
  cases q : f ρ S with
  | ok d S1 => rw [q] at h; exact fun B1 tb1 H1 e1 w1 J r => hq d S1 B1 tb1 H1 J e1 w1 (e.ex e1) r (h.mono e1)
  | er C ns vs S1 => rw [q] at h; exact h
  | no => rw [q] at h; exact h
theorem LI.stepS {f : FI} {g : List D → Sto → R Out} {Dn : Ends} (w : Wd K H B tb S) (e : repE K B tb ρ σ) (h : PostS K B tb W Dn ((f ρ S).st ρ g)) {Q : It → Hp → Prop}
    (hq : ∀ d S1 B1 tb1 H1 J, Ex B tb B1 tb1 → Wd K H1 B1 tb1 S1 → repE K B1 tb1 ρ σ → ItOk K J d B1 tb1 → PostS K B1 tb1 W Dn (g d S1) → Q J H1) : LI K W f σ H Q := by
  refine ⟨B, tb, ρ, S, w, e, ?_⟩
  cases q : f ρ S with
  | ok d S1 => rw [q] at h; exact fun B1 tb1 H1 e1 w1 J r => hq d S1 B1 tb1 H1 J e1 w1 (e.ex e1) r (h.mono e1)
  | er C ns vs S1 => rw [q] at h; exact fun B1 tb1 H1 e1 w1 => h B1 tb1 H1 σ e1 w1 (e.ex e1)
  | no => rw [q] at h; exact h
/-- a list or tuple that never changes -/
def frOf : D → Option (List D)
  | .tup ds => some ds
  | .scr ds => some ds
  | .lst ds => some ds
  | _ => none
theorem itOk_list {a : Addr} {vs : List V} {ds : List D} (h : ∀ (B' : Hp) (H' : Hp), (∀ a o, B a = some o → B' a = some o) → (∀ a o, B' a = some o → H' a = some o) → SqL K H' a vs) (r : reps K B tb ds vs) : ItOk K (Itl K a) ds B tb := by
  intro i B1 tb1 H1 S1 s t w
  have hl := h B1 H1 s w.sub
  refine ⟨fun d hd => ?_, fun e => ⟨vs, hl, by rw [reps_len r, e]; exact Nat.le_refl _⟩⟩
  obtain ⟨v, h1, h2⟩ := reps_get r hd
  exact ⟨⟨vs, v, hl, h1⟩, fun x H' ⟨e, q⟩ => by
    subst e
    have := q vs hl
    rw [h1] at this; cases this
    exact ⟨B1, Ex.refl _ _, w, rep_mono s t _ _ h2⟩⟩
theorem itOk_tup {a : Addr} {vs : List V} {ds : List D} (h : TpB K B a vs) (r : reps K B tb ds vs) : ItOk K (Itt K a) ds B tb := by
  intro i B1 tb1 H1 S1 s t w
  have hl : SqT K H1 a vs := SqT.ex w.sub (TpB.ex s h)
  refine ⟨fun d hd => ?_, fun e => ⟨vs, hl, by rw [reps_len r, e]; exact Nat.le_refl _⟩⟩
  obtain ⟨v, h1, h2⟩ := reps_get r hd
  exact ⟨⟨vs, v, hl, h1⟩, fun x H' ⟨e, q⟩ => by
    subst e
    have := q vs hl
    rw [h1] at this; cases this
    exact ⟨B1, Ex.refl _ _, w, rep_mono s t _ _ h2⟩⟩
def iSeq (f : FE) : FI := fun ρ S => (f ρ S).bind fun d S => match frOf d with
  | some ds => .ok ds S
  | none => .no
def rangeD (lo : Int) (n : Nat) : List D := (List.range n).map fun (i : Nat) => .int (lo + (i : Int))
theorem itOk_range {lo : Int} {n : Nat} : ItOk K (Itr lo n) (rangeD lo n) B tb := by
  intro i B1 tb1 H1 S1 s t w
  have hl : (rangeD lo n).length = n := by simp [rangeD]
  refine ⟨fun d hd => ?_, fun e => by rw [hl] at e; exact Nat.le_of_eq e.symm⟩
  have hi : i < n := by rw [← hl]; exact (List.getElem?_eq_some_iff.mp hd).1
  refine ⟨hi, fun x H' ⟨e, q⟩ => ?_⟩
  subst e q
  refine ⟨B1, Ex.refl _ _, w, ?_⟩
  have : d = .int (lo + (i : Int)) := by
    unfold rangeD at hd
    rw [List.getElem?_map, List.getElem?_range hi] at hd
    exact (Option.some.inj hd).symm
  rw [this]; exact rep_int
@[irreducible] def small62 (i : Int) : Bool := decide (-(2 ^ 62) ≤ i) && decide (i < 2 ^ 62)
def iRange1 (f : FE) : FI := fun ρ S => (f ρ S).bind fun d S => match d with
  | .int j => chk (small62 j) (.ok (rangeD 0 j.toNat) S)
  | _ => .no
def iRange2 (f g : FE) : FI := fun ρ S => (f ρ S).bind fun d S => (g ρ S).bind fun e S => match d, e with
  | .int i, .int j => chk (small62 i && small62 j) (.ok (rangeD i (j - i).toNat) S)
  | _, _ => .no
end
section
variable {X : Cx} {W : WX} {e : Expr} {f g : FE} {tg : Expr} {pos p : Pos}
theorem LE.stepEq {K : PySem.W.Frag} {H B : Hp} {tb : Tb} {σ : L2.St} {ρ : Rho} {S S0 : Sto} {d0 : D} {β : Type} {f : FE} {g : D → Sto → R β} {k : β → Sto → Hp → Tb → Hp → Prop} (z : f ρ S = .ok d0 S0) (w : Wd K H B tb S) (e : repE K B tb ρ σ) (h : Post K B tb W σ (g d0 S0) k) {Q : V → Hp → Prop}
    (hq : ∀ B1 tb1 H1 v, Ex B tb B1 tb1 → Wd K H1 B1 tb1 S0 → repE K B1 tb1 ρ σ → rep K B1 tb1 d0 v → Post K B1 tb1 W σ (g d0 S0) k → Q v H1) : LE K W f σ H Q := by
  refine ⟨B, tb, ρ, S, w, e, ?_⟩
  rw [z]
  exact fun B1 tb1 H1 e1 w1 v r => hq B1 tb1 H1 v e1 w1 (e.ex e1) r (h.mono e1)
theorem di_seq (he : DE X W e f) : DI X W tg e (iSeq f) := ((pi_list he).or (pi_tup he)).imp fun σ H Rk ⟨B, tb, ρ, S, w, e, q⟩ => by
  unfold iSeq at q
  cases z : f ρ S with
  | er C ns vs S1 => rw [z] at q; exact .inl ⟨B, tb, ρ, S, w, e, by rw [z]; exact q⟩
  | no => rw [z] at q; exact q.elim
  | ok d S1 =>
    rw [z] at q
    simp only [bind_ok] at q
    cases d with
    | tup ds =>
      refine .inr (LE.stepEq (g := fun d S => match frOf d with | some ds => .ok ds S | none => .no) z w e q fun B1 tb1 H1 v x1 w1 e1 r1 h1 => ?_)
      simp only [rep] at r1
      obtain ⟨a, vs, rfl, h2, h3⟩ := r1
      exact ⟨a, rfl, ⟨vs, SqT.ex w1.sub h2⟩, Post.ok (k := fun ds _ B' tb' H' => ∀ J, ItOk X.K J ds B' tb' → Rk J H') h1 w1 _ (itOk_tup h2 h3)⟩
    | lst ds =>
      refine .inl (LE.stepEq (g := fun d S => match frOf d with | some ds => .ok ds S | none => .no) z w e q fun B1 tb1 H1 v x1 w1 e1 r1 h1 => ?_)
      simp only [rep] at r1
      obtain ⟨a, vs, rfl, h2, h3⟩ := r1
      exact ⟨a, rfl, ⟨vs, SqL.of (w1.sub _ _ h2)⟩, Post.ok (k := fun ds _ B' tb' H' => ∀ J, ItOk X.K J ds B' tb' → Rk J H') h1 w1 _ (itOk_list (fun B' H' s u => SqL.of (u _ _ (s _ _ h2))) h3)⟩
    | scr ds =>
      refine .inl (LE.stepEq (g := fun d S => match frOf d with | some ds => .ok ds S | none => .no) z w e q fun B1 tb1 H1 v x1 w1 e1 r1 h1 => ?_)
      simp only [rep] at r1
      obtain ⟨a, vs, rfl, h2, h3⟩ := r1
      exact ⟨a, rfl, ⟨vs, SqL.ex w1.sub h2⟩, Post.ok (k := fun ds _ B' tb' H' => ∀ J, ItOk X.K J ds B' tb' → Rk J H') h1 w1 _ (itOk_list (fun B' H' s u => SqL.ex u (SqL.ex s h2)) h3)⟩
    | _ => exact q.elim
theorem tCons_nil {K : PySem.W.Frag} {σ : L2.St} {H : Hp} {P : List V → Hp → Prop} (h : LE K W f σ H fun v H1 => P [v] H1) : tCons (LE K W f) tNil σ H P := h
theorem di_range1 {a : Expr} (hg : Gl X "range") (hm : X.mg "range" = none) (ha : DE X W a f) (hs : starEach [a] X.env = [(false, eval a X.env)] := by rfl) (hs2 : starEach (a :: []) X.env = (false, eval a X.env) :: starEach [] X.env := by rfl) : DI X W tg (.Call (.Name "range" p) [a] [] pos) (iRange1 f) :=
  (pi_range1 hg hm (pa_cons ha pa_nil hs2) hs).imp fun σ H Rk ⟨B, tb, ρ, S, w, e, q⟩ =>
    LE.step w e q fun d S1 B1 tb1 H1 v x1 w1 e1 r1 h1 => by
      cases d with
      | int j =>
        obtain ⟨c, h1⟩ := chk_ok h1
        unfold small62 at c
        simp only [Bool.and_eq_true, decide_eq_true_eq] at c
        simp only [rep] at r1; subst r1
        exact ⟨j, rfl, c.1, c.2, h1.ok w1 _ itOk_range⟩
      | _ => exact h1.elim
theorem di_range2 {a b : Expr} (hg : Gl X "range") (hm : X.mg "range" = none) (ha : DE X W a f) (hb : DE X W b g) (hs : starEach [a, b] X.env = [(false, eval a X.env), (false, eval b X.env)] := by rfl) (hs2 : starEach [b] X.env = [(false, eval b X.env)] := by rfl)
    (hs3 : starEach (a :: [b]) X.env = (false, eval a X.env) :: starEach [b] X.env := by rfl) (hs4 : starEach (b :: []) X.env = (false, eval b X.env) :: starEach [] X.env := by rfl) : DI X W tg (.Call (.Name "range" p) [a, b] [] pos) (iRange2 f g) :=
  (pi_range2 hg hm (pa_cons ha (pa_cons hb pa_nil hs4) hs3) hs hs2).imp fun σ H Rk ⟨B, tb, ρ, S, w, e, q⟩ =>
    LE.step w e q fun d S1 B1 tb1 H1 v x1 w1 e1 r1 h1 => LE.step w1 e1 h1 fun d2 S2 B2 tb2 H2 v2 x2 w2 e2 r2 h2 => by
      split at h2
      · rename_i i j
        obtain ⟨c, h2⟩ := chk_ok h2
        unfold small62 at c
        simp only [Bool.and_eq_true, decide_eq_true_eq] at c
        simp only [rep] at r1 r2; subst r1 r2
        exact ⟨i, j, rfl, ⟨c.1.1, c.1.2, c.2.1, c.2.2⟩, h2.ok w2 _ itOk_range⟩
      · exact h2.elim
end

/-! ### for -/
def loop (p : Pt) (body : FS) : List D → Rho → Sto → R Out
  | [], ρ, S => .ok (.nx ρ) S
  | d :: ds, ρ, S => match bindP p d ρ with
    | none => .no
    | some ρ1 => match body ρ1 S with
      | .ok (.nx ρ2) S2 => loop p body ds ρ2 S2
      | .ok (.ct ρ2) S2 => loop p body ds ρ2 S2
      | .ok (.bk ρ2) S2 => .ok (.nx ρ2) S2
      | r => r
def sFor (fi : FI) (p : Pt) (body : FS) : FS := fun ρ S => (fi ρ S).st ρ fun ds S => loop p body ds ρ S
section
variable {X : Cx} {W : WX} {tg iter : Expr} {fi : FI} {p : Pt} {fb : FS} {body : List Stmt} {pos : Pos}
theorem drop_eq {ds : List D} {i : Nat} (h : i < ds.length) : ds.drop i = ds[i] :: ds.drop (i + 1) := List.drop_eq_getElem_cons h
theorem ds_for (hp : PassesOwn (model X.prog X.w) X.A X.env X.xe) (hc : X.calm = true) (hi : DI X W tg iter fi) (hg : PG X tg (tgP X.K p)) (hb : DSs X W body fb) (hs : ∀ x, foldedSetIterable iter X.env x = pure x := by intro _; rfl) : DS X W (.For tg iter body [] pos) (sFor fi p fb) :=
  (ps_for hp hc hi hg hb hs).imp fun Dn σ H ⟨B, tb, ρ, S, w, e, q⟩ => by
    refine LI.stepS w e q fun ds S1 B1 tb1 H1 J x1 w1 e1 it h1 => ?_
    refine ⟨fun i m σ H => ∃ B tb ρ S, Ex B1 tb1 B tb ∧ Wd X.K H B tb S ∧ repE X.K B tb ρ σ ∧ m = ds.length - i ∧ i ≤ ds.length ∧ PostS X.K B tb W Dn (loop p fb (ds.drop i) ρ S), ⟨_, B1, tb1, ρ, S1, Ex.refl _ _, w1, e1, rfl, Nat.zero_le _, h1⟩, ?_⟩
    rintro i m σ2 H2 ⟨B2, tb2, ρ2, S2, x2, w2, e2, rfl, hi, h2⟩
    have itx := it i B2 tb2 H2 S2 x2.sub (fun _ _ => x2.at_) w2
    by_cases hlt : i < ds.length
    · obtain ⟨go, yl⟩ := itx.1 ds[i] (by simp [hlt])
      refine .inr ⟨go, fun σ' H' => ∃ B tb ρ S, Ex B1 tb1 B tb ∧ Wd X.K H' B tb S ∧ repE X.K B tb ρ σ' ∧ PostS X.K B tb W Dn (loop p fb (ds.drop (i + 1)) ρ S), fun σ' H' ⟨B, tb, ρ, S, q1, q2, q3, q4⟩ => ⟨ds.length - (i + 1), by omega, B, tb, ρ, S, q1, q2, q3, rfl, hlt, q4⟩, fun x H' y => ?_⟩
      obtain ⟨B3, x3, w3, r3⟩ := yl x H' y
      rw [drop_eq hlt] at h2
      simp only [loop] at h2
      cases z : bindP p ds[i] ρ2 with
      | none => rw [z] at h2; exact h2.elim
      | some ρ3 =>
        rw [z] at h2
        refine bindP_ok w3.sub p _ x ρ2 ρ3 σ2 _ z r3 (e2.ex x3) fun σ3 e3 _ => ⟨B3, tb2, ρ3, S2, w3, e3, ?_⟩
        have h3 := h2.mono x3
        simp only at h3
        cases y : fb ρ3 S2 with
        | ok o S4 =>
          rw [y] at h3
          cases o with
          | nx ρ4 => exact fun B4 tb4 H4 σ4 x4 w4 e4 => ⟨B4, tb4, ρ4, S4, (x2.trans x3).trans x4, w4, e4, PostS.mono x4 h3⟩
          | ct ρ4 => exact fun B4 tb4 H4 σ4 x4 w4 e4 => ⟨B4, tb4, ρ4, S4, (x2.trans x3).trans x4, w4, e4, PostS.mono x4 h3⟩
          | bk ρ4 => exact h3
          | rt d => exact h3
          | xx ρ4 C ns vs => exact h3
        | er C ns vs S4 => rw [y] at h3; exact h3
        | no => rw [y] at h3; exact h3
    · have e0 : i = ds.length := by omega
      refine .inl ⟨itx.2 e0, ?_⟩
      subst e0
      rw [List.drop_length] at h2
      exact h2.nx' w2 e2
end

/-! ### list comprehensions -/
def wipeD (ρ : Rho) : List Nat → Rho
  | [] => ρ
  | v :: vs => (wipeD ρ vs).set v none
theorem repE.wipe {K : PySem.W.Frag} {B : Hp} {tb : Tb} {ρ : Rho} {σ : L2.St} (h : repE K B tb ρ σ) : ∀ vs : List Nat, repE K B tb (wipeD ρ vs) (wipe σ vs)
  | [] => h
  | v :: vs => (repE.wipe h vs).forget v none
def comp (p : Pt) (tt : FT) (te : FE) (ρ : Rho) : List D → Sto → List D → R (List D)
  | [], S, acc => .ok acc S
  | d :: ds, S, acc => match bindP p d ρ with
    | none => .no
    | some ρ1 => match tt ρ1 S with
      | .ok true S1 => (match te ρ1 S1 with
        | .ok y S2 => comp p tt te ρ ds S2 (acc ++ [y])
        | _ => .no)
      | .ok false S1 => comp p tt te ρ ds S1 acc
      | _ => .no
def finD (fin : Bool) (ys : List D) (S : Sto) : R D := match fin with
  | true => .ok (.lst ys) S
  | false => .ok (.obj S.next) (S.push (.lst ys))
def eCompG (fin : Bool) (fi : FI) (p : Pt) (tt : FT) (te : FE) (own : List Nat) : FE := fun ρ S => (fi ρ S).bind fun ds S => chk (decide (ds.length ≤ line)) ((comp p tt te (wipeD ρ own) ds S []).bind fun ys S => finD fin ys S)
/-- a list that will change -/
def eCompM (fi : FI) (p : Pt) (tt : FT) (te : FE) (own : List Nat) : FE := fun ρ S => (fi ρ S).bind fun ds S => chk (decide (ds.length ≤ line)) ((comp p tt te (wipeD ρ own) ds S []).bind fun ys S => .ok (.obj S.next) (S.push (.lst ys)))
def eComp (fi : FI) (p : Pt) (tt : FT) (te : FE) (own : List Nat) : FE := fun ρ S => (fi ρ S).bind fun ds S => chk (decide (ds.length ≤ line)) ((comp p tt te (wipeD ρ own) ds S []).bind fun ys S => .ok (.lst ys) S)
def tYesD : FT := fun _ S => .ok true S
abbrev WF : WX := fun _ _ _ _ => False
abbrev DTs (X : Cx) (W : WX) (e : List Expr) (f : FT) : Prop := PTs X e (LT X.K W f)
theorem dts_nil {X : Cx} {W : WX} : DTs X W [] tYesD := ⟨fun pins s σ H Q I ⟨B, tb, ρ, S, w, e, q⟩ => L2.pts_nil.run pins s σ H Q I (q.ok w)⟩
theorem wipe_idem (σ : L2.St) (vs : List Nat) : wipe (wipe σ vs) vs = wipe σ vs := by
  apply List.ext_getElem?
  intro j
  rw [wipe_get, wipe_length]
  by_cases h : j ∈ vs
  · rw [if_pos h, wipe_get, if_pos h]
  · rw [if_neg h]
/-- what stands beside and is not told of: not in B, no changing object, not held -/
structure Beside (B : Hp) (tb : Tb) (S : Sto) (p : Addr) : Prop where
  b : B p = none
  l : ∀ (k : Nat) (d : D), S.m[k]? = some (some d) → tb.l[k]? ≠ some p
  f : tb.F p = none
section
variable {K : PySem.W.Frag} {H B : Hp} {tb : Tb} {S : Sto} {p : Addr} {o o' : HO}
theorem Wd.beside (w : Wd K H B tb S) (hp : H p = none) : Beside B tb S p := by
  refine ⟨w.none_of hp, fun k d hk ha => ?_, ?_⟩
  · obtain ⟨_, _, u, hu⟩ := w.live hk ha
    rw [hp] at hu; cases hu
  · cases e : tb.F p with
    | none => rfl
    | some u => have := (w.fr p u e).1; rw [hp] at this; cases this
theorem Wd.heldB {F0 : Hp} (w : Wd K H B tb S) (hF : tb.F = upd F0 p o) : H p = some o ∧ B p = none ∧ ∀ (k : Nat) (d : D), S.m[k]? = some (some d) → tb.l[k]? ≠ some p := w.fr p o (by rw [hF]; exact upd_same)
theorem Wd.unhold {F0 : Hp} (w : Wd K H B tb S) (hF : tb.F = upd F0 p o) (h0 : F0 p = none) : Wd K (upd H p o') B ⟨tb.l, F0⟩ S ∧ Beside B ⟨tb.l, F0⟩ S p := by
  obtain ⟨h1, h2, h3⟩ := w.heldB hF
  refine ⟨⟨fun a u h => ?_, w.len, fun k d h => ?_, fun a u h => ?_, w.inj, fun a u h => w.fl a u (by
    have h' : F0 a = some u := h
    rw [hF, upd_ne (ne_of_none h' h0)]; exact h')⟩, h2, h3, h0⟩
  · rw [upd_ne (ne_of_none h h2)]; exact w.sub _ _ h
  · obtain ⟨a, q1, q2, q3⟩ := w.at_ k d h
    have ne : a ≠ p := fun z => h3 k d h (z ▸ q1)
    exact ⟨a, q1, q2, orep_ex (Ex.refl _ _) (upd_ne ne) (orep_tab (tb := tb) (tb' := ⟨tb.l, F0⟩) rfl q3)⟩
  · have h' : F0 a = some u := h
    have ne : a ≠ p := ne_of_none h' h0
    obtain ⟨r1, r2, r3⟩ := w.fr a u (by rw [hF, upd_ne ne]; exact h')
    exact ⟨by rw [upd_ne ne]; exact r1, r2, r3⟩
theorem Wd.keep (w : Wd K H B tb S) (b : Beside B tb S p) (hp : H p = some o) : Wd K H (upd B p o) tb S ∧ Ex B tb (upd B p o) tb := by
  have ex : Ex B tb (upd B p o) tb := ⟨fun a u h => by rw [upd_ne (ne_of_none h b.b)]; exact h, ⟨[], by simp⟩, rfl⟩
  refine ⟨⟨fun a u h => ?_, w.len, fun k d h => ?_, fun a u h => ?_, w.inj, w.fl⟩, ex⟩
  · by_cases e : a = p
    · subst e; rw [upd_same] at h; cases h; exact hp
    · rw [upd_ne e] at h; exact w.sub _ _ h
  · obtain ⟨a, q1, q2, q3⟩ := w.at_ k d h
    have ne : a ≠ p := fun z => b.l k d h (z ▸ q1)
    exact ⟨a, q1, by rw [upd_ne ne]; exact q2, orep_ex ex rfl q3⟩
  · obtain ⟨r1, r2, r3⟩ := w.fr a u h
    have ne : a ≠ p := ne_of_none h b.f
    exact ⟨r1, by rw [upd_ne ne]; exact r2, r3⟩
end
theorem Wd.pushB {K : PySem.W.Frag} {H B : Hp} {tb : Tb} {S : Sto} {p : Addr} {d : D} (w : Wd K H B tb S) (b : Beside B tb S p) (h : orep K H B (tb.add p) d p) : Wd K H B (tb.add p) (S.push d) ∧ Ex B tb B (tb.add p) ∧ (tb.add p).l[S.next]? = some p := by
  have ex : Ex B tb B (tb.add p) := ⟨fun _ _ h => h, ⟨[p], rfl⟩, rfl⟩
  have hn : (tb.add p).l[S.next]? = some p := by
    unfold Sto.next Tb.add
    rw [← w.len]
    simp
  have old : ∀ {i : Nat} {e : D} {c : Addr}, S.m[i]? = some (some e) → (tb.add p).l[i]? = some c → tb.l[i]? = some c ∧ c ≠ p := fun {i e c} q r => by
    obtain ⟨c', q1, _, _⟩ := w.at_ i e q
    have q4 := ex.at_ q1
    rw [q4] at r; cases r
    exact ⟨q1, fun z => b.l i e q (z ▸ q1)⟩
  refine ⟨⟨w.sub, ?_, fun k e h' => ?_, fun a u h' => ?_, fun j k a e1 e2 h1 h2 h3 h4 => ?_, w.fl⟩, ex, hn⟩
  · unfold Sto.push Tb.add; simp [w.len]; omega
  · rcases push_get h' with h' | ⟨rfl, rfl⟩
    · obtain ⟨a, h1, h2, h3⟩ := w.at_ k e h'
      exact ⟨a, ex.at_ h1, h2, orep_ex ex rfl h3⟩
    · exact ⟨p, hn, b.b, h⟩
  · obtain ⟨h1, h2, h3⟩ := w.fr a u h'
    have ne : a ≠ p := ne_of_none h' b.f
    refine ⟨h1, h2, fun k e hk ha => ?_⟩
    rcases push_get hk with hk | ⟨rfl, rfl⟩
    · exact h3 k e hk (old hk ha).1
    · rw [hn] at ha; cases ha; exact ne rfl
  · rcases push_get h1 with q1 | ⟨rfl, rfl⟩
    · rcases push_get h2 with q2 | ⟨rfl, rfl⟩
      · exact w.inj _ _ _ _ _ q1 q2 (old q1 h3).1 (old q2 h4).1
      · rw [hn] at h4; cases h4; exact absurd rfl (old q1 h3).2
    · rcases push_get h2 with q2 | ⟨rfl, rfl⟩
      · rw [hn] at h3; cases h3; exact absurd rfl (old q2 h4).2
      · rfl
section
variable {X : Cx} {W : WX} {elt tg iter : Expr} {ifs : List Expr} {scope : Scope} {own : List (Str × Nat)} {pos : Pos} {fi : FI} {p : Pt} {tt : FT} {te : FE}
theorem comp_fit {σ : L2.St} {H : Hp} {Q : VK} (fin : Bool) (hsl : ∀ i ∈ slotsP p, i ∈ own.map (·.2)) (h : LE X.K W (eCompG fin fi p tt te (own.map (·.2))) σ H Q) : tLc (LI X.K W fi) (tgP X.K p) (LT X.K WF tt) (LE X.K WF te) (own.map (·.2)) σ H Q := by
  obtain ⟨B, tb, ρ, S, w, e, q⟩ := h
  refine LI.step w e q fun ds S1 B1 tb1 H1 J x1 w1 e1 it h1 => ?_
  obtain ⟨c, h1⟩ := chk_ok h1
  have hlen : ds.length ≤ line := of_decide_eq_true c
  intro Dd hD
  have b1 := w1.beside hD
  refine ⟨fun i m H => ∃ B tb S acc av, Ex B1 tb1 B tb ∧ Wd X.K H B tb S ∧ H Dd = some (.lst av) ∧ Beside B tb S Dd ∧ reps X.K B tb acc av ∧ acc.length ≤ i ∧ m = ds.length - i ∧ i ≤ ds.length ∧
    Post X.K B tb W σ ((comp p tt te (wipeD ρ (own.map (·.2))) (ds.drop i) S acc).bind fun ys S => finD fin ys S) (fun d _ B' tb' H' => ∀ v, rep X.K B' tb' d v → Q v H'), ⟨_, B1, tb1, S1, [], [], Ex.refl _ _, w1.more hD _, upd_same, b1, reps_nil, Nat.le_refl _, rfl, Nat.zero_le _, h1⟩, ?_⟩
  rintro i m H2 ⟨B2, tb2, S2, acc, av, x2, w2, d2, b2, r2, la, rfl, hi, h2⟩
  by_cases hlt : i < ds.length
  · have wh := w2.hold d2 b2.b b2.l
    have itx := it i B2 (tb2.hold Dd (.lst av)) H2 S2 x2.sub (fun _ _ => x2.at_) wh
    obtain ⟨go, yl⟩ := itx.1 ds[i] (by simp [hlt])
    refine .inr ⟨go, fun H' => ∃ B tb S acc av, Ex B1 tb1 B tb ∧ Wd X.K H' B tb S ∧ H' Dd = some (.lst av) ∧ Beside B tb S Dd ∧ reps X.K B tb acc av ∧ acc.length ≤ i + 1 ∧
      Post X.K B tb W σ ((comp p tt te (wipeD ρ (own.map (·.2))) (ds.drop (i + 1)) S acc).bind fun ys S => finD fin ys S) (fun d _ B' tb' H' => ∀ v, rep X.K B' tb' d v → Q v H'),
      fun H' ⟨B, tb, S, acc, av, q1, q2, q3, q4, q5, q6, q7⟩ => ⟨ds.length - (i + 1), by omega, B, tb, S, acc, av, q1, q2, q3, q4, q5, q6, rfl, hlt, q7⟩, fun x H' y => ?_⟩
    obtain ⟨B3, x3, w3, r3⟩ := yl x H' y
    rw [drop_eq hlt] at h2
    simp only [comp] at h2
    cases z : bindP p ds[i] (wipeD ρ (own.map (·.2))) with
    | none => rw [z] at h2; exact h2.elim
    | some ρ3 =>
      rw [z] at h2
      simp only at h2
      have e3 : repE X.K B3 (tb2.hold Dd (.lst av)) (wipeD ρ (own.map (·.2))) (wipe σ (own.map (·.2))) := repE.wipe ⟨e1.1, fun j d hj => by
        obtain ⟨u, u1, u2⟩ := e1.2 j d hj
        exact ⟨u, u1, rep_ex x3 _ _ (rep_tab (tb := tb2) (tb' := tb2.hold Dd (.lst av)) rfl (rep_ex x2 _ _ u2))⟩⟩ _
      refine bindP_ok w3.sub p _ x _ ρ3 _ _ z r3 e3 fun σ3 e3' hw => ⟨by rw [hw _ hsl, wipe_idem], ?_⟩
      have base : ∀ {B4 : Hp} {tb4 : Tb} {H4 : Hp} {S4 : Sto} {acc' : List D} {av' : List V}, Ex B3 (tb2.hold Dd (.lst av)) B4 tb4 → Wd X.K H4 B4 tb4 S4 → reps X.K B4 tb4 acc' av' → acc'.length ≤ i + 1 →
          Post X.K B2 tb2 W σ ((comp p tt te (wipeD ρ (own.map (·.2))) (ds.drop (i + 1)) S4 acc').bind fun ys S => finD fin ys S) (fun d _ B' tb' H' => ∀ v, rep X.K B' tb' d v → Q v H') →
          ∃ B tb S acc av, Ex B1 tb1 B tb ∧ Wd X.K (upd H4 Dd (.lst av')) B tb S ∧ (upd H4 Dd (.lst av')) Dd = some (.lst av) ∧ Beside B tb S Dd ∧ reps X.K B tb acc av ∧ acc.length ≤ i + 1 ∧
            Post X.K B tb W σ ((comp p tt te (wipeD ρ (own.map (·.2))) (ds.drop (i + 1)) S acc).bind fun ys S => finD fin ys S) (fun d _ B' tb' H' => ∀ v, rep X.K B' tb' d v → Q v H') := by
        intro B4 tb4 H4 S4 acc' av' x4 w4 r4 l4 h4
        have hF : tb4.F = upd tb2.F Dd (.lst av) := x4.fr
        obtain ⟨w5, b5⟩ := w4.unhold (o' := .lst av') hF b2.f
        have x5 : Ex B2 tb2 B4 ⟨tb4.l, tb2.F⟩ := ⟨fun a o h => x4.sub a o (x3.sub a o h), x4.tab, rfl⟩
        exact ⟨B4, ⟨tb4.l, tb2.F⟩, S4, acc', av', x2.trans x5, w5, upd_same, b5, reps_tab (tb := tb4) (tb' := ⟨tb4.l, tb2.F⟩) rfl r4, l4, h4.mono x5⟩
      refine ⟨B3, tb2.hold Dd (.lst av), ρ3, S2, w3, e3', ?_⟩
      cases y : tt ρ3 S2 with
      | er C ns vs S4 => rw [y] at h2; exact h2.elim
      | no => rw [y] at h2; exact h2.elim
      | ok b S4 =>
        rw [y] at h2
        intro B4 tb4 H4 x4 w4
        cases b with
        | false =>
          rw [if_neg (by decide)]
          simp only at h2
          have r4 : reps X.K B4 tb4 acc av := reps_ex (x3.trans x4) _ _ (reps_tab (tb := tb2) (tb' := tb2.hold Dd (.lst av)) rfl r2)
          have hh := base (acc' := acc) (av' := av) x4 w4 r4 (by omega) h2
          have hF : tb4.F = upd tb2.F Dd (.lst av) := x4.fr
          have he : upd H4 Dd (.lst av) = H4 := by
            funext a
            by_cases ea : a = Dd
            · rw [ea, upd_same]; exact (w4.heldB hF).1.symm
            · exact upd_ne ea
          rw [he] at hh
          exact hh
        | true =>
          rw [if_pos rfl]
          simp only at h2
          refine ⟨B4, tb4, ρ3, S4, w4, e3'.ex x4, ?_⟩
          cases y2 : te ρ3 S4 with
          | er C ns vs S5 => rw [y2] at h2; exact h2.elim
          | no => rw [y2] at h2; exact h2.elim
          | ok d S5 =>
            rw [y2] at h2
            intro B5 tb5 H5 x5 w5 v r5
            have r6 : reps X.K B5 tb5 acc av := reps_ex ((x3.trans x4).trans x5) _ _ (reps_tab (tb := tb2) (tb' := tb2.hold Dd (.lst av)) rfl r2)
            have hF : tb5.F = upd tb2.F Dd (.lst av) := (x4.trans x5).fr
            refine ⟨av, (w5.heldB hF).1, by rw [reps_len r2, line_eq]; omega, ?_⟩
            exact base (x4.trans x5) w5 (reps_append r6 (reps_cons r5 reps_nil)) (by simp; omega) h2
  · have e0 : i = ds.length := by omega
    have itx := it i B2 tb2 H2 S2 x2.sub (fun _ _ => x2.at_) w2
    refine .inl ⟨itx.2 e0, ?_⟩
    subst e0
    rw [List.drop_length] at h2
    simp only [comp, bind_ok] at h2
    cases fin with
    | true =>
      obtain ⟨w3, x3⟩ := w2.keep b2 d2
      refine h2 _ _ _ x3 w3 _ ?_
      simp only [rep]
      exact ⟨Dd, av, rfl, upd_same, reps_ex x3 _ _ r2⟩
    | false =>
      have e0 : Ex B2 tb2 B2 (tb2.add Dd) := ⟨fun _ _ h => h, ⟨[Dd], rfl⟩, rfl⟩
      obtain ⟨w3, x3, n3⟩ := w2.pushB b2 (d := .lst acc) ⟨av, d2, reps_ex e0 _ _ r2⟩
      refine h2 _ _ _ x3 w3 _ ?_
      simp only [rep]
      exact ⟨Dd, rfl, n3⟩
theorem d_compG (fin : Bool) (hc : X.calm = true) (hN : X.N.Nodup) (hi : DI X W tg iter fi) (ok : BlkOk X.N X.env.scope scope own) (hsl : ∀ i ∈ slotsP p, i ∈ own.map (·.2))
    (hg : ∀ (s : Shared) (H : Hp) (C : Addr) (cl : List (Str × Addr)) (fp : List Addr), PG (X.blk s H scope (compEnvC scope cl C X.env) fp) tg (tgP X.K p))
    (ht : ∀ (s : Shared) (H : Hp) (C : Addr) (cl : List (Str × Addr)) (fp : List Addr), DTs (X.blk s H scope (compEnvC scope cl C X.env) fp) WF ifs tt)
    (he : ∀ (s : Shared) (H : Hp) (C : Addr) (cl : List (Str × Addr)) (fp : List Addr), DE (X.blk s H scope (compEnvC scope cl C X.env) fp) WF elt te) (hs : ∀ x, foldedSetIterable iter X.env x = pure x := by intro _; rfl) :
    DE X W (.ListComp elt [⟨tg, iter, ifs, 0⟩] scope pos) (eCompG fin fi p tt te (own.map (·.2))) := (pe_lc (tt := LT X.K WF tt) (te := LE X.K WF te) hc hN hi ok hg ht he hs).imp fun _ _ _ h => comp_fit fin hsl h
theorem d_comp (hc : X.calm = true) (hN : X.N.Nodup) (hi : DI X W tg iter fi) (ok : BlkOk X.N X.env.scope scope own) (hsl : ∀ i ∈ slotsP p, i ∈ own.map (·.2))
    (hg : ∀ (s : Shared) (H : Hp) (C : Addr) (cl : List (Str × Addr)) (fp : List Addr), PG (X.blk s H scope (compEnvC scope cl C X.env) fp) tg (tgP X.K p))
    (ht : ∀ (s : Shared) (H : Hp) (C : Addr) (cl : List (Str × Addr)) (fp : List Addr), DTs (X.blk s H scope (compEnvC scope cl C X.env) fp) WF ifs tt)
    (he : ∀ (s : Shared) (H : Hp) (C : Addr) (cl : List (Str × Addr)) (fp : List Addr), DE (X.blk s H scope (compEnvC scope cl C X.env) fp) WF elt te) (hs : ∀ x, foldedSetIterable iter X.env x = pure x := by intro _; rfl) :
    DE X W (.ListComp elt [⟨tg, iter, ifs, 0⟩] scope pos) (eComp fi p tt te (own.map (·.2))) := d_compG true hc hN hi ok hsl hg ht he hs
theorem d_compM (hc : X.calm = true) (hN : X.N.Nodup) (hi : DI X W tg iter fi) (ok : BlkOk X.N X.env.scope scope own) (hsl : ∀ i ∈ slotsP p, i ∈ own.map (·.2))
    (hg : ∀ (s : Shared) (H : Hp) (C : Addr) (cl : List (Str × Addr)) (fp : List Addr), PG (X.blk s H scope (compEnvC scope cl C X.env) fp) tg (tgP X.K p))
    (ht : ∀ (s : Shared) (H : Hp) (C : Addr) (cl : List (Str × Addr)) (fp : List Addr), DTs (X.blk s H scope (compEnvC scope cl C X.env) fp) WF ifs tt)
    (he : ∀ (s : Shared) (H : Hp) (C : Addr) (cl : List (Str × Addr)) (fp : List Addr), DE (X.blk s H scope (compEnvC scope cl C X.env) fp) WF elt te) (hs : ∀ x, foldedSetIterable iter X.env x = pure x := by intro _; rfl) :
    DE X W (.ListComp elt [⟨tg, iter, ifs, 0⟩] scope pos) (eCompM fi p tt te (own.map (·.2))) := d_compG false hc hN hi ok hsl hg ht he hs
theorem ds_setC (fin : Bool) {i : Nat} {y : Str} {py spos : Pos} (hc : X.calm = true) (hN : X.N.Nodup) (hy : X.N[i]? = some y) (hyl : X.env.scope.names.lookup y = some .local) (hk : X.env.scope.kind = .function) (hl : (py.line == pos.line) = true)
    (ha : (scope.names.any fun (n, k) => n == y && (k == .local || k == .cell)) = false) (hi : DI X W tg iter fi) (ok : BlkOk X.N X.env.scope scope own) (hsl : ∀ i ∈ slotsP p, i ∈ own.map (·.2))
    (hg : ∀ (s : Shared) (H : Hp) (C : Addr) (cl : List (Str × Addr)) (fp : List Addr), PG (X.blk s H scope (compEnvC scope cl C X.env) fp) tg (tgP X.K p))
    (ht : ∀ (s : Shared) (H : Hp) (C : Addr) (cl : List (Str × Addr)) (fp : List Addr), DTs (X.blk s H scope (compEnvC scope cl C X.env) fp) WF ifs tt)
    (he : ∀ (s : Shared) (H : Hp) (C : Addr) (cl : List (Str × Addr)) (fp : List Addr), DE (X.blk s H scope (compEnvC scope cl C X.env) fp) WF elt te) (hs : ∀ x, foldedSetIterable iter X.env x = pure x := by intro _; rfl) :
    DS X W (.Assign [.Name y py] (.ListComp elt [⟨tg, iter, ifs, 0⟩] scope pos) spos) (sAsg (eCompG fin fi p tt te (own.map (·.2))) (gPt (.nm i))) :=
  (ps_setLc (tt := LT X.K WF tt) (te := LE X.K WF te) hc hN hy hyl (sw_true hk hyl hl ha) hi ok hg ht he hs).imp fun Dn σ H ⟨B, tb, ρ, S, w, e, q⟩ =>
    comp_fit fin hsl (LE.stepS (f := eCompG fin fi p tt te (own.map (·.2))) w e q fun d S1 B1 tb1 H1 v x1 w1 e1 r1 h1 => PostS.nx' (ρ := ρ.set i (some d)) h1 w1 (e1.set i r1))
end
end Qd

/-! Qg: promises of defs whose callers show nothing at the moment (no repr under way), and that may let an exception out -/
namespace Qd
open PySem L2 PyProof.Rows

/-- the modules' dict is part of the ground -/
def SmB (base : Heap) : Prop := ∃ o es n, base.get? sysModules = some o ∧ o.data = .dict es n
/-- FnOk, where it is known that nothing is being shown, and where the ground is told of -/
structure FnG (P : Program) (w : World) (K : PySem.W.Frag) (mg : Str → Option Value) (base : Heap) (k : Nat) (f : Addr) (fd : FuncData) (ps : List Str) (sp : Sp) : Prop where
  len : ∀ vs H Q E, sp vs H Q E → vs.length = ps.length
  go : ∀ (A : Around) (outer : List Env) (s : Shared) (H : Hp) (args : Args) (us : List Value) (vs : List V) (Q : VK) (E : XK),
    Room k A → A.guards = some [] → Env0 P w K mg base A outer s H → BindsTo s fd args (ps.zip us) → Vals vs us → sp vs H Q E →
      codeAny (model P w) A (.call (.ref f) args) (CR (L2.CX P w) outer P w H s Q E) s
section
variable {P : Program} {w : World} {K : PySem.W.Frag} {mg : Str → Option Value} {base : Heap}
theorem FnG.more {j k : Nat} {f : Addr} {fd : FuncData} {ps : List Str} {sp : Sp} (F : FnG P w K mg base j f fd ps sp) (h : j ≤ k) : FnG P w K mg base k f fd ps sp :=
  ⟨F.len, fun A o s H as us vs Q E hr => F.go A o s H as us vs Q E (hr.mono h)⟩
theorem CE_of {CX' : CXT} {N : List Str} {qual : Str} {scope : Scope} {f : Addr} {cdv : Value} {A : Around} {outer : List Env} {s s2 : Shared} {H H2 : Hp} {E : XK} {Q : VK} {τ : L2.St} {v : V} {u : Value}
    (J : Inv (cxOf CX' P w K mg base N qual scope f cdv A outer s H E) [] τ H2 s2) (rv : RelV v u) (q : Q v H2) : CE outer P w H s Q u s2 := ⟨v, H2, J.os, J.bare, J.base, J.hok, rv, q⟩
/-- a def by its body -/
theorem fnG_of {x qual : Str} {params : Arguments} {body : List Stmt} {scope : Scope} {dvs : List V} {kws : List (Str × V)} {f : Addr} {fd : FuncData} {N ps : List Str} {k : Nat} {sp : Sp} (F : FunD K x qual params body scope dvs kws f fd) (S : FnScope N ps scope)
    (len : ∀ vs H Q E, sp vs H Q E → vs.length = ps.length)
    (hb : ∀ (cdv : Value) (A : Around) (outer : List Env) (s : Shared) (H : Hp) (vs : List V) (Q : VK) (E : XK), Room k (A.deeper (envOfC qual scope s.heap.objs.size f cdv)) → A.guards = some [] → sp vs H Q E →
      ∃ t, PSs (cxOf (L2.CX P w) P w K mg base N qual scope f cdv A outer s H E) body t ∧ t { nx := fun _ H2 => Q .non H2, rt := Q } (start N vs) H) : FnG P w K mg base (k + 1) f fd ps sp := by
  obtain ⟨oc, od, dV, kV, doc, pm, an, cdv, ct, osl, rfl, lk, hcd, _, _⟩ := F.ex
  constructor
  · exact len
  intro A outer s H args us vs Q E hr gs e0 bt rv hsp
  have stays : ∀ b o, base.get? b = some o → s.heap.get? b = some o := fun b o e => (e0.bs b o e).1
  have kin : K.In s.heap := e0.mod.kin.keeps stays
  have nol : s.heap.NoLimit := e0.mod.nolimit.keeps stays
  obtain ⟨t, ht, hq⟩ := hb cdv A outer s H vs Q E (hr.deeper _) gs hsp
  have kinds : ∀ y ∈ ps.zip us, scope.names.lookup y.1 = some .local ∨ (scope.names.lookup y.1 = some .cell ∧ ((cellsFrom (s.heap.objs.size + 1) scope.names []).lookup y.1).isSome = true) := by
    rintro ⟨n, v⟩ hy
    have hp := S.par n (List.of_mem_zip hy).1
    exact hp.imp id fun q => ⟨q, PySem.W.cellsFrom_some _ _ _ (.inl q)⟩
  have inner : ∀ s1, InCallC s s.heap.objs.size (bindL (envOfC qual scope s.heap.objs.size f cdv).kindOf (ps.zip us) fun _ => none) (cellsFrom (s.heap.objs.size + 1) scope.names []) (bindC (envOfC qual scope s.heap.objs.size f cdv).kindOf (ps.zip us) fun _ => none) s1 →
      Inv (cxOf (L2.CX P w) P w K mg base N qual scope f cdv A outer s H E) [] (start N vs) H s1 := fun s1 x => inv_start S hr.hd e0 (len _ _ _ _ hsp) rv x
  refine codeAny_call_function hr.depth (kin _ _ lk) rfl S.co S.gen rfl (PySem.W.codeRec_of kin hcd) (bt _ _ _ _ (wpAny_newFunctionEnv_cells S.kind kinds fun env he s1 x => ?_))
  subst he
  refine ⟨nol.keeps x.toInCall.keep, codeAny_func (wpAny_mono (ht.run [] s1 (start N vs) H _ (inner s1 x) hq) (fun fl s2 hs => ?_) fun _ _ hs => hs)⟩
  cases fl with
  | next => obtain ⟨τ, H2, J, q⟩ := hs; exact CE_of (v := .non) (u := .none) J rfl q
  | ret u => obtain ⟨v, τ, H2, J, rv2, q⟩ := hs; exact CE_of J rv2 q
  | brk => exact hs.elim fun _ z => z.elim fun _ z => z.2.elim
  | cont => exact hs.elim fun _ z => z.elim fun _ z => z.2.elim
end

/-! ### calls -/
section
variable {X : Cx} {W : WX} {k : Nat} {f C : Addr} {fd : FuncData} {ps ks : List Str} {sp : Sp} {E : XK} {x m : Str}
/-- the wish of an exception, at the caller's slots -/
abbrev eAt (W : WX) (σ : L2.St) : XK := fun c d H => W c d σ H
theorem runG {pins : List (Addr × Obj)} {σ : L2.St} {H : Hp} {s : Shared} {Q : VK} {pos : List Value} {kw : List (Str × Value)} {us : List Value} {vs : List V} (F : FnG X.prog X.w X.K X.mg X.base k f fd ps sp) (hr : Room k X.A) (gs : X.A.guards = some [])
    (tk : Takes X W) (I : Inv X pins σ H s) (bt : us.length = ps.length → BindsTo s fd ⟨pos, kw⟩ (ps.zip us)) (r : Vals vs us) (h : sp vs H Q (eAt W σ)) : wpAny (model X.prog X.w) X.A (call (.ref f) pos kw) (EP X pins σ Q) X.xe s := by
  have hl : us.length = ps.length := r.length.symm.trans (F.len _ _ _ _ h)
  refine wpAny_call (codeAny_mono (F.go X.A X.stack s H ⟨pos, kw⟩ us vs Q (eAt W σ) hr gs I.env0 (bt hl) r h) ?_)
  rintro (e | fl) s2 hq
  · exact tk e s2 (XE.of_call I (E := eAt W σ) (fun _ _ _ z => z) hq)
  · cases fl with
    | ret u => exact I.after hq
    | _ => exact hq.elim
def tCallG (sp : Sp) (dvs : List V) (W : WX) (t : TA) : TE := fun σ H Q => t σ H fun vs H1 => sp (vs ++ dvs) H1 Q (eAt W σ)
def tCallKG (sp : Sp) (gV : List V → List V → List V) (W : WX) (t tk : TA) : TE := fun σ H Q => t σ H fun vs H1 => tk σ H1 fun zs H2 => sp (gV vs zs) H2 Q (eAt W σ)
variable {dvs : List V} {ds : List Value} {p pos apos : Pos} {e o : Expr} {es : List Expr} {t ta' : TA} {ta : TE} {kws : List Keyword} {gv : List Value → List Value → List Value} {gV : List V → List V → List V} {tkw : TA}
/-- f(e, ..) -/
theorem pe_callG (F : FnG X.prog X.w X.K X.mg X.base k f fd ps sp) (hr : Room k X.A) (gs : X.A.guards = some []) (tk : Takes X W) (hg : Gl X x) (hm : X.mg x = some (.ref f)) (kp : PySem.W.keepIn X.K (.ref f) = true) (hb : Binds X.K fd ps ds) (hd : Vals dvs ds)
    (ha : PA X (e :: es) t) (hdb : (x == ("__debug__" : Str)) = false := by decide) (he : starEach (e :: es) X.env = (false, eval e X.env) :: starEach es X.env := by rfl) (hpl : (backTo pos (starEach es X.env)).any (·.1) = false := by rfl) :
    PE X (.Call (.Name x p) (e :: es) [] pos) (tCallG sp dvs W t) := ⟨fun pins s σ H Q I h =>
  wpAny_Call_Name_kw (ld_glob I hg hm (PySem.W.callWith_K (h₀ := X.base) I.ok.mod.kin kp (thn (ha.run pos pins s σ H _ I h) fun us s1 ⟨vs, H1, I1, r, q⟩ =>
    ⟨I1.kIn, runG (us := us ++ ds) (vs := vs ++ dvs) F hr gs tk I1 (fun hl => hb s1 us I1.kIn hl) (r.append hd) q⟩) he hpl) hdb)⟩
/-- f() -/
theorem pe_callG0 (F : FnG X.prog X.w X.K X.mg X.base k f fd ps sp) (hr : Room k X.A) (gs : X.A.guards = some []) (tk : Takes X W) (hg : Gl X x) (hm : X.mg x = some (.ref f)) (kp : PySem.W.keepIn X.K (.ref f) = true) (hb : Binds X.K fd ps ds) (hd : Vals dvs ds)
    (hdb : (x == ("__debug__" : Str)) = false := by decide) : PE X (.Call (.Name x p) [] [] pos) (tCallG sp dvs W tNil) := ⟨fun pins s σ H Q I h =>
  wpAny_Call_Name_kw (ld_glob I hg hm (PySem.W.callWith_K0 I.kIn kp (runG (us := ds) (vs := dvs) F hr gs tk I (fun hl => hb s [] I.kIn hl) hd h)) hdb)⟩
/-- f(e, .., k = v, ..) -/
theorem pe_callGK (F : FnG X.prog X.w X.K X.mg X.base k f fd ps sp) (hr : Room k X.A) (gs : X.A.guards = some []) (tk : Takes X W) (hg : Gl X x) (hm : X.mg x = some (.ref f)) (kp : PySem.W.keepIn X.K (.ref f) = true) (hb : KBinds X.K fd ps ks gv gV)
    (ha : PA X (e :: es) t) (hkw : PK X kws tkw) (hall : (backToKw pos (keywordEach kws X.env)).all (·.1.isSome) = true := by rfl) (hks : (backToKw pos (keywordEach kws X.env)).filterMap (·.1) = ks := by rfl)
    (hdb : (x == ("__debug__" : Str)) = false := by decide) (he : starEach (e :: es) X.env = (false, eval e X.env) :: starEach es X.env := by rfl)
    (hpl : ((backTo pos (starEach (e :: es) X.env)).any (·.1) || (backToKw pos (keywordEach kws X.env)).any (·.1.isNone)) = false := by rfl) : PE X (.Call (.Name x p) (e :: es) kws pos) (tCallKG sp gV W t tkw) := ⟨fun pins s σ H Q I h =>
  wpAny_Call_Name_kw (ld_glob I hg hm (PySem.W.callWith_KW (h₀ := X.base) I.ok.mod.kin kp hall (thn (ha.run pos pins s σ H _ I h) fun us s1 ⟨vs, H1, I1, r, q⟩ =>
    thn (hkw.run pos pins s1 σ H1 _ I1 q) fun ws s2 ⟨zs, H2, I2, rz, q2⟩ => ⟨I2.kIn, by rw [hks]; exact runG (us := gv us ws) (vs := gV vs zs) F hr gs tk I2 (fun hl => hb.to s2 us ws I2.kIn hl) (hb.rel r rz) q2⟩) hpl he) hdb)⟩
/-- f(k = v, ..) -/
theorem pe_callGK0 (F : FnG X.prog X.w X.K X.mg X.base k f fd ps sp) (hr : Room k X.A) (gs : X.A.guards = some []) (tk : Takes X W) (hg : Gl X x) (hm : X.mg x = some (.ref f)) (kp : PySem.W.keepIn X.K (.ref f) = true) (hb : KBinds X.K fd ps ks gv gV)
    (hkw : PK X kws tkw) (hall : (backToKw pos (keywordEach kws X.env)).all (·.1.isSome) = true := by rfl) (hks : (backToKw pos (keywordEach kws X.env)).filterMap (·.1) = ks := by rfl)
    (hdb : (x == ("__debug__" : Str)) = false := by decide) (hpl : ((backTo pos (starEach [] X.env)).any (·.1) || (backToKw pos (keywordEach kws X.env)).any (·.1.isNone)) = false := by rfl) :
    PE X (.Call (.Name x p) [] kws pos) (tCallKG sp gV W tNil tkw) := ⟨fun pins s σ H Q I h =>
  wpAny_Call_Name_kw (ld_glob I hg hm (PySem.W.callWith_KW0 (h₀ := X.base) I.ok.mod.kin kp hall (thn (hkw.run pos pins s σ H _ I h) fun ws s2 ⟨zs, H2, I2, rz, q2⟩ =>
    ⟨I2.kIn, by rw [hks]; exact runG (us := gv [] ws) (vs := gV [] zs) F hr gs tk I2 (fun hl => hb.to s2 [] ws I2.kIn hl) (hb.rel .nil rz) q2⟩) hpl) hdb)⟩
/-- o.m(e, ..) -/
def tMethG (C : Addr) (m : Str) (sp : Sp) (dvs : List V) (W : WX) (ta : TE) (t : TA) : TE := fun σ H Q => ta σ H fun x H1 => ∃ a dx fs, x = .ref a ∧ H1 a = some (.ins C dx fs) ∧ fs.lookup m = none ∧ t σ H1 fun vs H2 => sp (x :: (vs ++ dvs)) H2 Q (eAt W σ)
theorem pe_methG {pl : Sem Bool} (ho : PE X o ta) (c : Cls X.K C) (hm : Meth X.K C m f) (F : FnG X.prog X.w X.K X.mg X.base k f fd ps sp) (hr : Room k X.A) (gs : X.A.guards = some []) (tk : Takes X W) (hb : Binds X.K fd ps ds) (hd : Vals dvs ds) (ha : PA X (e :: es) t)
    (hst : starEach (e :: es) X.env = (false, eval e X.env) :: starEach es X.env := by rfl) (hpl : (backTo pos (starEach es X.env)).any (·.1) = false := by rfl)
    (ht : eval (.Call (.Attribute o m apos) (e :: es) [] pos) X.env = (eval o X.env >>= fun ov => standAt apos.atName >>= fun _ => holding [ov] (getMethod ov m pl) >>= fun fx => callWith pos fx.1 fx.2 (backTo pos (starEach (e :: es) X.env)) (backToKw pos (keywordEach [] X.env))) := by rfl) :
    PE X (.Call (.Attribute o m apos) (e :: es) [] pos) (tMethG C m sp dvs W ta t) := by
  refine ⟨fun pins s σ H Q I h => PySem.W.methodCall_KW (pl := pl) (thn (ho.run pins s σ H _ I h) ?_) ht⟩
  rintro u s1 ⟨x, H1, I1, rx, a, dx, fs, rfl, ea, l, q⟩
  cases rx
  refine getmeth_ok I1 ea c hm l (PySem.W.callWith_K (first := [.ref a]) (h₀ := X.base) I.ok.mod.kin hm.kp (thn (ha.run pos pins s1 σ H1 _ I1 q) ?_) hst hpl)
  rintro us s2 ⟨vs, H2, I2, r, q2⟩
  exact ⟨I2.kIn, runG (us := .ref a :: (us ++ ds)) (vs := .ref a :: (vs ++ dvs)) F hr gs tk I2 (fun hl => hb s2 (.ref a :: us) I2.kIn hl) (.cons rfl (r.append hd)) q2⟩
theorem pe_methG0 {pl : Sem Bool} (ho : PE X o ta) (c : Cls X.K C) (hm : Meth X.K C m f) (F : FnG X.prog X.w X.K X.mg X.base k f fd ps sp) (hr : Room k X.A) (gs : X.A.guards = some []) (tk : Takes X W) (hb : Binds X.K fd ps ds) (hd : Vals dvs ds)
    (ht : eval (.Call (.Attribute o m apos) [] [] pos) X.env = (eval o X.env >>= fun ov => standAt apos.atName >>= fun _ => holding [ov] (getMethod ov m pl) >>= fun fx => callWith pos fx.1 fx.2 (backTo pos (starEach [] X.env)) (backToKw pos (keywordEach [] X.env))) := by rfl) :
    PE X (.Call (.Attribute o m apos) [] [] pos) (tMethG C m sp dvs W ta tNil) := by
  refine ⟨fun pins s σ H Q I h => PySem.W.methodCall_KW (pl := pl) (thn (ho.run pins s σ H _ I h) ?_) ht⟩
  rintro u s1 ⟨x, H1, I1, rx, a, dx, fs, rfl, ea, l, q⟩
  cases rx
  exact getmeth_ok I1 ea c hm l (PySem.W.callWith_K0 (first := [.ref a]) I1.kIn hm.kp (runG (us := .ref a :: ds) (vs := .ref a :: dvs) F hr gs tk I1 (fun hl => hb s1 [.ref a] I1.kIn hl) (.cons rfl hd) q))
/-- C(e, ..) -/
def tMakeG (C : Addr) (sp : Sp) (dvs : List V) (W : WX) (t : TA) : TE := fun σ H Q => t σ H fun vs H1 => ∀ x dx, H1 x = none → H1 dx = none → dx ≠ x → sp (.ref x :: (vs ++ dvs)) (upd (upd H1 dx (.own x)) x (.ins C dx [])) (fun v H2 => v = .non ∧ Q (.ref x) H2) (eAt W σ)
theorem under_guards {A : Around} {C : Addr} {us : List Value} {kw : List (Str × Value)} (gs : A.guards = some []) : (A.under (.builtin "type.__call__" ⟨.ref C :: us, kw⟩)).guards = some [] := by
  have : (Code.builtin "type.__call__" ⟨.ref C :: us, kw⟩).isGuard = false := by
    show guardIds.contains "type.__call__" = false
    decide +kernel
  simp [Around.under, Code.guards, this, pushGuards, gs]
theorem run_makeG {pins : List (Addr × Obj)} {σ : L2.St} {H : Hp} {s : Shared} {Q : VK} {us : List Value} {kw : List (Str × Value)} {vs : List V} {us' : List Value} (M : Mk X.K C f) (F : FnG X.prog X.w X.K X.mg X.base k f fd ps sp) (hr : Room (k + 1) X.A) (gs : X.A.guards = some []) (tk : Takes X W)
    (bt : ∀ (s : Shared) (x : Value), X.K.In s.heap → (x :: us').length = ps.length → BindsTo s fd ⟨x :: us, kw⟩ (ps.zip (x :: us'))) (I : Inv X pins σ H s) (r : Vals vs us')
    (h : ∀ x dx, H x = none → H dx = none → dx ≠ x → sp (.ref x :: vs) (upd (upd H dx (.own x)) x (.ins C dx [])) (fun v H2 => v = .non ∧ Q (.ref x) H2) (eAt W σ)) : wpAny (model X.prog X.w) X.A (call (.ref C) us kw) (EP X pins σ Q) X.xe s := by
  have I2 := Inv.made (C := C) I
  have hq := h (s.heap.objs.size + 1) s.heap.objs.size (I.hok.fresh (Nat.le_succ _)) (I.hok.fresh (Nat.le_refl _)) (Nat.ne_of_lt (Nat.lt_succ_self _))
  have rr : Vals (V.ref (s.heap.objs.size + 1) :: vs) (Value.ref (s.heap.objs.size + 1) :: us') := .cons rfl r
  have hl : (Value.ref (s.heap.objs.size + 1) :: us').length = ps.length := rr.length.symm.trans (F.len _ _ _ _ hq)
  have body := F.go _ X.stack _ _ ⟨.ref (s.heap.objs.size + 1) :: us, kw⟩ _ _ _ (eAt W σ) (hr.make C us kw) (under_guards (C := C) (us := us) (kw := kw) gs) (I2.env0.make C us kw) (bt _ _ I2.kIn hl) rr hq
  refine wpAny_call (make_map (f := f) I.kIn M.makes M.init (beq_iff_eq.mp M.fn) (codeAny_mono body ?_))
  rintro (e | fl) s2 z
  · exact tk e s2 (XE.of_call I2 (E := eAt W σ) (fun _ _ _ z => z) z)
  · cases fl with
    | ret u =>
      obtain ⟨v, H3, I3, rv, ev, q3⟩ := I2.after z
      subst ev
      exact ⟨rv, .ref (s.heap.objs.size + 1), H3, I3, rfl, q3⟩
    | _ => exact z.elim
theorem pe_makeG (M : Mk X.K C f) (F : FnG X.prog X.w X.K X.mg X.base k f fd ps sp) (hr : Room (k + 1) X.A) (gs : X.A.guards = some []) (tk : Takes X W) (hg : Gl X x) (hm : X.mg x = some (.ref C)) (hb : Binds X.K fd ps ds) (hd : Vals dvs ds)
    (ha : PA X (e :: es) t) (hdb : (x == ("__debug__" : Str)) = false := by decide) (he : starEach (e :: es) X.env = (false, eval e X.env) :: starEach es X.env := by rfl) (hpl : (backTo pos (starEach es X.env)).any (·.1) = false := by rfl) :
    PE X (.Call (.Name x p) (e :: es) [] pos) (tMakeG C sp dvs W t) := ⟨fun pins s σ H Q I h =>
  wpAny_Call_Name_kw (ld_glob I hg hm (PySem.W.callWith_K (h₀ := X.base) I.ok.mod.kin M.kp (thn (ha.run pos pins s σ H _ I h) fun us s1 ⟨vs, H1, I1, r, q⟩ =>
    ⟨I1.kIn, run_makeG (us' := us ++ ds) (vs := vs ++ dvs) M F hr gs tk (fun s x k hl => hb s (x :: us) k hl) I1 (r.append hd) q⟩) he hpl) hdb)⟩
theorem pe_makeG0 (M : Mk X.K C f) (F : FnG X.prog X.w X.K X.mg X.base k f fd ps sp) (hr : Room (k + 1) X.A) (gs : X.A.guards = some []) (tk : Takes X W) (hg : Gl X x) (hm : X.mg x = some (.ref C)) (hb : Binds X.K fd ps ds) (hd : Vals dvs ds)
    (hdb : (x == ("__debug__" : Str)) = false := by decide) : PE X (.Call (.Name x p) [] [] pos) (tMakeG C sp dvs W tNil) := ⟨fun pins s σ H Q I h =>
  wpAny_Call_Name_kw (ld_glob I hg hm (PySem.W.callWith_K0 I.kIn M.kp (run_makeG (us := []) (us' := ds) (vs := dvs) M F hr gs tk (fun s x k hl => hb s [x] k hl) I hd h)) hdb)⟩
end
end Qd

namespace Qd
open PySem L2

/-! ### defs -/
abbrev FF := List D → Sto → R D
def PostF (K : PySem.W.Frag) (B : Hp) (tb : Tb) (E : XK) (Q : VK) (r : R D) : Prop := match r with
  | .ok d S => ∀ B' tb' H' v, Ex B tb B' tb' → Wd K H' B' tb' S → rep K B' tb' d v → Q v H'
  | .er C ns vs S => ∀ B' tb' H', Ex B tb B' tb' → Wd K H' B' tb' S → (ns = [] → E (.ref (He.ga K C)) none H') ∧
      ∀ dd xs, H' dd = some (.xd (ns.zip xs)) → ns.length = xs.length → reps K B' tb' vs xs → E (.ref (He.ga K C)) (some dd) H'
  | .no => False
def SpD (K : PySem.W.Frag) (n : Nat) (g : FF) : Sp := fun vs H Q E => vs.length = n ∧ ∃ B tb S ds, Wd K H B tb S ∧ reps K B tb ds vs ∧ PostF K B tb E Q (g ds S)
def rho0 (n : Nat) (ds : List D) : Rho := ds.map some ++ List.replicate (n - ds.length) none
/-- a def's body run: b: what it made is forgotten behind it -/
def run0 (b : Bool) (fb : FS) (n : Nat) : FF := fun ds S => match fb (rho0 n ds) S with
  | .ok (.rt d) S' => .ok d (if b = true then S'.back S.m.length else S')
  | .ok (.nx _) S' => .ok .non (if b = true then S'.back S.m.length else S')
  | .ok (.xx _ C ns vs) S' => .er C ns vs (S'.back S.m.length)
  | _ => .no
/-- the wish of a def's own exceptions -/
abbrev wE (E : XK) : WX := fun c d _ H => E c d H
theorem tk0 {X : Cx} : Takes X WF := fun _ _ x => by
  obtain ⟨_, _, _, _, _, _, _, _, _, _, _, _, _, _, _, _, z⟩ := x
  exact z.elim
section
variable {P : Program} {w : World} {K : PySem.W.Frag} {mg : Str → Option Value} {base : Heap}
theorem rep_start {B : Hp} {tb : Tb} {N : List Str} {ds : List D} {vs : List V} (r : reps K B tb ds vs) : repE K B tb (rho0 N.length ds) (L2.start N vs) := by
  have l := reps_len r
  unfold rho0 L2.start
  refine ⟨by simp [l], fun i d hd => ?_⟩
  by_cases hi : i < ds.length
  · rw [List.getElem?_append_left (by simpa using hi), List.getElem?_map] at hd
    cases z : ds[i]? with
    | none => rw [z] at hd; cases hd
    | some e =>
      rw [z] at hd
      have : e = d := by simpa using hd
      subst this
      obtain ⟨v, h1, h2⟩ := reps_get r z
      exact ⟨v, by rw [List.getElem?_append_left (by simp; omega), List.getElem?_map, h1]; rfl, h2⟩
  · rw [List.getElem?_append_right (by simp; omega)] at hd
    by_cases h2 : i - (ds.map some).length < N.length - ds.length
    · rw [List.getElem?_replicate_of_lt h2] at hd; cases hd
    · rw [List.getElem?_eq_none (by simpa using h2)] at hd; cases hd
theorem fn_D {N ps : List Str} {k : Nat} {fb : FS} {b : Bool} {x qual : Str} {params : Arguments} {body : List Stmt} {scope : Scope} {dvs : List V} {kws : List (Str × V)} {f : Addr} {fd : FuncData} (F : FunD K x qual params body scope dvs kws f fd) (Sc : FnScope N ps scope)
    (hb : ∀ (cdv : Value) (A : Around) (outer : List Env) (s : Shared) (H : Hp) (E : XK), Room k (A.deeper (PyProof.Rows.envOfC qual scope s.heap.objs.size f cdv)) → (A.deeper (PyProof.Rows.envOfC qual scope s.heap.objs.size f cdv)).guards = some [] →
      Takes (cxOf (L2.CX P w) P w K mg base N qual scope f cdv A outer s H E) (wE E) → PassesOwn (model P w) (A.deeper (PyProof.Rows.envOfC qual scope s.heap.objs.size f cdv)) (PyProof.Rows.envOfC qual scope s.heap.objs.size f cdv) (cxOf (L2.CX P w) P w K mg base N qual scope f cdv A outer s H E).xe →
      DSs (cxOf (L2.CX P w) P w K mg base N qual scope f cdv A outer s H E) (wE E) body fb) :
    FnG P w K mg base (k + 1) f fd ps (SpD K ps.length (run0 b fb N.length)) := by
  refine fnG_of F Sc (fun vs H Q E h => h.1) (fun cdv A outer s H vs Q E hr gs h => ⟨_, hb cdv A outer s H E hr gs (takes_of rfl rfl rfl rfl) (passes_of rfl), ?_⟩)
  obtain ⟨hl, B, tb, S, ds, wd, r, q⟩ := h
  refine ⟨B, tb, rho0 N.length ds, S, wd, rep_start r, ?_⟩
  unfold run0 at q
  cases z : fb (rho0 N.length ds) S with
  | er C ns vs S' => rw [z] at q; exact q.elim
  | no => rw [z] at q; exact q.elim
  | ok o S' =>
    rw [z] at q
    have bk : ∀ {H' B' : Hp} {tb' : Tb}, Wd K H' B' tb' S' → Wd K H' B' tb' (if b = true then S'.back S.m.length else S') := fun w' => by
      split
      · exact w'.back _
      · exact w'
    cases o with
    | rt d => exact fun B' tb' H' v x' w' r' => q B' tb' H' v x' (bk w') r'
    | nx ρ => exact fun B' tb' H' σ' x' w' r' => q B' tb' H' .non x' (bk w') rep_non
    | bk ρ => exact q.elim
    | ct ρ => exact q.elim
    | xx ρ C ns vs => exact fun B' tb' H' σ' x' w' r' => q B' tb' H' x' (w'.back _)
end
def eFn (g : FF) (fa : FA) (dds : List D) : FE := fun ρ S => (fa ρ S).bind fun ds S => g (ds ++ dds) S
theorem post_F {K : PySem.W.Frag} {B : Hp} {tb : Tb} {W : WX} {σ : L2.St} {r : R D} {Q : VK} (h : Post K B tb W σ r fun d _ B' tb' H' => ∀ v, rep K B' tb' d v → Q v H') : PostF K B tb (eAt W σ) Q r := by
  cases r with
  | ok d S => exact fun B' tb' H' v x w r => h B' tb' H' x w v r
  | er C ns vs S => exact h
  | no => exact h
section
variable {X : Cx} {W : WX} {g : FF} {fa fk : FA} {k n : Nat} {f : Addr} {fd : FuncData} {ps ks : List Str} {x : Str} {e : Expr} {es : List Expr} {kws : List Keyword} {pos p : Pos} {dds : List D} {dvs : List V} {ds : List Value}
theorem d_fn (F : FnG X.prog X.w X.K X.mg X.base k f fd ps (SpD X.K ps.length g)) (hr : Room k X.A) (gs : X.A.guards = some []) (tk : Takes X W) (hg : Gl X x) (hm : X.mg x = some (.ref f)) (hk : PySem.W.keepIn X.K (.ref f) = true) (hb : Binds X.K fd ps ds) (hd : Vals dvs ds) (hdd : ∀ B tb, reps X.K B tb dds dvs) (hl : (e :: es).length + dvs.length = ps.length)
    (la : ∀ ρ S d S', fa ρ S = .ok d S' → d.length = (e :: es).length)
    (ha : DA X W (e :: es) fa) (hdb : (x == ("__debug__" : Str)) = false := by decide) (he : starEach (e :: es) X.env = (false, eval e X.env) :: starEach es X.env := by rfl) (hpl : (backTo pos (starEach es X.env)).any (·.1) = false := by rfl) :
    DE X W (.Call (.Name x p) (e :: es) [] pos) (eFn g fa dds) := (pe_callG F hr gs tk hg hm hk hb hd ha hdb he hpl).imp fun σ H Q ⟨B, tb, ρ, S, w, e1, q⟩ => by
  unfold eFn at q
  refine ⟨B, tb, ρ, S, w, e1, ?_⟩
  cases z : fa ρ S with
  | er C ns vs S1 => rw [z] at q; exact q
  | no => rw [z] at q; exact q
  | ok as S1 =>
    rw [z] at q
    have l1 := la _ _ _ _ z
    intro B1 tb1 H1 x1 w1 vs r1
    refine ⟨by rw [List.length_append, reps_len r1, l1]; exact hl, B1, tb1, S1, as ++ dds, w1, reps_append r1 (hdd _ _), ?_⟩
    exact post_F (W := W) (σ := σ) (Post.mono x1 q)
theorem d_fn0 (F : FnG X.prog X.w X.K X.mg X.base k f fd ps (SpD X.K ps.length g)) (hr : Room k X.A) (gs : X.A.guards = some []) (tk : Takes X W) (hg : Gl X x) (hm : X.mg x = some (.ref f)) (hk : PySem.W.keepIn X.K (.ref f) = true) (hb : Binds X.K fd ps ds) (hd : Vals dvs ds) (hdd : ∀ B tb, reps X.K B tb dds dvs) (hl : dvs.length = ps.length)
    (hdb : (x == ("__debug__" : Str)) = false := by decide) : DE X W (.Call (.Name x p) [] [] pos) (eFn g aNil dds) := (pe_callG0 F hr gs tk hg hm hk hb hd hdb).imp fun σ H Q ⟨B, tb, ρ, S, w, e1, q⟩ =>
  show SpD X.K ps.length g ([] ++ dvs) H Q (eAt W σ) from ⟨hl, B, tb, S, [] ++ dds, w, hdd _ _, post_F (W := W) (σ := σ) q⟩
end
theorem al_nil : ∀ ρ S d S', aNil ρ S = .ok d S' → d.length = ([] : List Expr).length := by
  intro ρ S d S' h; cases h; rfl
theorem al_cons {f : FE} {fa : FA} {e : Expr} {es : List Expr} (h : ∀ ρ S d S', fa ρ S = .ok d S' → d.length = es.length) : ∀ ρ S d S', aCons f fa ρ S = .ok d S' → d.length = (e :: es).length := by
  intro ρ S d S' q
  unfold aCons at q
  cases z : f ρ S with
  | ok x S1 =>
    rw [z] at q
    simp only [bind_ok] at q
    cases y : fa ρ S1 with
    | ok xs S2 => rw [y] at q; cases q; simp [h _ _ _ _ y]
    | er C ns vs S2 => rw [y] at q; cases q
    | no => rw [y] at q; cases q
  | er C ns vs S1 => rw [z] at q; cases q
  | no => rw [z] at q; cases q
/-! ### calls by keywords alone, or behind some by place -/
abbrev DK (X : Cx) (W : WX) (kws : List Keyword) (f : FA) : Prop := PK X kws (LA X.K W f)
theorem _root_.L2.PK.imp {X : Cx} {kws : List Keyword} {t t' : TA} (h : PK X kws t) (i : ∀ σ H Q, t' σ H Q → t σ H Q) : PK X kws t' := ⟨fun po pins s σ H Q I q => h.run po pins s σ H Q I (i σ H Q q)⟩
section
variable {X : Cx} {W : WX} {g : FF} {fa fk : FA} {k n : Nat} {f : Addr} {fd : FuncData} {ps ks : List Str} {x nm : Str} {e : Expr} {es : List Expr} {kws : List Keyword} {pos p kpos : Pos} {fe : FE}
theorem dk_nil : DK X W [] aNil := pk_nil.imp fun σ H Q ⟨B, tb, ρ, S, w, e, q⟩ => q.ok w _ reps_nil
theorem dk_cons (ha : DE X W e fe) (hr : DK X W kws fk) : DK X W (⟨some nm, e, kpos⟩ :: kws) (aCons fe fk) := (pk_cons ha hr).imp fun σ H Q ⟨B, tb, ρ, S, w, e, q⟩ =>
  LE.step w e q fun d S1 B1 tb1 H1 v x1 w1 e1 r1 h1 => LA.step w1 e1 h1 fun ds S2 B2 tb2 H2 vs x2 w2 e2 r2 h2 => h2.ok w2 _ (reps_cons (rep_ex x2 _ _ r1) r2)
/-- how arguments by place and by name come together, whatever they are; it keeps pairs -/
structure Mix (n m l : Nat) (t : {α : Type} → List α → List α → List α) : Prop where
  len : ∀ {α : Type} (a b : List α), a.length = n → b.length = m → (t a b).length = l
  rel : ∀ {α β : Type} (R : α → β → Prop) (a b : List α) (a' b' : List β), Paired R a a' → Paired R b b' → Paired R (t a b) (t a' b')
theorem reps_paired {K : PySem.W.Frag} {B : Hp} {tb : Tb} : ∀ {ds : List D} {vs : List V}, reps K B tb ds vs ↔ Paired (rep K B tb) ds vs
  | [], vs => ⟨fun h => by simp only [reps] at h; subst h; exact .nil, fun h => by cases h; simp only [reps]⟩
  | d :: ds, vs => ⟨fun h => by simp only [reps] at h; obtain ⟨v, r, rfl, h1, h2⟩ := h; exact .cons h1 (reps_paired.mp h2), fun h => by cases h with | cons h1 h2 => exact reps_cons h1 (reps_paired.mpr h2)⟩
def eFnK (g : FF) (fa fk : FA) (t : {α : Type} → List α → List α → List α) : FE := fun ρ S => (fa ρ S).bind fun ds S => (fk ρ S).bind fun es S => g (t ds es) S
theorem kw_step {t : {α : Type} → List α → List α → List α} {m l : Nat} (T : Mix n m l t) (hl : l = ps.length) (la : ∀ ρ S d S', fa ρ S = .ok d S' → d.length = n) (lk : ∀ ρ S d S', fk ρ S = .ok d S' → d.length = m) {σ : L2.St} {H : Hp} {Q : VK} (h : LE X.K W (eFnK g fa fk t) σ H Q) :
    tCallKG (SpD X.K ps.length g) (fun a b => t a b) W (LA X.K W fa) (LA X.K W fk) σ H Q := by
  obtain ⟨B, tb, ρ, S, w, e1, q⟩ := h
  unfold eFnK at q
  refine ⟨B, tb, ρ, S, w, e1, ?_⟩
  cases z : fa ρ S with
  | er C ns vs S1 => rw [z] at q; exact q
  | no => rw [z] at q; exact q
  | ok as S1 =>
    rw [z] at q
    have l1 := la _ _ _ _ z
    intro B1 tb1 H1 x1 w1 vs r1
    refine ⟨B1, tb1, ρ, S1, w1, e1.ex x1, ?_⟩
    have q1 := Post.mono x1 q
    cases z2 : fk ρ S1 with
    | er C ns vs S2 => simp only [bind_ok] at q1; rw [z2] at q1; exact q1
    | no => simp only [bind_ok] at q1; rw [z2] at q1; exact q1
    | ok bs S2 =>
      simp only [bind_ok] at q1
      rw [z2] at q1
      have l2 := lk _ _ _ _ z2
      intro B2 tb2 H2 x2 w2 us r2
      refine ⟨?_, B2, tb2, S2, t as bs, w2, reps_paired.mpr (T.rel _ _ _ _ _ (reps_paired.mp (reps_ex x2 _ _ r1)) (reps_paired.mp r2)), ?_⟩
      · rw [← hl]; exact T.len _ _ (by rw [reps_len r1, l1]) (by rw [reps_len r2, l2])
      · exact post_F (W := W) (σ := σ) (Post.mono x2 q1)
theorem d_fnK {t : {α : Type} → List α → List α → List α} {m l : Nat} (T : Mix n m l t) (hl : l = ps.length) (F : FnG X.prog X.w X.K X.mg X.base k f fd ps (SpD X.K ps.length g)) (hr : Room k X.A) (gs : X.A.guards = some []) (tk : Takes X W) (hg : Gl X x) (hm : X.mg x = some (.ref f)) (hk : PySem.W.keepIn X.K (.ref f) = true)
    (hb : KBinds X.K fd ps ks (fun a b => t a b) (fun a b => t a b)) (la : ∀ ρ S d S', fa ρ S = .ok d S' → d.length = n) (lk : ∀ ρ S d S', fk ρ S = .ok d S' → d.length = m)
    (ha : DA X W (e :: es) fa) (hkw : DK X W kws fk) (hall : (backToKw pos (keywordEach kws X.env)).all (·.1.isSome) = true := by rfl) (hks : (backToKw pos (keywordEach kws X.env)).filterMap (·.1) = ks := by rfl)
    (hdb : (x == ("__debug__" : Str)) = false := by decide) (he : starEach (e :: es) X.env = (false, eval e X.env) :: starEach es X.env := by rfl)
    (hpl : ((backTo pos (starEach (e :: es) X.env)).any (·.1) || (backToKw pos (keywordEach kws X.env)).any (·.1.isNone)) = false := by rfl) :
    DE X W (.Call (.Name x p) (e :: es) kws pos) (eFnK g fa fk t) := (pe_callGK F hr gs tk hg hm hk hb ha hkw hall hks hdb he hpl).imp fun _ _ _ h => kw_step T hl la lk h
theorem d_fnK0 {t : {α : Type} → List α → List α → List α} {m l : Nat} (T : Mix 0 m l t) (hl : l = ps.length) (F : FnG X.prog X.w X.K X.mg X.base k f fd ps (SpD X.K ps.length g)) (hr : Room k X.A) (gs : X.A.guards = some []) (tk : Takes X W) (hg : Gl X x) (hm : X.mg x = some (.ref f)) (hk : PySem.W.keepIn X.K (.ref f) = true)
    (hb : KBinds X.K fd ps ks (fun a b => t a b) (fun a b => t a b)) (lk : ∀ ρ S d S', fk ρ S = .ok d S' → d.length = m)
    (hkw : DK X W kws fk) (hall : (backToKw pos (keywordEach kws X.env)).all (·.1.isSome) = true := by rfl) (hks : (backToKw pos (keywordEach kws X.env)).filterMap (·.1) = ks := by rfl)
    (hdb : (x == ("__debug__" : Str)) = false := by decide) (hpl : ((backTo pos (starEach [] X.env)).any (·.1) || (backToKw pos (keywordEach kws X.env)).any (·.1.isNone)) = false := by rfl) :
    DE X W (.Call (.Name x p) [] kws pos) (eFnK g aNil fk t) := (pe_callGK0 F hr gs tk hg hm hk hb hkw hall hks hdb hpl).imp fun σ H Q h => by
  have z := kw_step (n := 0) T hl (fun _ _ _ _ h => by cases h; rfl) lk h
  obtain ⟨B, tb, ρ, S, w, e, q⟩ := z
  exact q.ok w _ reps_nil
end
/-! ### changing lists -/
def eAppend (f g : FE) : FE := fun ρ S => (f ρ S).bind fun o S1 => match o with
  | .obj k => chk (match S1.m[k]? with | some (some (.lst _)) => true | _ => false) ((g ρ S1).bind fun y S2 => match S2.m[k]? with
    | some (some (.lst ds)) => chk (decide (ds.length < line)) (.ok .non (S2.put k (.lst (ds ++ [y]))))
    | _ => .no)
  | _ => .no
section
variable {X : Cx} {W : WX} {a b : Expr} {f g : FE} {apos cpos pos : Pos}
theorem d_append (ha : DE X W a f) (hb : DE X W b g) (hse : starEach (b :: []) X.env = (false, eval b X.env) :: starEach [] X.env := by rfl) (hbase : attributeBase a "append" X.env (eval a X.env) = eval a X.env := by rfl)
    (hfew : ((backTo cpos (starEach (b :: []) X.env)).all (fun x => !x.1) && (backToKw cpos (keywordEach [] X.env)).all (fun x => x.1.isSome) && decide ((b :: []).length + ([] : List Keyword).length + (if ([] : List Keyword).isEmpty then 0 else 1) < 30)) = true := by rfl)
    (hline : (apos.endLine == cpos.line) = true := by rfl) (hplain : (backTo cpos (starEach [] X.env)).any (·.1) = false := by rfl) : DE X W (.Call (.Attribute a "append" apos) [b] [] cpos) (eAppend f g) :=
  (pe_bm PySem.F.plainAttrs_list PySem.F.slot_list_append PySem.F.type_list_append mt_append ha (pa_cons hb pa_nil hse) hbase hfew hline hse hplain).imp fun σ H Q ⟨B, tb, ρ, S, w, e, q⟩ => by
    refine LE.step w e q fun o S1 B1 tb1 H1 v x1 w1 e1 r1 h1 => ?_
    split at h1
    · rename_i k
      obtain ⟨c, h1⟩ := chk_ok h1
      simp only [rep] at r1
      obtain ⟨p, rfl, hp⟩ := r1
      refine ⟨?_, ?_⟩
      · split at c
        · rename_i ds hk
          obtain ⟨_, ⟨vs, hv, _⟩, _⟩ := w1.live hk hp
          exact .inl ⟨rfl, vs, SqL.of hv⟩
        · cases c
      · refine LE.step w1 e1 h1 fun y S2 B2 tb2 H2 u x2 w2 e2 r2 h2 => ?_
        have hp2 := x2.at_ hp
        split at h2
        · rename_i ds hk
          obtain ⟨c2, h2⟩ := chk_ok h2
          obtain ⟨_, ⟨vs, hv, hr⟩, _⟩ := w2.live hk hp2
          refine ⟨p, vs, u, rfl, rfl, hv, by rw [reps_len hr, line_eq]; exact of_decide_eq_true c2, ?_⟩
          have w3 := w2.put hk hp2 (o := .lst (vs ++ [u])) (d' := .lst (ds ++ [y])) ⟨_, upd_same, reps_append hr (reps_cons r2 reps_nil)⟩
          exact h2 _ _ _ (Ex.refl _ _) w3 _ rep_non
        · exact h2.elim
    · exact h1.elim
/-- o[i] = v, o a changing list -/
def gSet (f g : FE) : FG := fun d ρ S => (f ρ S).bind fun o S1 => (g ρ S1).bind fun i S2 => match o, i with
  | .obj k, .int j => (match S2.m[k]? with
    | some (some (.lst ds)) => (match ixN ds.length j with
      | some n => .ok ρ (S2.put k (.lst (ds.set n d)))
      | none => .no)
    | _ => .no)
  | _, _ => .no
theorem dg_set (ha : DE X W a f) (hb : DE X W b g) (hs : ∀ v, assign (.Subscript a b pos) X.env v = (do
      let ov ← holding [v] (eval a X.env)
      let iv ← holding [v, ov] (eval b X.env)
      standAt pos
      holding [v, ov, iv] (setItem ov iv v)
      release [v, ov, iv] []) := by intro _; rfl) : DG X W (.Subscript a b pos) (gSet f g) := (pg_sub ha hb set_list hs).imp fun v σ H Q ⟨B, tb, ρ, S, d, w, e, r, q⟩ => by
  refine LE.step w e q fun o S1 B1 tb1 H1 ov x1 w1 e1 r1 h1 => ?_
  refine LE.step w1 e1 h1 fun i S2 B2 tb2 H2 iv x2 w2 e2 r2 h2 => ?_
  have rd := rep_ex (x1.trans x2) _ _ r
  split at h2
  · rename_i k j
    simp only [rep] at r1 r2
    obtain ⟨p, rfl, hp⟩ := r1
    subst r2
    have hp2 := x2.at_ hp
    split at h2
    · rename_i ds hk
      obtain ⟨_, ⟨vs, hv, hr⟩, _⟩ := w2.live hk hp2
      split at h2
      · rename_i n hn
        refine ⟨p, vs, j, n, rfl, rfl, hv, by rw [reps_len hr]; exact hn, ?_⟩
        have w3 := w2.put hk hp2 (o := .lst (vs.set n v)) (d' := .lst (ds.set n d)) ⟨_, upd_same, reps_set n hr rd⟩
        exact h2 _ _ _ (Ex.refl _ _) w3 _ e2
      · exact h2.elim
    · exact h2.elim
  · exact h2.elim
/-- what is never reached -/
def sNever : FS := fun _ _ => .no
theorem ds_never {st : Stmt} : DS X W st sNever := ps_never.imp fun Dn σ H ⟨B, tb, ρ, S, w, e, q⟩ => q.elim
/-- several targets, the value a tuple -/
def gTp : List FG → FG
  | [] => fun d ρ S => match d with
    | .tup [] => .ok ρ S
    | _ => .no
  | g :: gs => fun d ρ S => match d with
    | .tup (x :: xs) => (g x ρ S).bind fun ρ' S' => gTp gs (.tup xs) ρ' S'
    | _ => .no
end
end Qd

namespace Qd
open PySem L2
open PySem.W (AllAlike Sortable dataLe EachIs alike)

/-! ### sorted of data -/
def rSortD (K : PySem.W.Frag) : List V → Hp → VK → Prop := fun vs H Q => ∃ (a : Addr) (xs : List V) (es : List PyData), vs = [.ref a] ∧ SqL K H a xs ∧ DpAll K H xs es ∧ AllAlike es ∧ Sortable es ∧ (∀ e ∈ es, e.depth ≤ 60) ∧
  ∀ p, H p = none → Q (.ref p) (upd H p (.lst (((xs.zip es).mergeSort (dataLe false Prod.snd)).map Prod.fst)))
theorem dpAll_len {K : PySem.W.Frag} {H : Hp} : ∀ {xs : List V} {es : List PyData}, DpAll K H xs es → xs.length = es.length
  | _, _, .nil => rfl
  | _, _, .cons _ h => by simp [dpAll_len h]
theorem zip_snd {α β : Type} : ∀ {xs : List α} {es : List β}, xs.length = es.length → (xs.zip es).map Prod.snd = es
  | [], [], _ => rfl
  | x :: xs, e :: es, h => by simp [zip_snd (xs := xs) (es := es) (by simpa using h)]
theorem each_zip {xs : List V} {us : List Value} {es : List PyData} (r : Vals xs us) (h : xs.length = es.length) : EachIs (fun (u : Value) (b : V × PyData) => RelV b.1 u) us (xs.zip es) := by
  induction r generalizing es with
  | nil => cases es with
    | nil => exact .nil
    | cons _ _ => cases h
  | cons r1 _ ih => cases es with
    | nil => cases h
    | cons e es => exact .cons r1 (ih (by simpa using h))
theorem vals_each {zs : List (V × PyData)} {us : List Value} (h : EachIs (fun (u : Value) (b : V × PyData) => RelV b.1 u) us zs) : Vals (zs.map Prod.fst) us := by
  induction h with
  | nil => exact .nil
  | cons r _ ih => exact .cons r ih
theorem cr_sortD {X : Cx} (hu : X.A.units + 64 < cLine) : CallR X (.builtin "sorted") (rSortD X.K) := by
  intro pins s σ H vs us Q I r h
  obtain ⟨a, xs, es, rfl, hs, hd, hal, hso, hdp, q⟩ := h
  obtain ⟨its, rv, hl, hz⟩ := I.list hs
  obtain ⟨u, rfl, ru⟩ := Vals.one r
  obtain rfl : u = Value.ref a := ru
  obtain ⟨as, hr⟩ := Dp.readsAll I es xs its hd rv
  have hlen := dpAll_len hd
  have e2 : (xs.zip es).map Prod.snd = es := zip_snd hlen
  have hzl : (xs.zip es).length = es.length := by rw [← e2, List.length_map, e2]
  refine PySem.W.sorted_data (R := fun u (b : V × PyData) => RelV b.1 u) (enc := Prod.snd) (bs := xs.zip es) (vs := its) hl.isList (each_zip rv hlen) (PySem.W.readsAll_each Prod.snd (as := as) (by rw [e2]; exact hr)) (by rw [e2]; exact hal) (by rw [e2]; exact hso)
    (by rw [hzl, ← hlen]; exact hz) (fun b hb => ?_) fun out ho he => ?_
  · have hm : b.2 ∈ es := by rw [← e2]; exact List.mem_map.mpr ⟨b, hb, rfl⟩
    have := hdp _ hm
    omega
  · obtain ⟨m, F⟩ := I.fr
    have N : PyProof.Rows.News X.base X.env.locals s.heap [] := fun p hp => nomatch hp
    obtain ⟨c, F', N', _, kp⟩ := PySem.W.sorted_news F N its out
    have hn := (N' _ List.mem_cons_self).1
    have hf : H (s.heap.objs.size + 1) = none := I.hok.fresh (Nat.le_succ _)
    refine ⟨.ref (s.heap.objs.size + 1), upd H (s.heap.objs.size + 1) (.lst (((xs.zip es).mergeSort (dataLe false Prod.snd)).map Prod.fst)), I.laid (t' := s.toks) kp (Nat.le_succ _) ⟨?_, out, c, vals_each he, hn⟩, rfl, q _ hf⟩
    rw [List.length_map, List.length_mergeSort, hzl, ← hlen]
    exact hz
def pyD (d : D) : PyData := (py d).getD .none
def leD : D → D → Bool := dataLe false pyD
def allAlikeB (es : List PyData) : Bool := es.all fun a => es.all fun b => alike a b
def isTupB : PyData → Bool
  | .tuple (_ :: _) => true
  | _ => false
def notTupB : PyData → Bool
  | .tuple _ => false
  | .none => false
  | _ => true
def sortOkB (es : List PyData) : Bool := allAlikeB es && (es.all isTupB || es.all notTupB) && es.all fun e => decide (e.depth ≤ 60)
theorem sortOk_alike {es : List PyData} (h : sortOkB es = true) : AllAlike es := by
  unfold sortOkB at h
  simp only [Bool.and_eq_true] at h
  intro d hd d' hd'
  exact List.all_eq_true.mp (List.all_eq_true.mp h.1.1 d hd) d' hd'
theorem sortOk_sortable {es : List PyData} (h : sortOkB es = true) : Sortable es := by
  unfold sortOkB at h
  simp only [Bool.and_eq_true, Bool.or_eq_true] at h
  rcases h.1.2 with q | q
  · refine .inl fun d hd => ?_
    have := List.all_eq_true.mp q d hd
    unfold isTupB at this
    split at this
    · exact ⟨_, _, rfl⟩
    · cases this
  · refine .inr fun d hd => ?_
    have z := List.all_eq_true.mp q d hd
    refine ⟨fun e => ?_, fun xs e => ?_⟩
    · rw [e] at z; cases z
    · rw [e] at z; cases z
theorem sortOk_depth {es : List PyData} (h : sortOkB es = true) : ∀ e ∈ es, e.depth ≤ 60 := by
  unfold sortOkB at h
  simp only [Bool.and_eq_true] at h
  intro d hd
  exact of_decide_eq_true (List.all_eq_true.mp h.2 d hd)
theorem each_sort {K : PySem.W.Frag} {B : Hp} {tb : Tb} : ∀ {ds : List D} {vs : List V} {es : List PyData}, reps K B tb ds vs → pys ds = some es → EachIs (fun (d : D) (b : V × PyData) => rep K B tb d b.1 ∧ pyD d = b.2) ds (vs.zip es)
  | [], vs, es, r, q => by
    simp only [reps] at r; subst r
    exact .nil
  | d :: ds, vs, es, r, q => by
    simp only [reps] at r
    obtain ⟨v, t, rfl, h1, h2⟩ := r
    simp only [pys] at q
    split at q
    · rename_i a r' e1 e2
      cases q
      exact .cons ⟨h1, by unfold pyD; rw [e1]; rfl⟩ (each_sort h2 e2)
    · cases q
theorem reps_each {K : PySem.W.Frag} {B : Hp} {tb : Tb} {ds : List D} {zs : List (V × PyData)} (h : EachIs (fun (d : D) (b : V × PyData) => rep K B tb d b.1 ∧ pyD d = b.2) ds zs) : reps K B tb ds (zs.map Prod.fst) := by
  induction h with
  | nil => exact reps_nil
  | cons r _ ih => exact reps_cons r.1 ih
def kSorted : List D → Sto → R D := k1 fun d S => match lsOf S d with
  | some ds => (match pys ds with
    | some es => chk (sortOkB es) (.ok (.lst (ds.mergeSort leD)) S)
    | none => .no)
  | none => .no
/-- .. a list that will change -/
def kSortedM : List D → Sto → R D := k1 fun d S => match lsOf S d with
  | some ds => (match pys ds with
    | some es => chk (sortOkB es) (.ok (.obj S.next) (S.push (.lst (ds.mergeSort leD))))
    | none => .no)
  | none => .no
theorem sort_reps {K : PySem.W.Frag} {B : Hp} {tb : Tb} {ds : List D} {vs : List V} {es : List PyData} (r : reps K B tb ds vs) (q : pys ds = some es) : reps K B tb (ds.mergeSort leD) (((vs.zip es).mergeSort (dataLe false Prod.snd)).map Prod.fst) := by
  have e := each_sort r q
  refine reps_each (PySem.W.sort_each e fun p hp p' hp' => ?_)
  have h1 := e.zip p hp
  have h2 := e.zip p' hp'
  unfold leD
  show PySem.W.sortLe _ _ _ _ _ = PySem.W.sortLe _ _ _ _ _
  unfold PySem.W.sortLe
  simp only [h1.2, h2.2]
theorem fit_sorted {K : PySem.W.Frag} : FitC K (rSortD K) kSorted := fit_k1 fun B tb W σ H S d v Q w r q => by
  split at q
  · rename_i ds e
    split at q
    · rename_i es e2
      obtain ⟨c, q⟩ := chk_ok q
      obtain ⟨p, vs, rfl, h1, r1⟩ := lsOf_ok w e r
      refine ⟨p, vs, es, rfl, h1, pys_ok w.sub ds vs es r1 e2, sortOk_alike c, sortOk_sortable c, sortOk_depth c, fun l hl => ?_⟩
      obtain ⟨B', e', w', r'⟩ := new_lst w (sort_reps r1 e2) hl
      exact q B' tb _ e' w' _ r'
    · exact q.elim
  · exact q.elim
theorem fit_sortedM {K : PySem.W.Frag} : FitC K (rSortD K) kSortedM := fit_k1 fun B tb W σ H S d v Q w r q => by
  split at q
  · rename_i ds e
    split at q
    · rename_i es e2
      obtain ⟨c, q⟩ := chk_ok q
      obtain ⟨p, vs, rfl, h1, r1⟩ := lsOf_ok w e r
      refine ⟨p, vs, es, rfl, h1, pys_ok w.sub ds vs es r1 e2, sortOk_alike c, sortOk_sortable c, sortOk_depth c, fun l hl => ?_⟩
      obtain ⟨tb', e', w', r'⟩ := new_obj w (sort_reps r1 e2) hl
      exact q B tb' _ e' w' _ r'
    · exact q.elim
  · exact q.elim
end Qd

namespace Qd
open PySem L2
open PyProof.Rows (IsTup)

/-! ### enumerate, zip over lists and tuples -/
/-- k: a list, else a tuple -/
def SrcH (K : PySem.W.Frag) (k : Bool) (a : Addr) (vs : List V) (H : Hp) : Prop := match k with
  | true => SqL K H a vs
  | false => SqT K H a vs
def SrcA (k : Bool) (a : Addr) (items : Array Value) (h : Heap) : Prop := match k with
  | true => h.IsList a items
  | false => h.IsTuple a items
def ItA (k : Bool) (it a : Addr) (i : Nat) (h : Heap) : Prop := match k with
  | true => h.IsListIter it a i
  | false => h.IsTupleIter it a i
def itObj (k : Bool) (a : Addr) : Obj := match k with
  | true => { cls := .type "list_iterator", data := .fields #[.ref a, .int 0 0] }
  | false => { cls := .type "tuple_iterator", data := .fields #[.ref a, .int 0 0] }
theorem ItA.keep {k : Bool} {it a : Addr} {i : Nat} {h h' : Heap} (x : ItA k it a i h) (q : ∀ o, h.get? it = some o → h'.get? it = some o) : ItA k it a i h' := by
  cases k with
  | true => exact Heap.IsListIter.at x q
  | false => exact Heap.IsTupleIter.at x q
theorem ItA.obj {k : Bool} {it a : Addr} {i : Nat} {h : Heap} (x : ItA k it a i h) : ∃ o, h.get? it = some o ∧ ∀ v, o.data ≠ .cell v := by
  cases k with
  | true => obtain ⟨o, h1, _, h2⟩ := x; exact ⟨o, h1, fun v q => by rw [h2] at q; cases q⟩
  | false => obtain ⟨o, h1, _, h2⟩ := x; exact ⟨o, h1, fun v q => by rw [h2] at q; cases q⟩
theorem drawsK {prog : Program} {w : World} {A : Around} (hh : A.handled = none) (k : Bool) (it a : Addr) (hne : a ≠ it) (items : Array Value) :
    Draws prog w A it [it, a] items.size (fun i v => items[i]? = some v) (fun i h => ItA k it a i h ∧ SrcA k a items h) := by
  cases k with
  | true => exact Draws.list hh it a hne items
  | false => exact Draws.tuple hh it a hne items
theorem beginsK (k : Bool) (a : Addr) (items : Array Value) : Begins (.ref a) (itObj k a) (SrcA k a items) := by
  cases k with
  | true => exact begins_list a items
  | false => exact begins_tuple a items
theorem itObj_it {k : Bool} {a it : Addr} {h : Heap} (e : h.get? it = some (itObj k a)) : ItA k it a 0 h := by
  cases k with
  | true => exact ⟨_, e, rfl, rfl⟩
  | false => exact ⟨_, e, rfl, rfl⟩
section
variable {X : Cx} {pins : List (Addr × Obj)} {σ : L2.St} {H : Hp} {s : Shared}
theorem src_of (I : Inv X pins σ H s) {k : Bool} {a : Addr} {vs : List V} (h : SrcH X.K k a vs H) : ∃ its : List Value, Vals vs its ∧ SrcA k a its.toArray s.heap ∧ a < s.heap.objs.size := by
  cases k with
  | true =>
    obtain ⟨its, rv, p, _⟩ := I.list h
    exact ⟨its, rv, p.isList, p.lt⟩
  | false =>
    obtain ⟨its, rv, p, _⟩ := I.tuple h
    exact ⟨its, rv, p, p.lt⟩
end
theorem apart_cls {k : Bool} {a e : Addr} {its : Array Value} {h : Heap} {o : Obj} (sa : SrcA k a its h) (he : h.get? e = some o) (hc : (o.cls == .type "list" || o.cls == .type "tuple") = false) : a ≠ e := by
  intro z
  subst z
  cases k with
  | true =>
    obtain ⟨o', h1, h2, _⟩ := sa
    rw [he] at h1; cases h1
    rw [h2] at hc
    exact absurd hc (by decide)
  | false =>
    obtain ⟨o', h1, h2, _⟩ := sa
    rw [he] at h1; cases h1
    rw [h2] at hc
    exact absurd hc (by decide)
theorem apart_it {k k' : Bool} {a it b : Addr} {i : Nat} {its : Array Value} {h : Heap} (sa : SrcA k a its h) (hi : ItA k' it b i h) : a ≠ it := by
  cases k' with
  | true => obtain ⟨o, h1, h2, _⟩ := hi; exact apart_cls sa h1 (by rw [h2] <;> rfl)
  | false => obtain ⟨o, h1, h2, _⟩ := hi; exact apart_cls sa h1 (by rw [h2] <;> rfl)
theorem _root_.PySem.GoesN.cast {prog : Program} {w : World} {A : Around} {target : Expr} {I : Addr} {fp wr : List Addr} {n : Nat} {Y : Nat → Heap → Value → Heap → Prop} {St St' : Nat → Heap → Prop} (G : GoesN prog w A target I fp wr n Y St) (h : ∀ i hp, St i hp ↔ St' i hp) : GoesN prog w A target I fp wr n Y St' := by
  have e : St = St' := by funext i hp; exact propext (h i hp)
  rw [← e]; exact G
/-- an iterator that gives new tuples, its sources looked up anew at each turn -/
theorem turnN {P : Program} {w : World} {K : PySem.W.Frag} {elts : List Expr} {kk : Nat} {tpos : Pos} {I : Addr} {own wr : List Addr} {n : Nat} (rows : Nat → List V) (Sr : Hp → Prop) {ι : Type} (SA : ι → Heap → Prop) (fps : List Addr) (tn : Nat → Heap → Prop)
    (hz : ∀ i, (rows i).length ≤ sizeLine) (mem : I ∈ own) (obj : ∀ i h, tn i h → ∀ b ∈ own, ∃ o, h.get? b = some o ∧ ∀ v, o.data ≠ .cell v)
    (keep : ∀ i h h', tn i h → (∀ b ∈ own, ∀ o, h.get? b = some o → h'.get? b = some o) → tn i h') (hw : ∀ b ∈ wr, b ∈ own)
    (self : ∀ (A : Around) (i : Nat) (s : Shared) (Q : Value → Shared → Prop) (E : Value → Shared → Prop), tn i s.heap → Q (.ref I) s → wpAny (model P w) A (pyIter (.ref I)) Q E s)
    (src : ∀ (X : Cx) (pins : List (Addr × Obj)) (σ : L2.St) (H : Hp) (s : Shared), X.K = K → Inv X pins σ H s → Sr H → ∀ i, tn i s.heap → ∃ j, SA j s.heap ∧
      ∀ A : Around, A.handled = none → GoesN P w A (.Tuple elts kk tpos) I fps wr n (fun i h₀ v h => ∃ T vals, v = .ref T ∧ h₀.objs.size ≤ T ∧ Vals (rows i) vals ∧ h.IsTuple T vals.toArray) (fun i h => tn i h ∧ SA j h)) :
    Turn P w K (.Tuple elts kk tpos) ⟨fun i H => i < n ∧ Sr H, fun i H x H' => ∃ T, x = .ref T ∧ H T = none ∧ H' = upd H T (.tup (rows i)), fun i H => i = n ∧ Sr H⟩ own I tn where
  mem := mem
  obj := obj
  keep := keep
  item := by
    intro X hP hw' hK hc i pins s σ H E I0 hf st hg
    subst hP hw'
    obtain ⟨hi, hs⟩ := hg
    obtain ⟨j, sa, G⟩ := src X pins σ H s hK I0 hs _ st
    subst hK
    refine (G X.A (I0.ok.hd hc)).goes i s _ E hi ⟨st, sa⟩ fun v h' tk hY st' hk _ => ?_
    obtain ⟨T, vals, rfl, hT, rv, ht⟩ := hY
    have new : ObjOk X.prog X.w (upd H T (.tup (rows i))) h' T (.tup (rows i)) := ⟨hz i, vals, rv, ht⟩
    have I1 : Inv X pins σ (upd H T (.tup (rows i))) { s with heap := h', toks := tk } := I0.turnedNew (ch := wr) hk (fun b hb => hf b (hw b hb)) hT new
    refine ⟨.ref T, _, I1, rfl, ⟨T, rfl, I0.hok.fresh hT, rfl⟩, st'.1, fun b hb => ?_⟩
    obtain ⟨o, ho, _⟩ := obj i _ st b hb
    rw [upd_ne (Nat.ne_of_lt (Nat.lt_of_lt_of_le (Heap.lt_size ho) hT))]
    exact (hf b hb).1
  done := by
    intro X hP hw' hK hc i pins s σ H E I0 hf st hg
    subst hP hw'
    obtain ⟨rfl, hs⟩ := hg
    obtain ⟨j, sa, G⟩ := src X pins σ H s hK I0 hs _ st
    subst hK
    exact (G X.A (I0.ok.hd hc)).stops s _ E ⟨st, sa⟩ fun h' tk hk _ => I0.turnedL (ch := wr) hk fun b hb => hf b (hw b hb)
  self := self
/-- enumerate of one argument -/
theorem meets_enum1 {v : Value} {ob : Obj} {Hs : Heap → Prop} (Bg : Begins v ob Hs) : Meets (Builtin.«enumerate.__new__» ⟨[.type "enumerate", v], []⟩) (fun _ Rs st =>
    Hs st.heap ∧ Rs (.ok (.ret (.ref (st.heap.push ob).objs.size))) { st with heap := (st.heap.push ob).push { cls := .type "enumerate", data := .fields #[.none, .bool false, .ref st.heap.objs.size, rawInt 0, .none, .none] } }) :=
  .of_wp fun pr wo Ar Rs st hy => by
    obtain ⟨hp, gn, dr, tk, os⟩ := st
    obtain ⟨hy1, hy2⟩ := hy
    have hsub := sub_enumerate
    have go1 : ∀ {A' : Around} {E' Q' : Value → Shared → Prop}, Q' (.ref hp.objs.size) ⟨hp.push ob, gn, dr, tk, os⟩ → wpAny (model pr wo) A' (pyIter v) Q' E' ⟨hp, gn, dr, tk, os⟩ := fun q => Bg.iter pr wo _ _ ⟨hp, gn, dr, tk, os⟩ _ hy1 q
    wp_walk using go1
    refine wpAny_stack_any fun z => wpAny_pure ?_
    split
    · rename_i c _ _ _ _ _
      cases (c == Value.type "enumerate") <;> (wp_walk using go1; exact ⟨_, rfl, hy2⟩)
    · wp_walk using go1
      exact ⟨_, rfl, hy2⟩
theorem enum_begins1 {prog : Program} {w : World} {A : Around} {E : Value → Shared → Prop} {s : Shared} {v : Value} {ob : Obj} {Hs : Heap → Prop} {Q : Value → Shared → Prop} (Bg : Begins v ob Hs) (h1 : Hs s.heap)
    (k : ∀ g : Heap, IsEnum g (s.heap.objs.size + 1) s.heap.objs.size 0 .none → g.get? s.heap.objs.size = some ob → (∀ c u, s.heap.get? c = some u → g.get? c = some u) → Q (.ref (s.heap.objs.size + 1)) { s with heap := g }) :
    wpAny (model prog w) A (call (.type "enumerate") [v]) Q E s := by
  refine callType_new F.called_enumerate (by decide) (F.typeCall_enumerate_1 _) (F.newCall_enumerate_1 _) (fun y => F.args_object_init_2 y _) F.entry_enumerate_new (meets_enum1 Bg) ⟨h1, ?_⟩
  have sz : (s.heap.push ob).objs.size = s.heap.objs.size + 1 := Heap.size_push ..
  show _ ∧ _
  rw [sz]
  generalize hen : ({ cls := .type "enumerate", data := .fields #[.none, .bool false, .ref s.heap.objs.size, rawInt 0, .none, .none] } : Obj) = en
  have g1 : ((s.heap.push ob).push en).get? (s.heap.objs.size + 1) = some en := by
    have z := Heap.get?_push_size (s.heap.push ob) (o := en) (by rw [← hen] <;> rfl)
    rw [sz] at z; exact z
  have ie : IsEnum ((s.heap.push ob).push en) (s.heap.objs.size + 1) s.heap.objs.size 0 .none := by rw [← hen] at g1 ⊢; exact g1
  exact ⟨⟨_, g1, by rw [← hen] <;> rfl⟩, k _ ie (Heap.get?_push_of_some _ (Heap.get?_push_size _ Bg.free)) fun c u x => Heap.get?_push_of_some _ (Heap.get?_push_of_some _ x)⟩
def ItEnum (K : PySem.W.Frag) (k : Bool) (a : Addr) (vs : List V) : It := ⟨fun i H => i < vs.length ∧ SrcH K k a vs H, fun i H x H' => ∃ T, x = .ref T ∧ H T = none ∧ H' = upd H T (.tup ((vs[i]?.map fun v => [V.int (i : Nat), v]).getD [])), fun i H => i = vs.length ∧ SrcH K k a vs H⟩
theorem two_line : 2 ≤ sizeLine := by rw [sizeLine_eq]; decide
theorem turn_enumK {P : Program} {w : World} {K : PySem.W.Frag} {elts : List Expr} {kk : Nat} {tpos : Pos} (k : Bool) (a e it : Addr) (vs : List V) (hei : e ≠ it) :
    Turn P w K (.Tuple elts kk tpos) (ItEnum K k a vs) [e, it] e (fun i h => (∃ old, IsEnum h e it (0 + (i : Int)) old) ∧ ItA k it a i h) := by
  refine turnN (fun i => (vs[i]?.map fun v => [V.int (i : Nat), v]).getD []) (SrcH K k a vs) (ι := List Value) (fun its h => SrcA k a its.toArray h) [e, it, a] _ (wr := [e, it]) (fun i => ?_) (by simp) (fun i h st b hb => ?_) (fun i h h' st q => ?_) (fun b hb => hb) (fun A i s Q E st h => ?_) (fun X pins σ H s hK I hs j0 st => ?_)
  · cases vs[i]? with
    | none => exact Nat.zero_le _
    | some v => exact two_line
  · obtain ⟨⟨old, he⟩, hi⟩ := st
    have e' : b = e ∨ b = it := by simpa using hb
    rcases e' with z | z
    · subst z; exact ⟨_, he, fun v q => nomatch q⟩
    · subst z; exact hi.obj
  · obtain ⟨⟨old, he⟩, hi⟩ := st
    exact ⟨⟨old, q e (by simp) _ he⟩, hi.keep fun o x => q it (by simp) o x⟩
  · obtain ⟨⟨old, he⟩, _⟩ := st
    exact wpAny_pyIter_enum he h
  · subst hK
    obtain ⟨its, rv, sa, la⟩ := src_of I hs
    obtain ⟨⟨old, he⟩, hi⟩ := st
    have ne1 : a ≠ it := apart_it sa hi
    have ne2 : a ≠ e := apart_cls sa he rfl
    refine ⟨its, sa, fun A hh => ?_⟩
    have G := (GoesN.enumFrom (elts := elts) (x1 := kk) (pos := tpos) 0 (drawsK (prog := P) (w := w) (A := A.in1) hh k it a ne1 its.toArray) e hei (by simp [hei, Ne.symm ne2]) (by simp))
    have sz : its.toArray.size = vs.length := by rw [List.size_toArray]; exact rv.length.symm
    rw [sz] at G
    refine (GoesN.cast G fun i h => ⟨fun ⟨x, y, z⟩ => ⟨⟨x, y⟩, z⟩, fun ⟨⟨x, y⟩, z⟩ => ⟨x, y, z⟩⟩).mono fun i h₀ v h hi ⟨T, t, x, e1, e2, e3, e4⟩ => ?_
    have e3' : its[i]? = some x := by simpa using e3
    obtain ⟨v', hv⟩ : ∃ v', vs[i]? = some v' := ⟨vs[i], by simp [hi]⟩
    obtain ⟨u, hu, ru⟩ := rv.get hv
    rw [e3'] at hu; cases hu
    refine ⟨T, [.int (0 + (i : Int)) t, x], e1, e2, ?_, by simpa using e4⟩
    rw [hv]
    exact .cons ⟨t, by rw [Int.zero_add]⟩ (.cons ru .nil)
end Qd

namespace Qd
open PySem L2

def ItZip (K : PySem.W.Frag) (k k' : Bool) (a b : Addr) (vs us : List V) : It := ⟨fun i H => i < min vs.length us.length ∧ SrcH K k a vs H ∧ SrcH K k' b us H, fun i H x H' => ∃ T, x = .ref T ∧ H T = none ∧ H' = upd H T (.tup ((vs[i]?.bind fun v => us[i]?.map fun u => [v, u]).getD [])),
  fun i H => i = min vs.length us.length ∧ SrcH K k a vs H ∧ SrcH K k' b us H⟩
theorem turn_zipK {P : Program} {w : World} {K : PySem.W.Frag} {elts : List Expr} {kk : Nat} {tpos : Pos} (k k' : Bool) (a b N : Addr) (vs us : List V) (ha : a < N) (hb : b < N) :
    Turn P w K (.Tuple elts kk tpos) (ItZip K k k' a b vs us) [N + 4, N + 2, N + 3, N, N + 1] (N + 4) (fun i h => (IsZip h (N + 4) (N + 2) (N + 3) .none ∧ IsTupOf2 h (N + 2) (.ref N) (.ref (N + 1)) ∧ ∃ a1 a2, IsTupOf2 h (N + 3) a1 a2) ∧ ItA k N a i h ∧ ItA k' (N + 1) b i h) := by
  have na : a ≠ N := Nat.ne_of_lt ha
  have nb : b ≠ N + 1 := Nat.ne_of_lt (Nat.lt_succ_of_lt hb)
  refine turnN (fun i => (vs[i]?.bind fun v => us[i]?.map fun u => [v, u]).getD []) (fun H => SrcH K k a vs H ∧ SrcH K k' b us H) (ι := List Value × List Value) (fun its h => SrcA k a its.1.toArray h ∧ SrcA k' b its.2.toArray h) ((N + 4) :: (N + 2) :: (N + 3) :: ([N, a] ++ [N + 1, b])) _ (wr := [N + 4, N + 3, N, N + 1])
    (fun i => ?_) (by simp) (fun i h st c hc => ?_) (fun i h h' st q => ?_) (fun c hc => ?_) (fun A i s Q E st h => wpAny_pyIter_zip st.1.1 h) (fun X pins σ H s hK I hs j0 st => ?_)
  · cases vs[i]? with
    | none => exact Nat.zero_le _
    | some v => cases us[i]? with
      | none => exact Nat.zero_le _
      | some u => exact two_line
  · obtain ⟨⟨hz, hTI, a1, a2, hTO⟩, h1, h2⟩ := st
    have e' : c = N + 4 ∨ c = N + 2 ∨ c = N + 3 ∨ c = N ∨ c = N + 1 := by simpa using hc
    rcases e' with z | z | z | z | z
    · subst z; exact ⟨_, hz, fun v q => nomatch q⟩
    · subst z; exact ⟨_, hTI, fun v q => nomatch q⟩
    · subst z; exact ⟨_, hTO, fun v q => nomatch q⟩
    · subst z; exact h1.obj
    · subst z; exact h2.obj
  · obtain ⟨⟨hz, hTI, a1, a2, hTO⟩, h1, h2⟩ := st
    exact ⟨⟨q _ (by simp) _ hz, q _ (by simp) _ hTI, a1, a2, q _ (by simp) _ hTO⟩, h1.keep fun o x => q _ (by simp) o x, h2.keep fun o x => q _ (by simp) o x⟩
  · have e' : c = N + 4 ∨ c = N + 3 ∨ c = N ∨ c = N + 1 := by simpa using hc
    rcases e' with z | z | z | z <;> subst z <;> simp
  · subst hK
    obtain ⟨its, rv, sa, la⟩ := src_of I hs.1
    obtain ⟨its2, rv2, sa2, la2⟩ := src_of I hs.2
    refine ⟨(its, its2), ⟨sa, sa2⟩, fun A hh => ?_⟩
    have sep : ZipSep2 (N + 4) (N + 2) (N + 3) N (N + 1) (N :: [a]) ((N + 1) :: [b]) := zip_sep2 (fun c hc => by rw [List.mem_singleton.mp hc]; exact ha) (fun c hc => by rw [List.mem_singleton.mp hc]; exact hb)
    have G := GoesN.zip2 (elts := elts) (x1 := kk) (pos := tpos) sep (drawsK (prog := P) (w := w) (A := A.in1) hh k N a na its.toArray) (drawsK (prog := P) (w := w) (A := A.in1) hh k' (N + 1) b nb its2.toArray)
    have sz : min its.toArray.size its2.toArray.size = min vs.length us.length := by rw [List.size_toArray, List.size_toArray, rv.length, rv2.length]
    rw [sz] at G
    refine (GoesN.cast G fun i h => ⟨fun ⟨x, y, z, ⟨p, q⟩, r, t⟩ => ⟨⟨⟨x, y, z⟩, p, r⟩, q, t⟩, fun ⟨⟨⟨x, y, z⟩, p, r⟩, q, t⟩ => ⟨x, y, z, ⟨p, q⟩, r, t⟩⟩).mono fun i h₀ v h hi ⟨T, x, y, e1, e2, e3, e4, e5⟩ => ?_
    have e3' : its[i]? = some x := by simpa using e3
    have e4' : its2[i]? = some y := by simpa using e4
    have hi1 : i < vs.length := by omega
    have hi2 : i < us.length := by omega
    have hv : vs[i]? = some vs[i] := by simp [hi1]
    have hu : us[i]? = some us[i] := by simp [hi2]
    obtain ⟨x', q1, r1⟩ := rv.get hv
    obtain ⟨y', q2, r2⟩ := rv2.get hu
    rw [e3'] at q1; cases q1
    rw [e4'] at q2; cases q2
    refine ⟨T, [x, y], e1, e2, ?_, by simpa using e5⟩
    rw [hv, hu]
    exact .cons r1 (.cons r2 .nil)
section
variable {X : Cx} {W : WX} {e e2 : Expr} {f g : FE} {elts : List Expr} {kk : Nat} {p pos tpos : Pos}
def iEnumK (K : PySem.W.Frag) (te : TE) : TI := fun σ H R => te σ H fun x H1 => ∃ a vs k, x = .ref a ∧ SrcH K k a vs H1 ∧ R (ItEnum K k a vs) H1
theorem pi_enumK {te : TE} (hg : Gl X "enumerate") (hm : X.mg "enumerate" = none) (he : PE X e te) (hs : starEach (e :: []) X.env = (false, eval e X.env) :: starEach [] X.env := by rfl) (hs2 : starEach [e] X.env = [(false, eval e X.env)] := by rfl) :
    PI X (.Tuple elts kk tpos) (.Call (.Name "enumerate" p) [e] [] pos) (iEnumK X.K te) := by
  refine ⟨fun pins s σ H R I h => PyProof.Rows.Call_ (ld_blt I hg hm PyProof.Rows.boot_enumerate (PyProof.Rows.callWith_type1 (thn ((pa_cons he pa_nil hs).run pos pins s σ H (fun vs H1 => ∃ a ws k, vs = [.ref a] ∧ SrcH X.K k a ws H1 ∧ R (ItEnum X.K k a ws) H1) I ?_) fun us s1 ⟨vs, H1, I1, r1, q1⟩ => ?_) hs2 rfl))⟩
  · have h' : te σ H fun x H1 => ∃ a vs k, x = .ref a ∧ SrcH X.K k a vs H1 ∧ R (ItEnum X.K k a vs) H1 := h
    have key : (fun x H1 => ∃ a vs k, x = V.ref a ∧ SrcH X.K k a vs H1 ∧ R (ItEnum X.K k a vs) H1) = fun (x : V) (H1 : Hp) => ∃ a ws k, [x] = [V.ref a] ∧ SrcH X.K k a ws H1 ∧ R (ItEnum X.K k a ws) H1 := by
      funext x H1
      simp only [List.cons.injEq, and_true]
    rw [key] at h'
    exact h'
  · obtain ⟨a, ws, k, rfl, hq, q⟩ := q1
    obtain ⟨u, rfl, ru⟩ := Vals.one r1
    obtain rfl : u = Value.ref a := ru
    obtain ⟨its, rv, sa, la⟩ := src_of I1 hq
    refine enum_begins1 (beginsK k a its.toArray) sa fun h' he hit hk => wpAny_pyIter_enum he ?_
    have I2 : Inv X pins σ H1 { s1 with heap := h' } := I1.kept (t' := s1.toks) hk
    refine ⟨s1.heap.objs.size + 1, [s1.heap.objs.size + 1, s1.heap.objs.size], _, _, H1, rfl, I2, turn_enumK k a (s1.heap.objs.size + 1) s1.heap.objs.size ws (Nat.succ_ne_self _), ⟨⟨.none, he⟩, itObj_it hit⟩, fun b hb => ?_, q⟩
    have hle : s1.heap.objs.size ≤ b := by
      have e' : b = s1.heap.objs.size + 1 ∨ b = s1.heap.objs.size := by simpa using hb
      rcases e' with z | z
      · rw [z]; exact Nat.le_succ _
      · rw [z]; exact Nat.le_refl _
    exact I1.fpOk hle (I1.hok.fresh hle)
def iZipK (K : PySem.W.Frag) (ta tb : TE) : TI := fun σ H R => ta σ H fun x H1 => tb σ H1 fun y H2 => ∃ a b vs us k k', x = .ref a ∧ y = .ref b ∧ SrcH K k a vs H2 ∧ SrcH K k' b us H2 ∧ R (ItZip K k k' a b vs us) H2
theorem pi_zipK {ta tb : TE} (hg : Gl X "zip") (hm : X.mg "zip" = none) (he : PE X e ta) (he2 : PE X e2 tb) (hs : starEach [e, e2] X.env = (false, eval e X.env) :: starEach [e2] X.env := by rfl) (hs2 : starEach (e2 :: []) X.env = (false, eval e2 X.env) :: starEach [] X.env := by rfl)
    (hpl : (backTo pos (starEach [e2] X.env)).any (·.1) = false := by rfl) : PI X (.Tuple elts kk tpos) (.Call (.Name "zip" p) [e, e2] [] pos) (iZipK X.K ta tb) := by
  refine ⟨fun pins s σ H R I h => PyProof.Rows.Call_ (ld_blt I hg hm PyProof.Rows.boot_zip (PyProof.Rows.callWith_type1 (thn ((pa_cons he (pa_cons he2 pa_nil hs2) hs).run pos pins s σ H (fun vs H2 => ∃ a b ws us k k', vs = [.ref a, .ref b] ∧ SrcH X.K k a ws H2 ∧ SrcH X.K k' b us H2 ∧ R (ItZip X.K k k' a b ws us) H2) I ?_) fun us s1 ⟨vs, H1, I1, r1, q1⟩ => ?_) hs hpl))⟩
  · have h' : ta σ H fun x H1 => tb σ H1 fun y H2 => ∃ a b vs us k k', x = .ref a ∧ y = .ref b ∧ SrcH X.K k a vs H2 ∧ SrcH X.K k' b us H2 ∧ R (ItZip X.K k k' a b vs us) H2 := h
    have key : (fun (x : V) H1 => tb σ H1 fun y H2 => ∃ a b vs us k k', x = .ref a ∧ y = .ref b ∧ SrcH X.K k a vs H2 ∧ SrcH X.K k' b us H2 ∧ R (ItZip X.K k k' a b vs us) H2) = fun (x : V) H1 => tb σ H1 fun y H2 => ∃ a b ws us k k', [x, y] = [.ref a, .ref b] ∧ SrcH X.K k a ws H2 ∧ SrcH X.K k' b us H2 ∧ R (ItZip X.K k k' a b ws us) H2 := by
      funext x H1
      congr 1
      funext y H2
      simp only [List.cons.injEq, and_true, and_assoc]
    rw [key] at h'
    exact h'
  · obtain ⟨a, b, ws, zs, k, k', rfl, hq, hq2, q⟩ := q1
    obtain ⟨u, u2, rfl, ru, ru2⟩ := Vals.two r1
    obtain rfl : u = Value.ref a := ru
    obtain rfl : u2 = Value.ref b := ru2
    obtain ⟨its, rv, sa, la⟩ := src_of I1 hq
    obtain ⟨its2, rv2, sa2, la2⟩ := src_of I1 hq2
    refine zip_begins2 (beginsK k a its.toArray) (beginsK k' b its2.toArray) sa sa2 fun h' hz hTI hTO h1 h2 hsz hk => wpAny_pyIter_zip hz ?_
    have I2 : Inv X pins σ H1 { s1 with heap := h' } := I1.kept (t' := s1.toks) hk
    refine ⟨s1.heap.objs.size + 4, [s1.heap.objs.size + 4, s1.heap.objs.size + 2, s1.heap.objs.size + 3, s1.heap.objs.size, s1.heap.objs.size + 1], _, _, H1, rfl, I2, turn_zipK k k' a b s1.heap.objs.size ws zs la la2, ⟨⟨hz, hTI, _, _, hTO⟩, itObj_it h1, itObj_it h2⟩, fun c hc => ?_, q⟩
    have hle : s1.heap.objs.size ≤ c := by
      have e' : c = s1.heap.objs.size + 4 ∨ c = s1.heap.objs.size + 2 ∨ c = s1.heap.objs.size + 3 ∨ c = s1.heap.objs.size ∨ c = s1.heap.objs.size + 1 := by simpa using hc
      rcases e' with z | z | z | z | z <;> rw [z] <;> first | exact Nat.le_add_right _ _ | exact Nat.le_refl _
    exact I1.fpOk hle (I1.hok.fresh hle)

def enumD : Nat → List D → List D
  | _, [] => []
  | n, d :: r => .tup [.int (n : Int), d] :: enumD (n + 1) r
def zipD : List D → List D → List D
  | d :: r, e :: s => .tup [d, e] :: zipD r s
  | _, _ => []
theorem enumD_get : ∀ (n : Nat) (ds : List D) (i : Nat), (enumD n ds)[i]? = ds[i]?.map fun d => .tup [.int ((n + i : Nat) : Int), d]
  | n, [], i => by simp [enumD]
  | n, d :: r, 0 => by simp [enumD]
  | n, d :: r, i + 1 => by
    simp only [enumD, List.getElem?_cons_succ, enumD_get (n + 1) r i]
    congr 1
    funext x
    have : n + 1 + i = n + (i + 1) := by omega
    rw [this]
theorem enumD_len : ∀ (n : Nat) (ds : List D), (enumD n ds).length = ds.length
  | _, [] => rfl
  | n, d :: r => by simp [enumD, enumD_len (n + 1) r]
theorem zipD_get : ∀ (ds es : List D) (i : Nat), (zipD ds es)[i]? = ds[i]?.bind fun d => es[i]?.map fun e => .tup [d, e]
  | [], es, i => by simp [zipD]
  | d :: r, [], i => by cases i <;> simp [zipD]
  | d :: r, e :: s, 0 => by simp [zipD]
  | d :: r, e :: s, i + 1 => by simp [zipD, zipD_get r s i]
theorem zipD_len : ∀ (ds es : List D), (zipD ds es).length = min ds.length es.length
  | [], es => by simp [zipD]
  | d :: r, [] => by simp [zipD]
  | d :: r, e :: s => by simp [zipD, zipD_len r s]
/-- a list or tuple that never changes, as a source -/
theorem src_fr {K : PySem.W.Frag} {B : Hp} {tb : Tb} {d : D} {ds : List D} {v : V} (e : frOf d = some ds) (r : rep K B tb d v) : ∃ a vs k, v = .ref a ∧ reps K B tb ds vs ∧ ∀ (B' H' : Hp), (∀ a o, B a = some o → B' a = some o) → (∀ a o, B' a = some o → H' a = some o) → SrcH K k a vs H' := by
  cases d with
  | tup es =>
    cases e
    simp only [rep] at r
    obtain ⟨a, vs, rfl, h1, h2⟩ := r
    exact ⟨a, vs, false, rfl, h2, fun B' H' s u => SqT.ex u (TpB.ex s h1)⟩
  | lst es =>
    cases e
    simp only [rep] at r
    obtain ⟨a, vs, rfl, h1, h2⟩ := r
    exact ⟨a, vs, true, rfl, h2, fun B' H' s u => SqL.of (u _ _ (s _ _ h1))⟩
  | scr es =>
    cases e
    simp only [rep] at r
    obtain ⟨a, vs, rfl, h1, h2⟩ := r
    exact ⟨a, vs, true, rfl, h2, fun B' H' s u => SqL.ex u (SqL.ex s h1)⟩
  | _ => cases e
theorem itOk_enum {K : PySem.W.Frag} {B : Hp} {tb : Tb} {k : Bool} {a : Addr} {vs : List V} {ds : List D} (h : ∀ (B' H' : Hp), (∀ a o, B a = some o → B' a = some o) → (∀ a o, B' a = some o → H' a = some o) → SrcH K k a vs H') (r : reps K B tb ds vs) : ItOk K (ItEnum K k a vs) (enumD 0 ds) B tb := by
  intro i B1 tb1 H1 S1 s t w
  have hl := h B1 H1 s w.sub
  refine ⟨fun d hd => ?_, fun e => ⟨by rw [enumD_len] at e; rw [e, reps_len r], hl⟩⟩
  rw [enumD_get] at hd
  cases z : ds[i]? with
  | none => rw [z] at hd; cases hd
  | some d0 =>
    rw [z] at hd
    obtain ⟨v, h1, h2⟩ := reps_get r z
    refine ⟨⟨(List.getElem?_eq_some_iff.mp h1).1, hl⟩, fun x H' ⟨T, e1, e2, e3⟩ => ?_⟩
    subst e1 e3
    rw [h1]
    have hr : reps K B1 tb1 [.int ((i : Nat) : Int), d0] [.int ((i : Nat) : Int), v] := reps_cons rep_int (reps_cons (rep_mono s t _ _ h2) reps_nil)
    obtain ⟨B', x', w', r'⟩ := new_tup w hr e2
    refine ⟨B', x', w', ?_⟩
    have : d = .tup [.int ((i : Nat) : Int), d0] := by
      have z2 := Option.some.inj hd
      rw [← z2, Nat.zero_add]
    rw [this]; exact r'
theorem itOk_zip {K : PySem.W.Frag} {B : Hp} {tb : Tb} {k k' : Bool} {a b : Addr} {vs us : List V} {ds es : List D} (h : ∀ (B' H' : Hp), (∀ a o, B a = some o → B' a = some o) → (∀ a o, B' a = some o → H' a = some o) → SrcH K k a vs H') (h' : ∀ (B' H' : Hp), (∀ a o, B a = some o → B' a = some o) → (∀ a o, B' a = some o → H' a = some o) → SrcH K k' b us H')
    (r : reps K B tb ds vs) (r' : reps K B tb es us) : ItOk K (ItZip K k k' a b vs us) (zipD ds es) B tb := by
  intro i B1 tb1 H1 S1 s t w
  have hl := h B1 H1 s w.sub
  have hl' := h' B1 H1 s w.sub
  refine ⟨fun d hd => ?_, fun e => ⟨by rw [zipD_len] at e; rw [e, reps_len r, reps_len r'], hl, hl'⟩⟩
  rw [zipD_get] at hd
  cases z : ds[i]? with
  | none => rw [z] at hd; cases hd
  | some d0 =>
    cases z' : es[i]? with
    | none => rw [z, z'] at hd; cases hd
    | some d1 =>
      rw [z, z'] at hd
      obtain ⟨v, h1, h2⟩ := reps_get r z
      obtain ⟨u, h3, h4⟩ := reps_get r' z'
      have i1 := (List.getElem?_eq_some_iff.mp h1).1
      have i2 := (List.getElem?_eq_some_iff.mp h3).1
      refine ⟨⟨by omega, hl, hl'⟩, fun x H' ⟨T, e1, e2, e3⟩ => ?_⟩
      subst e1 e3
      rw [h1, h3]
      have hr : reps K B1 tb1 [d0, d1] [v, u] := reps_cons (rep_mono s t _ _ h2) (reps_cons (rep_mono s t _ _ h4) reps_nil)
      obtain ⟨B', x', w', r'⟩ := new_tup w hr e2
      refine ⟨B', x', w', ?_⟩
      have : d = .tup [d0, d1] := (Option.some.inj hd).symm
      rw [this]; exact r'
def iEnum (f : FE) : FI := fun ρ S => (f ρ S).bind fun d S => match frOf d with
  | some ds => .ok (enumD 0 ds) S
  | none => .no
def iZip (f g : FE) : FI := fun ρ S => (f ρ S).bind fun d S => (g ρ S).bind fun e S => match frOf d, frOf e with
  | some ds, some es => .ok (zipD ds es) S
  | _, _ => .no
theorem di_enum (hg : Gl X "enumerate") (hm : X.mg "enumerate" = none) (he : DE X W e f) (hs : starEach (e :: []) X.env = (false, eval e X.env) :: starEach [] X.env := by rfl) (hs2 : starEach [e] X.env = [(false, eval e X.env)] := by rfl) :
    DI X W (.Tuple elts kk tpos) (.Call (.Name "enumerate" p) [e] [] pos) (iEnum f) := (pi_enumK hg hm he hs hs2).imp fun σ H Rk ⟨B, tb, ρ, S, w, e, q⟩ =>
  LE.step w e q fun d S1 B1 tb1 H1 v x1 w1 e1 r1 h1 => by
    split at h1
    · rename_i ds hd
      obtain ⟨a, vs, k, rfl, h2, h3⟩ := src_fr hd r1
      exact ⟨a, vs, k, rfl, h3 B1 H1 (fun _ _ h => h) w1.sub, h1.ok w1 _ (itOk_enum h3 h2)⟩
    · exact h1.elim
theorem di_zip (hg : Gl X "zip") (hm : X.mg "zip" = none) (he : DE X W e f) (he2 : DE X W e2 g) (hs : starEach [e, e2] X.env = (false, eval e X.env) :: starEach [e2] X.env := by rfl) (hs2 : starEach (e2 :: []) X.env = (false, eval e2 X.env) :: starEach [] X.env := by rfl)
    (hpl : (backTo pos (starEach [e2] X.env)).any (·.1) = false := by rfl) : DI X W (.Tuple elts kk tpos) (.Call (.Name "zip" p) [e, e2] [] pos) (iZip f g) := (pi_zipK hg hm he he2 hs hs2 hpl).imp fun σ H Rk ⟨B, tb, ρ, S, w, e, q⟩ =>
  LE.step w e q fun d S1 B1 tb1 H1 v x1 w1 e1 r1 h1 => LE.step w1 e1 h1 fun d2 S2 B2 tb2 H2 u x2 w2 e2 r2 h2 => by
    split at h2
    · rename_i ds es hd hd2
      obtain ⟨a, vs, k, rfl, q2, q3⟩ := src_fr hd (rep_ex x2 _ _ r1)
      obtain ⟨b, us, k', rfl, q4, q5⟩ := src_fr hd2 r2
      exact ⟨a, b, vs, us, k, k', rfl, rfl, q3 B2 H2 (fun _ _ h => h) w2.sub, q5 B2 H2 (fun _ _ h => h) w2.sub, h2.ok w2 _ (itOk_zip q3 q5 q2 q4)⟩
    · exact h2.elim
end
end Qd

namespace Qd
open PySem L2

/-! ### how many arguments -/
theorem al_c {f : FE} {fa : FA} {n : Nat} (h : ∀ ρ S d S', fa ρ S = .ok d S' → d.length = n) : ∀ ρ S d S', aCons f fa ρ S = .ok d S' → d.length = n + 1 := by
  intro ρ S d S' q
  unfold aCons at q
  cases z : f ρ S with
  | ok x S1 =>
    rw [z] at q
    simp only [bind_ok] at q
    cases y : fa ρ S1 with
    | ok xs S2 => rw [y] at q; cases q; simp [h _ _ _ _ y]
    | er C ns vs S2 => rw [y] at q; cases q
    | no => rw [y] at q; cases q
  | er C ns vs S1 => rw [z] at q; cases q
  | no => rw [z] at q; cases q
theorem al_0 : ∀ ρ S d S', aNil ρ S = .ok d S' → d.length = 0 := by
  intro ρ S d S' h; cases h; rfl
theorem al_n1 {f : FE} : ∀ ρ S d S', aCons f aNil ρ S = .ok d S' → d.length = 1 := al_c al_0
theorem al_n2 {f g : FE} : ∀ ρ S d S', aCons f (aCons g aNil) ρ S = .ok d S' → d.length = 2 := al_c al_n1
theorem al_n3 {f g h : FE} : ∀ ρ S d S', aCons f (aCons g (aCons h aNil)) ρ S = .ok d S' → d.length = 3 := al_c al_n2
theorem al_n4 {f g h i : FE} : ∀ ρ S d S', aCons f (aCons g (aCons h (aCons i aNil))) ρ S = .ok d S' → d.length = 4 := al_c al_n3
theorem al_n5 {f g h i j : FE} : ∀ ρ S d S', aCons f (aCons g (aCons h (aCons i (aCons j aNil)))) ρ S = .ok d S' → d.length = 5 := al_c al_n4
theorem al_n6 {f g h i j k : FE} : ∀ ρ S d S', aCons f (aCons g (aCons h (aCons i (aCons j (aCons k aNil))))) ρ S = .ok d S' → d.length = 6 := al_c al_n5

/-! ### several targets -/
/-- no exception leaves -/
def nerR {α : Type} (r : R α) : R α := match r with
  | .er _ _ _ _ => .no
  | r => r
def gEach : List FG → List D → Rho → Sto → R Rho
  | [], ds => fun ρ S => match ds with
    | [] => .ok ρ S
    | _ :: _ => .no
  | g :: gs, ds => fun ρ S => match ds with
    | [] => .no
    | x :: xs => (g x ρ S).bind fun ρ' S' => nerR (gEach gs xs ρ' S')
def gMany (gs : List FG) : FG := fun d ρ S => match d with
  | .tup ds => chk (ds.length == gs.length) (gEach gs ds ρ S)
  | _ => .no
def LGs (K : PySem.W.Frag) (W : WX) (gs : List FG) : TGs := fun vs σ H Q => ∃ B tb ρ S ds, Wd K H B tb S ∧ repE K B tb ρ σ ∧ reps K B tb ds vs ∧ Post K B tb W σ (gEach gs ds ρ S) fun ρ' _ B' tb' H' => ∀ σ', repE K B' tb' ρ' σ' → Q σ' H'
abbrev DGs (X : Cx) (W : WX) (es : List Expr) (gs : List FG) : Prop := PGs X es (LGs X.K W gs)
theorem _root_.L2.PGs.imp {X : Cx} {e : List Expr} {t t' : TGs} (h : PGs X e t) (i : ∀ v σ H Q, t' v σ H Q → t v σ H Q) : PGs X e t' := ⟨fun pins s σ H v u Q I r q => h.run pins s σ H v u Q I r (i v σ H Q q)⟩
section
variable {X : Cx} {e : Expr} {es : List Expr} {g : FG} {gs : List FG} {pos : Pos} {k : Nat}
theorem dgs_nil {W : WX} : DGs X W [] [] := pgs_nil.imp fun vs σ H Q ⟨B, tb, ρ, S, ds, w, e, r, q⟩ => by
  cases ds with
  | nil => simp only [reps] at r; exact ⟨r, q.ok w σ e⟩
  | cons _ _ => exact q.elim
theorem dgs_cons {W : WX} (h1 : DG X W e g) (h2 : DGs X W es gs) (hs : (assignEach (e :: es) X.env).map (fun x => x.2) = assign e X.env :: (assignEach es X.env).map (fun x => x.2) := by rfl) : DGs X W (e :: es) (g :: gs) := (pgs_cons h1 h2 hs).imp fun vs σ H Q ⟨B, tb, ρ, S, ds, w, e, r, q⟩ => by
  cases ds with
  | nil => exact q.elim
  | cons x xs =>
    simp only [reps] at r
    obtain ⟨v, t, rfl, r1, r2⟩ := r
    refine ⟨v, t, rfl, B, tb, ρ, S, x, w, e, r1, ?_⟩
    simp only [gEach] at q
    cases z : g x ρ S with
    | ok ρ1 S1 =>
      rw [z] at q
      intro B1 tb1 H1 x1 w1 σ1 e1
      refine ⟨B1, tb1, ρ1, S1, xs, w1, e1, reps_ex x1 _ _ r2, ?_⟩
      have q1 := Post.mono x1 q
      simp only [bind_ok] at q1
      cases y : gEach gs xs ρ1 S1 with
      | ok ρ2 S2 => rw [y] at q1; exact q1
      | er C ns vs S2 => rw [y] at q1; exact q1.elim
      | no => rw [y] at q1; exact q1
    | er C ns vs S1 => rw [z] at q; exact q
    | no => rw [z] at q; exact q
theorem dg_tp {W : WX} {n : Nat} (hc : X.calm = true) (h : DGs X W es gs) (hl : gs.length = n) (hn : (assignEach es X.env).length = n := by rfl) (hst : (assignEach es X.env).findIdx? (fun x => x.1) = none := by rfl) : DG X W (.Tuple es k pos) (gMany gs) := (pg_tup hc h hn hst).imp fun v σ H Q ⟨B, tb, ρ, S, d, w, e, r, q⟩ => by
  unfold gMany at q
  cases d with
  | tup ds =>
    simp only at q
    obtain ⟨c, q⟩ := chk_ok q
    simp only [rep] at r
    obtain ⟨a, vs, rfl, h1, h2⟩ := r
    refine ⟨a, vs, rfl, SqT.ex w.sub h1, ?_, B, tb, ρ, S, ds, w, e, h2, q⟩
    rw [reps_len h2, eq_of_beq c, hl]
  | _ => exact q.elim
end
theorem gl {X : Cx} {x : Str} (h : X.env.kindOf x = some .globalImplicit) : Gl X x := h
theorem pts_one' {X : Cx} {W : WX} {c : Expr} {t : FT} (h : DT X W c t) : PTs X [c] (LT X.K W t) := pts_one h
end Qd

namespace Qd
open PySem L2

/-! ### what comes out, by its wish -/
def W {α : Type} (r : R α) (Q : α → Sto → Prop) : Prop := match r with
  | .ok a S => Q a S
  | _ => False
def Wo (N : Rho → Sto → Prop) (T : D → Sto → Prop) (o : Out) (S : Sto) : Prop := match o with
  | .nx ρ => N ρ S
  | .rt d => T d S
  | _ => False
def Ws (r : R Out) (N : Rho → Sto → Prop) (T : D → Sto → Prop) : Prop := W r (Wo N T)
section
variable {α β : Type} {r : R α} {S : Sto} {ρ : Rho}
theorem W_ok {a : α} {Q : α → Sto → Prop} : W (.ok a S) Q = Q a S := rfl
theorem W_no {Q : α → Sto → Prop} : W .no Q = False := rfl
theorem W_bind {k : α → Sto → R β} {Q : β → Sto → Prop} : W (r.bind k) Q = W r fun a S => W (k a S) Q := by cases r <;> rfl
theorem W_chk {c : Bool} {Q : α → Sto → Prop} : W (chk c r) Q = (c = true ∧ W r Q) := by
  unfold chk
  cases c <;> simp [W]
theorem W_if {c : Prop} [Decidable c] {a b : R α} {Q : α → Sto → Prop} : W (if c then a else b) Q = if c then W a Q else W b Q := by split <;> rfl
theorem W.mono {Q Q' : α → Sto → Prop} (h : W r Q) (i : ∀ a S, Q a S → Q' a S) : W r Q' := by
  cases r with
  | ok a S => exact i a S h
  | er C ns vs S => exact h
  | no => exact h
theorem W_ex {Q : α → Sto → Prop} (h : W r Q) : ∃ a S, r = .ok a S ∧ Q a S := by
  cases r with
  | ok a S => exact ⟨a, S, rfl, h⟩
  | er C ns vs S => exact h.elim
  | no => exact h.elim
theorem W_eq {a : α} {Q : α → Sto → Prop} (e : r = .ok a S) (h : Q a S) : W r Q := by rw [e]; exact h
theorem Ws.mono {r : R Out} {N N' : Rho → Sto → Prop} {T T' : D → Sto → Prop} (h : Ws r N T) (i : ∀ a S, N a S → N' a S) (j : ∀ a S, T a S → T' a S) : Ws r N' T' := W.mono h fun o S q => by
  cases o with
  | nx ρ => exact i _ _ q
  | rt d => exact j _ _ q
  | _ => exact q
theorem Ws_if {c : Prop} [Decidable c] {a b : R Out} {N : Rho → Sto → Prop} {T : D → Sto → Prop} : Ws (if c then a else b) N T = if c then Ws a N T else Ws b N T := by split <;> rfl
theorem Ws_st {k : α → Sto → R Out} {N : Rho → Sto → Prop} {T : D → Sto → Prop} : Ws (r.st ρ k) N T = W r fun a S => Ws (k a S) N T := by cases r <;> rfl
theorem Ws_nx {N : Rho → Sto → Prop} {T : D → Sto → Prop} : Ws (.ok (.nx ρ) S) N T = N ρ S := rfl
theorem Ws_rt {d : D} {N : Rho → Sto → Prop} {T : D → Sto → Prop} : Ws (.ok (.rt d) S) N T = T d S := rfl
end
section
variable {ρ : Rho} {S : Sto} {N : Rho → Sto → Prop} {T : D → Sto → Prop} {Q : D → Sto → Prop} {QA : List D → Sto → Prop} {QB : Bool → Sto → Prop}
theorem W_nil : Ws (sNil ρ S) N T = N ρ S := rfl
theorem W_seq {f g : FS} : Ws (sSeq f g ρ S) N T = Ws (f ρ S) (fun ρ S => Ws (g ρ S) N T) T := by
  unfold sSeq Ws
  cases f ρ S with
  | ok o S => cases o <;> rfl
  | er C ns vs S => rfl
  | no => rfl
theorem W_expr {f : FE} : Ws (sExpr f ρ S) N T = W (f ρ S) fun _ S => N ρ S := Ws_st
theorem W_ret {f : FE} : Ws (sRet f ρ S) N T = W (f ρ S) T := Ws_st
theorem W_asg {f : FE} {g : FG} : Ws (sAsg f g ρ S) N T = W (f ρ S) fun d S => W (g d ρ S) N := by
  unfold sAsg
  rw [Ws_st]
  congr; funext d S
  rw [Ws_st]
  rfl
theorem W_sif {t : FT} {f g : FS} : Ws (sIf t f g ρ S) N T = W (t ρ S) fun b S => if b = true then Ws (f ρ S) N T else Ws (g ρ S) N T := by
  unfold sIf
  rw [Ws_st]
  congr; funext d S
  exact Ws_if
theorem W_par {fa : FA} {is : List Nat} : Ws (sPar fa is ρ S) N T = W (fa ρ S) fun ds S => match bindPs (is.map .nm) ds ρ with
    | some ρ' => N ρ' S
    | none => False := by
  unfold sPar
  rw [Ws_st]
  congr; funext d S
  cases bindPs (is.map .nm) d ρ <;> rfl
theorem W_never : Ws (sNever ρ S) N T = False := rfl
theorem W_var {i : Nat} : W (eVar i ρ S) Q = match ρ[i]? with
    | some (some d) => Q d S
    | _ => False := by
  unfold eVar
  cases ρ[i]? with
  | none => rfl
  | some x => cases x <;> rfl
theorem W_c {d : D} : W (eC d ρ S) Q = Q d S := rfl
theorem W_e2 {k : D → D → Sto → R D} {f g : FE} : W (e2 k f g ρ S) Q = W (f ρ S) fun x S => W (g ρ S) fun y S => W (k x y S) Q := by
  unfold e2
  rw [W_bind]
  congr; funext d S
  rw [W_bind]
theorem W_call {k : List D → Sto → R D} {fa : FA} : W (eCall k fa ρ S) Q = W (fa ρ S) fun ds S => W (k ds S) Q := W_bind
theorem W_anil : W (aNil ρ S) QA = QA [] S := rfl
theorem W_acons {f : FE} {fa : FA} : W (aCons f fa ρ S) QA = W (f ρ S) fun d S => W (fa ρ S) fun ds S => QA (d :: ds) S := by
  unfold aCons
  rw [W_bind]
  congr; funext d S
  rw [W_bind]
  rfl
theorem W_tup {fa : FA} : W (eTup fa ρ S) Q = W (fa ρ S) fun ds S => ds.length ≤ line ∧ Q (.tup ds) S := by
  unfold eTup
  rw [W_bind]
  congr; funext d S
  rw [W_chk, decide_eq_true_eq]
  rfl
theorem W_lst {fa : FA} : W (eLst fa ρ S) Q = W (fa ρ S) fun ds S => ds.length ≤ line ∧ Q (.lst ds) S := by
  unfold eLst
  rw [W_bind]
  congr; funext d S
  rw [W_chk, decide_eq_true_eq]
  rfl
theorem W_lstM {fa : FA} : W (eLstM fa ρ S) Q = W (fa ρ S) fun ds S => ds.length ≤ line ∧ Q (.obj S.next) (S.push (.lst ds)) := by
  unfold eLstM
  rw [W_bind]
  congr; funext d S
  rw [W_chk, decide_eq_true_eq]
  rfl
theorem W_tV {f : FE} : W (tV f ρ S) QB = W (f ρ S) fun d S => match d with
    | .bl b => QB b S
    | _ => False := by
  unfold tV
  rw [W_bind]
  congr; funext d S
  cases d <;> rfl
theorem W_and {t u : FT} : W (tAnd2 t u ρ S) QB = W (t ρ S) fun b S => if b = true then W (u ρ S) QB else QB false S := by
  unfold tAnd2
  rw [W_bind]
  congr; funext d S
  exact W_if
theorem W_or {t u : FT} : W (tOr2 t u ρ S) QB = W (t ρ S) fun b S => if b = true then QB true S else W (u ρ S) QB := by
  unfold tOr2
  rw [W_bind]
  congr; funext d S
  exact W_if
theorem W_not {t : FT} : W (tNot1 t ρ S) QB = W (t ρ S) fun b S => QB (!b) S := by
  unfold tNot1
  rw [W_bind]
  rfl
theorem W_bAnd {f g : FE} : W (bAnd f g ρ S) Q = W (f ρ S) fun d S => match d with
    | .bl b => if b = true then W (g ρ S) Q else Q (.bl false) S
    | _ => False := by
  unfold bAnd
  rw [W_bind]
  congr; funext d S
  cases d <;> first
    | exact W_if
    | rfl
theorem W_bOr {f g : FE} : W (bOr f g ρ S) Q = W (f ρ S) fun d S => match d with
    | .bl b => if b = true then Q (.bl true) S else W (g ρ S) Q
    | _ => False := by
  unfold bOr
  rw [W_bind]
  congr; funext d S
  cases d <;> first
    | exact W_if
    | rfl
theorem W_bNot {f : FE} : W (bNot f ρ S) Q = W (f ρ S) fun d S => match d with
    | .bl b => Q (.bl (!b)) S
    | _ => False := by
  unfold bNot
  rw [W_bind]
  congr; funext d S
  cases d <;> rfl
theorem W_eif {t : FT} {f g : FE} : W (eIf t f g ρ S) Q = W (t ρ S) fun b S => if b = true then W (f ρ S) Q else W (g ρ S) Q := by
  unfold eIf
  rw [W_bind]
  congr; funext d S
  exact W_if
theorem W_isN {f : FE} : W (eIsN f ρ S) Q = W (f ρ S) fun d S => Q (.bl (isNon d)) S := W_bind
theorem W_notN {f : FE} : W (eNotN f ρ S) Q = W (f ρ S) fun d S => Q (.bl (!isNon d)) S := W_bind
theorem W_fn {g : FF} {fa : FA} {dds : List D} : W (eFn g fa dds ρ S) Q = W (fa ρ S) fun ds S => W (g (ds ++ dds) S) Q := by
  unfold eFn
  rw [W_bind]
theorem W_fnK {g : FF} {fa fk : FA} {t : {α : Type} → List α → List α → List α} : W (eFnK g fa fk t ρ S) Q = W (fa ρ S) fun ds S => W (fk ρ S) fun es S => W (g (t ds es) S) Q := by
  unfold eFnK
  rw [W_bind]
  congr; funext d S
  rw [W_bind]
theorem W_pt {p : Pt} {d : D} : W (gPt p d ρ S) N = match bindP p d ρ with
    | some ρ' => N ρ' S
    | none => False := by
  unfold gPt
  cases bindP p d ρ <;> rfl
theorem W_run {b : Bool} {fb : FS} {n : Nat} {ds : List D} : W (run0 b fb n ds S) Q = Ws (fb (rho0 n ds) S) (fun _ S' => Q .non (if b = true then S'.back S.m.length else S')) (fun d S' => Q d (if b = true then S'.back S.m.length else S')) := by
  unfold run0 Ws
  cases fb (rho0 n ds) S with
  | ok o S => cases o <;> rfl
  | er C ns vs S => rfl
  | no => rfl
theorem back_same : S.back S.m.length = S := by
  cases S with
  | mk m g => simp [Sto.back]
theorem back_m {S' : Sto} : (S'.back S.m.length).m = S'.m.take S.m.length := rfl
theorem W_for {fi : FI} {p : Pt} {body : FS} : Ws (sFor fi p body ρ S) N T = W (fi ρ S) fun ds S => Ws (loop p body ds ρ S) N T := Ws_st
theorem W_iseq {f : FE} {Q : List D → Sto → Prop} : W (iSeq f ρ S) Q = W (f ρ S) fun d S => match frOf d with
    | some ds => Q ds S
    | none => False := by
  unfold iSeq
  rw [W_bind]
  congr; funext d S
  cases frOf d <;> rfl
theorem W_ienum {f : FE} {Q : List D → Sto → Prop} : W (iEnum f ρ S) Q = W (f ρ S) fun d S => match frOf d with
    | some ds => Q (enumD 0 ds) S
    | none => False := by
  unfold iEnum
  rw [W_bind]; congr; funext d S
  cases frOf d <;> rfl
theorem W_izip {f g : FE} {Q : List D → Sto → Prop} : W (iZip f g ρ S) Q = W (f ρ S) fun d S => W (g ρ S) fun e S => match frOf d, frOf e with
    | some ds, some es => Q (zipD ds es) S
    | _, _ => False := by
  unfold iZip
  rw [W_bind]; congr; funext d S
  rw [W_bind]; congr; funext e S
  cases frOf d <;> cases frOf e <;> rfl
/-- the loop's rule: what holds ahead of each turn, by what is left -/
theorem W_loop {p : Pt} {body : FS} (I : List D → Rho → Sto → Prop) {ds : List D} (h0 : I ds ρ S)
    (hs : ∀ d r ρ S, I (d :: r) ρ S → ∃ ρ1, bindP p d ρ = some ρ1 ∧ Ws (body ρ1 S) (fun ρ S => I r ρ S) T) (hn : ∀ ρ S, I [] ρ S → N ρ S) : Ws (loop p body ds ρ S) N T := by
  induction ds generalizing ρ S with
  | nil => exact hn _ _ h0
  | cons d r ih =>
    obtain ⟨ρ1, e, h⟩ := hs d r ρ S h0
    unfold loop
    rw [e]
    simp only
    cases z : body ρ1 S with
    | ok o S2 =>
      rw [z] at h
      cases o with
      | nx ρ2 => exact ih h
      | rt d => exact h
      | bk ρ => exact h.elim
      | ct ρ => exact h.elim
      | xx ρ C ns vs => exact h.elim
    | er C ns vs S => rw [z] at h; exact h.elim
    | no => rw [z] at h; exact h.elim
/-- a comprehension that draws, element by element -/
theorem W_compI {p : Pt} {tt : FT} {te : FE} (I : List D → List D → Sto → Prop) {ds acc : List D} {Q : List D → Sto → Prop} (h0 : I ds acc S)
    (hs : ∀ d r acc S, I (d :: r) acc S → ∃ ρ1, bindP p d ρ = some ρ1 ∧ W (tt ρ1 S) fun b S => if b = true then W (te ρ1 S) fun y S => I r (acc ++ [y]) S else I r acc S) (hn : ∀ acc S, I [] acc S → Q acc S) : W (comp p tt te ρ ds S acc) Q := by
  induction ds generalizing acc S with
  | nil => exact hn _ _ h0
  | cons d r ih =>
    obtain ⟨ρ1, e, h⟩ := hs d r acc S h0
    unfold comp
    rw [e]
    simp only
    cases z : tt ρ1 S with
    | ok b S2 =>
      rw [z] at h
      cases b with
      | false => exact ih h
      | true =>
        have h : W (te ρ1 S2) fun y S => I r (acc ++ [y]) S := h
        simp only
        cases y : te ρ1 S2 with
        | ok x S3 => rw [y] at h; exact ih h
        | er C ns vs S => rw [y] at h; exact h.elim
        | no => rw [y] at h; exact h.elim
    | er C ns vs S => rw [z] at h; exact h.elim
    | no => rw [z] at h; exact h.elim
/-- one that leaves the store as it is -/
theorem comp_map {α : Type} {p : Pt} {tt : FT} {te : FE} (enc : α → D) (b : α → Bool) (f : α → D) : ∀ (xs : List α) (acc : List D), (∀ x ∈ xs, ∃ ρ1, bindP p (enc x) ρ = some ρ1 ∧ tt ρ1 S = .ok (b x) S ∧ (b x = true → te ρ1 S = .ok (f x) S)) →
    comp p tt te ρ (xs.map enc) S acc = .ok (acc ++ (xs.filter b).map f) S
  | [], acc, h => by simp [comp]
  | x :: xs, acc, h => by
    obtain ⟨ρ1, e, ht, he⟩ := h x List.mem_cons_self
    simp only [List.map_cons, comp]
    rw [e]
    simp only
    rw [ht]
    have r := fun acc => comp_map enc b f xs acc fun y hy => h y (List.mem_cons_of_mem _ hy)
    cases z : b x with
    | false =>
      simp only
      rw [r, List.filter_cons_of_neg (by simp [z])]
    | true =>
      simp only
      rw [he z]
      simp only
      rw [r, List.filter_cons_of_pos z]
      simp
theorem W_comp {fi : FI} {p : Pt} {tt : FT} {te : FE} {own : List Nat} : W (eComp fi p tt te own ρ S) Q = W (fi ρ S) fun ds S => ds.length ≤ line ∧ W (comp p tt te (wipeD ρ own) ds S []) fun ys S => Q (.lst ys) S := by
  unfold eComp
  rw [W_bind]
  congr; funext d S
  rw [W_chk, W_bind, decide_eq_true_eq]
  rfl
theorem W_compG {fi : FI} {p : Pt} {tt : FT} {te : FE} {own : List Nat} : W (eCompG true fi p tt te own ρ S) Q = W (fi ρ S) fun ds S => ds.length ≤ line ∧ W (comp p tt te (wipeD ρ own) ds S []) fun ys S => Q (.lst ys) S := by
  unfold eCompG
  rw [W_bind]
  congr; funext d S
  rw [W_chk, W_bind, decide_eq_true_eq]
  rfl
theorem W_compM {fi : FI} {p : Pt} {tt : FT} {te : FE} {own : List Nat} : W (eCompM fi p tt te own ρ S) Q = W (fi ρ S) fun ds S => ds.length ≤ line ∧ W (comp p tt te (wipeD ρ own) ds S []) fun ys S => Q (.obj S.next) (S.push (.lst ys)) := by
  unfold eCompM
  rw [W_bind]
  congr; funext d S
  rw [W_chk, W_bind, decide_eq_true_eq]
  rfl
end
end Qd

namespace Qd
open PySem L2

section
variable {ρ : Rho} {S : Sto} {N : Rho → Sto → Prop} {T : D → Sto → Prop} {Q : D → Sto → Prop} {i j : Int}
theorem W_kI {c : Int → Int → Bool} {g : Int → Int → D} : W (kI c g (.int i) (.int j) S) Q = (c i j = true ∧ Q (g i j) S) := W_chk
theorem W_yes : (yes2 i j = true) = True := by simp [yes2]
theorem W_addI : W (kAdd (.int i) (.int j) S) Q = Q (.int (i + j)) S := rfl
theorem W_addL {a b : List D} : W (kAdd (.lst a) (.lst b) S) Q = (a.length + b.length ≤ line ∧ Q (.lst (a ++ b)) S) := by
  show W (chk _ _) Q = _
  rw [W_chk, decide_eq_true_eq]; rfl
theorem W_addT {a b : List D} : W (kAdd (.tup a) (.tup b) S) Q = (a.length + b.length ≤ line ∧ Q (.tup (a ++ b)) S) := by
  show W (chk _ _) Q = _
  rw [W_chk, decide_eq_true_eq]; rfl
theorem W_mulI : W (kMul (.int i) (.int j) S) Q = (mulOk i j = true ∧ Q (.int (i * j)) S) := W_chk
theorem W_ltI : W (kLt (.int i) (.int j) S) Q = Q (.bl (decide (i < j))) S := rfl
theorem W_ixL {ds : List D} : W (kIx (.lst ds) (.int i) S) Q = match atI ds i with
    | some d => Q d S
    | none => False := by
  show W (match atI ds i with
      | some d => .ok d S
      | none => .no) Q = _
  cases atI ds i <;> rfl
theorem W_ixT {ds : List D} : W (kIx (.tup ds) (.int i) S) Q = match atI ds i with
    | some d => Q d S
    | none => False := by
  show W (match atI ds i with
      | some d => .ok d S
      | none => .no) Q = _
  cases atI ds i <;> rfl
theorem W_ixS {ds : List D} : W (kIx (.scr ds) (.int i) S) Q = match atI ds i with
    | some d => Q d S
    | none => False := by
  show W (match atI ds i with
      | some d => .ok d S
      | none => .no) Q = _
  cases atI ds i <;> rfl
theorem W_ixO {k : Nat} : W (kIx (.obj k) (.int i) S) Q = match S.m[k]? with
    | some (some (.lst ds)) => (match atI ds i with
      | some d => Q d S
      | none => False)
    | _ => False := by
  show W (match (match S.m[k]? with
      | some (some (.lst ds)) => some ds
      | _ => none) with
    | some ds => (match atI ds i with
      | some d => .ok d S
      | none => .no)
    | none => .no) Q = _
  generalize S.m[k]? = z
  cases z with
  | none => rfl
  | some x =>
    cases x with
    | none => rfl
    | some x =>
      cases x with
      | lst ds => simp only; cases atI ds i <;> rfl
      | _ => rfl
theorem ixN_30 : ixN 3 0 = some 0 := rfl
theorem ixN_31 : ixN 3 1 = some 1 := rfl
theorem ixN_32 : ixN 3 2 = some 2 := rfl
theorem ixN_nat {n k : Nat} (h : k < n) : ixN n (k : Int) = some k := by
  unfold ixN
  simp [h]
theorem atI_nat {α : Type} {ds : List α} {k : Nat} (h : k < ds.length) : atI ds (k : Int) = some ds[k] := by
  unfold atI
  rw [ixN_nat h]
  simp [h]
theorem atI_0 {α : Type} {a : α} {ds : List α} : atI (a :: ds) 0 = some a := atI_nat (ds := a :: ds) (k := 0) (by simp)
theorem atI_1 {α : Type} {a b : α} {ds : List α} : atI (a :: b :: ds) 1 = some b := atI_nat (ds := a :: b :: ds) (k := 1) (by simp)
theorem atI_2 {α : Type} {a b c : α} {ds : List α} : atI (a :: b :: c :: ds) 2 = some c := atI_nat (ds := a :: b :: c :: ds) (k := 2) (by simp)
theorem atI_3 {α : Type} {a b c d : α} {ds : List α} : atI (a :: b :: c :: d :: ds) 3 = some d := atI_nat (ds := a :: b :: c :: d :: ds) (k := 3) (by simp)
theorem atI_4 {α : Type} {a b c d e : α} {ds : List α} : atI (a :: b :: c :: d :: e :: ds) 4 = some e := atI_nat (ds := a :: b :: c :: d :: e :: ds) (k := 4) (by simp)
/-- an index drawn -/
theorem at_of {α : Type} {ds : List α} {i : Int} (h0 : 0 ≤ i) (h : i < ds.length) : ∃ d, atI ds i = some d ∧ d ∈ ds := by
  obtain ⟨k, rfl⟩ := Int.eq_ofNat_of_zero_le h0
  have hk : k < ds.length := by omega
  exact ⟨ds[k], atI_nat hk, List.getElem_mem hk⟩
theorem W_len_L {ds : List D} {Q : D → Sto → Prop} : W (kLen [.lst ds] S) Q = Q (.int ds.length) S := rfl
theorem W_len_T {ds : List D} {Q : D → Sto → Prop} : W (kLen [.tup ds] S) Q = Q (.int ds.length) S := rfl
theorem W_len_S {ds : List D} {Q : D → Sto → Prop} : W (kLen [.scr ds] S) Q = Q (.int ds.length) S := rfl
theorem intsD_map (ns : List Int) : intsD (ns.map .int) = some ns := by
  induction ns with
  | nil => rfl
  | cons n ns ih => simp [intsD, ih]
theorem blsD_map (ns : List Bool) : blsD (ns.map .bl) = some ns := by
  induction ns with
  | nil => rfl
  | cons n ns ih => simp [blsD, ih]
theorem W_sum {ns : List Int} : W (kSum [.lst (ns.map .int)] S) Q = Q (.int ns.sum) S := by
  show W (match (some (ns.map D.int)).bind intsD with
    | some ns => .ok (.int ns.sum) S
    | none => .no) Q = _
  rw [Option.bind_some, intsD_map]; rfl
theorem W_all {ns : List Bool} : W (kAll [.lst (ns.map .bl)] S) Q = Q (.bl (ns.all id)) S := by
  show W (match (some (ns.map D.bl)).bind blsD with
    | some ns => .ok (.bl (ns.all id)) S
    | none => .no) Q = _
  rw [Option.bind_some, blsD_map]; rfl
theorem W_any {ns : List Bool} : W (kAny [.lst (ns.map .bl)] S) Q = Q (.bl (ns.any id)) S := by
  show W (match (some (ns.map D.bl)).bind blsD with
    | some ns => .ok (.bl (ns.any id)) S
    | none => .no) Q = _
  rw [Option.bind_some, blsD_map]; rfl
theorem W_min2 : W (kMin2 [.int i, .int j] S) Q = Q (.int (if j < i then j else i)) S := rfl
theorem W_max2 : W (kMax2 [.int i, .int j] S) Q = Q (.int (if j > i then j else i)) S := rfl
theorem W_abs : W (kAbs [.int i] S) Q = Q (.int (if i < 0 then -i else i)) S := rfl
theorem W_intI : W (kInt [.int i] S) Q = Q (.int i) S := rfl
theorem W_intB {b : Bool} : W (kInt [.bl b] S) Q = Q (.int (if b then 1 else 0)) S := rfl
theorem W_tupT {ds : List D} : W (kTuple [.tup ds] S) Q = Q (.tup ds) S := rfl
theorem W_tupL {ds : List D} : W (kTuple [.lst ds] S) Q = Q (.tup ds) S := rfl
theorem W_listT {ds : List D} : W (kList [.tup ds] S) Q = Q (.lst ds) S := rfl
theorem W_listL {ds : List D} : W (kList [.lst ds] S) Q = Q (.lst ds) S := rfl
theorem W_sl {f : FE} {lo hi : FO} : W (eSl f lo hi ρ S) Q = W (f ρ S) fun x S => W (lo ρ S) fun l S => W (hi ρ S) fun h S => W (kSl x l h S) Q := by
  unfold eSl
  rw [W_bind]; congr; funext d S
  rw [W_bind]; congr; funext d S
  rw [W_bind]
theorem W_oN {Q : Option Int → Sto → Prop} : W (oNone ρ S) Q = Q none S := rfl
theorem W_oS {f : FE} {Q : Option Int → Sto → Prop} : W (oSome f ρ S) Q = W (f ρ S) fun d S => match d with
    | .int i => Q (some i) S
    | _ => False := by
  unfold oSome
  rw [W_bind]; congr; funext d S
  cases d <;> rfl
theorem W_slT {ds : List D} {lo hi : Option Int} : W (kSl (.tup ds) lo hi S) Q = Q (.tup (cutD ds lo hi)) S := rfl
theorem W_slL {ds : List D} {lo hi : Option Int} : W (kSl (.lst ds) lo hi S) Q = Q (.lst (cutD ds lo hi)) S := rfl
theorem W_slS {ds : List D} {lo hi : Option Int} : W (kSl (.scr ds) lo hi S) Q = Q (.lst (cutD ds lo hi)) S := rfl
theorem W_r1 {f : FE} {Q : List D → Sto → Prop} : W (iRange1 f ρ S) Q = W (f ρ S) fun d S => match d with
    | .int j => small62 j = true ∧ Q (rangeD 0 j.toNat) S
    | _ => False := by
  unfold iRange1
  rw [W_bind]; congr; funext d S
  cases d <;> first
    | exact W_chk
    | rfl
theorem W_app {f g : FE} : W (eAppend f g ρ S) Q = W (f ρ S) fun o S1 => match o with
    | .obj k => (match S1.m[k]? with | some (some (.lst _)) => true | _ => false) = true ∧ W (g ρ S1) fun y S2 => match S2.m[k]? with
      | some (some (.lst ds)) => ds.length < line ∧ Q .non (S2.put k (.lst (ds ++ [y])))
      | _ => False
    | _ => False := by
  unfold eAppend
  rw [W_bind]; congr; funext o S1
  cases o with
  | obj k =>
    simp only
    rw [W_chk, W_bind]
    congr; funext y S2
    cases S2.m[k]? with
    | none => rfl
    | some x =>
      cases x with
      | none => rfl
      | some x =>
        cases x with
        | lst ds => simp only; rw [W_chk, decide_eq_true_eq]; rfl
        | _ => rfl
  | _ => rfl
theorem W_set {f g : FE} {d : D} {N : Rho → Sto → Prop} : W (gSet f g d ρ S) N = W (f ρ S) fun o S1 => W (g ρ S1) fun i S2 => match o, i with
    | .obj k, .int j => (match S2.m[k]? with
      | some (some (.lst ds)) => (match ixN ds.length j with
        | some n => N ρ (S2.put k (.lst (ds.set n d)))
        | none => False)
      | _ => False)
    | _, _ => False := by
  unfold gSet
  rw [W_bind]; congr; funext o S1
  rw [W_bind]; congr; funext i S2
  cases o with
  | obj k =>
    cases i with
    | int j =>
      simp only
      cases S2.m[k]? with
      | none => rfl
      | some x =>
        cases x with
        | none => rfl
        | some x =>
          cases x with
          | lst ds => simp only; cases ixN ds.length j <;> rfl
          | _ => rfl
    | _ => rfl
  | _ => rfl
theorem W_gm {gs : List FG} {ds : List D} {N : Rho → Sto → Prop} : W (gMany gs (.tup ds) ρ S) N = ((ds.length == gs.length) = true ∧ W (gEach gs ds ρ S) N) := W_chk
theorem W_g0 {N : Rho → Sto → Prop} : W (gEach [] [] ρ S) N = N ρ S := rfl
theorem W_nerR {α : Type} {r : R α} {Q : α → Sto → Prop} : W (nerR r) Q = W r Q := by cases r <;> rfl
theorem W_g1 {g : FG} {gs : List FG} {x : D} {xs : List D} {N : Rho → Sto → Prop} : W (gEach (g :: gs) (x :: xs) ρ S) N = W (g x ρ S) fun ρ S => W (gEach gs xs ρ S) N := by
  show W ((g x ρ S).bind fun ρ' S' => nerR (gEach gs xs ρ' S')) N = _
  rw [W_bind]
  congr; funext ρ S
  exact W_nerR
theorem put_m {k : Nat} {d : D} : (S.put k d).m = S.m.set k (some d) := rfl
theorem push_m {d : D} : (S.push d).m = S.m ++ List.replicate S.g none ++ [some d] := rfl
theorem W_isiI {T : String} : W (kIsi [.int i, .ty T] S) Q = (knownTy T = true ∧ Q (.bl (isaB "int" T)) S) := W_chk
theorem W_isiT {ds : List D} {T : String} : W (kIsi [.tup ds, .ty T] S) Q = (knownTy T = true ∧ Q (.bl (isaB "tuple" T)) S) := W_chk
theorem W_isiL {ds : List D} {T : String} : W (kIsi [.lst ds, .ty T] S) Q = (knownTy T = true ∧ Q (.bl (isaB "list" T)) S) := W_chk
theorem W_e3 {k k' : D → D → Sto → R D} {f g h : FE} : W (e3 k k' f g h ρ S) Q = W (f ρ S) fun x S => W (g ρ S) fun y S => W (k x y S) fun z S => match z with
    | .bl true => W (h ρ S) fun u S => W (k' y u S) Q
    | .bl false => Q (.bl false) S
    | _ => False := by
  unfold e3
  rw [W_bind]; congr; funext x S
  rw [W_bind]; congr; funext y S
  rw [W_bind]; congr; funext z S
  cases z with
  | bl b => cases b with
    | true => exact W_bind
    | false => rfl
  | _ => rfl
end
end Qd

namespace Qd
open PySem L2

/-! ### == of a value and itself -/
mutual
def plD : D → Bool
  | .non => true
  | .bl _ => true
  | .int _ => true
  | .str x => PyData.canLay0 (.str x)
  | .tup ds => plDs ds
  | .lst ds => plDs ds
  | .scr ds => plDs ds
  | _ => false
def plDs : List D → Bool
  | [] => true
  | d :: ds => plD d && plDs ds
end
mutual
def dpD : D → Nat
  | .tup ds => dpDs ds + 1
  | .lst ds => dpDs ds + 1
  | .scr ds => dpDs ds + 1
  | _ => 0
def dpDs : List D → Nat
  | [] => 0
  | d :: ds => max (dpD d) (dpDs ds)
end
mutual
theorem pl_py : ∀ d : D, plD d = true → ∃ p, py d = some p ∧ p.canLay0 = true ∧ p.depth = dpD d
  | .non, _ => ⟨_, rfl, rfl, rfl⟩
  | .bl _, _ => ⟨_, rfl, rfl, rfl⟩
  | .int _, _ => ⟨_, rfl, rfl, rfl⟩
  | .str x, h => ⟨_, rfl, by simpa only [plD] using h, rfl⟩
  | .tup ds, h => by
    obtain ⟨ps, e, c, q⟩ := pl_pys ds (by simpa only [plD] using h)
    exact ⟨.tuple ps, by simp only [py, e]; rfl, by simpa only [PyData.canLay0] using c, by simp only [PyData.depth, dpD, q]⟩
  | .lst ds, h => by
    obtain ⟨ps, e, c, q⟩ := pl_pys ds (by simpa only [plD] using h)
    exact ⟨.list ps, by simp only [py, e]; rfl, by simpa only [PyData.canLay0] using c, by simp only [PyData.depth, dpD, q]⟩
  | .scr ds, h => by
    obtain ⟨ps, e, c, q⟩ := pl_pys ds (by simpa only [plD] using h)
    exact ⟨.list ps, by simp only [py, e]; rfl, by simpa only [PyData.canLay0] using c, by simp only [PyData.depth, dpD, q]⟩
  | .dk _ _, h => by simp [plD] at h
  | .dt _ _, h => by simp [plD] at h
  | .ins _ _ _, h => by simp [plD] at h
  | .obj _, h => by simp [plD] at h
  | .glo _, h => by simp [plD] at h
  | .ty _, h => by simp [plD] at h
theorem pl_pys : ∀ ds : List D, plDs ds = true → ∃ ps, pys ds = some ps ∧ PyData.canLayAll0 ps = true ∧ PyData.depthAll ps = dpDs ds
  | [], _ => ⟨[], by simp only [pys], by simp only [PyData.canLayAll0], by simp only [PyData.depthAll, dpDs]⟩
  | d :: ds, h => by
    simp only [plDs, Bool.and_eq_true] at h
    obtain ⟨p, e, c, q⟩ := pl_py d h.1
    obtain ⟨ps, e2, c2, q2⟩ := pl_pys ds h.2
    exact ⟨p :: ps, by simp only [pys, e, e2], by simp only [PyData.canLayAll0, c, c2, Bool.and_self], by simp only [PyData.depthAll, dpDs, q, q2]⟩
end
theorem pyOf_pl {S : Sto} {d : D} (h : plD d = true) : pyOf S d = py d := by
  cases d <;> first
    | rfl
    | (simp [plD] at h)
section
variable {ρ : Rho} {S : Sto} {Q : D → Sto → Prop} {d : D}
theorem kEqB_ns {n : Bool} {d e : D} (h : ∀ a, d ≠ .str a) : kEqB n d e S = (match pyOf S d, pyOf S e with
    | some a, some b => chk (SeqAt.shaped a && SeqAt.shaped b) (.ok (.bl (if n then !PyData.eqv a b else PyData.eqv a b)) S)
    | _, _ => .no) := by
  cases d with
  | str a => exact absurd rfl (h a)
  | _ => rfl
theorem W_eqS {a b : Str} : W (kEq (.str a) (.str b) S) Q = Q (.bl (decide (a = b))) S := rfl
theorem W_neS {a b : Str} : W (kNe (.str a) (.str b) S) Q = Q (.bl (!decide (a = b))) S := rfl
theorem W_eqSame (h : plD d = true) (hd : dpD d ≤ 64) : W (kEq d d S) Q = Q (.bl true) S := by
  by_cases hs : ∃ a, d = .str a
  · obtain ⟨a, rfl⟩ := hs
    rw [W_eqS]; simp
  · obtain ⟨p, e, c, q⟩ := pl_py d h
    unfold kEq
    rw [kEqB_ns fun a z => hs ⟨a, z⟩, pyOf_pl h, e]
    simp only
    rw [W_chk, show SeqAt.shaped p = true by unfold SeqAt.shaped; rw [c, q]; simp [hd], SeqAt.eqv_refl p c]
    simp [W]
theorem W_neSame (h : plD d = true) (hd : dpD d ≤ 64) : W (kNe d d S) Q = Q (.bl false) S := by
  by_cases hs : ∃ a, d = .str a
  · obtain ⟨a, rfl⟩ := hs
    rw [W_neS]; simp
  · obtain ⟨p, e, c, q⟩ := pl_py d h
    unfold kNe
    rw [kEqB_ns fun a z => hs ⟨a, z⟩, pyOf_pl h, e]
    simp only
    rw [W_chk, show SeqAt.shaped p = true by unfold SeqAt.shaped; rw [c, q]; simp [hd], SeqAt.eqv_refl p c]
    simp [W]
theorem W_eqI {i j : Int} : W (kEq (.int i) (.int j) S) Q = Q (.bl (decide (i = j))) S := by
  unfold kEq kEqB
  show W (chk _ _) Q = _
  rw [W_chk, show (SeqAt.shaped (.int i) && SeqAt.shaped (.int j)) = true from rfl]
  simp only [true_and, W_ok, PyData.eqv]
  congr 2
theorem W_neI {i j : Int} : W (kNe (.int i) (.int j) S) Q = Q (.bl (!decide (i = j))) S := by
  unfold kNe kEqB
  show W (chk _ _) Q = _
  rw [W_chk, show (SeqAt.shaped (.int i) && SeqAt.shaped (.int j)) = true from rfl]
  simp only [true_and, W_ok, PyData.eqv]
  congr 2
end
theorem plDs_map {α : Type} {f : α → D} : ∀ {xs : List α}, (∀ x ∈ xs, plD (f x) = true) → plDs (xs.map f) = true
  | [], _ => rfl
  | x :: xs, h => by
    simp only [List.map_cons, plDs, h x List.mem_cons_self, Bool.true_and]
    exact plDs_map fun y hy => h y (List.mem_cons_of_mem _ hy)
theorem dpDs_map {α : Type} {f : α → D} {n : Nat} : ∀ {xs : List α}, (∀ x ∈ xs, dpD (f x) ≤ n) → dpDs (xs.map f) ≤ n
  | [], _ => Nat.zero_le _
  | x :: xs, h => by
    simp only [List.map_cons, dpDs]
    exact Nat.max_le.mpr ⟨h x List.mem_cons_self, dpDs_map fun y hy => h y (List.mem_cons_of_mem _ hy)⟩

/-! ### sorted lists of tuples of ints -/
def encT (l : List Int) : D := .tup (l.map .int)
theorem pys_ints (l : List Int) : pys (l.map .int) = some (l.map .int) := by
  induction l with
  | nil => simp only [List.map_nil, pys]
  | cons x l ih => simp only [List.map_cons, pys, py, ih]
theorem py_encT (l : List Int) : py (encT l) = some (.tuple (l.map .int)) := by
  unfold encT
  simp only [py, pys_ints]; rfl
theorem pys_encT (xs : List (List Int)) : pys (xs.map encT) = some (xs.map fun l => .tuple (l.map .int)) := by
  induction xs with
  | nil => simp only [List.map_nil, pys]
  | cons x l ih => simp only [List.map_cons, pys, py_encT, ih]
theorem alike_ints : ∀ (a b : List Int), PySem.W.alikeAll (a.map .int) (b.map .int) = true
  | [], _ => by simp only [List.map_nil, PySem.W.alikeAll]
  | _ :: _, [] => by simp only [List.map_nil, List.map_cons, PySem.W.alikeAll]
  | x :: a, y :: b => by simp only [List.map_cons, PySem.W.alikeAll, PySem.W.alike, alike_ints a b, Bool.and_self]
theorem depth_ints (l : List Int) : PyData.depthAll (l.map .int) = 0 := by
  induction l with
  | nil => simp only [List.map_nil, PyData.depthAll]
  | cons x l ih => simp only [List.map_cons, PyData.depthAll, PyData.depth, ih]; rfl
theorem sortOk_encT {xs : List (List Int)} (h : ∀ x ∈ xs, x ≠ []) : sortOkB (xs.map fun l => .tuple (l.map .int)) = true := by
  unfold sortOkB allAlikeB
  simp only [Bool.and_eq_true, Bool.or_eq_true, List.all_eq_true, List.mem_map, forall_exists_index, and_imp, forall_apply_eq_imp_iff₂, decide_eq_true_eq]
  refine ⟨⟨fun a _ b _ => ?_, .inl fun a ha => ?_⟩, fun a _ => ?_⟩
  · simp only [PySem.W.alike, alike_ints]
  · cases a with
    | nil => exact absurd rfl (h _ ha)
    | cons x a => rfl
  · simp only [PyData.depth, depth_ints]; omega
theorem lex_ints : ∀ (a b : List Int), PyProof.Rows.lexLt PyProof.Rows.itemOrd (PySem.W.keyToksAll (a.map .int)) (PySem.W.keyToksAll (b.map .int)) = HT.lexLt a b
  | [], [] => by simp only [List.map_nil]; exact PyProof.Rows.lex_irrefl _
  | [], y :: b => by
    simp only [List.map_nil, List.map_cons, PySem.W.keyToksAll]
    rw [PyProof.Rows.lex_diff (by simp)]; rfl
  | x :: a, [] => by
    simp only [List.map_nil, List.map_cons, PySem.W.keyToksAll]
    rw [PyProof.Rows.lex_diff (by simp)]; rfl
  | x :: a, y :: b => by
    simp only [List.map_cons, PySem.W.keyToksAll, PySem.W.keyToks, List.cons_append, List.nil_append]
    rw [PyProof.Rows.lex_self, HT.lexLt_cons]
    by_cases e : x = y
    · subst e
      rw [PyProof.Rows.lex_self, if_pos rfl]
      exact lex_ints a b
    · rw [PyProof.Rows.lex_diff (by simpa using e), if_neg e]; rfl
def lexLe (a b : List Int) : Bool := !HT.lexLt b a
theorem leD_encT (a b : List Int) : leD (encT a) (encT b) = lexLe a b := by
  unfold leD
  rw [PySem.W.dataLe_eq]
  simp only [cond_false, pyD, py_encT, Option.getD_some]
  unfold lexLe
  rw [PySem.W.dataLt_tuple, lex_ints]
theorem sort_encT (xs : List (List Int)) : (xs.map encT).mergeSort leD = (xs.mergeSort lexLe).map encT :=
  (List.map_mergeSort fun a _ b _ => (leD_encT a b).symm).symm
theorem W_sortT {S : Sto} {Q : D → Sto → Prop} {xs : List (List Int)} (h : ∀ x ∈ xs, x ≠ []) : W (kSorted [.lst (xs.map encT)] S) Q = Q (.lst ((xs.mergeSort lexLe).map encT)) S := by
  show W (match pys (xs.map encT) with
    | some es => chk (sortOkB es) (.ok (.lst ((xs.map encT).mergeSort leD)) S)
    | none => .no) Q = _
  rw [pys_encT]
  simp only
  rw [W_chk, sortOk_encT h, sort_encT]
  simp [W]
theorem W_sortTO {S : Sto} {Q : D → Sto → Prop} {xs : List (List Int)} {k : Nat} (hk : S.m[k]? = some (some (.lst (xs.map encT)))) (h : ∀ x ∈ xs, x ≠ []) : W (kSorted [.obj k] S) Q = Q (.lst ((xs.mergeSort lexLe).map encT)) S := by
  show W (match (match S.m[k]? with
      | some (some (.lst ds)) => some ds
      | _ => none) with
    | some ds => (match pys ds with
      | some es => chk (sortOkB es) (.ok (.lst (ds.mergeSort leD)) S)
      | none => .no)
    | none => .no) Q = _
  rw [hk]
  simp only
  rw [pys_encT]
  simp only
  rw [W_chk, sortOk_encT h, sort_encT]
  simp [W]
theorem lexLt_irrefl : ∀ a : List Int, HT.lexLt a a = false
  | [] => rfl
  | x :: a => by rw [HT.lexLt_cons, if_pos rfl]; exact lexLt_irrefl a
theorem lexLe_trans (a b c : List Int) (h1 : lexLe a b = true) (h2 : lexLe b c = true) : lexLe a c = true := by
  rw [← leD_encT] at h1 h2 ⊢
  unfold leD PySem.W.dataLe at h1 h2 ⊢
  exact (PySem.W.sortLe_total _ _ _).trans _ _ _ h1 h2
theorem lexLe_total (a b : List Int) : (lexLe a b || lexLe b a) = true := by
  rw [← leD_encT, ← leD_encT]
  unfold leD PySem.W.dataLe
  have := (PySem.W.sortLe_total (PyProof.Rows.listOrd PyProof.Rows.itemOrd) false fun b => PySem.W.keyToks (pyD b)).total (encT a) (encT b)
  first
    | exact this
    | exact Bool.or_eq_true_iff.mpr this
theorem sorted_pw (xs : List (List Int)) : (xs.mergeSort lexLe).Pairwise fun a b => lexLe a b = true := List.pairwise_mergeSort lexLe_trans lexLe_total xs
end Qd

namespace Qd
open PySem L2

section
variable {ρ : Rho} {S : Sto} {N : Rho → Sto → Prop} {T : D → Sto → Prop} {Q : D → Sto → Prop} {i j : Int}
theorem W_fz {f : FE} : W (fz f ρ S) Q = W (f ρ S) fun d S => match d with
    | .obj k => (match S.m[k]? with
      | some (some o) => Q o (S.drop k)
      | _ => False)
    | d => Q d S := by
  unfold fz
  rw [W_bind]; congr; funext d S
  cases d with
  | obj k =>
    simp only
    cases S.m[k]? with
    | none => rfl
    | some x => cases x <;> rfl
  | _ => rfl
theorem drop_m {k : Nat} : (S.drop k).m = S.m.set k none := rfl
theorem back_m' {S' : Sto} {n : Nat} : (S'.back n).m = S'.m.take n := rfl
end
theorem atI_map {α β : Type} {f : α → β} {xs : List α} {i : Int} : atI (xs.map f) i = (atI xs i).map f := by
  unfold atI
  rw [List.length_map]
  cases ixN xs.length i with
  | none => rfl
  | some k => simp
theorem cut_int (ns : List Int) (a b : Option Int) : ∃ ms : List Int, cutD (ns.map .int) a b = ms.map .int := by
  unfold cutD
  rw [← List.map_drop, ← List.map_take]
  exact ⟨_, rfl⟩
/-- drawn from a list -/
theorem pick {α : Type} {xs : List α} {f : α → D} {i : Int} (h0 : 0 ≤ i) (h : i < xs.length) : ∃ x, x ∈ xs ∧ atI (xs.map f) i = some (f x) := by
  obtain ⟨d, e, hd⟩ := at_of h0 h
  exact ⟨d, hd, by rw [atI_map, e]; rfl⟩
theorem W_pickI {S : Sto} {Q : D → Sto → Prop} {i : Int} {xs : List Int} (P : Int → Prop) (hx : ∀ x ∈ xs, P x) (h0 : 0 ≤ i) (h : i < xs.length) (q : ∀ x, P x → Q (.int x) S) : W (kIx (.lst (xs.map .int)) (.int i) S) Q := by
  obtain ⟨x, m, e⟩ := pick (f := D.int) h0 h
  rw [W_ixL, e]
  exact q x (hx x m)
theorem small62_of {i : Int} (h : -1000000000000000000 < i) (h2 : i < 1000000000000000000) : small62 i = true := by
  unfold small62
  simp only [Bool.and_eq_true, decide_eq_true_eq]
  constructor <;> omega
theorem rangeD_map (lo : Int) (n : Nat) : rangeD lo n = (List.range n).map fun i => .int (lo + (i : Int)) := rfl
theorem enumD_map {α : Type} {f : α → D} : ∀ (n : Nat) (xs : List α), enumD n (xs.map f) = (xs.zipIdx n).map fun p => .tup [.int (p.2 : Int), f p.1]
  | _, [] => rfl
  | n, x :: xs => by simp only [List.map_cons, enumD, List.zipIdx_cons, enumD_map (n + 1) xs]
theorem zipD_map {α β : Type} {f : α → D} {g : β → D} : ∀ (xs : List α) (ys : List β), zipD (xs.map f) (ys.map g) = (xs.zip ys).map fun p => .tup [f p.1, g p.2]
  | [], [] => rfl
  | [], _ :: _ => rfl
  | _ :: _, [] => rfl
  | x :: xs, y :: ys => by simp only [List.map_cons, zipD, List.zip_cons_cons, zipD_map xs ys]
theorem of_W {α : Type} {r : R α} {a : α} {S : Sto} (h : W r fun a' S' => a' = a ∧ S' = S) : r = .ok a S := by
  cases r with
  | ok a' S' => obtain ⟨rfl, rfl⟩ := h; rfl
  | er C ns vs S => exact h.elim
  | no => exact h.elim
theorem comp_mapW {α : Type} {p : Pt} {tt : FT} {te : FE} {ρ : Rho} {S : Sto} (enc : α → D) (b : α → Bool) (f : α → D) (xs : List α) (acc : List D) (h : ∀ x ∈ xs, ∃ ρ1, bindP p (enc x) ρ = some ρ1 ∧ (W (tt ρ1 S) fun b' S' => b' = b x ∧ S' = S) ∧ (b x = true → W (te ρ1 S) fun y S' => y = f x ∧ S' = S)) :
    comp p tt te ρ (xs.map enc) S acc = .ok (acc ++ (xs.filter b).map f) S := comp_map enc b f xs acc fun x hx => by
  obtain ⟨ρ1, h1, h2, h3⟩ := h x hx
  exact ⟨ρ1, h1, of_W h2, fun e => of_W (h3 e)⟩
theorem atI_get {α : Type} {f : α → D} {xs : List α} {k : Nat} (d : α) (h : k < xs.length) : atI (xs.map f) (k : Int) = some (f (xs.getD k d)) := by
  rw [atI_map, atI_nat h]
  simp [h]
theorem rangeD_0 (n : Nat) : rangeD 0 ((n : Int)).toNat = (List.range n).map fun k => .int (k : Int) := by
  unfold rangeD
  simp
theorem ixN_get {n k : Nat} (h : k < n) : ixN n (k : Int) = some k := ixN_nat h
theorem ixL {ds : List D} {k : Nat} {d : D} {S : Sto} {Q : D → Sto → Prop} (h : atI ds (k : Int) = some d) (q : Q d S) : W (kIx (.lst ds) (.int (k : Int)) S) Q := by rw [W_ixL, h]; exact q
theorem frOf_l {ds : List D} : frOf (.lst ds) = some ds := rfl
theorem frOf_t {ds : List D} : frOf (.tup ds) = some ds := rfl
theorem frOf_s {ds : List D} : frOf (.scr ds) = some ds := rfl
theorem kn_t : knownTy "tuple" = true := by decide
theorem kn_i : knownTy "int" = true := by decide
theorem kn_b : knownTy "bool" = true := by decide
theorem kn_l : knownTy "list" = true := by decide
theorem kn_s : knownTy "str" = true := by decide
theorem kn_d : knownTy "dict" = true := by decide
theorem isa_tt : isaB "tuple" "tuple" = true := by decide
theorem isa_ii : isaB "int" "int" = true := by decide
theorem isa_ib : isaB "int" "bool" = false := by decide
theorem isa_ll : isaB "list" "list" = true := by decide
theorem isa_lt : isaB "list" "tuple" = false := by decide
theorem isa_tl : isaB "tuple" "list" = false := by decide
section
variable {S : Sto} {Q : D → Sto → Prop}
theorem W_isiL2 {ds : List D} : W (kIsi [.lst ds, .tup [.ty "list", .ty "tuple"]] S) Q = Q (.bl true) S := rfl
theorem W_isiT2 {ds : List D} : W (kIsi [.tup ds, .tup [.ty "list", .ty "tuple"]] S) Q = Q (.bl true) S := rfl
/-- all of a list, each true -/
theorem W_allT {α : Type} {xs : List α} {b : α → Bool} : W (kAll [.lst ([] ++ (xs.filter b).map fun _ => .bl true)] S) Q = Q (.bl true) S := by
  have e : ([] : List D) ++ (xs.filter b).map (fun _ => D.bl true) = ((xs.filter b).map fun _ => true).map .bl := by simp
  rw [e, W_all]
  congr 2
  simp
theorem W_sumI {α : Type} {xs : List α} {b : α → Bool} {f : α → Int} : W (kSum [.lst ([] ++ (xs.filter b).map fun x => .int (f x))] S) Q = Q (.int ((xs.filter b).map f).sum) S := by
  have e : ([] : List D) ++ (xs.filter b).map (fun x => D.int (f x)) = ((xs.filter b).map f).map .int := by simp
  rw [e, W_sum]
theorem W_allM {α : Type} {xs : List α} : W (kAll [.lst (xs.map fun _ => .bl true)] S) Q = Q (.bl true) S := by
  have e : xs.map (fun _ => D.bl true) = (xs.map fun _ => true).map .bl := by simp
  rw [e, W_all]
  congr 2
  simp
theorem W_allB {α : Type} {xs : List α} {f : α → Bool} : W (kAll [.lst (xs.map fun x => .bl (f x))] S) Q = Q (.bl (xs.all f)) S := by
  have e : xs.map (fun x => D.bl (f x)) = (xs.map f).map .bl := by simp
  rw [e, W_all]
  congr 2
  simp [List.all_map]
theorem W_anyB {α : Type} {xs : List α} {f : α → Bool} : W (kAny [.lst (xs.map fun x => .bl (f x))] S) Q = Q (.bl (xs.any f)) S := by
  have e : xs.map (fun x => D.bl (f x)) = (xs.map f).map .bl := by simp
  rw [e, W_any]
  congr 2
  simp [List.any_map]
theorem W_sumM {α : Type} {xs : List α} {f : α → Int} : W (kSum [.lst (xs.map fun x => .int (f x))] S) Q = Q (.int (xs.map f).sum) S := by
  have e : xs.map (fun x => D.int (f x)) = (xs.map f).map .int := by simp
  rw [e, W_sum]
theorem cut2 {a b c : D} : cutD [a, b, c] none (some 2) = [a, b] := rfl
theorem W_ltT2 {a b c d : Int} : W (kLt (.tup [.int a, .int b]) (.tup [.int c, .int d]) S) Q = Q (.bl (HT.lexLt [a, b] [c, d])) S := rfl
theorem atI_succ {α : Type} {f : α → D} {xs : List α} {k : Nat} (d : α) (h : k + 1 < xs.length) : atI (xs.map f) ((k : Int) + 1) = some (f (xs.getD (k + 1) d)) := by
  rw [show ((k : Int) + 1) = ((k + 1 : Nat) : Int) by omega]
  exact atI_get d h
end
theorem getD_get {α : Type} {xs : List α} {k : Nat} (d : α) (h : k < xs.length) : xs.getD k d = xs[k] := by simp [h]
theorem filter_all {α : Type} (xs : List α) : xs.filter (fun _ => true) = xs := List.filter_eq_self.mpr fun _ _ => rfl
end Qd

namespace Qd
open PySem L2
open PySem.W (AllAlike Sortable dataLe EachIs alike)

/-! ### keys -/
def keyOf : D → Option Key
  | .int i => some (.inl i)
  | .str x => some (.inr x)
  | _ => none
def keysOf : List D → Option (List Key)
  | [] => some []
  | d :: ds => match keyOf d, keysOf ds with
    | some k, some ks => some (k :: ks)
    | _, _ => none
theorem keyOf_ok {K : PySem.W.Frag} {B : Hp} {tb : Tb} {d : D} {v : V} {k : Key} (e : keyOf d = some k) (r : rep K B tb d v) : v = kV k := by
  cases d <;> simp only [keyOf, Option.some.injEq, reduceCtorEq] at e
  all_goals subst e; simp only [rep] at r; subst r; rfl
theorem keysOf_ok {K : PySem.W.Frag} {B : Hp} {tb : Tb} : ∀ {ds : List D} {vs : List V} {k : List Key}, keysOf ds = some k → reps K B tb ds vs → vs = k.map kV
  | [], vs, k, e, r => by
    simp only [keysOf, Option.some.injEq] at e; subst e
    simp only [reps] at r; subst r; rfl
  | d :: ds, vs, k, e, r => by
    simp only [reps] at r
    obtain ⟨v, t, rfl, r1, r2⟩ := r
    simp only [keysOf] at e
    split at e
    · rename_i k1 ks e1 e2
      cases e
      rw [keyOf_ok e1 r1, keysOf_ok e2 r2]; rfl
    · cases e
section
variable {κ : Type} [DecidableEq κ]
def getV {α : Type} : List κ → List α → κ → Option α
  | k :: ks, d :: ds, q => if k = q then some d else getV ks ds q
  | _, _, _ => none
def putKs (ks : List κ) (q : κ) : List κ := if q ∈ ks then ks else ks ++ [q]
def putVs {α : Type} (ks : List κ) (ds : List α) (q : κ) (d : α) : List α := if q ∈ ks then List.zipWith (fun k e => if k = q then d else e) ks ds else ds ++ [d]
theorem getV_val : ∀ (ks : List κ) (vs : List V) (q : κ), valV (ks.zip vs) q = getV ks vs q
  | [], vs, q => by simp [getV, valV]
  | _ :: _, [], q => by simp [getV, valV]
  | k :: ks, v :: vs, q => by
    simp only [List.zip_cons_cons, getV]
    by_cases e : k = q
    · rw [valV_pos e, if_pos e]
    · rw [valV_neg e, if_neg e, getV_val ks vs q]
theorem any_mem (ks : List κ) (vs : List V) (q : κ) (h : ks.length = vs.length) : ((ks.zip vs).any fun kv => decide (kv.1 = q)) = decide (q ∈ ks) := by
  induction ks generalizing vs with
  | nil => rfl
  | cons k ks ih => cases vs with
    | nil => simp at h
    | cons v vs =>
      simp only [List.zip_cons_cons, List.any_cons, ih vs (by simpa using h)]
      by_cases e : k = q
      · subst e; simp
      · have e2 : ¬ q = k := fun z => e z.symm
        simp [e, e2]
theorem put_zip (ks : List κ) (vs : List V) (q : κ) (v : V) (h : ks.length = vs.length) : (putKs ks q).zip (putVs ks vs q v) = putK (ks.zip vs) q v := by
  unfold putK putKs putVs
  rw [any_mem ks vs q h]
  by_cases e : q ∈ ks
  · rw [if_pos e, if_pos e, if_pos (decide_eq_true e)]
    clear e
    induction ks generalizing vs with
    | nil => rfl
    | cons k ks ih => cases vs with
      | nil => rfl
      | cons u vs =>
        simp only [List.zipWith_cons_cons, List.zip_cons_cons, List.map_cons, ih vs (by simpa using h)]
        split <;> rfl
  · rw [if_neg e, if_neg e, if_neg (by simpa using e), List.zip_append h]; rfl
theorem put_len {α : Type} (ks : List κ) (vs : List α) (q : κ) (v : α) (h : ks.length = vs.length) : (putKs ks q).length = (putVs ks vs q v).length := by
  unfold putKs putVs
  split <;> simp [h]
theorem put_reps {K : PySem.W.Frag} {B : Hp} {tb : Tb} {q : κ} {d : D} {v : V} (r : rep K B tb d v) : ∀ {ks : List κ} {ds : List D} {vs : List V}, reps K B tb ds vs → reps K B tb (putVs ks ds q d) (putVs ks vs q v) := by
  intro ks ds vs h
  unfold putVs
  split
  · rename_i e
    clear e
    induction ks generalizing ds vs with
    | nil => exact reps_nil
    | cons k ks ih => cases ds with
      | nil => simp only [reps] at h; subst h; exact reps_nil
      | cons d' ds =>
        simp only [reps] at h
        obtain ⟨u, t, rfl, h1, h2⟩ := h
        simp only [List.zipWith_cons_cons]
        refine reps_cons ?_ (ih h2)
        split
        · exact r
        · exact h1
  · exact reps_append h (reps_cons r reps_nil)
end
def GR (K : PySem.W.Frag) (B : Hp) (tb : Tb) : Option D → Option V → Prop
  | some d, ov => ∃ v, ov = some v ∧ rep K B tb d v
  | none, ov => ov = none
theorem GR.isSome {K : PySem.W.Frag} {B : Hp} {tb : Tb} {o : Option D} {ov : Option V} (h : GR K B tb o ov) : ov.isSome = o.isSome := by
  cases o with
  | none => cases (show ov = none from h); rfl
  | some d => obtain ⟨u, rfl, _⟩ := h; rfl
section
variable {κ : Type} [DecidableEq κ]
theorem getV_rep {K : PySem.W.Frag} {B : Hp} {tb : Tb} {q : κ} : ∀ {ks : List κ} {ds : List D} {vs : List V}, reps K B tb ds vs → GR K B tb (getV ks ds q) (getV ks vs q)
  | [], ds, vs, h => by simp [getV, GR]
  | k :: ks, [], vs, h => by simp only [reps] at h; subst h; simp [getV, GR]
  | k :: ks, d :: ds, vs, h => by
    simp only [reps] at h
    obtain ⟨v, t, rfl, h1, h2⟩ := h
    simp only [getV]
    by_cases e : k = q
    · rw [if_pos e, if_pos e]; exact ⟨v, rfl, h1⟩
    · rw [if_neg e, if_neg e]; exact getV_rep h2
end

/-! ### dicts: what reads as one -/
/-- the key and the rows of a dict, told as one of tuple keys or of plain ones -/
inductive Dc where
  | k (ks : List Key) (ds : List D)
  | t (ks : List (List Key)) (ds : List D)
def dcOf (S : Sto) : D → Option Dc
  | .dk ks ds => some (.k ks ds)
  | .dt ks ds => some (.t ks ds)
  | .obj i => match S.m[i]? with
    | some (some (.dk ks ds)) => some (.k ks ds)
    | some (some (.dt ks ds)) => some (.t ks ds)
    | _ => none
  | _ => none
def Dc.get : Dc → D → Option (Option D)
  | .k ks ds, y => (keyOf y).map fun q => getV ks ds q
  | .t ks ds, y => match y with
    | .tup es => (keysOf es).map fun q => getV ks ds q
    | _ => none
def DcR (K : PySem.W.Frag) (H B : Hp) (tb : Tb) (a : Addr) : Dc → Prop
  | .k ks ds => ∃ vs, H a = some (.dK (ks.zip vs)) ∧ ks.length = vs.length ∧ reps K B tb ds vs
  | .t ks ds => ∃ vs, H a = some (.dT (ks.zip vs)) ∧ ks.length = vs.length ∧ reps K B tb ds vs
section
variable {K : PySem.W.Frag} {H B : Hp} {tb : Tb} {S : Sto} {W : WX} {σ : St} {ρ : Rho}
theorem dcOf_ok (w : Wd K H B tb S) {d : D} {c : Dc} {v : V} (e : dcOf S d = some c) (r : rep K B tb d v) : ∃ a, v = .ref a ∧ DcR K H B tb a c := by
  cases d with
  | dk ks ds =>
    cases e
    simp only [rep] at r
    obtain ⟨a, vs, rfl, h1, h2, h3⟩ := r
    exact ⟨a, rfl, vs, w.sub _ _ h1, h2, h3⟩
  | dt ks ds =>
    cases e
    simp only [rep] at r
    obtain ⟨a, vs, rfl, h1, h2, h3⟩ := r
    exact ⟨a, rfl, vs, w.sub _ _ h1, h2, h3⟩
  | obj k =>
    simp only [dcOf] at e
    simp only [rep] at r
    obtain ⟨a, rfl, ha⟩ := r
    split at e
    · rename_i ks ds hk
      cases e
      obtain ⟨a', h1, _, h2⟩ := w.at_ k _ hk
      rw [ha] at h1; cases h1
      exact ⟨a, rfl, h2⟩
    · rename_i ks ds hk
      cases e
      obtain ⟨a', h1, _, h2⟩ := w.at_ k _ hk
      rw [ha] at h1; cases h1
      exact ⟨a, rfl, h2⟩
    · cases e
  | _ => cases e
theorem DcR.isD {a : Addr} {c : Dc} (h : DcR K H B tb a c) : IsD H a := by
  cases c with
  | k ks ds => obtain ⟨vs, h1, _⟩ := h; exact .inl ⟨_, .inl h1⟩
  | t ks ds => obtain ⟨vs, h1, _⟩ := h; exact .inr ⟨_, .inl h1⟩
theorem DcR.get (sub : ∀ a o, B a = some o → H a = some o) {a : Addr} {c : Dc} {y : D} {o : Option D} {v : V} (h : DcR K H B tb a c) (e : c.get y = some o) (r : rep K B tb y v) :
    ∃ ov, DGet H a v ov ∧ GR K B tb o ov := by
  cases c with
  | k ks ds =>
    obtain ⟨vs, h1, h2, h3⟩ := h
    simp only [Dc.get] at e
    cases z : keyOf y with
    | none => rw [z] at e; cases e
    | some q =>
      rw [z] at e
      simp only [Option.map_some, Option.some.injEq] at e
      subst e
      refine ⟨valV (ks.zip vs) q, by rw [keyOf_ok z r]; exact DGet.k h1, ?_⟩
      rw [getV_val]
      exact getV_rep h3
  | t ks ds =>
    obtain ⟨vs, h1, h2, h3⟩ := h
    cases y with
    | tup es =>
      simp only [Dc.get] at e
      cases z : keysOf es with
      | none => rw [z] at e; cases e
      | some q =>
        rw [z] at e
        simp only [Option.map_some, Option.some.injEq] at e
        subst e
        simp only [rep] at r
        obtain ⟨b, us, rfl, r1, r2⟩ := r
        have r1' : H b = some (.tup (q.map kV)) := by rw [← keysOf_ok z r2]; exact sub _ _ r1
        refine ⟨valV (ks.zip vs) q, DGet.t h1 r1', ?_⟩
        rw [getV_val]
        exact getV_rep h3
    | _ => simp only [Dc.get] at e; cases e
theorem dcOf_same {S' : Sto} {d : D} (e : ∀ i : Nat, S'.m[i]? = S.m[i]?) : dcOf S' d = dcOf S d := by
  cases d with
  | obj i => simp only [dcOf, e]
  | _ => rfl
end

/-! ### d[y], d.get(y), d.get(y, z) -/
def kDIx (x y : D) (S : Sto) : R D := match dcOf S x with
  | some c => (match c.get y with
    | some (some d) => .ok d S
    | _ => .no)
  | none => .no
def eDGet2 (f g h : FE) : FE := fun ρ S => (f ρ S).bind fun x S1 => chk ((dcOf S1 x).isSome) ((g ρ S1).bind fun y S2 => (h ρ S2).bind fun z S3 => match dcOf S3 x with
  | some c => (match c.get y with
    | some o => .ok (o.getD z) S3
    | none => .no)
  | none => .no)
def eDGet1 (f g : FE) : FE := fun ρ S => (f ρ S).bind fun x S1 => chk ((dcOf S1 x).isSome) ((g ρ S1).bind fun y S2 => match dcOf S2 x with
  | some c => (match c.get y with
    | some o => .ok (o.getD .non) S2
    | none => .no)
  | none => .no)
/-- {} -/
def eDNewT : FE := fun _ S => .ok (.obj S.next) (S.push (.dt [] []))
def eDNewK : FE := fun _ S => .ok (.obj S.next) (S.push (.dk [] []))
/-- {}, never written -/
def eD0 : FE := fun _ S => .ok (.dk [] []) S
/-- y in d -/
def kDIn (n : Bool) (y x : D) (S : Sto) : R D := match dcOf S x with
  | some c => (match c.get y with
    | some o => .ok (.bl (if n then !o.isSome else o.isSome)) S
    | none => .no)
  | none => .no
/-- d[y] = v -/
def Dc.put : Dc → D → D → Option (Nat × D)
  | .k ks ds, y, v => (keyOf y).map fun q => (ks.length, .dk (putKs ks q) (putVs ks ds q v))
  | .t ks ds, y, v => match y with
    | .tup es => (keysOf es).map fun q => (ks.length, .dt (putKs ks q) (putVs ks ds q v))
    | _ => none
def sDPut (fv fo fy : FE) : FS := fun ρ S => (fv ρ S).st ρ fun v S => (fo ρ S).st ρ fun x S => (fy ρ S).st ρ fun y S => match x with
  | .obj i => (match dcOf S x with
    | some c => (match c.put y v with
      | some (n, o) => chk (decide (n < line)) (.ok (.nx ρ) (S.put i o))
      | none => .no)
    | none => .no)
  | _ => .no
section
variable {X : Cx} {W : WX} {o i e value : Expr} {pos pos' apos cpos : Pos} {f g h fv : FE}
theorem getD_rep {K : PySem.W.Frag} {B : Hp} {tb : Tb} {o : Option D} {ov : Option V} {z : D} {u : V} (h : GR K B tb o ov) (hz : rep K B tb z u) : rep K B tb (o.getD z) (ov.getD u) := by
  cases o with
  | none => cases (show ov = none from h); exact hz
  | some d => obtain ⟨u', rfl, r⟩ := h; exact r
theorem d_dix (hu : X.A.units + 64 < cLine) (ha : DE X W o f) (hb : DE X W i g) (hs : NoSl i) : DE X W (.Subscript o i pos) (e2 kDIx f g) := (pe_dget (by omega) ha hb hs).imp fun σ H Q ⟨B, tb, ρ, S, w, e, q⟩ => by
  refine LE.step w e q fun x S1 B1 tb1 H1 v x1 w1 e1 r1 h1 => LE.step w1 e1 h1 fun y S2 B2 tb2 H2 u x2 w2 e2 r2 h2 => ?_
  unfold kDIx at h2
  split at h2
  · rename_i c hc
    split at h2
    · rename_i d hd
      obtain ⟨a, rfl, hr⟩ := dcOf_ok w2 hc (rep_ex x2 _ _ r1)
      obtain ⟨ov, g1, u', rfl, g2⟩ := hr.get w2.sub hd r2
      exact ⟨a, u', rfl, g1, h2.ok w2 _ g2⟩
    · exact h2.elim
  · exact h2.elim
theorem d_dget2 (hu : X.A.units + 64 < cLine) (ha : DE X W o f) (hb : DE X W i g) (hc : DE X W e h) (m : M2 X o "get" apos i e cpos) : DE X W (.Call (.Attribute o "get" apos) [i, e] [] cpos) (eDGet2 f g h) := (pe_dget2 (by omega) ha hb hc m).imp fun σ H Q ⟨B, tb, ρ, S, w, e, q⟩ => by
  refine LE.step w e q fun x S1 B1 tb1 H1 v x1 w1 e1 r1 h1 => ?_
  obtain ⟨c0, h1⟩ := chk_ok h1
  obtain ⟨c, hc⟩ := Option.isSome_iff_exists.mp c0
  obtain ⟨a, rfl, hr⟩ := dcOf_ok w1 hc r1
  refine ⟨a, rfl, hr.isD, LE.step w1 e1 h1 fun y S2 B2 tb2 H2 u x2 w2 e2 r2 h2 => LE.step w2 e2 h2 fun z S3 B3 tb3 H3 t x3 w3 e3 r3 h3 => ?_⟩
  split at h3
  · rename_i c' hc'
    split at h3
    · rename_i o' ho'
      obtain ⟨a', ea, hr'⟩ := dcOf_ok w3 hc' (rep_ex (x2.trans x3) _ _ r1)
      cases ea
      obtain ⟨ov, g1, g2⟩ := hr'.get w3.sub ho' (rep_ex x3 _ _ r2)
      exact ⟨ov, g1, h3.ok w3 _ (getD_rep g2 r3)⟩
    · exact h3.elim
  · exact h3.elim
theorem d_dget1 (hu : X.A.units + 64 < cLine) (ha : DE X W o f) (hb : DE X W i g) (m : M1 X o "get" apos i cpos) : DE X W (.Call (.Attribute o "get" apos) [i] [] cpos) (eDGet1 f g) := (pe_dget1 (by omega) ha hb m).imp fun σ H Q ⟨B, tb, ρ, S, w, e, q⟩ => by
  refine LE.step w e q fun x S1 B1 tb1 H1 v x1 w1 e1 r1 h1 => ?_
  obtain ⟨c0, h1⟩ := chk_ok h1
  obtain ⟨c, hc⟩ := Option.isSome_iff_exists.mp c0
  obtain ⟨a, rfl, hr⟩ := dcOf_ok w1 hc r1
  refine ⟨a, rfl, hr.isD, LE.step w1 e1 h1 fun y S2 B2 tb2 H2 u x2 w2 e2 r2 h2 => ?_⟩
  split at h2
  · rename_i c' hc'
    split at h2
    · rename_i o' ho'
      obtain ⟨a', ea, hr'⟩ := dcOf_ok w2 hc' (rep_ex x2 _ _ r1)
      cases ea
      obtain ⟨ov, g1, g2⟩ := hr'.get w2.sub ho' r2
      exact ⟨ov, g1, h2.ok w2 _ (getD_rep g2 rep_non)⟩
    · exact h2.elim
  · exact h2.elim
theorem d_din (hu : X.A.units + 64 < cLine) (hb : DE X W i g) (ha : DE X W o f) : PC X .In i o (LE X.K W (e2 (kDIn false) g f)) := ⟨fun pins s σ H Q I h => (pc_din (by omega) hb ha).run pins s σ H Q I (by
  obtain ⟨B, tb, ρ, S, w, e, q⟩ := h
  refine LE.step w e q fun y S1 B1 tb1 H1 u x1 w1 e1 r1 h1 => LE.step w1 e1 h1 fun x S2 B2 tb2 H2 v x2 w2 e2 r2 h2 => ?_
  unfold kDIn at h2
  split at h2
  · rename_i c hc
    split at h2
    · rename_i o' ho'
      obtain ⟨a, rfl, hr⟩ := dcOf_ok w2 hc r2
      obtain ⟨ov, g1, g2⟩ := hr.get w2.sub ho' (rep_ex x2 _ _ r1)
      exact ⟨a, ov, rfl, g1, by rw [g2.isSome]; exact h2.ok w2 _ rep_bl⟩
    · exact h2.elim
  · exact h2.elim)⟩
theorem d_dnotin (hu : X.A.units + 64 < cLine) (hb : DE X W i g) (ha : DE X W o f) : PC X .NotIn i o (LE X.K W (e2 (kDIn true) g f)) := ⟨fun pins s σ H Q I h => (pc_dnotin (by omega) hb ha).run pins s σ H Q I (by
  obtain ⟨B, tb, ρ, S, w, e, q⟩ := h
  refine LE.step w e q fun y S1 B1 tb1 H1 u x1 w1 e1 r1 h1 => LE.step w1 e1 h1 fun x S2 B2 tb2 H2 v x2 w2 e2 r2 h2 => ?_
  unfold kDIn at h2
  split at h2
  · rename_i c hc
    split at h2
    · rename_i o' ho'
      obtain ⟨a, rfl, hr⟩ := dcOf_ok w2 hc r2
      obtain ⟨ov, g1, g2⟩ := hr.get w2.sub ho' (rep_ex x2 _ _ r1)
      exact ⟨a, ov, rfl, g1, by rw [g2.isSome]; exact h2.ok w2 _ rep_bl⟩
    · exact h2.elim
  · exact h2.elim)⟩
theorem ds_dput (hu : X.A.units + 64 < cLine) (hv : DE X W value fv) (ha : DE X W o f) (hb : DE X W i g) (hs : swapsWith value (some (.Subscript o i pos')) pos.line X.env = pure false) :
    DS X W (.Assign [.Subscript o i pos'] value pos) (sDPut fv f g) := (ps_dput (by omega) ha hb hv hs).imp fun Dn σ H ⟨B, tb, ρ, S, w, e, q⟩ => by
  refine LE.stepS w e q fun v S1 B1 tb1 H1 vv x1 w1 e1 r1 h1 => LE.stepS w1 e1 h1 fun x S2 B2 tb2 H2 xv x2 w2 e2 r2 h2 => LE.stepS w2 e2 h2 fun y S3 B3 tb3 H3 yv x3 w3 e3 r3 h3 => ?_
  split at h3
  · rename_i j
    have rx := rep_ex x3 _ _ r2
    have rv := rep_ex (x2.trans x3) _ _ r1
    split at h3
    · rename_i c hc
      split at h3
      · rename_i n o' ho
        obtain ⟨cl0, h4⟩ : decide (n < line) = true ∧ PostS X.K B3 tb3 W Dn (.ok (.nx ρ) (S3.put j o')) := by
          unfold chk at h3
          split at h3
          · rename_i z; exact ⟨z, h3⟩
          · exact h3.elim
        have cl := of_decide_eq_true cl0
        obtain ⟨a, ea, hr⟩ := dcOf_ok w3 hc rx
        simp only [rep] at rx
        obtain ⟨a', ea', hp⟩ := rx
        rw [ea] at ea'; cases ea'
        have hm : ∃ d0, S3.m[j]? = some (some d0) := by
          simp only [dcOf] at hc
          split at hc
          · rename_i ks ds hk; exact ⟨_, hk⟩
          · rename_i ks ds hk; exact ⟨_, hk⟩
          · cases hc
        obtain ⟨d0, hk⟩ := hm
        cases c with
        | k ks ds =>
          obtain ⟨vs, q1, q2, q3⟩ := hr
          simp only [Dc.put] at ho
          cases z : keyOf y with
          | none => rw [z] at ho; cases ho
          | some qk =>
            rw [z] at ho
            simp only [Option.map_some, Option.some.injEq, Prod.mk.injEq] at ho
            obtain ⟨rfl, rfl⟩ := ho
            have ll : (ks.zip vs).length < sizeLine := by rw [List.length_zip, q2, Nat.min_self, line_eq, ← q2]; exact cl
            refine ⟨a, _, ea, by rw [keyOf_ok z r3]; exact DPut.k q1 ll, ?_⟩
            rw [← put_zip ks vs qk vv q2]
            have w4 := w3.put hk hp (o := .dK ((putKs ks qk).zip (putVs ks vs qk vv))) (d' := .dk (putKs ks qk) (putVs ks ds qk v)) ⟨_, upd_same, put_len _ _ _ _ q2, put_reps rv q3⟩
            exact h4.nx' w4 e3
        | t ks ds =>
          obtain ⟨vs, q1, q2, q3⟩ := hr
          cases y with
          | tup es =>
            simp only [Dc.put] at ho
            cases z : keysOf es with
            | none => rw [z] at ho; cases ho
            | some qk =>
              rw [z] at ho
              simp only [Option.map_some, Option.some.injEq, Prod.mk.injEq] at ho
              obtain ⟨rfl, rfl⟩ := ho
              simp only [rep] at r3
              obtain ⟨b, us, rfl, t1, t2⟩ := r3
              have t1' : H3 b = some (.tup (qk.map kV)) := by rw [← keysOf_ok z t2]; exact w3.sub _ _ t1
              have ll : (ks.zip vs).length < sizeLine := by rw [List.length_zip, q2, Nat.min_self, line_eq, ← q2]; exact cl
              refine ⟨a, _, ea, DPut.t q1 t1' ll, ?_⟩
              rw [← put_zip ks vs qk vv q2]
              have w4 := w3.put hk hp (o := .dT ((putKs ks qk).zip (putVs ks vs qk vv))) (d' := .dt (putKs ks qk) (putVs ks ds qk v)) ⟨_, upd_same, put_len _ _ _ _ q2, put_reps rv q3⟩
              exact h4.nx' w4 e3
          | _ => simp only [Dc.put] at ho; cases ho
      · exact h3.elim
    · exact h3.elim
  · exact h3.elim
end
end Qd

namespace Qd
open PySem L2
open PySem.W (AllAlike Sortable dataLe EachIs alike dataLt)

/-! ### order of data -/
def rOrd (K : PySem.W.Frag) (c : PyData → PyData → Bool) : R2 := fun x y H Q => ∃ a b : PyData, Dp K H x a ∧ Dp K H y b ∧ alike a b = true ∧ a ≠ .none ∧ a.depth ≤ 60 ∧ Q (.bl (c a b)) H
section
variable {X : Cx}
theorem ord_room {a b : PyData} (hu : X.A.units + 64 < cLine) (h : a.depth ≤ 60) : X.A.units + min a.depth b.depth < cLine := by
  have := Nat.min_le_left a.depth b.depth
  omega
theorem op_ltO (hu : X.A.units + 64 < cLine) : OpR X (compareOp .Lt) (rOrd X.K dataLt) := by
  intro pins s σ H x y v u Q I rx ry h
  obtain ⟨a, b, d1, d2, al, hn, hd, q⟩ := h
  obtain ⟨as, ra⟩ := Dp.reads I a x v d1 rx
  obtain ⟨bs, rb⟩ := Dp.reads I b y u d2 ry
  exact PySem.W.lt_data ra rb al hn (ord_room hu hd) ⟨.bl _, H, I, rfl, q⟩
theorem op_gtO (hu : X.A.units + 64 < cLine) : OpR X (compareOp .Gt) (rOrd X.K fun a b => dataLt b a) := by
  intro pins s σ H x y v u Q I rx ry h
  obtain ⟨a, b, d1, d2, al, hn, hd, q⟩ := h
  obtain ⟨as, ra⟩ := Dp.reads I a x v d1 rx
  obtain ⟨bs, rb⟩ := Dp.reads I b y u d2 ry
  exact PySem.W.gt_data ra rb al hn (ord_room hu hd) ⟨.bl _, H, I, rfl, q⟩
theorem op_leO (hu : X.A.units + 64 < cLine) : OpR X (compareOp .LtE) (rOrd X.K fun a b => !dataLt b a) := by
  intro pins s σ H x y v u Q I rx ry h
  obtain ⟨a, b, d1, d2, al, hn, hd, q⟩ := h
  obtain ⟨as, ra⟩ := Dp.reads I a x v d1 rx
  obtain ⟨bs, rb⟩ := Dp.reads I b y u d2 ry
  exact PySem.W.le_data ra rb al hn (ord_room hu hd) ⟨.bl _, H, I, rfl, q⟩
theorem op_geO (hu : X.A.units + 64 < cLine) : OpR X (compareOp .GtE) (rOrd X.K fun a b => !dataLt a b) := by
  intro pins s σ H x y v u Q I rx ry h
  obtain ⟨a, b, d1, d2, al, hn, hd, q⟩ := h
  obtain ⟨as, ra⟩ := Dp.reads I a x v d1 rx
  obtain ⟨bs, rb⟩ := Dp.reads I b y u d2 ry
  exact PySem.W.ge_data ra rb al hn (ord_room hu hd) ⟨.bl _, H, I, rfl, q⟩
end
def kOrd (ci : Int → Int → Bool) (c : PyData → PyData → Bool) (x y : D) (S : Sto) : R D := match x, y with
  | .int i, .int j => .ok (.bl (ci i j)) S
  | x, y => match pyOf S x, pyOf S y with
    | some a, some b => chk (alike a b && (match a with | .none => false | _ => true) && decide (a.depth ≤ 60)) (.ok (.bl (c a b)) S)
    | _, _ => .no
theorem fit_ord {K : PySem.W.Frag} {ci : Int → Int → Bool} {c : PyData → PyData → Bool} (h : ∀ i j, c (.int i) (.int j) = ci i j) : Fit2 K (rOrd K c) (kOrd ci c) := by
  intro B tb W σ H S x y v u Q w rx ry q
  unfold kOrd at q
  split at q
  · rename_i i j
    exact ⟨.int i, .int j, pyOf_ok (d := .int i) w rx rfl, pyOf_ok (d := .int j) w ry rfl, rfl, (fun z => by cases z), Nat.zero_le _, by rw [h]; exact q.ok w _ rep_bl⟩
  · split at q
    · rename_i a b ea eb
      obtain ⟨cc, q⟩ := chk_ok q
      simp only [Bool.and_eq_true, decide_eq_true_eq] at cc
      refine ⟨a, b, pyOf_ok w rx ea, pyOf_ok w ry eb, cc.1.1, ?_, cc.2, q.ok w _ rep_bl⟩
      intro z
      subst z
      exact absurd cc.1.2 (by simp)
    · exact q.elim
abbrev kLtO := kOrd (fun i j => decide (i < j)) dataLt
abbrev kGtO := kOrd (fun i j => decide (j < i)) fun a b => dataLt b a
abbrev kLeO := kOrd (fun i j => decide (i ≤ j)) fun a b => !dataLt b a
abbrev kGeO := kOrd (fun i j => decide (j ≤ i)) fun a b => !dataLt a b
section
variable {X : Cx} {W : WX} {a b : Expr} {pos : Pos} {f g : FE}
theorem not_dlt (i j : Int) : (!dataLt (.int j) (.int i)) = decide (i ≤ j) := by
  rw [PySem.W.dataLt_int, ← decide_not]
  congr 1
  simp
theorem d_ltO (hu : X.A.units + 64 < cLine) (ha : DE X W a f) (hb : DE X W b g) : DE X W (.Compare a [.Lt] [b] pos) (e2 kLtO f g) := d_cmp (op_ltO hu) (fit_ord fun i j => PySem.W.dataLt_int i j) ha hb (nomark _)
theorem t_ltO (hu : X.A.units + 64 < cLine) (ha : DE X W a f) (hb : DE X W b g) : DT X W (.Compare a [.Lt] [b] pos) (tV (e2 kLtO f g)) := t_cmp (op_ltO hu) (fit_ord fun i j => PySem.W.dataLt_int i j) ha hb (nomark _)
theorem d_gtO (hu : X.A.units + 64 < cLine) (ha : DE X W a f) (hb : DE X W b g) : DE X W (.Compare a [.Gt] [b] pos) (e2 kGtO f g) := d_cmp (op_gtO hu) (fit_ord fun i j => PySem.W.dataLt_int j i) ha hb (nomark _)
theorem t_gtO (hu : X.A.units + 64 < cLine) (ha : DE X W a f) (hb : DE X W b g) : DT X W (.Compare a [.Gt] [b] pos) (tV (e2 kGtO f g)) := t_cmp (op_gtO hu) (fit_ord fun i j => PySem.W.dataLt_int j i) ha hb (nomark _)
theorem d_leO (hu : X.A.units + 64 < cLine) (ha : DE X W a f) (hb : DE X W b g) : DE X W (.Compare a [.LtE] [b] pos) (e2 kLeO f g) := d_cmp (op_leO hu) (fit_ord fun i j => not_dlt i j) ha hb (nomark _)
theorem t_leO (hu : X.A.units + 64 < cLine) (ha : DE X W a f) (hb : DE X W b g) : DT X W (.Compare a [.LtE] [b] pos) (tV (e2 kLeO f g)) := t_cmp (op_leO hu) (fit_ord fun i j => not_dlt i j) ha hb (nomark _)
theorem d_geO (hu : X.A.units + 64 < cLine) (ha : DE X W a f) (hb : DE X W b g) : DE X W (.Compare a [.GtE] [b] pos) (e2 kGeO f g) := d_cmp (op_geO hu) (fit_ord fun i j => not_dlt j i) ha hb (nomark _)
theorem t_geO (hu : X.A.units + 64 < cLine) (ha : DE X W a f) (hb : DE X W b g) : DT X W (.Compare a [.GtE] [b] pos) (tV (e2 kGeO f g)) := t_cmp (op_geO hu) (fit_ord fun i j => not_dlt j i) ha hb (nomark _)

/-! ### is True, is not False -/
def kIsB (n : Bool) (x y : D) (S : Sto) : R D := match x, y with
  | .bl a, .bl b => .ok (.bl (if n then !decide (a = b) else decide (a = b))) S
  | _, _ => .no
theorem fit_isB {K : PySem.W.Frag} : Fit2 K rIsB (kIsB false) := by
  intro B tb W σ H S x y v u Q w rx ry q
  unfold kIsB at q
  split at q
  · simp only [rep] at rx ry; subst rx ry
    exact ⟨_, _, rfl, rfl, q.ok w _ rep_bl⟩
  · exact q.elim
theorem fit_notB {K : PySem.W.Frag} : Fit2 K rNotB (kIsB true) := by
  intro B tb W σ H S x y v u Q w rx ry q
  unfold kIsB at q
  split at q
  · simp only [rep] at rx ry; subst rx ry
    exact ⟨_, _, rfl, rfl, q.ok w _ rep_bl⟩
  · exact q.elim
theorem d_isB (ha : DE X W a f) (hb : DE X W b g) : DE X W (.Compare a [.Is] [b] pos) (e2 (kIsB false) f g) := d_cmp op_isBl fit_isB ha hb (nomark _)
theorem d_notB (ha : DE X W a f) (hb : DE X W b g) : DE X W (.Compare a [.IsNot] [b] pos) (e2 (kIsB true) f g) := d_cmp op_notBl fit_notB ha hb (nomark _)
theorem t_isB (ha : DE X W a f) (hb : DE X W b g) : DT X W (.Compare a [.Is] [b] pos) (tV (e2 (kIsB false) f g)) := t_cmp op_isBl fit_isB ha hb (nomark _)
theorem t_notB (ha : DE X W a f) (hb : DE X W b g) : DT X W (.Compare a [.IsNot] [b] pos) (tV (e2 (kIsB true) f g)) := t_cmp op_notBl fit_notB ha hb (nomark _)
end

/-! ### max, min of a list -/
def maxI : Int → List Int → Int
  | m, [] => m
  | m, x :: r => maxI (if x > m then x else m) r
def minI : Int → List Int → Int
  | m, [] => m
  | m, x :: r => minI (if x < m then x else m) r
theorem maxI_ge : ∀ (m : Int) (r : List Int), m ≤ maxI m r ∧ ∀ x ∈ r, x ≤ maxI m r
  | m, [] => ⟨Int.le_refl _, fun _ h => nomatch h⟩
  | m, x :: r => by
    obtain ⟨h1, h2⟩ := maxI_ge (if x > m then x else m) r
    unfold maxI
    refine ⟨by split at h1 <;> split <;> omega, fun y hy => ?_⟩
    rcases List.mem_cons.mp hy with rfl | hy
    · split at h1 <;> split <;> omega
    · exact h2 y hy
theorem maxI_mem : ∀ (m : Int) (r : List Int), maxI m r ∈ m :: r
  | m, [] => by simp [maxI]
  | m, x :: r => by
    have h := maxI_mem (if x > m then x else m) r
    unfold maxI
    rcases List.mem_cons.mp h with h | h
    · rw [h]; split <;> simp
    · exact List.mem_cons_of_mem _ (List.mem_cons_of_mem _ h)
theorem minI_le : ∀ (m : Int) (r : List Int), minI m r ≤ m ∧ ∀ x ∈ r, minI m r ≤ x
  | m, [] => ⟨Int.le_refl _, fun _ h => nomatch h⟩
  | m, x :: r => by
    obtain ⟨h1, h2⟩ := minI_le (if x < m then x else m) r
    unfold minI
    refine ⟨by split at h1 <;> split <;> omega, fun y hy => ?_⟩
    rcases List.mem_cons.mp hy with rfl | hy
    · split at h1 <;> split <;> omega
    · exact h2 y hy
theorem minI_mem : ∀ (m : Int) (r : List Int), minI m r ∈ m :: r
  | m, [] => by simp [minI]
  | m, x :: r => by
    have h := minI_mem (if x < m then x else m) r
    unfold minI
    rcases List.mem_cons.mp h with h | h
    · rw [h]; split <;> simp
    · exact List.mem_cons_of_mem _ (List.mem_cons_of_mem _ h)
def kMaxL : List D → Sto → R D := k1 fun d S => match (lsOf S d).bind intsD with
  | some (n :: r) => .ok (.int (maxI n r)) S
  | _ => .no
def kMinL : List D → Sto → R D := k1 fun d S => match (lsOf S d).bind intsD with
  | some (n :: r) => .ok (.int (minI n r)) S
  | _ => .no
theorem fit_maxL {K : PySem.W.Frag} : FitC K (rMax K) kMaxL := fit_k1 fun B tb W σ H S d v Q w r q => by
  split at q
  · rename_i n l e
    cases z : lsOf S d with
    | none => rw [z] at e; cases e
    | some ds =>
      rw [z] at e
      simp only [Option.bind_some] at e
      obtain ⟨p, vs, rfl, h1, r1⟩ := lsOf_ok w z r
      have ev := intsD_ok r1 e
      subst ev
      refine ⟨p, n :: l, rfl, h1, by simp, fun m hm hu => ?_⟩
      have e2 : m = maxI n l := by
        have a := hu _ (maxI_mem n l)
        obtain ⟨b1, b2⟩ := maxI_ge n l
        rcases List.mem_cons.mp hm with rfl | hm
        · omega
        · have := b2 m hm; omega
      rw [e2]
      exact q.ok w _ rep_int
  · exact q.elim
theorem fit_minL {K : PySem.W.Frag} : FitC K (rMin K) kMinL := fit_k1 fun B tb W σ H S d v Q w r q => by
  split at q
  · rename_i n l e
    cases z : lsOf S d with
    | none => rw [z] at e; cases e
    | some ds =>
      rw [z] at e
      simp only [Option.bind_some] at e
      obtain ⟨p, vs, rfl, h1, r1⟩ := lsOf_ok w z r
      have ev := intsD_ok r1 e
      subst ev
      refine ⟨p, n :: l, rfl, h1, by simp, fun m hm hu => ?_⟩
      have e2 : m = minI n l := by
        have a := hu _ (minI_mem n l)
        obtain ⟨b1, b2⟩ := minI_le n l
        rcases List.mem_cons.mp hm with rfl | hm
        · omega
        · have := b2 m hm; omega
      rw [e2]
      exact q.ok w _ rep_int
  · exact q.elim

/-! ### xs[::-1] -/
section
variable {prog : Program} {w : World} {A : Around} {E : Value → Shared → Prop} {s : Shared}
open PyProof.Rows HT in
theorem sliceApplied_rev {sl : Addr} {vl vu vs : Value} {n : Nat} {Q : Int × Int × Nat → Shared → Prop} (hs : s.heap.IsSliceOf sl vl vu vs) (pl : IsPart vl none) (pu : IsPart vu none) (ps : IsPart vs (some (-1)))
    (h : Q ((n : Int) - 1, -1, n) s) : wpAny (model prog w) A (Builtin.Slice.sliceApplied (.ref sl) (pure (n : Int))) Q E s := by
  obtain ⟨os, hos, hcs, hds⟩ := id hs
  unfold Builtin.Slice.sliceApplied Builtin.Slice.sliceFields
  refine wpAny_bind (wpAny_bind (wpAny_field hos hds (x := vl) rfl (wpAny_bind (wpAny_field hos hds (x := vu) rfl (wpAny_bind (wpAny_field hos hds (x := vs) rfl (wpAny_pure ?_)))))))
  refine wpAny_bind (slicePart_ ps ?_)
  show wpAny _ _ (if ((-1 : Int) == 0) = true then _ else _) _ _ s
  rw [if_neg (by decide)]
  refine wpAny_bind (slicePart_ pl (wpAny_bind (slicePart_ pu (wpAny_bind (wpAny_pure ?_)))))
  show wpAny _ _ (pure ((n : Int) - 1, (-1 : Int), Builtin.Slice.slicePlaces ((n : Int) - 1) (-1) (-1))) _ _ s
  have e : Builtin.Slice.slicePlaces ((n : Int) - 1) (-1) (-1) = n := by
    unfold Builtin.Slice.slicePlaces
    rw [if_neg (by decide)]
    cases n with
    | zero => rfl
    | succ n =>
      rw [if_pos (by omega)]
      have : ((((n + 1 : Nat) : Int) - 1 - -1 - 1) / (- -1) + 1) = ((n + 1 : Nat) : Int) := by
        rw [show (- -1 : Int) = 1 by decide, Int.ediv_one]; omega
      rw [this]; exact Int.toNat_natCast _
  rw [e]
  exact wpAny_pure h
theorem pick_rev (xs : Array Value) : ((List.range xs.size).filterMap fun (m : Nat) => xs[((xs.size : Int) - 1 + (m : Int) * (-1)).toNat]?).toArray = xs.toList.reverse.toArray := by
  congr 1
  have e : ∀ m ∈ List.range xs.size, xs[((xs.size : Int) - 1 + (m : Int) * (-1)).toNat]? = xs.toList.reverse[m]? := fun m hm => by
    rw [List.mem_range] at hm
    have : ((xs.size : Int) - 1 + (m : Int) * (-1)).toNat = xs.size - 1 - m := by omega
    rw [this, List.getElem?_reverse (by simpa using hm)]
    simp
  have cg : ∀ (l : List Nat) (f g : Nat → Option Value), (∀ m ∈ l, f m = g m) → l.filterMap f = l.filterMap g := fun l f g h => by
    induction l with
    | nil => rfl
    | cons x l ih => rw [List.filterMap_cons, List.filterMap_cons, h x List.mem_cons_self, ih fun m hm => h m (List.mem_cons_of_mem _ hm)]
  rw [cg _ _ _ e]
  have key : ∀ l : List Value, (List.range l.length).filterMap (fun m => l[m]?) = l := fun l => by
    induction l with
    | nil => rfl
    | cons x l ih =>
      rw [List.length_cons, List.range_succ_eq_map, List.filterMap_cons]
      simp only [List.getElem?_cons_zero, List.filterMap_map]
      rw [show ((fun m => (x :: l)[m]?) ∘ Nat.succ) = fun m => l[m]? from by funext m; simp]
      rw [ih]
  have := key xs.toList.reverse
  rw [List.length_reverse, Array.length_toList] at this
  exact this
open PyProof.Rows HT in
theorem getItem_tuple_rev {t sl : Addr} {items : Array Value} {vl vu vs : Value} {Q : Value → Shared → Prop} (ht : IsTup s.heap t items) (hs : s.heap.IsSliceOf sl vl vu vs) (pl : IsPart vl none) (pu : IsPart vu none) (ps : IsPart vs (some (-1)))
    (h : Q (.ref s.heap.objs.size) { s with heap := s.heap.push { cls := .type "tuple", data := .seq items.toList.reverse.toArray } })
    (hsz : items.size ≤ sizeLine) : wpAny (model prog w) A (getItem (.ref t) (.ref sl)) Q E s := by
  have htake : sizeOk (.seq items.toList.reverse.toArray) := by
    show items.toList.reverse.toArray.size ≤ sizeLine
    rw [List.size_toArray, List.length_reverse, Array.length_toList]
    exact hsz
  obtain ⟨os, hos, hcs, hds⟩ := id hs
  have hTs : s.TypeIs (.ref sl) "slice" := ⟨os, hos, hcs⟩
  unfold getItem
  try with_reducible refine wpAny_holding ?_
  first | refine wpAny_bind (wpAny_pure ?_) | skip
  refine wpAny_bind (wpAny_sequenceKey ht.typeIs (by decide) ?_)
  refine wpAny_bind (wpAny_callSpecial?_slot (name := Str.ofString "__getitem__") ht.typeIs PyProof.Rows.slot_tuple_getitem
    (wpAny_call_entry PyProof.Rows.slot_tuple_getitem ht.typeIs PyProof.Rows.entry_tuple_getitem ?_ (PyProof.Rows.args_tuple_getitem _ _)))
  show wpAny _ _ (Builtin.Tuple.tupleItemsOf (.ref t) >>= _) _ _ s
  refine wpAny_bind (tupleItemsOf_ ht ?_)
  refine wpAny_bind (wpAny_typeOf hTs ?_)
  rw [if_pos (by decide)]
  refine wpAny_bind (sliceApplied_rev hs pl pu ps ?_)
  have hno : ¬ ((((items.size : Int) - 1) == 0 && (-1 : Int) == 1 && items.size == items.size) = true) := by simp
  show wpAny _ _ (if (((items.size : Int) - 1) == 0 && (-1 : Int) == 1 && items.size == items.size) = true then _ else _) _ _ s
  rw [if_neg hno, pick_rev]
  first
    | exact wpAny_bind (m := Builtin.Tuple.tupleExact _) (wpAny_newObj_type (wpAny_pure ⟨_, rfl, wpAny_pure h⟩) htake)
    | exact wpAny_bind (m := Builtin.Tuple.tupleExact _) (wpAny_newObj_type (wpAny_bind (wpAny_pure (wpAny_pure ⟨_, rfl, wpAny_pure h⟩))) htake)
    | exact wpAny_bind (wpAny_bind (m := Builtin.Tuple.tupleExact _) (wpAny_newObj_type (wpAny_pure (wpAny_pure ⟨_, rfl, wpAny_pure h⟩)) htake))
    | exact wpAny_bind (wpAny_bind (m := Builtin.Tuple.tupleExact _) (wpAny_newObj_type (wpAny_pure ⟨_, rfl, wpAny_pure h⟩) htake))
end
def tRevT (K : PySem.W.Frag) (te : TE) : TE := fun σ H Q => te σ H fun x H1 => ∃ a xs, x = .ref a ∧ SqT K H1 a xs ∧ ∀ p, H1 p = none → Q (.ref p) (upd H1 p (.tup xs.reverse))
def eRev (f : FE) : FE := fun ρ S => (f ρ S).bind fun d S => match d with
  | .tup ds => .ok (.tup ds.reverse) S
  | .scr ds => .ok (.lst ds.reverse) S
  | d => match lstOf S d with
    | some ds => .ok (.lst ds.reverse) S
    | none => .no
section
variable {X : Cx} {W : WX} {e : Expr} {te : TE} {k : Nat} {p1 p2 p3 pos : Pos} {f : FE}
theorem pe_revT (he : PE X e te) : PE X (.Subscript e (.Slice none none (some (.UnaryOp .USub (.Constant (.int 1) k p1) p2)) p3) pos) (tRevT X.K te) := by
  refine ⟨fun pins s σ H Q I h => ?_⟩
  refine PyProof.Rows.Subscript_ (thn (he.run pins s σ H _ I h) fun v s1 ⟨x, H1, I1, r1, q1⟩ => ?_)
  obtain ⟨a, xs, ex, hx, q⟩ := q1
  subst ex
  cases r1
  have hst : PO X (some (.UnaryOp .USub (.Constant (.int 1) k p1) p2)) (tPart (tUn (rU fun i => .int (-i)) (tC (.int 1)))) := po_some (pe_un un_neg pe_int)
  refine wpAny_Slice (thn (po_none.run pins s1 σ H1 (fun o H2 => o = none ∧ H2 = H1) I1 ⟨rfl, rfl⟩) fun vl s2 ⟨l, H2, I2, pl, el, e2⟩ => ?_)
  subst el e2
  refine thn (po_none.run pins s2 σ H2 (fun o H3 => o = none ∧ H3 = H2) I2 ⟨rfl, rfl⟩) fun vu s3 ⟨u, H3, I3, pu, eu, e3⟩ => ?_
  subst eu e3
  refine thn (hst.run pins s3 σ H3 (fun o H4 => o = some (-1) ∧ H4 = H3) I3 ⟨1, rfl, -1, rfl, rfl, rfl⟩) fun vs s4 ⟨o, H4, I4, ps, eo, e4⟩ => ?_
  subst eo e4
  have I5 : Inv X pins σ H4 { s4 with heap := s4.heap.push { cls := .type "slice", data := .fields #[vl, vu, vs] } } := I4.kept (t' := s4.toks) fun b ob q => Heap.get?_push_of_some _ q
  obtain ⟨its, r, ht, hz⟩ := I5.tuple hx
  have hlen := r.length
  show wpAny (model X.prog X.w) X.A (PyProof.Rows.subscriptTail e (.Slice none none (some (.UnaryOp .USub (.Constant (.int 1) k p1) p2)) p3) (.ref a) (.ref s4.heap.objs.size)) (EP X pins σ Q) X.xe { s4 with heap := s4.heap.push { cls := .type "slice", data := .fields #[vl, vu, vs] } }
  refine PyProof.Rows.tail_any (ops := [.ref a, .ref s4.heap.objs.size]) ht.typeIs (PyProof.Rows.slot_tuple_getitem.lookup) ?_ (by with_unfolding_all rfl)
  refine getItem_tuple_rev ht (Heap.IsSliceOf.new _ vl vu vs) pl pu ps ?_ (by rw [List.size_toArray]; omega)
  refine ⟨.ref _, _, I5.laid (t' := s4.toks) (o := .tup xs.reverse) (fun b ob q => Heap.get?_push_of_some _ q) (Nat.le_refl _) ?_, rfl, q _ (I5.hok.fresh (Nat.le_refl _))⟩
  exact ⟨by rw [List.length_reverse]; exact hz, _, r.reverse, PyProof.Rows.IsTup.new _ _⟩
theorem d_rev (he : DE X W e f) : DE X W (.Subscript e (.Slice none none (some (.UnaryOp .USub (.Constant (.int 1) k p1) p2)) p3) pos) (eRev f) := ((pe_revL he).or (pe_revT he)).imp fun σ H Q ⟨B, tb, ρ, S, w, e, q⟩ => by
  unfold eRev at q
  cases z : f ρ S with
  | er C ns vs S1 => rw [z] at q; exact .inl ⟨B, tb, ρ, S, w, e, by rw [z]; exact q⟩
  | no => rw [z] at q; exact q.elim
  | ok d S1 =>
    rw [z] at q
    simp only [bind_ok] at q
    have ls : ∀ ds, lstOf S1 d = some ds → Post X.K B tb W σ (.ok (.lst ds.reverse) S1) (fun d _ B' tb' H' => ∀ v, rep X.K B' tb' d v → Q v H') → tRevL X.K (LE X.K W f) σ H Q := fun ds hds q => by
      refine ⟨B, tb, ρ, S, w, e, ?_⟩
      rw [z]
      intro B1 tb1 H1 x1 w1 v r1
      obtain ⟨p, vs, rfl, h1, h2⟩ := lstOf_ok w1 hds r1
      refine ⟨p, vs, rfl, SqL.of h1, fun l hl => ?_⟩
      obtain ⟨B', e', w', r'⟩ := new_lst w1 (reps_reverse h2) hl
      exact (Post.mono x1 q) B' tb1 _ e' w' _ r'
    cases d with
    | tup ds =>
      refine .inr ⟨B, tb, ρ, S, w, e, ?_⟩
      rw [z]
      intro B1 tb1 H1 x1 w1 v r1
      simp only [rep] at r1
      obtain ⟨a, vs, rfl, h2, h3⟩ := r1
      refine ⟨a, vs, rfl, SqT.ex w1.sub h2, fun l hl => ?_⟩
      obtain ⟨B', e', w', r'⟩ := new_tup w1 (reps_reverse h3) hl
      exact (Post.mono x1 q) B' tb1 _ e' w' _ r'
    | scr ds =>
      refine .inl ⟨B, tb, ρ, S, w, e, ?_⟩
      rw [z]
      intro B1 tb1 H1 x1 w1 v r1
      simp only [rep] at r1
      obtain ⟨a, vs, rfl, h2, h3⟩ := r1
      refine ⟨a, vs, rfl, SqL.ex w1.sub h2, fun l hl => ?_⟩
      obtain ⟨B', e', w', r'⟩ := new_lst w1 (reps_reverse h3) hl
      exact (Post.mono x1 q) B' tb1 _ e' w' _ r'
    | lst ds => exact .inl (ls ds rfl q)
    | obj i =>
      simp only at q
      split at q
      · rename_i ds hds; exact .inl (ls ds hds q)
      · exact q.elim
    | _ => exact q.elim
end
end Qd

namespace Qd
open PySem L2
open PySem.W (AllAlike Sortable dataLe EachIs alike dataLt)

/-! ### new dicts -/
section
variable {X : Cx} {W : WX} {pos : Pos}
theorem d_dnewT : DE X W (.Dict [] [] pos) eDNewT := pe_dnewT.imp fun σ H Q ⟨B, tb, ρ, S, w, e, q⟩ p hp => by
  obtain ⟨w', e', n⟩ := w.push hp (o := .dT []) (d := .dt [] []) ⟨[], upd_same, rfl, reps_nil⟩
  exact q _ _ _ e' w' _ (by simp only [rep]; exact ⟨p, rfl, n⟩)
theorem d_dnewK : DE X W (.Dict [] [] pos) eDNewK := pe_dnewK.imp fun σ H Q ⟨B, tb, ρ, S, w, e, q⟩ p hp => by
  obtain ⟨w', e', n⟩ := w.push hp (o := .dK []) (d := .dk [] []) ⟨[], upd_same, rfl, reps_nil⟩
  exact q _ _ _ e' w' _ (by simp only [rep]; exact ⟨p, rfl, n⟩)
theorem d_d0 : DE X W (.Dict [] [] pos) eD0 := pe_dnewK.imp fun σ H Q ⟨B, tb, ρ, S, w, e, q⟩ p hp => by
  obtain ⟨w', e'⟩ := w.new hp (.dK [])
  exact q _ _ _ e' w' _ (by simp only [rep]; exact ⟨p, [], rfl, upd_same, rfl, reps_nil⟩)
end

/-! ### sorted(d), the keys tuples -/
def keyPy : Key → PyData
  | .inl i => .int i
  | .inr x => .str x
def kD : Key → D
  | .inl i => .int i
  | .inr x => .str x
def keyD (k : List Key) : D := .tup (k.map kD)
def keyData (k : List Key) : PyData := .tuple (k.map keyPy)
theorem py_kD (k : Key) : py (kD k) = some (keyPy k) := by
  cases k <;> simp only [kD, keyPy, py]
theorem pys_kD : ∀ k : List Key, pys (k.map kD) = some (k.map keyPy)
  | [] => by simp only [List.map_nil, pys]
  | k :: r => by simp only [List.map_cons, pys, py_kD, pys_kD r]
theorem py_keyD (k : List Key) : py (keyD k) = some (keyData k) := by
  unfold keyD keyData
  simp only [py, pys_kD]; rfl
theorem pys_keyD : ∀ ks : List (List Key), pys (ks.map keyD) = some (ks.map keyData)
  | [] => by simp only [List.map_nil, pys]
  | k :: r => by simp only [List.map_cons, pys, py_keyD, pys_keyD r]
theorem dp_kV {K : PySem.W.Frag} {H : Hp} (k : Key) : Dp K H (kV k) (keyPy k) := by
  cases k with
  | inl i => exact .int i
  | inr x => exact .str x
theorem dp_kVs {K : PySem.W.Frag} {H : Hp} : ∀ k : List Key, DpAll K H (k.map kV) (k.map keyPy)
  | [] => .nil
  | k :: r => .cons (dp_kV k) (dp_kVs r)
theorem dp_keys {K : PySem.W.Frag} {H : Hp} : ∀ {kvs : List (List Key × V)} {bs : List Addr}, IsKeys H kvs bs → DpAll K H (bs.map V.ref) (kvs.map fun p => keyData p.1)
  | _, _, .nil => .nil
  | _, _, .cons h t => .cons (.tup (SqT.of h) (dp_kVs _)) (dp_keys t)
def rSortDT (K : PySem.W.Frag) : List V → Hp → VK → Prop := fun vs H Q => ∃ (a : Addr) (kvs : List (List Key × V)), vs = [.ref a] ∧ H a = some (.dT kvs) ∧ AllAlike (kvs.map fun p => keyData p.1) ∧ Sortable (kvs.map fun p => keyData p.1) ∧ (∀ e ∈ kvs.map fun p => keyData p.1, e.depth ≤ 60) ∧
  ∀ bs p, IsKeys H kvs bs → H p = none → Q (.ref p) (upd H p (.lst ((((bs.map V.ref).zip (kvs.map fun p => keyData p.1)).mergeSort (dataLe false Prod.snd)).map Prod.fst)))
theorem cr_sortDT {X : Cx} (hc : X.calm = true) (hu : X.A.units + 64 < cLine) : CallR X (.builtin "sorted") (rSortDT X.K) := by
  intro pins s σ H vs us Q I r h
  obtain ⟨d, kvs, rfl, hd, hal, hso, hdp, q⟩ := h
  obtain ⟨u, rfl, rx⟩ := r.one
  cases rx
  obtain ⟨z, hs, ks, pr, o, es, ep, ho, hx, hdt, he, hn⟩ := (show ObjOk X.prog X.w H s.heap d (.dT kvs) from I.hok d _ hd)
  have l1 : es.size = ks.length := size_of_entries he
  have l2 : kvs.length = ks.length := Paired.length pr
  refine Calls.call_function_entry PyProof.Rows.kind_sorted PyProof.Rows.plain_sorted PyProof.Rows.entry_sorted (PyProof.Rows.args_sorted1 _) ?_
  unfold Builtin.«sorted»
  refine wpAny_bind (m := checkCount "sorted" 1 1 _) (wpAny_pure ?_)
  refine wpAny_bind (PySem.W.kdu_collect (A := X.A.in1) (kdl_raw hs hx hdt) (I.ok.hd hc) ho (by omega) fun h' tk acc kp it => ?_)
  have ea : acc.toList = ks.map fun x => Value.ref x.2.1 := by
    have hl : acc.toList.length = ks.length := by rw [Array.length_toList, it.1]; exact l1
    apply List.ext_getElem?
    intro j
    rw [List.getElem?_map]
    cases hj : acc.toList[j]? with
    | none =>
      have h1 := List.getElem?_eq_none_iff.mp hj
      rw [List.getElem?_eq_none (by omega)]
      all_goals rfl
    | some v =>
      obtain ⟨en, hen, hv⟩ := it.2 j v (by rw [← Array.getElem?_toList]; exact hj)
      have qe := entry_at he j
      rw [hen] at qe
      cases hb : ks[j]? with
      | none =>
        rw [hb] at qe
        exact nomatch (show some en = none from qe)
      | some b =>
        rw [hb] at qe
        have e2 : en = entryOfKey (tupleKind (mixKind X.prog X.w)) b := Option.some.inj qe
        rw [hv, e2]
        all_goals rfl
  have eb : acc.toList = (ks.map fun x => x.2.1).map Value.ref := by rw [ea, List.map_map]; all_goals rfl
  have rv : Vals ((ks.map fun x => x.2.1).map V.ref) acc.toList := by rw [eb]; exact vals_refs _
  have ik : IsKeys H kvs (ks.map fun x => x.2.1) := isKeys_of pr
  have I1 : Inv X pins σ H { s with heap := h', toks := tk } := I.kept kp
  have hdd : DpAll X.K H ((ks.map fun x => x.2.1).map V.ref) (kvs.map fun p => keyData p.1) := dp_keys ik
  have hlen := dpAll_len hdd
  have q' := fun p hp => q _ p ik hp
  generalize (kvs.map fun p => keyData p.1) = ds at hal hso hdp hdd hlen q'
  have hz : ((ks.map fun x => x.2.1).map V.ref).length ≤ sizeLine := by rw [List.length_map, List.length_map]; omega
  generalize ((ks.map fun x => x.2.1).map V.ref) = xs at rv hdd hlen q' hz
  obtain ⟨as, hr⟩ := Dp.readsAll I1 ds xs acc.toList hdd rv
  have e2 : (xs.zip ds).map Prod.snd = ds := zip_snd hlen
  have hzl : (xs.zip ds).length = ds.length := by rw [← e2, List.length_map, e2]
  have hal' : acc.toList.length = xs.length := rv.length.symm
  refine wpAny_bind (wpAny_newList ?_ (by rw [hal']; exact hz))
  have hoL : (h'.push (PyProof.Rows.seqObj "list" acc.toList.toArray 0)).get? h'.objs.size = some (PyProof.Rows.seqObj "list" acc.toList.toArray 0) := Heap.get?_push_size _ rfl
  show wpAny _ _ _ _ _ { s with heap := h'.push (PyProof.Rows.seqObj "list" acc.toList.toArray 0), toks := tk }
  have ee : EachIs (fun u (b : V × PyData) => RelV b.1 u) acc.toList (xs.zip ds) := each_zip rv hlen
  have er0 : EachIs (fun v (b : V × PyData) => ∃ as, Reads h' v (Prod.snd b) as) acc.toList (xs.zip ds) := PySem.W.readsAll_each Prod.snd (as := as) (by rw [e2]; exact hr)
  have er : EachIs (fun v (b : V × PyData) => ∃ as, Reads (PySem.W.sortingHeap (h'.push (PyProof.Rows.seqObj "list" acc.toList.toArray 0)) h'.objs.size acc.toList) v (Prod.snd b) as) acc.toList (xs.zip ds) :=
    er0.mono fun _ _ ⟨as, r⟩ => ⟨as, PyProof.Rows.Reads.keeps (fun b o e => PySem.W.sortingHeap_old (Nat.ne_of_lt (Heap.lt_size e)) (Heap.get?_push_of_some _ e)) r⟩
  refine wpAny_bind (wpAny_holding (wpAny_call_entry PyProof.Rows.slot_list_sort ⟨_, hoL, rfl⟩ PyProof.Rows.entry_list_sort
    (PySem.W.list_sort_vals (κ := PySem.W.dataKind (PySem.W.sortingHeap (h'.push (PyProof.Rows.seqObj "list" acc.toList.toArray 0)) h'.objs.size acc.toList) ((xs.zip ds).map Prod.snd)) (s := { s with heap := h'.push (PyProof.Rows.seqObj "list" acc.toList.toArray 0), toks := tk }) hoL
      (PySem.W.SortsAt.data (s := { s with heap := PySem.W.sortingHeap (h'.push (PyProof.Rows.seqObj "list" acc.toList.toArray 0)) h'.objs.size acc.toList, toks := tk }) (PySem.W.each_map (R := fun v d => ∃ as, Reads (PySem.W.sortingHeap (h'.push (PyProof.Rows.seqObj "list" acc.toList.toArray 0)) h'.objs.size acc.toList) v d as) Prod.snd er)
        (by rw [e2]; exact hal) (by rw [e2]; exact hso) (fun d hd => by
          rw [e2] at hd
          have h1 := hdp d hd
          have : X.A.in1.in1.units ≤ X.A.units + 2 := by first | exact Nat.le_refl _ | (show X.A.units + 1 + 1 ≤ _; omega)
          show X.A.in1.in1.units + d.depth < cLine
          omega))
      (by rw [hal']; exact hz) ⟨_, rfl, ?_⟩)
    (PyProof.Rows.args_list_sort _)))
  have he2 := PySem.W.sortVals_data (h' := PySem.W.sortingHeap (h'.push (PyProof.Rows.seqObj "list" acc.toList.toArray 0)) h'.objs.size acc.toList) false ee er (by rw [e2]; exact hal)
  obtain ⟨e', he'⟩ := PyProof.Rows.sortedHeap_at (vs := acc.toList) (out := (PySem.W.sortVals (PySem.W.dataKind (PySem.W.sortingHeap (h'.push (PyProof.Rows.seqObj "list" acc.toList.toArray 0)) h'.objs.size acc.toList) ((xs.zip ds).map Prod.snd)) false acc.toList acc.toList).toArray) hoL
  refine wpAny_pure ⟨_, rfl, .ref h'.objs.size, upd H h'.objs.size (.lst (((xs.zip ds).mergeSort (dataLe false Prod.snd)).map Prod.fst)), I1.laid (t' := tk) (fun b u e => ?_) (Nat.le_refl _)
    (show ObjOk X.prog X.w _ _ _ (.lst (((xs.zip ds).mergeSort (dataLe false Prod.snd)).map Prod.fst)) from ⟨?_, _, e', vals_each he2, he'⟩), rfl, q' _ (I1.hok.fresh (Nat.le_refl _))⟩
  · have hb : b < h'.objs.size := Heap.lt_size e
    rw [PyProof.Rows.sortedHeap_old (Nat.ne_of_lt hb) (by rw [PyProof.Rows.size_push']; exact Nat.lt_succ_of_lt hb)]
    exact Heap.get?_push_of_some _ e
  · rw [List.length_map, List.length_mergeSort, hzl, ← hlen]; exact hz
theorem adopt_keys {K : PySem.W.Frag} {H : Hp} {tb : Tb} {S : Sto} : ∀ {ks : List (List Key)} {vs : List V} {bs : List Addr} {B : Hp}, ks.length = vs.length → IsKeys H (ks.zip vs) bs → Wd K H B tb S → ∃ B', Ex B tb B' tb ∧ Wd K H B' tb S ∧ reps K B' tb (ks.map keyD) (bs.map V.ref)
  | [], vs, bs, B, hl, h, w => by
    cases h
    exact ⟨B, Ex.refl _ _, w, reps_nil⟩
  | k :: ks, [], bs, B, hl, h, w => by simp at hl
  | k :: ks, v :: vs, bs, B, hl, h, w => by
    cases h with
    | cons h1 t =>
      obtain ⟨B1, x1, w1, r1⟩ := adopt_keys (by simpa using hl) t w
      obtain ⟨B2, x2, w2, e2⟩ := w1.adopt h1
      have rk : ∀ k : List Key, reps K B2 tb (k.map kD) (k.map kV) := fun k => by
        induction k with
        | nil => exact reps_nil
        | cons a k ih => exact reps_cons (by cases a <;> simp only [kD, kV, rep]) ih
      exact ⟨B2, x1.trans x2, w2, reps_cons (by unfold keyD; simp only [rep]; exact ⟨_, _, rfl, e2, rk k⟩) (reps_ex x2 _ _ r1)⟩
def kSortDT : List D → Sto → R D := k1 fun d S => match dcOf S d with
  | some (.t ks ds) => chk (sortOkB (ks.map keyData)) (.ok (.lst ((ks.map keyD).mergeSort leD)) S)
  | _ => .no
theorem fit_sortDT {K : PySem.W.Frag} : FitC K (rSortDT K) kSortDT := fit_k1 fun B tb W σ H S d v Q w r q => by
  split at q
  · rename_i ks ds e
    obtain ⟨c, q⟩ := chk_ok q
    obtain ⟨a, rfl, vs, h1, h2, h3⟩ := dcOf_ok w e r
    have ek : ((ks.zip vs).map fun p => keyData p.1) = ks.map keyData := by
      rw [show (fun p : List Key × V => keyData p.1) = keyData ∘ Prod.fst from rfl, ← List.map_map, List.map_fst_zip (Nat.le_of_eq h2)]
    refine ⟨a, ks.zip vs, rfl, h1, by rw [ek]; exact sortOk_alike c, by rw [ek]; exact sortOk_sortable c, by rw [ek]; exact sortOk_depth c, fun bs p hk hp => ?_⟩
    rw [ek]
    obtain ⟨B1, x1, w1, r1⟩ := adopt_keys h2 hk w
    obtain ⟨B', e', w', r'⟩ := new_lst w1 (sort_reps r1 (pys_keyD ks)) hp
    exact q B' tb _ (x1.trans e') w' _ r'
  · exact q.elim
/-- len(d) -/
def kLenD : List D → Sto → R D := k1 fun d S => match dcOf S d with
  | some (.t ks ds) => .ok (.int ks.length) S
  | _ => .no
theorem dss_never {X : Cx} {W : WX} {body : List Stmt} : DSs X W body (fun _ _ => .no) := ⟨fun pins s σ H Dn I ⟨B, tb, ρ, S, w, e, q⟩ => q.elim⟩
section
variable {X : Cx} {W : WX}
theorem ds_par3 {i j l : Nat} {x y z : Str} {a b c : Expr} {fa : FA} {px py pz pt pos : Pos} {kt k2 pt2} (hc : X.calm = true) (hN : X.N.Nodup) (hi : X.N[i]? = some x) (hj : X.N[j]? = some y) (hl : X.N[l]? = some z) (hij : i ≠ j) (hil : i ≠ l) (hjl : j ≠ l)
    (hx : X.env.scope.names.lookup x = some .local) (hy : X.env.scope.names.lookup y = some .local) (hz : X.env.scope.names.lookup z = some .local) (ha : DA X W [a, b, c] fa)
    (hw : swappedStores [.Tuple [.Name x px, .Name y py, .Name z pz] kt pt] (.Tuple [a, b, c] k2 pt2) X.env = pure (some [x, y, z]))
    (hs : swapsWithSole [.Tuple [.Name x px, .Name y py, .Name z pz] kt pt] (.Tuple [a, b, c] k2 pt2) pos.line X.env = pure false := by rfl) :
    DS X W (.Assign [.Tuple [.Name x px, .Name y py, .Name z pz] kt pt] (.Tuple [a, b, c] k2 pt2) pos) (sPar fa [i, j, l]) := (ps_par3 hc hN hi hj hl hij hil hjl hx hy hz ha hw hs).imp fun Dn σ H ⟨B, tb, ρ, S, w, e, q⟩ =>
  LA.stepS w e q fun ds S1 B1 tb1 H1 vs x1 w1 e1 r1 h1 => by
    cases ds with
    | nil => exact h1.elim
    | cons d ds =>
      cases ds with
      | nil => exact h1.elim
      | cons d2 ds =>
        cases ds with
        | nil => exact h1.elim
        | cons d3 ds =>
          cases ds with
          | cons d4 ds => exact h1.elim
          | nil =>
            simp only [reps] at r1
            obtain ⟨v, t, rfl, q1, v2, t2, rfl, q2, v3, t3, rfl, q3, rfl⟩ := r1
            exact ⟨v, v2, v3, rfl, PostS.nx' (ρ := ((ρ.set i (some d)).set j (some d2)).set l (some d3)) h1 w1 (((e1.set i q1).set j q2).set l q3)⟩
end
end Qd

namespace Qd
open PySem L2

/-! ### slices of texts too -/
def eSlU (f : FE) (lo hi : FO) : FE := fun ρ S => (f ρ S).bind fun x S => (lo ρ S).bind fun l S => (hi ρ S).bind fun h S => match x with
  | .str z => chk (decide (z.length ≤ line)) (.ok (.str (cutS z l h)) S)
  | x => kSl x l h S
section
variable {X : Cx} {W : WX} {e : Expr} {lo hi : Option Expr} {f : FE} {fl fh : FO} {pos p2 : Pos}
theorem d_slU (ha : DE X W e f) (hl : PO X lo (LO X.K W fl)) (hh : PO X hi (LO X.K W fh)) : DE X W (.Subscript e (.Slice lo hi none p2) pos) (eSlU f fl fh) := ((d_sl ha hl hh).or (pe_slice sl_str ha hl hh)).imp fun σ H Q ⟨B, tb, ρ, S, w, e, q⟩ => by
  unfold eSlU at q
  cases z : f ρ S with
  | er C ns vs S1 => rw [z] at q; exact .inl ⟨B, tb, ρ, S, w, e, by unfold eSl; rw [z]; exact q⟩
  | no => rw [z] at q; exact q.elim
  | ok d S1 =>
    rw [z] at q
    cases d with
    | str s =>
      refine .inr (LE.stepEq (g := fun x S => (fl ρ S).bind fun l S => (fh ρ S).bind fun h S => match x with
        | .str z => chk (decide (z.length ≤ line)) (.ok (.str (cutS z l h)) S)
        | x => kSl x l h S) z w e q fun B1 tb1 H1 v x1 w1 e1 r1 h1 => ?_)
      refine LO.step w1 e1 h1 fun l S2 B2 tb2 H2 x2 w2 e2 h2 => LO.step w2 e2 h2 fun h S3 B3 tb3 H3 x3 w3 e3 h3 => ?_
      obtain ⟨c, h3⟩ := chk_ok h3
      simp only [rep] at r1
      subst r1
      exact ⟨s, rfl, by rw [line_eq]; exact of_decide_eq_true c, h3.ok w3 _ rep_str⟩
    | _ => exact .inl ⟨B, tb, ρ, S, w, e, by unfold eSl; rw [z]; exact q⟩
end

/-! ### in -/
def flatD : D → Bool
  | .non => true
  | .bl _ => true
  | .int _ => true
  | .str _ => true
  | _ => false
def eqF : D → D → Bool
  | .non, .non => true
  | .bl a, .bl b => a == b
  | .bl a, .int b => (if a then 1 else 0) == b
  | .int a, .bl b => a == (if b then 1 else 0)
  | .int a, .int b => a == b
  | .str a, .str b => a == b
  | _, _ => false
def kInB (n : Bool) (x y : D) (S : Sto) : R D := match x, y with
  | .str a, .str b => .ok (.bl (if n then !(!(Builtin.Str.occurrences b a 0 b.length 1).isEmpty) else !(Builtin.Str.occurrences b a 0 b.length 1).isEmpty)) S
  | x, .tup ds => chk (flatD x && ds.all flatD) (.ok (.bl (if n then !(ds.any fun d => eqF d x) else ds.any fun d => eqF d x)) S)
  | x, y => match pyOf S x, pyOf S y with
    | some d, some (.list ds) => chk (SeqAt.shaped d && SeqAt.shaped (.list ds)) (.ok (.bl (if n then !(ds.any fun z => PyData.eqv z d) else ds.any fun z => PyData.eqv z d)) S)
    | _, _ => .no
section
variable {K : PySem.W.Frag} {B : Hp} {tb : Tb}
theorem flat_rep {d : D} {v : V} (h : flatD d = true) (r : rep K B tb d v) : flatV v = true := by
  cases d <;> simp only [flatD, Bool.false_eq_true] at h
  all_goals simp only [rep] at r; subst r; rfl
theorem eqF_rep {d e : D} {v u : V} (h : flatD d = true) (h' : flatD e = true) (r : rep K B tb d v) (r' : rep K B tb e u) : eqV v u = eqF d e := by
  cases d <;> simp only [flatD, Bool.false_eq_true] at h <;> cases e <;> simp only [flatD, Bool.false_eq_true] at h'
  all_goals simp only [rep] at r r'; subst r; subst r'; rfl
theorem flats_rep : ∀ {ds : List D} {vs : List V}, ds.all flatD = true → reps K B tb ds vs → vs.all flatV = true
  | [], vs, _, r => by simp only [reps] at r; subst r; rfl
  | d :: ds, vs, h, r => by
    simp only [reps] at r
    obtain ⟨v, t, rfl, r1, r2⟩ := r
    simp only [List.all_cons, Bool.and_eq_true] at h ⊢
    exact ⟨flat_rep h.1 r1, flats_rep h.2 r2⟩
theorem any_rep {x : D} {u : V} (hx : flatD x = true) (rx : rep K B tb x u) : ∀ {ds : List D} {vs : List V}, ds.all flatD = true → reps K B tb ds vs → inV u vs = ds.any fun d => eqF d x
  | [], vs, _, r => by simp only [reps] at r; subst r; rfl
  | d :: ds, vs, h, r => by
    simp only [reps] at r
    obtain ⟨v, t, rfl, r1, r2⟩ := r
    simp only [List.all_cons, Bool.and_eq_true] at h
    have ih := any_rep hx rx h.2 r2
    unfold inV at ih ⊢
    simp only [List.any_cons, ih, eqF_rep h.1 hx r1 rx]
end
theorem fit_in {K : PySem.W.Frag} : Fit2 K (fun x y H Q => (∃ i j, x = .str i ∧ y = .str j ∧ Q (.bl (!(Builtin.Str.occurrences j i 0 j.length 1).isEmpty)) H) ∨ rIn K false x y H Q ∨ rInD K x y H Q) (kInB false) := by
  intro B tb W σ H S x y v u Q w rx ry q
  unfold kInB at q
  split at q
  · simp only [rep] at rx ry; subst rx ry
    exact .inl ⟨_, _, rfl, rfl, q.ok w _ rep_bl⟩
  · obtain ⟨c, q⟩ := chk_ok q
    simp only [Bool.and_eq_true] at c
    simp only [rep] at ry
    obtain ⟨a, vs, rfl, h1, h2⟩ := ry
    refine .inr (.inl ⟨a, vs, rfl, .inr (SqT.ex w.sub h1), flat_rep c.1 rx, flats_rep c.2 h2, ?_⟩)
    rw [if_neg (by decide), any_rep c.1 rx c.2 h2]
    exact q.ok w _ rep_bl
  · split at q
    · rename_i d ds ed ey
      obtain ⟨c, q⟩ := chk_ok q
      simp only [Bool.and_eq_true] at c
      exact .inr (.inr ⟨d, ds, pyOf_ok w rx ed, pyOf_ok w ry ey, c.1, c.2, q.ok w _ rep_bl⟩)
    · exact q.elim
theorem fit_notIn {K : PySem.W.Frag} : Fit2 K (fun x y H Q => (∃ i j, x = .str i ∧ y = .str j ∧ Q (.bl (!(!(Builtin.Str.occurrences j i 0 j.length 1).isEmpty))) H) ∨ rIn K true x y H Q ∨ rNotInD K x y H Q) (kInB true) := by
  intro B tb W σ H S x y v u Q w rx ry q
  unfold kInB at q
  split at q
  · simp only [rep] at rx ry; subst rx ry
    exact .inl ⟨_, _, rfl, rfl, q.ok w _ rep_bl⟩
  · obtain ⟨c, q⟩ := chk_ok q
    simp only [Bool.and_eq_true] at c
    simp only [rep] at ry
    obtain ⟨a, vs, rfl, h1, h2⟩ := ry
    refine .inr (.inl ⟨a, vs, rfl, .inr (SqT.ex w.sub h1), flat_rep c.1 rx, flats_rep c.2 h2, ?_⟩)
    rw [if_pos rfl, any_rep c.1 rx c.2 h2]
    exact q.ok w _ rep_bl
  · split at q
    · rename_i d ds ed ey
      obtain ⟨c, q⟩ := chk_ok q
      simp only [Bool.and_eq_true] at c
      exact .inr (.inr ⟨d, ds, pyOf_ok w rx ed, pyOf_ok w ry ey, c.1, c.2, q.ok w _ rep_bl⟩)
    · exact q.elim

/-! ### the signs of a text, one by one -/
def signsD (z : Str) : List D := z.cps.toList.map fun c => .str ⟨#[c]⟩
def iSeqU (f : FE) : FI := fun ρ S => (f ρ S).bind fun d S => match d with
  | .str z => .ok (signsD z) S
  | d => match frOf d with
    | some ds => .ok ds S
    | none => .no
theorem itOk_str {K : PySem.W.Frag} {B : Hp} {tb : Tb} {z : Str} : ItOk K (Its z) (signsD z) B tb := by
  intro i B1 tb1 H1 S1 s t w
  refine ⟨fun d hd => ?_, fun e => ?_⟩
  · unfold signsD at hd
    rw [List.getElem?_map, Array.getElem?_toList] at hd
    cases q : z.cps[i]? with
    | none => rw [q] at hd; cases hd
    | some c =>
      rw [q] at hd
      have ed : d = .str ⟨#[c]⟩ := (Option.some.inj hd).symm
      subst ed
      refine ⟨(Array.getElem?_eq_some_iff.mp q).1, fun x H' ⟨e1, c', e2, e3⟩ => ?_⟩
      subst e1
      rw [q] at e2; cases e2
      subst e3
      exact ⟨B1, Ex.refl _ _, w, rep_str⟩
  · have : (signsD z).length = z.cps.size := by simp [signsD]
    show z.cps.size ≤ i
    omega
section
variable {X : Cx} {W : WX} {e tg a b : Expr} {f g : FE} {pos apos cpos : Pos}
theorem di_seqU (he : DE X W e f) : DI X W tg e (iSeqU f) := ((di_seq he).or (pi_str he)).imp fun σ H Rk ⟨B, tb, ρ, S, w, e, q⟩ => by
  unfold iSeqU at q
  cases z : f ρ S with
  | er C ns vs S1 => rw [z] at q; exact .inl ⟨B, tb, ρ, S, w, e, by unfold iSeq; rw [z]; exact q⟩
  | no => rw [z] at q; exact q.elim
  | ok d S1 =>
    rw [z] at q
    simp only [bind_ok] at q
    cases d with
    | str s =>
      refine .inr (LE.stepEq (g := fun d S => match d with
        | .str z => .ok (signsD z) S
        | d => match frOf d with
          | some ds => .ok ds S
          | none => .no) z w e q fun B1 tb1 H1 v x1 w1 e1 r1 h1 => ?_)
      simp only [rep] at r1
      exact ⟨s, r1, Post.ok (k := fun ds _ B' tb' H' => ∀ J, ItOk X.K J ds B' tb' → Rk J H') h1 w1 _ itOk_str⟩
    | _ => exact .inl ⟨B, tb, ρ, S, w, e, by unfold iSeq; rw [z]; exact q⟩

/-! ### join, upper, str() -/
def strsD : List D → Option (List Str)
  | [] => some []
  | .str x :: r => (strsD r).map (x :: ·)
  | _ => none
theorem strsD_ok {K : PySem.W.Frag} {B : Hp} {tb : Tb} : ∀ {ds : List D} {vs : List V} {ss : List Str}, reps K B tb ds vs → strsD ds = some ss → vs = ss.map V.str
  | [], vs, ss, r, e => by
    simp only [reps] at r; subst r
    simp only [strsD, Option.some.injEq] at e; subst e; rfl
  | d :: ds, vs, ss, r, e => by
    simp only [reps] at r
    obtain ⟨v, t, rfl, r1, r2⟩ := r
    cases d with
    | str x =>
      simp only [strsD] at e
      cases z : strsD ds with
      | none => rw [z] at e; cases e
      | some s2 =>
        rw [z] at e
        simp only [Option.map_some, Option.some.injEq] at e
        subst e
        simp only [rep] at r1
        rw [r1, strsD_ok r2 z]; rfl
    | _ => simp only [strsD] at e; cases e
def eJoin (f g : FE) : FE := fun ρ S => (f ρ S).bind fun o S1 => match o with
  | .str a => (g ρ S1).bind fun y S2 => (match (seqOf S2 y).bind strsD with
    | some ys => chk (decide ((ys.map (·.length)).sum + ys.length * a.length ≤ line)) (.ok (.str (Txt.join a ys)) S2)
    | none => .no)
  | _ => .no
theorem d_join (ha : DE X W a f) (hb : DE X W b g) (hs : starEach [b] X.env = [(false, eval b X.env)] := by rfl) (hbase : attributeBase a "join" X.env (eval a X.env) = eval a X.env := by rfl) (hline : (apos.endLine == pos.line) = true := by rfl) :
    DE X W (.Call (.Attribute a "join" apos) [b] [] pos) (eJoin f g) := (pe_join ha hb hs hbase hline).imp fun σ H Q ⟨B, tb, ρ, S, w, e, q⟩ => by
  refine LE.step w e q fun o S1 B1 tb1 H1 v x1 w1 e1 r1 h1 => ?_
  split at h1
  · rename_i s
    simp only [rep] at r1
    refine ⟨⟨s, r1⟩, LE.step w1 e1 h1 fun y S2 B2 tb2 H2 u x2 w2 e2 r2 h2 => ?_⟩
    split at h2
    · rename_i ys hy
      obtain ⟨c, h2⟩ := chk_ok h2
      cases z : seqOf S2 y with
      | none => rw [z] at hy; cases hy
      | some ds =>
        rw [z] at hy
        simp only [Option.bind_some] at hy
        obtain ⟨p, vs, rfl, h3, h4⟩ := seqOf_ok w2 z r2
        have ev := strsD_ok h4 hy
        subst ev
        exact ⟨s, p, ys, r1, rfl, h3, of_decide_eq_true c, h2.ok w2 _ rep_str⟩
    · exact h2.elim
  · exact h1.elim
def eUpper (f : FE) : FE := fun ρ S => (f ρ S).bind fun o S1 => match o with
  | .str a => chk (decide (a.length ≤ 5592405)) (.ok (.str (Txt.upper a)) S1)
  | _ => .no
theorem d_upper (ha : DE X W a f) (hbase : attributeBase a "upper" X.env (eval a X.env) = eval a X.env := by rfl) (hline : (apos.endLine == pos.line) = true := by rfl) : DE X W (.Call (.Attribute a "upper" apos) [] [] pos) (eUpper f) := (pe_upper ha hbase hline).imp fun σ H Q ⟨B, tb, ρ, S, w, e, q⟩ => by
  refine LE.step w e q fun o S1 B1 tb1 H1 v x1 w1 e1 r1 h1 => ?_
  split at h1
  · rename_i s
    obtain ⟨c, h1⟩ := chk_ok h1
    simp only [rep] at r1
    exact ⟨⟨s, r1⟩, s, r1, rfl, of_decide_eq_true c, h1.ok w1 _ rep_str⟩
  · exact h1.elim
end
section
variable {X : Cx} {W : WX} {a b : Expr} {f g : FE} {pos : Pos}
theorem d_in (hv : X.A.units + 65 < cLine) (ha : DE X W a f) (hb : DE X W b g) (hm : behindInMarks .In b = false := by rfl) : DE X W (.Compare a [.In] [b] pos) (e2 (kInB false) f g) := d_cmp (OpR.or op_in_str (OpR.or op_in_seq (op_inD hv))) fit_in ha hb hm
theorem t_in (hv : X.A.units + 65 < cLine) (ha : DE X W a f) (hb : DE X W b g) (hm : behindInMarks .In b = false := by rfl) : DT X W (.Compare a [.In] [b] pos) (tV (e2 (kInB false) f g)) := t_cmp (OpR.or op_in_str (OpR.or op_in_seq (op_inD hv))) fit_in ha hb hm
theorem d_notIn (hv : X.A.units + 65 < cLine) (ha : DE X W a f) (hb : DE X W b g) (hm : behindInMarks .NotIn b = false := by rfl) : DE X W (.Compare a [.NotIn] [b] pos) (e2 (kInB true) f g) := d_cmp (OpR.or op_notin_str (OpR.or op_notIn_seq (op_notInD hv))) fit_notIn ha hb hm
theorem t_notIn (hv : X.A.units + 65 < cLine) (ha : DE X W a f) (hb : DE X W b g) (hm : behindInMarks .NotIn b = false := by rfl) : DT X W (.Compare a [.NotIn] [b] pos) (tV (e2 (kInB true) f g)) := t_cmp (OpR.or op_notin_str (OpR.or op_notIn_seq (op_notInD hv))) fit_notIn ha hb hm
/-! ### str(x) -/
def kStr1 : List D → Sto → R D := k1 fun d S => match d with
  | .int i => chk (decide (i.natAbs.log2 < 1920)) (.ok (.str (toString i)) S)
  | .str z => .ok (.str z) S
  | _ => .no
theorem fit_str1 {K : PySem.W.Frag} : FitC K (fun xs H Q => (∃ i, xs = [.int i] ∧ i.natAbs.log2 < 1920 ∧ Q (.str (toString i)) H) ∨ ∃ a, xs = [.str a] ∧ Q (.str a) H) kStr1 := fit_k1 fun B tb W σ H S d v Q w r q => by
  split at q
  · obtain ⟨c, q⟩ := chk_ok q
    simp only [rep] at r; subst r
    exact .inl ⟨_, rfl, of_decide_eq_true c, q.ok w _ rep_str⟩
  · simp only [rep] at r; subst r
    exact .inr ⟨_, rfl, q.ok w _ rep_str⟩
  · exact q.elim
end
/-! ### x op= e -/
def sAug (k : D → D → Sto → R D) (i : Nat) (f : FE) : FS := fun ρ S => match ρ[i]? with
  | some (some x) => (f ρ S).st ρ fun y S => (k x y S).st ρ fun z S => .ok (.nx (ρ.set i (some z))) S
  | _ => .no
section
variable {X : Cx} {W : WX} {e : Expr} {f : FE} {pos pos' : Pos}
theorem ds_aug {i : Nat} {x : Str} {op : Operator} {r : R2} {k : D → D → Sto → R D} (hN : X.N.Nodup) (hi : X.N[i]? = some x) (hx : Loc X.env.scope x) (ho : PIp X op r) (ft : Fit2 X.K r k) (he : DE X W e f)
    (hf : X.fn x = true ∨ X.env.scope.names.lookup x = some .local := by first | exact .inl rfl | exact .inr rfl | assumption) : DS X W (.AugAssign (.Name x pos') op e pos) (sAug k i f) := (ps_aug hN hi hx he ho hf).imp fun Dn σ H ⟨B, tb, ρ, S, w, e, q⟩ => by
  unfold sAug at q
  split at q
  · rename_i d hd
    obtain ⟨v, h1, h2⟩ := e.2 i d hd
    refine ⟨v, h1, LE.stepS w e q fun y S1 B1 tb1 H1 u x1 w1 e1 r1 h1 => ?_⟩
    refine ft B1 tb1 W σ H1 S1 d y v u _ w1 (rep_ex x1 _ _ h2) r1 ?_
    cases z : k d y S1 with
    | ok zd S2 =>
      rw [z] at h1
      exact fun B2 tb2 H2 x2 w2 zv rz => h1 B2 tb2 H2 _ x2 w2 ((e1.ex x2).set i rz)
    | er C ns vs S2 =>
      rw [z] at h1
      exact fun B2 tb2 H2 x2 w2 => h1 B2 tb2 H2 σ x2 w2 (e1.ex x2)
    | no => rw [z] at h1; exact h1
  · exact q.elim
def kAddS (x y : D) (S : Sto) : R D := match x, y with
  | .int i, .int j => .ok (.int (i + j)) S
  | .str a, .str b => chk (decide (a.length + b.length ≤ line)) (.ok (.str (a ++ b)) S)
  | _, _ => .no
theorem fit_addS {K : PySem.W.Frag} : Fit2 K (fun x y H Q => rI0 (fun i j => .int (i + j)) x y H Q ∨ ∃ i j, x = .str i ∧ y = .str j ∧ i.length + j.length ≤ sizeLine ∧ Q (.str (i ++ j)) H) kAddS := by
  intro B tb W σ H S x y v u Q w rx ry q
  unfold kAddS at q
  split at q
  · simp only [rep] at rx ry; subst rx ry
    exact .inl ⟨_, _, rfl, rfl, q.ok w _ rep_int⟩
  · obtain ⟨c, q⟩ := chk_ok q
    simp only [rep] at rx ry; subst rx ry
    exact .inr ⟨_, _, rfl, rfl, by rw [line_eq]; exact of_decide_eq_true c, q.ok w _ rep_str⟩
  · exact q.elim
theorem ip_addS : PIp X .Add (fun x y H Q => rI0 (fun i j => .int (i + j)) x y H Q ∨ ∃ i j, x = .str i ∧ y = .str j ∧ i.length + j.length ≤ sizeLine ∧ Q (.str (i ++ j)) H) := OpR.or iop_add iop_add_str
def kSubI (x y : D) (S : Sto) : R D := match x, y with
  | .int i, .int j => .ok (.int (i - j)) S
  | _, _ => .no
theorem fit_subI {K : PySem.W.Frag} : Fit2 K (rI0 fun i j => .int (i - j)) kSubI := by
  intro B tb W σ H S x y v u Q w rx ry q
  unfold kSubI at q
  split at q
  · simp only [rep] at rx ry; subst rx ry
    exact ⟨_, _, rfl, rfl, q.ok w _ rep_int⟩
  · exact q.elim
end
theorem room65 {k : Nat} {A : Around} (r : Room k A) : A.units + 65 < cLine := by have := r.un; omega
end Qd

namespace Qd
open PySem L2

/-! ### {k: v, ..}, all of them constants -/
section
variable {X : Cx} {W : WX} {pos : Pos}
def eDC (ks : List Key) (ds : List D) : FE := fun _ S => .ok (.dk ks ds) S
def cPairs (kvs : List (Key × V)) : List (TE × TE) := kvs.map fun kv => (tC (kV kv.1), tC kv.2)
theorem tPairs_c : ∀ {kvs : List (Key × V)} {σ : St} {H : Hp} {Q : List (V × V) → Hp → Prop}, Q (kvs.map fun kv => (kV kv.1, kv.2)) H → tPairs (cPairs kvs) σ H Q
  | [], _, _, _, h => h
  | kv :: r, σ, H, Q, h => by
    show tPairs (cPairs r) σ H fun ps H3 => Q ((kV kv.1, kv.2) :: ps) H3
    exact tPairs_c (kvs := r) h
theorem updupd {H : Hp} {p : Addr} {o o' : HO} : upd (upd H p o) p o' = upd H p o' := by
  funext a
  by_cases e : a = p
  · subst e; rw [upd_same, upd_same]
  · rw [upd_ne e, upd_ne e, upd_ne e]
theorem zip_fs {α β : Type} : ∀ l : List (α × β), (l.map (·.1)).zip (l.map (·.2)) = l
  | [] => rfl
  | (a, b) :: r => by simp only [List.map_cons, List.zip_cons_cons, zip_fs r]
theorem d_dC {keys : List (Option Expr)} {values : List Expr} {kvs : List (Key × V)} {ks : List Key} {ds : List D} (h : PPs X pos keys values (cPairs kvs)) (hds : ∀ B tb, reps X.K B tb ds (kvs.map (·.2))) (hks : kvs.map (·.1) = ks) (hm : mergeK [] kvs = kvs)
    (hk : kvs.length ≤ 15) (hall : keys.all (·.isSome) = true) (hl : keys.length = values.length) (h0 : keys ≠ []) (h15 : keys.length ≤ 15) : DE X W (.Dict keys values pos) (eDC ks ds) :=
  (pe_disp h hall hl h0 h15).imp fun σ H Q ⟨B, tb, ρ, S, w, e, q⟩ p hp => tPairs_c ⟨upd_same, kvs, rfl, hk, by
    rw [hm, updupd]
    obtain ⟨w', e'⟩ := w.new hp (.dK kvs)
    refine q _ _ _ e' w' _ ?_
    simp only [rep]
    refine ⟨p, kvs.map (·.2), rfl, ?_, ?_, hds _ _⟩
    · rw [← hks, zip_fs]; exact upd_same
    · rw [← hks, List.length_map, List.length_map]⟩
/-- a comparison as a test -/
theorem t_pc {op : CmpOp} {a b : Expr} {f : FE} (h : PC X op a b (LE X.K W f)) (hm : behindInMarks op b = false := by first | exact nobehind _ (by decide) (by decide) | rfl) : DT X W (.Compare a [op] [b] pos) (tV f) :=
  (pt_cmp h hm).imp fun σ H Q h => by
    obtain ⟨B, tb, ρ, S, w, e, h⟩ := h
    show LE X.K W f σ H _
    refine LE.step w e h fun d S1 B1 tb1 H1 v x1 w1 e1 r1 h1 => ?_
    cases d with
    | bl b => simp only [rep] at r1; subst r1; exact ⟨b, rfl, h1.ok w1⟩
    | _ => exact h1.elim
/-- {k: x}, x a name -/
def eD1 (k : Key) (i : Nat) : FE := fun ρ S => (eVar i ρ S).bind fun d S => .ok (.dk [k] [d]) S
theorem d_d1 {k : Key} {i : Nat} {ke ve : Expr} (hk : PE X ke (tC (kV k))) (hv : PE X ve (tVar i)) : DE X W (.Dict [some ke] [ve] pos) (eD1 k i) :=
  (pe_disp (pps_cons hk hv pps_nil) rfl rfl (by simp) (by simp)).imp fun σ H Q ⟨B, tb, ρ, S, w, r, q⟩ p hp => by
    unfold eD1 eVar at q
    split at q
    · rename_i d hd
      obtain ⟨v, h1, h2⟩ := r.2 i d hd
      refine ⟨v, h1, upd_same, [(k, v)], rfl, by simp, ?_⟩
      rw [updupd]
      obtain ⟨w', e'⟩ := w.new hp (.dK (mergeK [] [(k, v)]))
      refine q _ _ _ e' w' _ ?_
      simp only [rep]
      exact ⟨p, [v], rfl, upd_same, rfl, reps_cons (rep_ex e' _ _ h2) reps_nil⟩
    · exact q.elim
/-- -1, and the like -/
theorem d_negc {i : Int} {k : Nat} {p1 : Pos} : DE X W (.UnaryOp .USub (.Constant (.int i) k p1) pos) (eC (.int (-i))) :=
  d_c (v := .int (-i)) ((pe_un un_neg pe_int).imp fun σ H Q h => ⟨i, rfl, h⟩) fun _ _ => rep_int
end
end Qd

/-! Qd23: repr of data, dicts too -/
namespace Qd
open PySem L2 PyProof.Rows

/-! ### data at an address, dicts too -/
mutual
inductive Dx (K : PySem.W.Frag) (H : Hp) : V → PyData → Prop
  | non : Dx K H .non .none
  | bl (b : Bool) : Dx K H (.bl b) (.bool b)
  | int (i : Int) : Dx K H (.int i) (.int i)
  | str (x : Str) : Dx K H (.str x) (.str x)
  | lst {a : Addr} {xs : List V} {ds : List PyData} : SqL K H a xs → DxA K H xs ds → Dx K H (.ref a) (.list ds)
  | tup {a : Addr} {xs : List V} {ds : List PyData} : SqT K H a xs → DxA K H xs ds → Dx K H (.ref a) (.tuple ds)
  | dk {a : Addr} {ks : List Key} {xs : List V} {ds : List PyData} : H a = some (.dK (ks.zip xs)) → ks.length = xs.length → DxA K H xs ds → Dx K H (.ref a) (.dict ((ks.map keyPy).zip ds))
  | dt {a : Addr} {ks : List (List Key)} {xs : List V} {ds : List PyData} : H a = some (.dT (ks.zip xs)) → ks.length = xs.length → DxA K H xs ds → Dx K H (.ref a) (.dict ((ks.map keyData).zip ds))
inductive DxA (K : PySem.W.Frag) (H : Hp) : List V → List PyData → Prop
  | nil : DxA K H [] []
  | cons {v : V} {vs : List V} {d : PyData} {ds : List PyData} : Dx K H v d → DxA K H vs ds → DxA K H (v :: vs) (d :: ds)
end
theorem DxA.len {K : PySem.W.Frag} {H : Hp} : ∀ {vs : List V} {ds : List PyData}, DxA K H vs ds → vs.length = ds.length
  | _, _, .nil => rfl
  | _, _, .cons _ t => by simp [t.len]
theorem rdA_map {h : Heap} : ∀ {us : List Value} {ds : List PyData} {as : List Addr}, ReadsAll h us ds as → us.length = ds.length
  | _, _, _, .nil => rfl
  | _, _, _, .cons _ t => by simp [rdA_map t]
theorem key_reads {h : Heap} {k : Key} {v : Value} (e : keyIs k v = true) : Reads h v (keyPy k) [] := by
  rcases keyIs_shape e with ⟨i, t, rfl, rfl⟩ | ⟨x, t, rfl, rfl⟩
  · exact .int i t
  · exact .str x t
theorem keys_reads {prog : Program} {w : World} {h : Heap} : ∀ {es : List DictEntry} {kvs : List (Key × Value)}, Pairs (mixKind prog w) es kvs → ReadsAll h (es.map (·.key)) ((kvs.map (·.1)).map keyPy) []
  | _, _, .nil => .nil
  | _, _, .cons h1 _ t => .cons (as := []) (bs := []) (key_reads h1) (keys_reads t)
theorem pairs_vals {prog : Program} {w : World} : ∀ {es : List DictEntry} {kvs : List (Key × Value)}, Pairs (mixKind prog w) es kvs → es.map (·.val) = kvs.map (·.2)
  | _, _, .nil => rfl
  | _, _, .cons _ h2 t => by simp [h2, pairs_vals t]
theorem kv_fst {κ : Type} : ∀ {kvs : List (κ × V)} {vs : List (κ × Value)}, KV kvs vs → vs.map (·.1) = kvs.map (·.1)
  | _, _, .nil => rfl
  | _, _, .cons h t => by simp [h.1, kv_fst t]
theorem kv_vals {κ : Type} : ∀ {kvs : List (κ × V)} {vs : List (κ × Value)}, KV kvs vs → Vals (kvs.map (·.2)) (vs.map (·.2))
  | _, _, .nil => .nil
  | _, _, .cons h t => .cons h.2 (kv_vals t)
theorem key_are {h : Heap} : ∀ {k : List Key} {its : List Value}, Vals (k.map kV) its → ReadsAll h its (k.map keyPy) []
  | [], its, r => by cases r; exact .nil
  | .inl i :: k, its, r => by
    cases r with
    | cons h1 h2 => obtain ⟨t, rfl⟩ := h1; exact .cons (as := []) (bs := []) (.int i t) (key_are h2)
  | .inr x :: k, its, r => by
    cases r with
    | cons h1 h2 => obtain ⟨t, rfl⟩ := h1; exact .cons (as := []) (bs := []) (.str x t) (key_are h2)
theorem kt_keys {P : Program} {w : World} {H : Hp} {h : Heap} (ok : HOk P w H h) : ∀ {kvs : List (List Key × V)} {xs : List (List Key × Addr × Value)}, KT H kvs xs → ReadsAll h (xs.map fun x => .ref x.2.1) ((kvs.map (·.1)).map keyData) []
  | _, _, .nil => .nil
  | _, _, .cons (a := p) (b := q) h1 t => by
    obtain ⟨_, its, r, o, e1, e2, n, e3⟩ := (show ObjOk P w H h q.2.1 (.tup (q.1.map kV)) from ok _ _ (h1.1 ▸ h1.2.1))
    rw [← h1.1] at r
    exact .cons (as := []) (bs := []) (.tuple e1 e2 e3 (by simpa using key_are r)) (kt_keys ok t)
theorem kt_vals {H : Hp} : ∀ {kvs : List (List Key × V)} {xs : List (List Key × Addr × Value)}, KT H kvs xs → Vals (kvs.map (·.2)) (xs.map (·.2.2))
  | _, _, .nil => .nil
  | _, _, .cons h t => .cons h.2.2 (kt_vals t)
section
variable {X : Cx} {pins : List (Addr × Obj)} {σ : L2.St} {H : Hp} {s : Shared}
theorem sm_ne (I : Inv X pins σ H s) (sm : SmB X.base) {a : Addr} {o : Obj} {vs : Array Value} {n : Nat} (e : s.heap.get? a = some o) (d : o.data = .seq vs n) : sysModules ≠ a := by
  rintro rfl
  obtain ⟨o', es, m, e', d'⟩ := sm
  have := I.bk _ _ e'
  rw [e] at this
  cases this
  rw [d] at d'
  cases d'
mutual
theorem Dx.reads (I : Inv X pins σ H s) (sm : SmB X.base) : ∀ {v : V} {d : PyData} {u : Value}, Dx X.K H v d → RelV v u → ∃ as, Reads s.heap u d as ∧ sysModules ∉ as
  | _, _, _, .non, r => by cases r; exact ⟨_, .none, by simp⟩
  | _, _, _, .bl b, r => by cases r; exact ⟨_, .bool b, by simp⟩
  | _, _, _, .int i, r => by obtain ⟨t, rfl⟩ := r; exact ⟨_, .int i t, by simp⟩
  | _, _, _, .str i, r => by obtain ⟨t, rfl⟩ := r; exact ⟨_, .str i t, by simp⟩
  | _, _, _, .lst hs ha, r => by
    cases r
    obtain ⟨its, rv, ⟨o, n, ho, hc, _, hd⟩, _⟩ := I.list hs
    obtain ⟨as, hr, hn⟩ := DxA.reads I sm ha rv
    exact ⟨_, .list ho hc hd (by simpa using hr), by
      rw [List.mem_cons]
      exact fun z => z.elim (fun z => sm_ne I sm ho hd z) hn⟩
  | _, _, _, .tup hs ha, r => by
    cases r
    obtain ⟨its, rv, ⟨o, ho, hc, n, hd⟩, _⟩ := I.tuple hs
    obtain ⟨as, hr, hn⟩ := DxA.reads I sm ha rv
    exact ⟨_, .tuple ho hc hd (by simpa using hr), hn⟩
  | _, _, _, .dk (ks := ks) (xs := xs) (ds := ds) e hl ha, r => by
    cases r
    obtain ⟨_, hsm, vs, kv, o, es, ep, ho, hx, hd, _, pr, _⟩ := dk_of I.hok e
    have e1 := kv_fst kv
    have e2 := kv_vals kv
    rw [List.map_fst_zip (Nat.le_of_eq hl)] at e1
    rw [List.map_snd_zip (Nat.le_of_eq hl.symm)] at e2
    obtain ⟨as, hr, hn⟩ := DxA.reads I sm ha e2
    have hlen : (ks.map keyPy).length = ds.length := by rw [List.length_map, hl, ha.len]
    refine ⟨_, .dict ho hx.1 hd (as := []) (bs := as) (kvs := (ks.map keyPy).zip ds) ?_ ?_, by
      rw [List.mem_append, List.mem_singleton]
      exact fun z => z.elim (fun z => by rw [z] at hsm; simp at hsm) hn⟩
    · rw [List.map_fst_zip (Nat.le_of_eq hlen), ← e1]
      exact keys_reads pr
    · rw [List.map_snd_zip (Nat.le_of_eq hlen.symm), pairs_vals pr]
      exact hr
  | _, _, _, .dt (ks := ks) (xs := xs) (ds := ds) e hl ha, r => by
    cases r
    obtain ⟨_, hsm, vs, kt, o, es, ep, ho, hx, hd, he, _⟩ := dt_of I.hok e
    have e1 := kt_keys I.hok kt
    have e2 := kt_vals kt
    rw [List.map_fst_zip (Nat.le_of_eq hl)] at e1
    rw [List.map_snd_zip (Nat.le_of_eq hl.symm)] at e2
    obtain ⟨as, hr, hn⟩ := DxA.reads I sm ha e2
    have hlen : (ks.map keyData).length = ds.length := by rw [List.length_map, hl, ha.len]
    refine ⟨_, .dict ho hx.1 hd (as := []) (bs := as) (kvs := (ks.map keyData).zip ds) ?_ ?_, by
      rw [List.mem_append, List.mem_singleton]
      exact fun z => z.elim (fun z => by rw [z] at hsm; simp at hsm) hn⟩
    · rw [List.map_fst_zip (Nat.le_of_eq hlen), he, List.map_map]
      exact e1
    · rw [List.map_snd_zip (Nat.le_of_eq hlen.symm), he, List.map_map]
      exact hr
theorem DxA.reads (I : Inv X pins σ H s) (sm : SmB X.base) : ∀ {vs : List V} {ds : List PyData} {us : List Value}, DxA X.K H vs ds → Vals vs us → ∃ as, ReadsAll s.heap us ds as ∧ sysModules ∉ as
  | _, _, _, .nil, r => by cases r; exact ⟨_, .nil, by simp⟩
  | _, _, _, .cons h t, r => by
    cases r with
    | cons r1 r2 =>
      obtain ⟨as, q1, n1⟩ := Dx.reads I sm h r1
      obtain ⟨bs, q2, n2⟩ := DxA.reads I sm t r2
      exact ⟨_, .cons q1 q2, by rw [List.mem_append]; exact fun z => z.elim n1 n2⟩
end
theorem inv_grown (I : Inv X pins σ H s) {h' : Heap} {t' : Nat} (k : ∀ b o, s.heap.get? b = some o → h'.get? b = some o) : Inv X pins σ H { s with heap := h', toks := t' } := I.kept k
end
def rRepr (K : PySem.W.Frag) : List V → Hp → VK → Prop := fun vs H Q => ∃ x d, vs = [x] ∧ Dx K H x d ∧ d.showable = true ∧ d.shown.length ≤ sizeLine ∧ d.depth ≤ 60 ∧ Q (.str d.shown) H
theorem cr_repr {X : Cx} (gs : X.A.guards = some []) (hu : X.A.units + 64 < cLine) (sm : SmB X.base) : CallR X (.builtin "repr") (rRepr X.K) := by
  intro pins s σ H vs us Q I r h
  obtain ⟨x, d, rfl, hx, hs, hz, hdp, q⟩ := h
  obtain ⟨u, rfl, rx⟩ := r.one
  obtain ⟨as, hr, hn⟩ := Dx.reads I sm hx rx
  have fin : ∀ h' u tk, (∀ b o, s.heap.get? b = some o → h'.get? b = some o) → EP X pins σ Q (.str d.shown u) { s with heap := h', toks := tk } := fun h' u tk k => ⟨.str d.shown, H, inv_grown I k, ⟨u, rfl⟩, q⟩
  cases hr with
  | none => exact PySem.P.repr_of_none (fin s.heap _ _ fun _ _ e => e)
  | bool b => exact PySem.P.repr_of_bool (fin s.heap _ _ fun _ _ e => e)
  | int i t => exact PySem.P.repr_of_int (by simpa [PyData.showable] using hs) (fin s.heap _ _ fun _ _ e => e)
  | str x t => exact PySem.P.repr_of_str (fin s.heap _ _ fun _ _ e => e) (by simpa only [PyData.shown] using hz)
  | list h1 h2 h3 h4 => exact repr_of_reads' (.list h1 h2 h3 h4) hs (fun _ => hn) gs (by omega) (fun _ _ e => e) fin hz
  | tuple h1 h2 h3 h4 => exact repr_of_reads' (.tuple h1 h2 h3 h4) hs (fun _ => hn) gs (by omega) (fun _ _ e => e) fin hz
  | dict h1 h2 h3 h4 h5 => exact repr_of_reads' (.dict h1 h2 h3 h4 h5) hs (fun _ => hn) gs (by omega) (fun _ _ e => e) fin hz
end Qd

/-! Qd24: sorted(set(list of ints)) -/
namespace Qd
open PySem L2 PySem.Spec PyProof.Rows

section
variable {P : Program} {w : World} {A : Around} {E : Value → Shared → Prop} {s : Shared}
/-- a set that is new and empty -/
abbrev set0 (w : World) : Obj := { cls := .type "set", dict := none, data := .set #[] 0 (.fresh 0 0 (!w.params.followText "set-order")) }
theorem set_lst {l : Addr} {its : Array Value} (ns : List Int) {Q : Value → Shared → Prop} (hh : A.handled = none) (hl : s.heap.IsList l its) (hi : IntsAre its.toList ns) (hb : ns.length + 1 < scanBound)
    (q : ∀ (g : Heap) (tk c : Nat), SetR w g s.heap.objs.size (fun j => decide (j ∈ ns)) c → c ≤ ns.length → (∀ b o, s.heap.get? b = some o → g.get? b = some o) → Q (.ref s.heap.objs.size) { s with heap := g, toks := tk }) :
    wpAny (model P w) A (call (.type "set") [.ref l]) Q E s := by
  have isz : its.size = ns.length := by have := IntsAre.length hi; rwa [Array.length_toList] at this
  obtain ⟨c0, tl, hmro⟩ := F.called_set.mro
  have hmade := F.called_set.made
  have hsub := F.called_set.sub
  refine wpAny_call (codeAny_of_tree ?_)
  show wpAny _ _ (callAny (.type "set") _) _ _ _
  refine wpAny_pure ⟨Code.quiet_builtin _ (by decide +kernel), codeAny_builtin F.entry_type_call ?_⟩
  rw [Around.under_plain (weight_type_call_type "set" [.ref l] []) rfl]
  have h1 := F.called_set.notType
  have h2 := F.called_set.canCreate
  have hct := F.typeCall_set_1 (.ref l)
  repeat (any_goals (first | assumption | wp_step))
  refine codeAny_mono (code_set_led1 (.ref l) (E := E) (Q₁ := fun ob s1 => ob = .ref s.heap.objs.size ∧ s1 = { s with heap := s.heap.push (set0 w) }) ⟨rfl, rfl⟩) ?_
  rintro (e | fl) s1 hr
  · exact hr
  · cases fl with
    | ret ob =>
      obtain ⟨rfl, rfl⟩ := hr
      have atS : (s.heap.push (set0 w)).get? s.heap.objs.size = some (set0 w) := Heap.get?_push_size _ rfl
      have tyS : Shared.TypeIs { s with heap := s.heap.push (set0 w) } (.ref s.heap.objs.size) "set" := ⟨_, atS, rfl⟩
      have hli := F.called_set.init.lookup
      have hbi := F.called_set.init.bind (.ref s.heap.objs.size)
      repeat (any_goals (first | assumption | wp_step))
      refine codeAny_mono (codeAny_call_builtin (R := wants (fun r s2 => r = .none ∧ ∃ g tk c, s2 = { s with heap := g, toks := tk } ∧ SetR w g s.heap.objs.size (fun j => decide (j ∈ ns)) c ∧ c ≤ ns.length ∧
        (∀ b o, s.heap.get? b = some o → g.get? b = some o)) E) F.called_set.init.plain F.entry_set_init (check_set_init_1 tyS ?_)) ?_
      · obtain ⟨⟨oc, od, dt, sl⟩, hol, hcl, nl, hdl⟩ := hl
        simp only at hcl hdl
        subst hcl hdl
        have hol' : (s.heap.push (set0 w)).get? l = some { cls := .type "list", dict := od, data := .seq its nl, slots := sl } := Heap.get?_push_of_some _ hol
        have isl : (s.heap.push (set0 w)).IsList l its := ⟨_, hol', rfl, nl, rfl⟩
        have hsls := F.sub_list_set
        have hslf := F.sub_list_frozenset
        have hne : (Value.type "list" == Value.type "dict") = false := by decide
        unfold Builtin.«set.__init__» noKeywords Builtin.Frozenset.updateFrom
        generalize hPI : pyIter = PI
        wp_walk
        subst hPI
        refine wpAny_pyIter_list isl (wpAny_bind (wpAny_runValue ?_))
        have hlS : l < s.heap.objs.size := Heap.lt_size hol
        have hh3 : A.in1.in1.in1.handled = none := by simp [hh]
        have sz1 : (s.heap.push (set0 w)).objs.size = s.heap.objs.size + 1 := Heap.size_push ..
        have neI : l ≠ (s.heap.push (set0 w)).objs.size := by rw [sz1]; exact Nat.ne_of_lt (Nat.lt_succ_of_lt hlS)
        have Sfree : s.heap.objs.size ∉ [(s.heap.push (set0 w)).objs.size, l] := by
          rw [sz1]; simp only [List.mem_cons, List.mem_singleton, List.not_mem_nil, or_false, not_or]
          exact ⟨Nat.ne_of_lt (Nat.lt_succ_self _), Nat.ne_of_gt hlS⟩
        have each : ∀ (i : Nat) (v : Value), its[i]? = some v → ∃ k t, ns[i]? = some k ∧ v = .int k t := by
          intro i v hv
          have hi' : i < ns.length := by rw [← isz]; exact (Array.getElem?_eq_some_iff.mp hv).1
          obtain ⟨t, e⟩ := PyProof.Rows.IntsAre.int_at hi i v (by rw [Array.getElem?_toList]; exact hv)
          exact ⟨ns[i], t, List.getElem?_eq_getElem hi', by rw [e, List.getD_eq_getElem?_getD, List.getElem?_eq_getElem hi'] <;> rfl⟩
        refine set_update_ints ((Walks.list hh3 _ l neI its).toS) s.heap.objs.size Sfree ns isz hb each (its.size - 0) 0 _ (by omega) (Nat.zero_le _) ⟨⟨_, Heap.get?_push_size _ rfl, rfl, rfl⟩, (isl.push _)⟩
          ⟨0, Nat.le_refl 0, setR_new_at (Heap.get?_push_of_some _ atS)⟩ ?_
        rintro ⟨g, gg, dd, tk, os⟩ c hm hc hS
        have eg : gg = s.gens := hm.gens
        have ed : dd = s.drawn := hm.drawn
        have eo : os = s.os := hm.os
        subst eg ed eo
        show wpAny _ _ _ _ _ _
        refine wpAny_pure ?_
        show wpAny _ _ (ret Value.none) _ _ _
        rw [isz] at hc
        refine wpAny_pure ⟨rfl, g, tk, c, rfl, hS, hc, fun b o e => ?_⟩
        have lt0 : b < s.heap.objs.size := Heap.lt_size e
        refine hm.heap b o ?_ (Heap.get?_push_of_some _ (Heap.get?_push_of_some _ e))
        simp only [List.mem_cons, List.mem_singleton, List.not_mem_nil, or_false, not_or]
        exact ⟨Nat.ne_of_lt lt0, by rw [sz1]; exact Nat.ne_of_lt (Nat.lt_succ_of_lt lt0)⟩
      · rintro (e | fl) s2 hr
        · exact hr
        · cases fl with
          | ret r =>
            obtain ⟨rfl, g, tk, c, rfl, hS, hc, hk⟩ := hr
            repeat (any_goals (first | assumption | wp_step))
            exact q _ _ _ hS hc hk
          | _ => exact hr.elim
    | _ => exact hr.elim
end
def rSetI (K : PySem.W.Frag) (w : World) : List V → Hp → VK → Prop := fun vs H Q => ∃ (a : Addr) (ns : List Int), vs = [.ref a] ∧ SqL K H a (ns.map V.int) ∧ ns.length < 4000 ∧
  ∀ p c, H p = none → c ≤ ns.length → Q (.ref p) (upd H p (SetO w p (fun j => decide (j ∈ ns)) c))
theorem cr_setI {X : Cx} (hc : X.calm = true) : CallR X (.type "set") (rSetI X.K X.w) := by
  intro pins s σ H vs us Q I r h
  obtain ⟨a, ns, rfl, hl, hn, q⟩ := h
  obtain ⟨u, rfl, rx⟩ := r.one
  cases rx
  obtain ⟨its, rv, pl, hz⟩ := I.list hl
  refine set_lst (P := X.prog) (w := X.w) ns (I.ok.hd hc) pl.isList (by simpa using ints_of_vals rv) (by unfold scanBound; omega) fun g tk c hS hcc hk => ?_
  exact ⟨.ref s.heap.objs.size, _, I.laid (t' := tk) hk (Nat.le_refl _) (setO_new hS), rfl, q _ c (I.hok.fresh (Nat.le_refl _)) hcc⟩

/-! ### sorted, each once -/
theorem rising_eq : ∀ {xs ys : List Int}, xs.Pairwise (· < ·) → ys.Pairwise (· < ·) → (∀ k, k ∈ xs ↔ k ∈ ys) → xs = ys
  | [], [], _, _, _ => rfl
  | [], y :: ys, _, _, h => by have := (h y).2 List.mem_cons_self; simp at this
  | x :: xs, [], _, _, h => by have := (h x).1 List.mem_cons_self; simp at this
  | x :: xs, y :: ys, hx, hy, h => by
    rw [List.pairwise_cons] at hx hy
    have e : x = y := by
      rcases List.mem_cons.mp ((h x).1 List.mem_cons_self) with e | e
      · exact e
      · rcases List.mem_cons.mp ((h y).2 List.mem_cons_self) with e2 | e2
        · exact e2.symm
        · have h1 := hx.1 y e2
          have h2 := hy.1 x e
          omega
    subst e
    rw [rising_eq hx.2 hy.2 fun k => ?_]
    have hk := h k
    simp only [List.mem_cons] at hk
    constructor
    · intro m
      rcases hk.1 (.inr m) with e | e
      · have := hx.1 k m; omega
      · exact e
    · intro m
      rcases hk.2 (.inr m) with e | e
      · have := hy.1 k m; omega
      · exact e
def srt (ns : List Int) : List Int := ns.eraseDups.mergeSort fun a b => decide (a ≤ b)
theorem srt_mem {ns : List Int} {k : Int} : k ∈ srt ns ↔ k ∈ ns := by
  unfold srt
  rw [List.mem_mergeSort, List.mem_eraseDups]
theorem nodup_dups : ∀ (n : Nat) (ns : List Int), ns.length ≤ n → ns.eraseDups.Nodup
  | 0, ns, h => by
    have : ns = [] := List.length_eq_zero_iff.mp (by omega)
    subst this
    exact List.nodup_nil
  | n + 1, [], h => List.nodup_nil
  | n + 1, a :: ns, h => by
    rw [List.eraseDups_cons, List.nodup_cons]
    refine ⟨?_, nodup_dups n _ ?_⟩
    · rw [List.mem_eraseDups]
      simp
    · have := List.length_filter_le (fun b => !b == a) ns
      simp only [List.length_cons] at h
      omega
theorem srt_rising (ns : List Int) : (srt ns).Pairwise (· < ·) := by
  unfold srt
  have h1 : (ns.eraseDups.mergeSort fun a b => decide (a ≤ b)).Pairwise fun a b => decide (a ≤ b) = true := List.pairwise_mergeSort (fun a b c h1 h2 => by simp only [decide_eq_true_eq] at *; omega) (fun a b => by simp only [Bool.or_eq_true, decide_eq_true_eq]; omega) _
  have h2 : (ns.eraseDups.mergeSort fun a b => decide (a ≤ b)).Nodup := (List.mergeSort_perm _ _).nodup_iff.mpr (nodup_dups _ ns (Nat.le_refl _))
  have h3 := h1.and h2
  exact h3.imp fun ⟨x, y⟩ => by simp only [decide_eq_true_eq] at x; omega
def kSortSet : List D → Sto → R D := k1 fun d S => match (lsOf S d).bind intsD with
  | some ns => chk (decide (ns.length < 64)) (.ok (.lst ((srt ns).map .int)) S)
  | none => .no
section
variable {X : Cx} {W : WX} {e : Expr} {f : FE} {p p2 pos pos2 : Pos}
theorem reps_ints {K : PySem.W.Frag} {B : Hp} {tb : Tb} : ∀ ns : List Int, reps K B tb (ns.map .int) (ns.map V.int)
  | [] => reps_nil
  | n :: ns => reps_cons rep_int (reps_ints ns)
theorem d_sortSet (hc : X.calm = true) (hg1 : Gl X "sorted") (hm1 : X.mg "sorted" = none) (hg2 : Gl X "set") (hm2 : X.mg "set" = none) (he : DE X W e f) (hs : starEach (e :: []) X.env = (false, eval e X.env) :: starEach [] X.env := by rfl)
    (hs2 : starEach (.Call (.Name "set" p2) [e] [] pos2 :: []) X.env = (false, eval (.Call (.Name "set" p2) [e] [] pos2) X.env) :: starEach [] X.env := by rfl) :
    DE X W (.Call (.Name "sorted" p) [.Call (.Name "set" p2) [e] [] pos2] [] pos) (eCall kSortSet (aCons f aNil)) :=
  (pe_callB (cr_sortedSet hc) hg1 hm1 (by decide +kernel) (pa_cons (pe_callTy (cr_setI hc) hg2 hm2 (by decide +kernel) (pa_cons he pa_nil hs) (he := hs)) pa_nil hs2) (he := hs2)).imp fun σ H Q ⟨B, tb, ρ, S, w, e, q⟩ => by
    have h1 : LE X.K W f σ H fun v H1 => rSetI X.K X.w [v] H1 fun v2 H2 => rSortedSet X.w [v2] H2 Q := by
      unfold eCall aCons aNil at q
      rw [bind_assoc] at q
      refine LE.step w e q fun d S1 B1 tb1 H1 v x1 w1 e1 r1 h1 => ?_
      have h2 : Post X.K B1 tb1 W σ (kSortSet [d] S1) (fun d _ B' tb' H' => ∀ v, rep X.K B' tb' d v → Q v H') := h1
      unfold kSortSet k1 at h2
      simp only at h2
      split at h2
      · rename_i ns hns
        obtain ⟨c, h2⟩ := chk_ok h2
        have c := of_decide_eq_true c
        cases z : lsOf S1 d with
        | none => rw [z] at hns; cases hns
        | some ds =>
          rw [z] at hns
          obtain ⟨a, vs, rfl, hl, rr⟩ := lsOf_ok w1 z r1
          have ev := intsD_ok rr hns
          subst ev
          refine ⟨a, ns, rfl, hl, by omega, fun p cc hp hcc => ⟨p, _, cc, rfl, upd_same, by omega, fun ns2 p2 hr hm hl2 hp2 => ?_⟩⟩
          have e2 : ns2 = srt ns := rising_eq hr (srt_rising ns) fun k => by rw [hm k, srt_mem, decide_eq_true_eq]
          subst e2
          obtain ⟨B', x', w', r'⟩ := new_lst (w1.more hp (SetO X.w p (fun j => decide (j ∈ ns)) cc)) (reps_ints (srt ns)) hp2
          exact h2 B' tb1 _ x' w' _ r'
      · exact h2.elim
    exact h1
end
end Qd

/-! Qd25: the module's own tuples, dicts and defs as values; repr -/
namespace Qd
open PySem L2

/-! ### a dict of the module with text keys -/
structure GDct (K : PySem.W.Frag) (w : World) (a : Addr) (kvs : List (Str × D)) : Prop where
  ex : ∃ es n, KDict K w a es n
  get : ∀ z : Str, ∃ o, PySem.W.nsIn K a z = some o ∧ match kvs.lookup z with
    | some d => ∃ u v, o = some u ∧ RelV v u ∧ ∀ B tb, rep K B tb d v
    | none => o = none
def dvD : He.Dv → D
  | .non => .non
  | .bl b => .bl b
  | .int i => .int i
  | .str x => .str x
  | .ty n => .ty n
  | .glo x => .glo x
  | _ => .non
def dvOk : He.Dv → Bool
  | .byt _ => false
  | .flt _ => false
  | .adr _ => false
  | _ => true
theorem rep_dv {K : PySem.W.Frag} {B : Hp} {tb : Tb} : ∀ {d : He.Dv}, dvOk d = true → rep K B tb (dvD d) (d.v K)
  | .non, _ => by simp only [dvD, He.Dv.v, rep]
  | .bl _, _ => by simp only [dvD, He.Dv.v, rep]
  | .int _, _ => by simp only [dvD, He.Dv.v, rep]
  | .str _, _ => by simp only [dvD, He.Dv.v, rep]
  | .ty _, _ => by simp only [dvD, He.Dv.v, rep]
  | .glo _, _ => by simp only [dvD, He.Dv.v, rep]
  | .byt _, h => by cases h
  | .flt _, h => by cases h
  | .adr _, h => by cases h
theorem nsIn_none {P : Params} {ks : List Str} {z : Str} (hz : z ∉ ks) : ∀ {l : List DictEntry}, l.map He.keyOf = (ks.map fun k => some (k, PyData.keyHash P k)) → l.find? (·.key.isStr z) = none ∧ l.any (·.refKey) = false := by
  intro l
  induction l generalizing ks with
  | nil => intro _; exact ⟨rfl, rfl⟩
  | cons e r ih =>
    intro h
    cases ks with
    | nil => cases h
    | cons k ks =>
      simp only [List.map_cons, List.cons.injEq] at h
      obtain ⟨h1, h2⟩ := h
      simp only [List.mem_cons, not_or] at hz
      obtain ⟨i1, i2⟩ := ih hz.2 h2
      unfold He.keyOf at h1
      split at h1
      · rename_i x t q
        have e1 : x = k := congrArg Prod.fst (Option.some.inj h1)
        subst e1
        have n1 : e.key.isStr z = false := by
          rw [PySem.W.isStr_of, q]
          cases y : Value.isStrOf z (.str x t) with
          | false => rfl
          | true =>
            obtain ⟨t', e'⟩ := Value.isStrOf_shape y
            injection e' with e1 _
            exact absurd e1.symm hz.1
        refine ⟨?_, ?_⟩
        · rw [List.find?_cons, n1]; exact i1
        · rw [List.any_cons, i2, Bool.or_false]
          unfold DictEntry.refKey
          rw [q]
      · cases h1
theorem lookup_in {α β : Type} [BEq α] [LawfulBEq α] {a : α} {b : β} : ∀ {l : List (α × β)}, l.lookup a = some b → (a, b) ∈ l
  | [], h => by cases h
  | (c, d) :: r, h => by
    rw [List.lookup_cons] at h
    cases q : a == c with
    | true =>
      rw [q] at h
      have e := eq_of_beq q
      subst e
      cases h
      exact List.mem_cons_self
    | false =>
      rw [q] at h
      exact List.mem_cons_of_mem _ (lookup_in h)
theorem gdct_of {K : PySem.W.Frag} {w : World} {a : Addr} {kvs : List (Str × He.Dv)} (h : He.dicW K a = some (He.keysIn w.params (kvs.map (·.1)))) (hv : He.valsB K a kvs = true) (ok : kvs.all (fun q => dvOk q.2) = true) : GDct K w a (kvs.map fun q => (q.1, dvD q.2)) := by
  refine ⟨He.dicW_ok h, fun z => ?_⟩
  have look : ∀ {l : List (Str × He.Dv)}, (l.map fun q => (q.1, dvD q.2)).lookup z = (l.lookup z).map dvD := fun {l} => by
    induction l with
    | nil => rfl
    | cons q l ih =>
      obtain ⟨q1, q2⟩ := q
      simp only [List.map_cons, List.lookup_cons]
      cases z == q1 with
      | true => rfl
      | false => exact ih
  rw [look]
  cases hz : kvs.lookup z with
  | some d =>
    have hm : (z, d) ∈ kvs := lookup_in hz
    obtain ⟨u, e, r⟩ := He.valsB_ok hv hm
    exact ⟨_, e, u, _, rfl, r, fun B tb => rep_dv (List.all_eq_true.mp ok _ hm)⟩
  | none =>
    refine ⟨none, ?_, rfl⟩
    have hn : z ∉ kvs.map (·.1) := fun hm => by
      obtain ⟨q, hq, e⟩ := List.mem_map.mp hm
      have := List.lookup_eq_none_iff.mp hz q hq
      rw [e] at this
      simp at this
    unfold He.dicW at h
    split at h
    · rename_i c es n sl lk
      split at h
      · have h2 := Option.some.inj h
        obtain ⟨f1, f2⟩ := nsIn_none hn h2
        unfold PySem.W.nsIn
        rw [lk]
        simp only [f1, f2]
        rfl
      · cases h
    · cases h
section
variable {X : Cx} {W : WX} {a b : Expr} {f g : FE} {pos p apos cpos : Pos} {nm : Str} {kvs : List (Str × D)}
/-- x in GD, x not in GD -/
def kGIn (nm : Str) (kvs : List (Str × D)) (neg : Bool) (x y : D) (S : Sto) : R D := match x, y with
  | .str z, .glo g => chk (decide (g = nm)) (.ok (.bl (if neg then !(kvs.lookup z).isSome else (kvs.lookup z).isSome)) S)
  | _, _ => .no
theorem gd_some {K : PySem.W.Frag} {w : World} {a : Addr} (G : GDct K w a kvs) (z : Str) : ∃ o, PySem.W.nsIn K a z = some o ∧ o.isSome = (kvs.lookup z).isSome := by
  obtain ⟨o, e, q⟩ := G.get z
  refine ⟨o, e, ?_⟩
  cases h : kvs.lookup z with
  | none => rw [h] at q; rw [q]; rfl
  | some d => rw [h] at q; obtain ⟨u, v, rfl, _⟩ := q; rfl
theorem d_gin (G : GDct X.K X.w (He.ga X.K nm) kvs) (ha : DE X W a f) (hb : DE X W b g) (hm : behindInMarks .In b = false := by rfl) : DE X W (.Compare a [.In] [b] pos) (e2 (kGIn nm kvs false) f g) := by
  obtain ⟨es, n, kd⟩ := G.ex
  refine d_cmp (op_in_kd kd) (fun B tb W σ H S x y v u Q w rx ry q => ?_) ha hb hm
  unfold kGIn at q
  split at q
  · rename_i z g'
    obtain ⟨c, q2⟩ := chk_ok q
    have e := of_decide_eq_true c
    subst e
    simp only [rep] at rx ry
    subst rx ry
    obtain ⟨o, e1, e2⟩ := gd_some G z
    exact ⟨z, o, rfl, rfl, e1, by rw [e2]; exact q2.ok w _ rep_bl⟩
  · exact q.elim
theorem t_gin (G : GDct X.K X.w (He.ga X.K nm) kvs) (ha : DE X W a f) (hb : DE X W b g) (hm : behindInMarks .In b = false := by rfl) : DT X W (.Compare a [.In] [b] pos) (tV (e2 (kGIn nm kvs false) f g)) := by
  obtain ⟨es, n, kd⟩ := G.ex
  refine t_cmp (op_in_kd kd) (fun B tb W σ H S x y v u Q w rx ry q => ?_) ha hb hm
  unfold kGIn at q
  split at q
  · rename_i z g'
    obtain ⟨c, q2⟩ := chk_ok q
    have e := of_decide_eq_true c
    subst e
    simp only [rep] at rx ry
    subst rx ry
    obtain ⟨o, e1, e2⟩ := gd_some G z
    exact ⟨z, o, rfl, rfl, e1, by rw [e2]; exact q2.ok w _ rep_bl⟩
  · exact q.elim
theorem d_gnotin (G : GDct X.K X.w (He.ga X.K nm) kvs) (ha : DE X W a f) (hb : DE X W b g) (hm : behindInMarks .NotIn b = false := by rfl) : DE X W (.Compare a [.NotIn] [b] pos) (e2 (kGIn nm kvs true) f g) := by
  obtain ⟨es, n, kd⟩ := G.ex
  refine d_cmp (op_notIn_kd kd) (fun B tb W σ H S x y v u Q w rx ry q => ?_) ha hb hm
  unfold kGIn at q
  split at q
  · rename_i z g'
    obtain ⟨c, q2⟩ := chk_ok q
    have e := of_decide_eq_true c
    subst e
    simp only [rep] at rx ry
    subst rx ry
    obtain ⟨o, e1, e2⟩ := gd_some G z
    exact ⟨z, o, rfl, rfl, e1, by rw [e2]; exact q2.ok w _ rep_bl⟩
  · exact q.elim
theorem t_gnotin (G : GDct X.K X.w (He.ga X.K nm) kvs) (ha : DE X W a f) (hb : DE X W b g) (hm : behindInMarks .NotIn b = false := by rfl) : DT X W (.Compare a [.NotIn] [b] pos) (tV (e2 (kGIn nm kvs true) f g)) := by
  obtain ⟨es, n, kd⟩ := G.ex
  refine t_cmp (op_notIn_kd kd) (fun B tb W σ H S x y v u Q w rx ry q => ?_) ha hb hm
  unfold kGIn at q
  split at q
  · rename_i z g'
    obtain ⟨c, q2⟩ := chk_ok q
    have e := of_decide_eq_true c
    subst e
    simp only [rep] at rx ry
    subst rx ry
    obtain ⟨o, e1, e2⟩ := gd_some G z
    exact ⟨z, o, rfl, rfl, e1, by rw [e2]; exact q2.ok w _ rep_bl⟩
  · exact q.elim
/-- GD[x] -/
def kGIx (nm : Str) (kvs : List (Str × D)) (y x : D) (S : Sto) : R D := match x, y with
  | .str z, .glo g => chk (decide (g = nm)) (match kvs.lookup z with
    | some d => .ok d S
    | none => .no)
  | _, _ => .no
theorem d_gix (G : GDct X.K X.w (He.ga X.K nm) kvs) (ha : DE X W a f) (hb : DE X W b g) (hs : PlainIx b) : DE X W (.Subscript a b pos) (e2 (kGIx nm kvs) f g) := (pe_ix ix_kdict ha hb hs).imp fun _ _ _ h => fit2_step (fun B tb W σ H S x y v u Q w rx ry q => by
  unfold kGIx at q
  split at q
  · rename_i z g'
    obtain ⟨c, q2⟩ := chk_ok q
    clear q
    have e := of_decide_eq_true c
    subst e
    simp only [rep] at rx ry
    subst rx ry
    obtain ⟨es, n, kd⟩ := G.ex
    obtain ⟨o, e1, e2⟩ := G.get z
    split at q2
    · rename_i d hd
      rw [hd] at e2
      obtain ⟨u, v, rfl, r1, r2⟩ := e2
      exact ⟨_, z, v, rfl, rfl, ⟨es, n, u, kd.at_, kd.lit, e1, r1⟩, q2.ok w _ (r2 _ _)⟩
    · exact q2.elim
  · exact q.elim) h
/-- GD.get(x) -/
theorem pe_kget1 {d : Addr} {es : Array DictEntry} {n : Nat} {o e : Expr} {td ty : TE} (kd : KDict X.K X.w d es n) (ho : PE X o td) (he : PE X e ty) (m : M1 X o "get" apos e cpos) :
    PE X (.Call (.Attribute o "get" apos) [e] [] cpos) (fun σ H Q => td σ H fun x H1 => x = .ref d ∧ ty σ H1 fun y H2 => ∃ (z : Str) (r : Option Value) (v : V), y = .str z ∧ PySem.W.nsIn X.K d z = some r ∧ RelV v (r.getD .none) ∧ Q v H2) := by
  refine ⟨fun pins s σ H Q I h => wpAny_Call_method m.base m.few m.line PySem.F.plainAttrs_dict PySem.F.slot_dict_get PySem.F.type_dict_get (thn (ho.run pins s σ H _ I h) ?_)⟩
  rintro u s1 ⟨x, H1, I1, rx, rfl, q1⟩
  cases rx
  have mo := PySem.W.mapOf_K (prog := X.prog) (w := X.w) I1.kIn kd.at_ kd.lit
  refine ⟨mo.typeIs, fun b q => ?_, ?_⟩
  · cases q
    obtain ⟨ob, _, _, h1, h2, _⟩ := mo
    exact ⟨ob, h1, h2.2.1⟩
  · rw [m.trees]
    refine Calls.callWith_builtin rfl (Calls.evalArgs_plain (Calls.spliced_cons (thn (he.run pins s1 σ H1 _ I1 q1) ?_)))
    rintro iv s2 ⟨y, H2, I2, ry, z, r, v, rfl, e1, rv, q2⟩
    obtain ⟨t, rfl⟩ := ry
    have mo2 := PySem.W.mapOf_K (prog := X.prog) (w := X.w) I2.kIn kd.at_ kd.lit
    refine Calls.spliced_nil (call_meetsIn PySem.F.slot_dict_get mo2.typeIs PySem.F.entry_dict_get (PySem.F.args_dict_get_2 _ _) (meets_dict_get (PySem.strKind X.prog X.w) d (PySem.strKind_is X.prog X.w z t) kd.low) ⟨_, mo2, ⟨v, H2, I2.tok _, ?_, q2⟩⟩)
    rw [PySem.W.find_K kd.at_ e1]
    exact rv
def eGGet1 (nm : Str) (kvs : List (Str × D)) (f g : FE) : FE := fun ρ S => (f ρ S).bind fun x S1 => match x with
  | .glo g' => chk (decide (g' = nm)) ((g ρ S1).bind fun y S2 => match y with
    | .str z => .ok ((kvs.lookup z).getD .non) S2
    | _ => .no)
  | _ => .no
theorem d_gget1 {o i : Expr} (G : GDct X.K X.w (He.ga X.K nm) kvs) (ha : DE X W o f) (hb : DE X W i g) (m : M1 X o "get" apos i cpos) : DE X W (.Call (.Attribute o "get" apos) [i] [] cpos) (eGGet1 nm kvs f g) := by
  obtain ⟨es, n, kd⟩ := G.ex
  refine (pe_kget1 kd ha hb m).imp fun σ H Q ⟨B, tb, ρ, S, w, e, q⟩ => ?_
  refine LE.step w e q fun x S1 B1 tb1 H1 v x1 w1 e1 r1 h1 => ?_
  split at h1
  · rename_i g'
    obtain ⟨c, h3⟩ := chk_ok h1
    have ec := of_decide_eq_true c
    subst ec
    simp only [rep] at r1
    refine ⟨r1, LE.step w1 e1 h3 fun y S2 B2 tb2 H2 u x2 w2 e2 r2 h2 => ?_⟩
    split at h2
    · rename_i z
      simp only [rep] at r2
      obtain ⟨o, e3, e4⟩ := G.get z
      cases hl : kvs.lookup z with
      | none =>
        rw [hl] at e4 h2
        exact ⟨z, o, .non, r2, e3, by rw [e4]; rfl, h2.ok w2 _ rep_non⟩
      | some d =>
        rw [hl] at e4 h2
        obtain ⟨u', v', rfl, r3, r4⟩ := e4
        exact ⟨z, _, v', r2, e3, r3, h2.ok w2 _ (r4 _ _)⟩
    · exact h2.elim
  · exact h1.elim
/-- what a module's name stands for: a def, a dict, a tuple .. -/
theorem d_glo {x : Str} (hg : Gl X x) (hm : X.mg x = some (.ref (He.ga X.K x))) (hdb : (x == ("__debug__" : Str)) = false := by decide) : DE X W (.Name x pos) (eC (.glo x)) :=
  d_c (v := .ref (He.ga X.K x)) (pe_glob hg hm rfl hdb) fun _ _ => by simp only [rep]

/-! ### x in a tuple of the module -/
def kGInT (nm : Str) (ds : List D) (neg : Bool) (x y : D) (S : Sto) : R D := match y with
  | .glo g => chk (decide (g = nm) && (flatD x && ds.all flatD)) (.ok (.bl (if neg then !(ds.any fun d => eqF d x) else ds.any fun d => eqF d x)) S)
  | _ => .no
theorem fit_ginT {K : PySem.W.Frag} {neg : Bool} {nm : Str} {ds : List D} {vs : List V} (hT : ∀ H, SqT K H (He.ga K nm) vs) (hr : ∀ B tb, reps K B tb ds vs) : Fit2 K (rIn K neg) (kGInT nm ds neg) := by
  intro B tb W σ H S x y v u Q w rx ry q
  unfold kGInT at q
  split at q
  · obtain ⟨c, q2⟩ := chk_ok q
    clear q
    simp only [Bool.and_eq_true, decide_eq_true_eq] at c
    obtain ⟨rfl, c1, c2⟩ := c
    simp only [rep] at ry
    refine ⟨_, vs, ry, .inr (hT H), flat_rep c1 rx, flats_rep c2 (hr B tb), ?_⟩
    rw [any_rep c1 rx c2 (hr B tb)]
    cases neg with
    | false => exact q2.ok w _ rep_bl
    | true => exact q2.ok w _ rep_bl
  · exact q.elim
theorem d_ginT {ds : List D} {vs : List V} (hT : ∀ H, SqT X.K H (He.ga X.K nm) vs) (hr : ∀ B tb, reps X.K B tb ds vs) (ha : DE X W a f) (hb : DE X W b g) (hm : behindInMarks .In b = false := by rfl) : DE X W (.Compare a [.In] [b] pos) (e2 (kGInT nm ds false) f g) := d_cmp op_in_seq (fit_ginT hT hr) ha hb hm
theorem t_ginT {ds : List D} {vs : List V} (hT : ∀ H, SqT X.K H (He.ga X.K nm) vs) (hr : ∀ B tb, reps X.K B tb ds vs) (ha : DE X W a f) (hb : DE X W b g) (hm : behindInMarks .In b = false := by rfl) : DT X W (.Compare a [.In] [b] pos) (tV (e2 (kGInT nm ds false) f g)) := t_cmp op_in_seq (fit_ginT hT hr) ha hb hm

/-! ### a call of what a name of the def holds -/
/-- one of several defs -/
structure HeldG (P : Program) (w : World) (K : PySem.W.Frag) (mg : Str → Option Value) (base : Heap) (k n : Nat) (x : Str) (g : FF) : Prop where
  ex : ∃ (fd : FuncData) (ps : List Str), ps.length = n ∧ FnG P w K mg base k (He.ga K x) fd ps (SpD K ps.length g) ∧ PySem.W.keepIn K (.ref (He.ga K x)) = true ∧ Binds K fd ps []
def eCallV (i : Nat) (tbl : List (Str × FF)) (fa : FA) : FE := fun ρ S => match ρ[i]? with
  | some (some (.glo x)) => (match tbl.lookup x with
    | some m => (fa ρ S).bind fun ds S => m ds S
    | none => .no)
  | _ => .no
theorem pe_callLG {k i : Nat} {f : Addr} {fd : FuncData} {ps : List Str} {sp : Sp} {x : Str} {e : Expr} {es : List Expr} {t : TA} (F : FnG X.prog X.w X.K X.mg X.base k f fd ps sp) (hr : Room k X.A) (gs : X.A.guards = some []) (tk : Takes X W) (hN : X.N[i]? = some x) (hv : Vis X.env.scope x) (hk : PySem.W.keepIn X.K (.ref f) = true) (hb : Binds X.K fd ps []) (ha : PA X (e :: es) t)
    (hdb : (x == ("__debug__" : Str)) = false := by decide) (hcd : (x == ("__classdict__" : Str)) = false := by decide)
    (he : starEach (e :: es) X.env = (false, eval e X.env) :: starEach es X.env := by rfl) (hpl : (backTo pos (starEach es X.env)).any (·.1) = false := by rfl) :
    PE X (.Call (.Name x p) (e :: es) [] pos) (fun σ H Q => σ[i]? = some (some (.ref f)) ∧ t σ H fun vs H1 => sp vs H1 Q (eAt W σ)) := by
  refine ⟨fun pins s σ H Q I ⟨hs, ht⟩ => wpAny_Call_Name_kw (thn ((pe_var (pos := p) hN hv hdb hcd).run pins s σ H (fun v H1 => v = .ref f ∧ H1 = H) I ⟨.ref f, hs, rfl, rfl⟩) ?_)⟩
  rintro u s1 ⟨v, H1, I1, r1, rfl, rfl⟩
  cases r1
  refine PySem.W.callWith_K (h₀ := X.base) I.ok.mod.kin hk (thn (ha.run pos pins s1 σ _ _ I1 ht) ?_) he hpl
  rintro us s2 ⟨vs, H2, I2, r, q⟩
  exact ⟨I2.kIn, runG (us := us) (vs := vs) F hr gs tk I2 (fun hl => by have := hb s2 us I2.kIn (by simpa using hl); simpa using this) r q⟩
theorem d_callV {k i : Nat} {x : Str} {e : Expr} {es : List Expr} {fa : FA} {tbl : List (Str × FF)} (hT : ∀ y m, tbl.lookup y = some m → HeldG X.prog X.w X.K X.mg X.base k (e :: es).length y m) (hr : Room k X.A) (gs : X.A.guards = some []) (tk : Takes X W) (hN : X.N[i]? = some x) (hv : Vis X.env.scope x)
    (la : ∀ ρ S d S', fa ρ S = .ok d S' → d.length = (e :: es).length) (ha : DA X W (e :: es) fa) (hdb : (x == ("__debug__" : Str)) = false := by decide) (hcd : (x == ("__classdict__" : Str)) = false := by decide)
    (he : starEach (e :: es) X.env = (false, eval e X.env) :: starEach es X.env := by rfl) (hpl : (backTo pos (starEach es X.env)).any (·.1) = false := by rfl) : DE X W (.Call (.Name x p) (e :: es) [] pos) (eCallV i tbl fa) := by
  refine ⟨fun pins s σ H Q I h => ?_⟩
  obtain ⟨B, tb, ρ, S, w, e1, q⟩ := h
  unfold eCallV at q
  split at q
  · rename_i y hy
    split at q
    · rename_i m hm
      obtain ⟨fd, ps, hl, F, hk, hb⟩ := (hT y m hm).ex
      obtain ⟨v, h1, h2⟩ := e1.2 i _ hy
      simp only [rep] at h2
      subst h2
      refine (pe_callLG F hr gs tk hN hv hk hb ha hdb hcd he hpl).run pins s σ H Q I ⟨h1, ?_⟩
      refine ⟨B, tb, ρ, S, w, e1, ?_⟩
      cases z : fa ρ S with
      | er C ns vs S1 => rw [z] at q; exact q
      | no => rw [z] at q; exact q
      | ok as S1 =>
        rw [z] at q
        have l1 := la _ _ _ _ z
        intro B1 tb1 H1 x1 w1 vs r1
        exact ⟨by rw [reps_len r1, l1, hl], B1, tb1, S1, as, w1, r1, post_F (W := W) (σ := σ) (Post.mono x1 q)⟩
    · exact q.elim
  · exact q.elim
end

/-! ### repr -/
mutual
def px : D → Option PyData
  | .non => some .none
  | .bl b => some (.bool b)
  | .int i => some (.int i)
  | .str x => some (.str x)
  | .tup ds => (pxs ds).map .tuple
  | .lst ds => (pxs ds).map .list
  | .scr ds => (pxs ds).map .list
  | .dk ks ds => (pxs ds).map fun es => .dict ((ks.map keyPy).zip es)
  | .dt ks ds => (pxs ds).map fun es => .dict ((ks.map keyData).zip es)
  | _ => none
def pxs : List D → Option (List PyData)
  | [] => some []
  | d :: ds => match px d, pxs ds with
    | some a, some r => some (a :: r)
    | _, _ => none
end
section
variable {K : PySem.W.Frag} {H B : Hp} {tb : Tb}
mutual
theorem px_ok (s : ∀ a o, B a = some o → H a = some o) : ∀ (d : D) (v : V) (e : PyData), rep K B tb d v → px d = some e → Dx K H v e
  | .non, v, e, r, q => by simp only [rep] at r; simp only [px, Option.some.injEq] at q; subst r q; exact .non
  | .bl b, v, e, r, q => by simp only [rep] at r; simp only [px, Option.some.injEq] at q; subst r q; exact .bl b
  | .int i, v, e, r, q => by simp only [rep] at r; simp only [px, Option.some.injEq] at q; subst r q; exact .int i
  | .str x, v, e, r, q => by simp only [rep] at r; simp only [px, Option.some.injEq] at q; subst r q; exact .str x
  | .tup ds, v, e, r, q => by
    simp only [rep] at r
    obtain ⟨a, vs, rfl, h1, h2⟩ := r
    simp only [px] at q
    cases z : pxs ds with
    | none => rw [z] at q; cases q
    | some es => rw [z] at q; cases q; exact .tup (SqT.ex s h1) (pxs_ok s ds vs es h2 z)
  | .lst ds, v, e, r, q => by
    simp only [rep] at r
    obtain ⟨a, vs, rfl, h1, h2⟩ := r
    simp only [px] at q
    cases z : pxs ds with
    | none => rw [z] at q; cases q
    | some es => rw [z] at q; cases q; exact .lst (SqL.of (s _ _ h1)) (pxs_ok s ds vs es h2 z)
  | .scr ds, v, e, r, q => by
    simp only [rep] at r
    obtain ⟨a, vs, rfl, h1, h2⟩ := r
    simp only [px] at q
    cases z : pxs ds with
    | none => rw [z] at q; cases q
    | some es => rw [z] at q; cases q; exact .lst (SqL.ex s h1) (pxs_ok s ds vs es h2 z)
  | .dk ks ds, v, e, r, q => by
    simp only [rep] at r
    obtain ⟨a, vs, rfl, h1, h2, h3⟩ := r
    simp only [px] at q
    cases z : pxs ds with
    | none => rw [z] at q; cases q
    | some es => rw [z] at q; cases q; exact .dk (s _ _ h1) h2 (pxs_ok s ds vs es h3 z)
  | .dt ks ds, v, e, r, q => by
    simp only [rep] at r
    obtain ⟨a, vs, rfl, h1, h2, h3⟩ := r
    simp only [px] at q
    cases z : pxs ds with
    | none => rw [z] at q; cases q
    | some es => rw [z] at q; cases q; exact .dt (s _ _ h1) h2 (pxs_ok s ds vs es h3 z)
  | .ins C ns ds, v, e, r, q => by simp only [px] at q; cases q
  | .obj k, v, e, r, q => by simp only [px] at q; cases q
  | .glo x, v, e, r, q => by simp only [px] at q; cases q
  | .ty n, v, e, r, q => by simp only [px] at q; cases q
theorem pxs_ok (s : ∀ a o, B a = some o → H a = some o) : ∀ (ds : List D) (vs : List V) (es : List PyData), reps K B tb ds vs → pxs ds = some es → DxA K H vs es
  | [], vs, es, r, q => by
    simp only [reps] at r; simp only [pxs, Option.some.injEq] at q; subst r q; exact .nil
  | d :: ds, vs, es, r, q => by
    simp only [reps] at r
    obtain ⟨v, t, rfl, h1, h2⟩ := r
    simp only [pxs] at q
    split at q
    · rename_i a r' e1 e2
      cases q
      exact .cons (px_ok s d v a h1 e1) (pxs_ok s ds t r' h2 e2)
    · cases q
end
end
def pxOf (S : Sto) : D → Option PyData
  | .obj k => match S.m[k]? with
    | some (some (.lst ds)) => px (.lst ds)
    | some (some (.dk ks ds)) => px (.dk ks ds)
    | some (some (.dt ks ds)) => px (.dt ks ds)
    | _ => none
  | d => px d
theorem pxOf_ok {K : PySem.W.Frag} {H B : Hp} {tb : Tb} {S : Sto} (w : Wd K H B tb S) {d : D} {v : V} {e : PyData} (r : rep K B tb d v) (q : pxOf S d = some e) : Dx K H v e := by
  unfold pxOf at q
  split at q
  · rename_i k
    simp only [rep] at r
    obtain ⟨a, rfl, ha⟩ := r
    split at q
    · rename_i ds hk
      obtain ⟨a', h1, _, vs, h3, h4⟩ := w.at_ k _ hk
      rw [ha] at h1; cases h1
      simp only [px] at q
      cases z : pxs ds with
      | none => rw [z] at q; cases q
      | some es => rw [z] at q; cases q; exact .lst (SqL.of h3) (pxs_ok w.sub ds vs es h4 z)
    · rename_i ks ds hk
      obtain ⟨a', h1, _, vs, h3, hl, h4⟩ := w.at_ k _ hk
      rw [ha] at h1; cases h1
      simp only [px] at q
      cases z : pxs ds with
      | none => rw [z] at q; cases q
      | some es => rw [z] at q; cases q; exact .dk h3 hl (pxs_ok w.sub ds vs es h4 z)
    · rename_i ks ds hk
      obtain ⟨a', h1, _, vs, h3, hl, h4⟩ := w.at_ k _ hk
      rw [ha] at h1; cases h1
      simp only [px] at q
      cases z : pxs ds with
      | none => rw [z] at q; cases q
      | some es => rw [z] at q; cases q; exact .dt h3 hl (pxs_ok w.sub ds vs es h4 z)
    · cases q
  · exact px_ok w.sub _ _ _ r q
def shOk (e : PyData) : Bool := e.showable && (decide (e.shown.length ≤ line) && decide (e.depth ≤ 60))
def kRepr : List D → Sto → R D := k1 fun d S => match pxOf S d with
  | some e => chk (shOk e) (.ok (.str e.shown) S)
  | none => .no
theorem fit_repr {K : PySem.W.Frag} : FitC K (rRepr K) kRepr := fit_k1 fun B tb W σ H S d v Q w r q => by
  split at q
  · rename_i e he
    obtain ⟨c, q⟩ := chk_ok q
    unfold shOk at c
    simp only [Bool.and_eq_true, decide_eq_true_eq] at c
    exact ⟨v, e, rfl, pxOf_ok w r he, c.1, by rw [line_eq]; exact c.2.1, c.2.2, q.ok w _ rep_str⟩
  · exact q.elim
end Qd
namespace Qd
open PySem L2
section
variable {P : Program} {w : World} {K : PySem.W.Frag} {mg : Str → Option Value} {base : Heap} {k n : Nat}
theorem held_nil : ∀ y m, ([] : List (Str × FF)).lookup y = some m → HeldG P w K mg base k n y m := fun _ _ h => by cases h
theorem held_cons {x : Str} {g : FF} {r : List (Str × FF)} {fd : FuncData} {ps : List Str} {j : Nat} (F : FnG P w K mg base j (He.ga K x) fd ps (SpD K ps.length g)) (hk : PySem.W.keepIn K (.ref (He.ga K x)) = true) (hb : Binds K fd ps []) (hl : ps.length = n) (hj : j ≤ k)
    (hr : ∀ y m, r.lookup y = some m → HeldG P w K mg base k n y m) : ∀ y m, ((x, g) :: r).lookup y = some m → HeldG P w K mg base k n y m := fun y m h => by
  rw [List.lookup_cons] at h
  cases q : y == x with
  | true =>
    rw [q] at h
    cases h
    have e := eq_of_beq q
    subst e
    exact ⟨fd, ps, hl, F.more hj, hk, hb⟩
  | false =>
    rw [q] at h
    exact hr y m h
end
end Qd
theorem He.SaysT.dic {fa : List He.Fa} {fn : List He.DefD} {ts : List He.Tab} {w : PySem.World} {K : PySem.W.Frag} (c : He.SaysT fa fn ts w K) (i : Nat) {t : He.Tab} (h : ts[i]? = some t) : He.dicW K (t.1 K) = some (He.keysIn w.params t.2) := by
  have e : ts.map (fun t => He.dicW K (t.1 K)) = ts.map fun t => some (He.keysIn w.params t.2) := congrArg (fun z : He.AlT => z.2) c
  have e2 : (ts.map fun t => He.dicW K (t.1 K))[i]? = (ts.map fun t => some (He.keysIn w.params t.2))[i]? := by rw [e]
  rw [List.getElem?_map, List.getElem?_map, h] at e2
  exact Option.some.inj e2

/-! Qw: a law's end over FnG -/
namespace Qd
open PySem L2 PySem.Spec PyProof.Rows

section
variable {P : Program} {w : World} {K : PySem.W.Frag} {mg mb : Str → Option Value} {k : Nat} {fa a : Addr} {fd : FuncData} {x : Str} {sp : Sp} {s₁ : Shared} {vs : List Value} {ns : List Int}
/-- the law's call over an abstract heap H that tracks the script at most -/
theorem call_over {H : Hp} (KX : K.In s₁.heap) (hns : s₁.heap.Ns mainGlobals mg) (hb : s₁.heap.Ns builtinsNs mb) (hbb : ∀ x : Str, x ≠ "__name__" → mb x = bootBuiltins x) (hlim : s₁.heap.NoLimit) (hmod : ∃ mm, s₁.heap.Ns sysModules mm) (hg : s₁.gens = #[])
    (ha : s₁.heap.get? a = some { cls := .type "list", data := .seq vs.toArray }) (hr : Room k callerA)
    (F : ∀ base : Heap, K.In base → base.Ns mainGlobals mg → SmB base → FnG P w K mg base k fa fd [x] sp) (bt : ∀ (s : Shared) (u : Value), BindsTo s fd ⟨[u], []⟩ [(x, u)])
    (hO : Only H) (hs : sp [.ref a] H (fun v _ => v = .bl true) fun _ _ _ => False) (hok : HOk P w H s₁.heap) (just : ∀ b, H b ≠ none → b = a) (notK : H a ≠ none → K.lookup a = none) :
    codeAny (model P w) callerA (.call (.ref fa) ⟨[.ref a], []⟩) (fun r s2 => r = .ok (.ret (.bool true)) ∧ OldK s₁.heap s2.heap ∧ s2.os = s₁.os ∧ AllBare s2.gens) s₁ := by
  have untold : ∀ {b : Addr} {o : Obj}, s₁.heap.get? b = some o → b ≠ a → (hidT s₁.heap H).get? b = some o := fun {b o} e n => hidT_get e (by
    cases q : H b with
    | none => rfl
    | some u => exact absurd (just b (by rw [q]; simp)) n)
  have isDict : ∀ {b : Addr} {m : Str → Option Value}, s₁.heap.Ns b m → b ≠ a := by
    rintro b m ⟨o, es, ep, e, d, _⟩ rfl
    rw [ha] at e
    cases e
    exact nomatch (show Data.seq vs.toArray _ = Data.dict es ep from d)
  have nsG : ∀ {b : Addr} {m : Str → Option Value}, s₁.heap.Ns b m → (hidT s₁.heap H).Ns b m := fun n => by
    have ne := isDict n
    obtain ⟨o, es, ep, e, d, r⟩ := n
    exact ⟨o, es, ep, untold e ne, d, r⟩
  have kG : K.In (hidT s₁.heap H) := fun b o e => hidT_get (KX b o e) (by
    cases q : H b with
    | none => rfl
    | some u =>
      have eb := just b (by rw [q]; simp)
      subst eb
      exact nomatch (notK (by rw [q]; simp)).symm.trans e)
  have sm : SmB (hidT s₁.heap H) := by
    obtain ⟨mm, n⟩ := hmod
    obtain ⟨o, es, ep, e, d, _⟩ := nsG n
    exact ⟨o, es, ep, e, d⟩
  have ground : Mod K mg (hidT s₁.heap H) := by
    obtain ⟨mc, l1, l2⟩ := hlim
    exact ⟨kG, nsG hns, ⟨mb, nsG hb, hbb⟩, mc, nsG l1, l2⟩
  have e0 : Env0 P w K mg (hidT s₁.heap H) callerA [] s₁ H := by
    refine ⟨rfl, ground, fun b o e => of_hidT e, Nat.le_of_eq (hidT_size _ _), trivial, ?_, hok, .of_eq hg⟩
    intro b hb
    exact nomatch (show b ∈ ([] : List Addr) from hb)
  have one := (F _ kG (nsG hns) sm).go callerA [] s₁ H ⟨[.ref a], []⟩ [.ref a] [.ref a] _ _ hr rfl e0 (bt s₁ (.ref a)) (.cons rfl .nil) hs
  refine codeAny_mono one ?_
  rintro (e | fl) s2 h
  · obtain ⟨_, _, _, _, _, _, _, _, _, _, _, _, z⟩ := h
    exact z.elim
  · cases fl with
    | ret u =>
      obtain ⟨v, H2, os, bare, un, hok2, rv, q⟩ := h
      have ev : v = .bl true := q
      subst ev
      have eu : u = Value.bool true := rv
      subst eu
      refine ⟨rfl, OldK.of_keep fun b o e => ?_, os, bare⟩
      rcases hO b with z | ⟨ob, xs, z⟩
      · exact un.keep b o e z (fun q => nomatch (show b ∈ ([] : List Addr) from q)) (fun q => nomatch (show b ∈ ([] : List Addr) from q))
      · have e1 := (hok b _ z).1
        have e2 := (hok2 b _ (un.frzs b ob _ z)).1
        exact e2.trans (e1.symm.trans e)
    | _ => exact h.elim
theorem law_callG (KX : K.In s₁.heap) (hns : s₁.heap.Ns mainGlobals mg) (hb : s₁.heap.Ns builtinsNs mb) (hbb : ∀ x : Str, x ≠ "__name__" → mb x = bootBuiltins x) (hlim : s₁.heap.NoLimit) (hmod : ∃ mm, s₁.heap.Ns sysModules mm) (hg : s₁.gens = #[])
    (ha : s₁.heap.get? a = some { cls := .type "list", data := .seq vs.toArray }) (hi : IntsAre vs ns) (hl : ns.length ≤ sizeLine) (hr : Room k callerA)
    (F : ∀ base : Heap, K.In base → base.Ns mainGlobals mg → SmB base → FnG P w K mg base k fa fd [x] sp) (bt : ∀ (s : Shared) (u : Value), BindsTo s fd ⟨[u], []⟩ [(x, u)])
    (hsp : ∀ H : Hp, Only H → SqL K H a (ns.map V.int) → sp [.ref a] H (fun v _ => v = .bl true) fun _ _ _ => False) :
    codeAny (model P w) callerA (.call (.ref fa) ⟨[.ref a], []⟩) (fun r s2 => r = .ok (.ret (.bool true)) ∧ OldK s₁.heap s2.heap ∧ s2.os = s₁.os ∧ AllBare s2.gens) s₁ := by
  have rv := vals_ints hi
  have hlen := hi.length
  cases hk : K.lookup a with
  | some o =>
    have eo := KX a o hk
    rw [ha] at eo
    cases eo
    have sq : SqL K (fun _ => none) a (ns.map V.int) := .inr ⟨_, vs.toArray, _, hk, rfl, rfl, rfl, by rw [List.size_toArray, hlen]; exact hl, by simpa using rv⟩
    exact call_over (H := fun _ => none) KX hns hb hbb hlim hmod hg ha hr F bt (fun _ => .inl rfl) (hsp _ (fun _ => .inl rfl) sq) (fun b u z => nomatch (show (none : Option HO) = some u from z)) (fun b z => absurd rfl z) fun z => absurd rfl z
  | none =>
    have one : ∀ b, b = a ∨ b ≠ a := fun b => by by_cases h : b = a <;> simp [h]
    obtain ⟨H, hA, hN⟩ : ∃ H : Hp, H a = some (.frz { cls := .type "list", data := .seq vs.toArray } (.lst (ns.map V.int))) ∧ ∀ b, b ≠ a → H b = none := ⟨upd (fun _ => none) a _, upd_same, fun b n => upd_ne n⟩
    have hO : Only H := fun b => (one b).elim (fun e => .inr ⟨_, _, e ▸ hA⟩) fun n => .inl (hN b n)
    refine call_over (H := H) KX hns hb hbb hlim hmod hg ha hr F bt hO (hsp _ hO (.inl (.inr ⟨_, hA⟩))) (fun b u z => ?_) (fun b z => ?_) fun _ => hk
    · rcases one b with e | n
      · subst e
        rw [hA] at z
        cases z
        exact ⟨ha, by rw [List.length_map]; exact hl, vs, _, rv, ha⟩
      · rw [hN b n] at z; cases z
    · exact (one b).elim id fun n => absurd (hN b n) z
end
/-- a law: F gives the written part, the function object, the promise over every ground -/
theorem walk_G {l : PySem.W.OpenLaw} {n k : Nat} {q : Program} {loose : List Str} {XP : (Str → Option Value) → Heap → Prop} {YP : World → Heap → Prop} {d : DefRec} {x : Str} (hn : l.most = some n) (hn2 : n ≤ sizeLine) (hdf : d.params.defaults = []) (hr : Room k callerA)
    (hq : importsNone q = true)
    (F : ∀ (w : World) (mg : Str → Option Value) (fa : Addr) (h : Heap), YP w h → h.Ns mainGlobals mg → mg d.name = some (.ref fa) →
      ∃ (K : PySem.W.Frag) (fd : FuncData) (sp : Sp), K.In h ∧ (∀ (s : Shared) (u : Value), BindsTo s fd ⟨[u], []⟩ [(x, u)]) ∧
        (∀ (H : Hp) (a : Addr) (ns : List Int), ns.length ≤ n → Only H → SqL K H a (ns.map V.int) → sp [.ref a] H (fun v _ => v = .bl true) fun _ _ _ => False) ∧
        ∀ base : Heap, K.In base → base.Ns mainGlobals mg → SmB base → FnG l.prog w K mg base k fa fd [x] sp) : PySem.W.WalkO q loose XP YP l.row.toRowW d [] (fun f vs => PySem.call f vs) :=
  Att.attach_call hn hdf fun w s₀ s₁ mg mb fa o pm cd doc a vs ns G Y ho hd hcd hmg hobj hints hlen hg => by
    obtain ⟨K, fd, sp, KX, bt, hsp, hF⟩ := F w mg fa _ Y G.T.g hmg
    obtain ⟨mm, sm, _⟩ := (G.T.seer hq).mods
    exact law_callG KX G.T.g G.T.b G.T.builtins G.T.nolimit ⟨mm, sm⟩ hg hobj hints (Nat.le_trans hlen hn2) hr hF bt fun H hO hS => hsp H a ns hlen hO hS
end Qd

/-! Qd26: a tuple of anything == () -/
namespace Qd
open PySem L2
def rEqT0 (K : PySem.W.Frag) : R2 := fun x y H Q => ∃ a b xs, x = .ref a ∧ y = .ref b ∧ SqT K H a xs ∧ SqT K H b [] ∧ Q (.bl xs.isEmpty) H
def rNeT0 (K : PySem.W.Frag) : R2 := fun x y H Q => ∃ a b xs, x = .ref a ∧ y = .ref b ∧ SqT K H a xs ∧ SqT K H b [] ∧ Q (.bl (!xs.isEmpty)) H
theorem op_eqT0 {X : Cx} (hu : X.A.units < cLine) : OpR X (compareOp .Eq) (rEqT0 X.K) := by
  intro pins s σ H x y v u Q I rx ry h
  obtain ⟨a, b, xs, rfl, rfl, ha, hb, q⟩ := h
  cases (show v = Value.ref a from rx)
  cases (show u = Value.ref b from ry)
  obtain ⟨us, r1, p1, _⟩ := I.tuple ha
  obtain ⟨ws, r2, p2, _⟩ := I.tuple hb
  cases r2
  refine PySem.SeqAt.eq_tupleAt (e := fun _ => true) p1 p2 hu (fun j h1 h2 => by simp at h2) ?_
  have l := r1.length
  have e : ((List.range (min us.toArray.size ([] : List Value).toArray.size)).all (fun _ => true) && us.toArray.size == ([] : List Value).toArray.size) = xs.isEmpty := by
    cases xs with
    | nil => cases r1; rfl
    | cons x xs => cases r1; rfl
  rw [e]
  exact ⟨.bl _, H, I, rfl, q⟩
def kEqT0 (x y : D) (S : Sto) : R D := match x, y with
  | .tup xs, .tup [] => .ok (.bl xs.isEmpty) S
  | x, y => kEq x y S
theorem reps_empty {K : PySem.W.Frag} {B : Hp} {tb : Tb} {xs : List D} {vs : List V} (h : reps K B tb xs vs) : vs.isEmpty = xs.isEmpty := by
  have := reps_len h
  cases xs <;> cases vs <;> simp at this ⊢
theorem fit_eqT0 {K : PySem.W.Frag} : Fit2 K (fun x y H Q => (rEq x y H Q ∨ rEqD K x y H Q) ∨ rEqT0 K x y H Q) kEqT0 := by
  intro B tb W σ H S x y v u Q w rx ry q
  unfold kEqT0 at q
  split at q
  · simp only [rep] at rx ry
    obtain ⟨a, vs, rfl, h1, h2⟩ := rx
    obtain ⟨b, us, rfl, h3, h4⟩ := ry
    simp only [reps] at h4; subst h4
    refine .inr ⟨a, b, vs, rfl, rfl, SqT.ex w.sub h1, SqT.ex w.sub h3, ?_⟩
    rw [reps_empty h2]
    exact q.ok w _ rep_bl
  · exact .inl (fit_eq B tb W σ H S _ _ v u Q w rx ry q)
section
variable {X : Cx} {W : WX} {a b : Expr} {f g : FE} {pos : Pos}
theorem d_eqT0 (hr : X.A.units + 64 < cLine) (ha : DE X W a f) (hb : DE X W b g) : DE X W (.Compare a [.Eq] [b] pos) (e2 kEqT0 f g) := d_cmp (OpR.or (OpR.or op_eq (op_eqD hr)) (op_eqT0 (by omega))) fit_eqT0 ha hb (nomark _)
theorem t_eqT0 (hr : X.A.units + 64 < cLine) (ha : DE X W a f) (hb : DE X W b g) : DT X W (.Compare a [.Eq] [b] pos) (tV (e2 kEqT0 f g)) := t_cmp (OpR.or (OpR.or op_eq (op_eqD hr)) (op_eqT0 (by omega))) fit_eqT0 ha hb (nomark _)
end
section
variable {S : Sto} {Q : D → Sto → Prop}
theorem W_eqT0 {xs : List D} : W (kEqT0 (.tup xs) (.tup []) S) Q = Q (.bl xs.isEmpty) S := rfl
end

/-! ### two lists put together, the new one will change -/
def kAddM (x y : D) (S : Sto) : R D := match lstOf S x, lstOf S y with
  | some a, some b => chk (decide (a.length + b.length ≤ line)) (.ok (.obj S.next) (S.push (.lst (a ++ b))))
  | _, _ => .no
theorem fit_addM {K : PySem.W.Frag} : Fit2 K (fun x y H Q => ((rI0 (fun i j => .int (i + j)) x y H Q) ∨ (∃ i j, x = .str i ∧ y = .str j ∧ i.length + j.length ≤ sizeLine ∧ Q (.str (i ++ j)) H)) ∨ (rCatA K x y H Q ∨ rCat x y H Q)) kAddM := by
  intro B tb W σ H S x y v u Q w rx ry h
  unfold kAddM at h
  split at h
  · rename_i a b ea eb
    obtain ⟨hc, h⟩ := chk_ok h
    obtain ⟨p, vs, rfl, h1, r1⟩ := lstOf_ok w ea rx
    obtain ⟨q, us, rfl, h2, r2⟩ := lstOf_ok w eb ry
    refine .inr (.inr ⟨p, q, vs, us, rfl, rfl, h1, h2, ?_, fun l hl => ?_⟩)
    · rw [reps_len r1, reps_len r2, line_eq]; exact of_decide_eq_true hc
    · obtain ⟨tb', e', w', r'⟩ := new_obj w (reps_append r1 r2) hl
      exact h B tb' _ e' w' _ r'
  · exact h.elim
theorem d_addM {X : Cx} {W : WX} {a b : Expr} {f g : FE} {pos : Pos} (ha : DE X W a f) (hb : DE X W b g) : DE X W (.BinOp a .Add b pos) (e2 kAddM f g) := d_op opr_add fit_addM ha hb
end Qd

/-! Qe1: plain data: kinds, bounds, how long its repr is, sorting of ints, == of lists of ints -/
namespace Qd
open PySem L2

/-! ### things handed in -/
mutual
def dtD : D → Bool
  | .tup ds => dtDs ds
  | .non => true
  | .bl _ => true
  | .int _ => true
  | .str _ => true
  | .lst _ => true
  | .dk _ _ => true
  | _ => false
def dtDs : List D → Bool
  | [] => true
  | d :: ds => dtD d && dtDs ds
end
theorem dtDs_iff {ds : List D} : dtDs ds = true ↔ ∀ d ∈ ds, dtD d = true := by
  induction ds with
  | nil => simp [dtDs]
  | cons d ds ih => simp [dtDs, ih]
def tyS : D → String
  | .non => "NoneType"
  | .bl _ => "bool"
  | .int _ => "int"
  | .str _ => "str"
  | .tup _ => "tuple"
  | .lst _ => "list"
  | _ => "dict"
theorem ty_dt {S : Sto} {d : D} (h : dtD d = true) : tyOf S d = some (tyS d) := by
  cases d <;> first
    | rfl
    | (simp [dtD] at h)
theorem W_isiD {S : Sto} {Q : D → Sto → Prop} {d : D} {n : String} (h : dtD d = true) : W (kIsi [d, .ty n] S) Q = (knownTy n = true ∧ Q (.bl (isaB (tyS d) n)) S) := by
  show W (match (D.ty n), tyOf S d with
    | .ty T, some a => chk (knownTy T) (.ok (.bl (isaB a T)) S)
    | .tup cs, some a => (match tysD cs with
      | some Ts => chk (Ts.all knownTy) (.ok (.bl (Ts.any (isaB a))) S)
      | none => .no)
    | _, _ => .no) Q = _
  rw [ty_dt h]
  exact W_chk
def isInt : D → Bool
  | .int _ => true
  | _ => false
def isTup : D → Bool
  | .tup _ => true
  | _ => false
def isStr : D → Bool
  | .str _ => true
  | _ => false
def isBl : D → Bool
  | .bl _ => true
  | _ => false
theorem isa_int {d : D} (h : dtD d = true) : (isaB (tyS d) "int" && !isaB (tyS d) "bool") = isInt d := by
  cases d <;> first
    | (simp only [tyS, isInt]; decide)
    | (simp [dtD] at h)
theorem isa_tup {d : D} (h : dtD d = true) : isaB (tyS d) "tuple" = isTup d := by
  cases d <;> first
    | (simp only [tyS, isTup]; decide)
    | (simp [dtD] at h)
theorem isa_str {d : D} (h : dtD d = true) : isaB (tyS d) "str" = isStr d := by
  cases d <;> first
    | (simp only [tyS, isStr]; decide)
    | (simp [dtD] at h)
theorem isa_bool {d : D} (h : dtD d = true) : isaB (tyS d) "bool" = isBl d := by
  cases d <;> first
    | (simp only [tyS, isBl]; decide)
    | (simp [dtD] at h)
def inB (d : D) (lo hi : Int) : Bool := match d with
  | .int i => decide (lo ≤ i) && decide (i ≤ hi)
  | _ => false
theorem inB_int {x : D} {lo hi : Int} (h : inB x lo hi = true) : ∃ i, x = .int i ∧ lo ≤ i ∧ i ≤ hi := by
  cases x with
  | int i => simp only [inB, Bool.and_eq_true, decide_eq_true_eq] at h; exact ⟨i, rfl, h.1, h.2⟩
  | _ => simp [inB] at h
theorem len2 {α : Type} {ds : List α} (h : ds.length = 2) : ∃ x y, ds = [x, y] := by
  match ds, h with
  | [x, y], _ => exact ⟨x, y, rfl⟩
theorem len3 {α : Type} {ds : List α} (h : ds.length = 3) : ∃ x y z, ds = [x, y, z] := by
  match ds, h with
  | [x, y, z], _ => exact ⟨x, y, z, rfl⟩
theorem len4 {α : Type} {ds : List α} (h : ds.length = 4) : ∃ x y z u, ds = [x, y, z, u] := by
  match ds, h with
  | [x, y, z, u], _ => exact ⟨x, y, z, u, rfl⟩
theorem cut_mem {ds : List D} {lo hi : Option Int} {x : D} (h : x ∈ cutD ds lo hi) : x ∈ ds := List.mem_of_mem_drop (List.mem_of_mem_take h)
theorem cut_len {ds : List D} {lo hi : Option Int} : (cutD ds lo hi).length ≤ ds.length := by
  unfold cutD
  rw [List.length_take, List.length_drop]; omega
theorem cut_map {α : Type} {f : α → D} (xs : List α) (lo hi : Option Int) : ∃ ys : List α, cutD (xs.map f) lo hi = ys.map f ∧ ys.length ≤ xs.length ∧ ∀ y ∈ ys, y ∈ xs := by
  refine ⟨(xs.drop (HT.sIx (xs.map f).length 0 lo)).take (HT.sIx (xs.map f).length (xs.map f).length hi - HT.sIx (xs.map f).length 0 lo), ?_, ?_, fun y hy => List.mem_of_mem_drop (List.mem_of_mem_take hy)⟩
  · unfold cutD
    rw [List.map_take, List.map_drop]
  · rw [List.length_take, List.length_drop]; omega
theorem cut_take {α : Type} {f : α → D} (xs : List α) (k : Nat) : cutD (xs.map f) none (some (k : Int)) = (xs.take k).map f := by
  unfold cutD
  rw [← List.map_drop, ← List.map_take]
  congr 1
  simp only [List.length_map]
  have e0 : HT.sIx xs.length 0 none = 0 := rfl
  have e1 : HT.sIx xs.length xs.length (some (k : Int)) = min k xs.length := by
    unfold HT.sIx
    simp
    try omega
  rw [e0, e1, List.drop_zero, Nat.sub_zero, List.take_eq_take_iff]
  omega
theorem cut_len2 {ds : List D} {i : Int} (h0 : 0 ≤ i) (h : i < ds.length) : (cutD ds none (some i)).length = i.toNat ∧ (cutD ds (some i) none).length = ds.length - i.toNat ∧ (cutD ds (some (i + 1)) none).length = ds.length - i.toNat - 1 := by
  obtain ⟨k, rfl⟩ := Int.eq_ofNat_of_zero_le h0
  rw [show (k : Int) + 1 = ((k + 1 : Nat) : Int) by omega]
  unfold cutD
  simp only [HT.sIx_none, HT.sIx_nat, List.length_take, List.length_drop, Int.toNat_natCast]
  omega
theorem comp_mapD {p : Pt} {tt : FT} {te : FE} {ρ : Rho} {S : Sto} (b : D → Bool) (f : D → D) (xs : List D) (acc : List D) (h : ∀ x ∈ xs, ∃ ρ1, bindP p x ρ = some ρ1 ∧ tt ρ1 S = .ok (b x) S ∧ (b x = true → te ρ1 S = .ok (f x) S)) :
    comp p tt te ρ xs S acc = .ok (acc ++ (xs.filter b).map f) S := by
  have := comp_map (p := p) (tt := tt) (te := te) (ρ := ρ) (S := S) id b f xs acc h
  rwa [List.map_id] at this
/-! ### sums -/
theorem sumI_le {c : Int} (hc : 0 ≤ c) : ∀ l : List Int, (∀ x ∈ l, x ≤ c) → l.sum ≤ c * (l.length : Int)
  | [], _ => by simp
  | x :: l, h => by
    have h1 := sumI_le hc l fun y hy => h y (List.mem_cons_of_mem _ hy)
    have h2 := h x List.mem_cons_self
    simp only [List.sum_cons, List.length_cons]
    have : c * ((l.length + 1 : Nat) : Int) = c * (l.length : Int) + c := by rw [Int.natCast_add, Int.mul_add]; simp
    omega
theorem sumI_nonneg : ∀ l : List Int, (∀ x ∈ l, 0 ≤ x) → 0 ≤ l.sum
  | [], _ => by simp
  | x :: l, h => by
    have h1 := sumI_nonneg l fun y hy => h y (List.mem_cons_of_mem _ hy)
    have h2 := h x List.mem_cons_self
    simp only [List.sum_cons]; omega

/-! ### lists that change, read -/
section
variable {S : Sto} {Q : D → Sto → Prop} {k : Nat} {ds : List D}
theorem W_lenO (h : S.m[k]? = some (some (.lst ds))) : W (kLen [.obj k] S) Q = Q (.int ds.length) S := by
  show W (match seqOf S (.obj k) with
    | some ds => .ok (.int ds.length) S
    | none => .no) Q = _
  simp only [seqOf, lstOf, h]
  rfl
theorem W_slO {lo hi : Option Int} (h : S.m[k]? = some (some (.lst ds))) : W (kSl (.obj k) lo hi S) Q = Q (.lst (cutD ds lo hi)) S := by
  show W (match lstOf S (.obj k) with
    | some ds => .ok (.lst (cutD ds lo hi)) S
    | none => .no) Q = _
  simp only [lstOf, h]
  rfl
theorem W_tupO (h : S.m[k]? = some (some (.lst ds))) : W (kTuple [.obj k] S) Q = Q (.tup ds) S := by
  show W (match lsOf S (.obj k) with
    | some ds => .ok (.tup ds) S
    | none => .no) Q = _
  simp only [lsOf, lstOf, h]
  rfl
theorem W_addM {a b : List D} : W (kAddM (.lst a) (.lst b) S) Q = (a.length + b.length ≤ line ∧ Q (.obj S.next) (S.push (.lst (a ++ b)))) := by
  show W (chk _ _) Q = _
  rw [W_chk, decide_eq_true_eq]; rfl
end

/-! ### sorting of ints -/
theorem leD_int (i j : Int) : leD (.int i) (.int j) = decide (i ≤ j) := by
  unfold leD
  rw [PySem.W.dataLe_eq]
  simp only [cond_false, pyD, py, Option.getD_some]
  exact not_dlt i j
def srtI (ns : List Int) : List Int := ns.mergeSort fun a b => decide (a ≤ b)
theorem sort_int (ns : List Int) : (ns.map D.int).mergeSort leD = (srtI ns).map .int :=
  (List.map_mergeSort fun a _ b _ => (leD_int a b).symm).symm
theorem sortOk_int (ns : List Int) : sortOkB (ns.map .int) = true := by
  unfold sortOkB allAlikeB
  simp only [Bool.and_eq_true, Bool.or_eq_true, List.all_eq_true, List.mem_map, forall_exists_index, and_imp, forall_apply_eq_imp_iff₂, decide_eq_true_eq]
  exact ⟨⟨fun a _ b _ => rfl, .inr fun a _ => rfl⟩, fun a _ => Nat.zero_le _⟩
section
variable {S : Sto} {Q : D → Sto → Prop}
theorem W_sortI {ns : List Int} : W (kSorted [.lst (ns.map .int)] S) Q = Q (.lst ((srtI ns).map .int)) S := by
  show W (match pys (ns.map .int) with
    | some es => chk (sortOkB es) (.ok (.lst ((ns.map D.int).mergeSort leD)) S)
    | none => .no) Q = _
  rw [pys_ints]
  simp only
  rw [W_chk, sortOk_int, sort_int]
  simp [W]
theorem W_sortSet {ns : List Int} : W (kSortSet [.lst (ns.map .int)] S) Q = (ns.length < 64 ∧ Q (.lst ((srt ns).map .int)) S) := by
  show W (match (some (ns.map D.int)).bind intsD with
    | some ns => chk (decide (ns.length < 64)) (.ok (.lst ((srt ns).map .int)) S)
    | none => .no) Q = _
  simp only [Option.bind_some, intsD_map]
  rw [W_chk, decide_eq_true_eq]; rfl
/-! ### == of lists of ints -/
theorem eqv_ints : ∀ (a b : List Int), PyData.eqv (.list (a.map .int)) (.list (b.map .int)) = decide (a = b)
  | [], [] => by simp [PyData.eqv, PyData.eqvAll]
  | [], _ :: _ => by simp [PyData.eqv, PyData.eqvAll]
  | _ :: _, [] => by simp [PyData.eqv, PyData.eqvAll]
  | x :: a, y :: b => by
    have ih := eqv_ints a b
    simp only [PyData.eqv, List.map_cons, PyData.eqvAll] at ih ⊢
    rw [ih]
    by_cases e : x = y <;> by_cases e2 : a = b <;> simp [e, e2]
theorem canLay_ints (ns : List Int) : PyData.canLayAll0 (ns.map .int) = true := by
  induction ns with
  | nil => rfl
  | cons n ns ih => simp only [List.map_cons, PyData.canLayAll0, ih]; rfl
theorem shaped_ints (ns : List Int) : SeqAt.shaped (.list (ns.map .int)) = true := by
  unfold SeqAt.shaped
  simp only [PyData.canLay0, PyData.depth, canLay_ints, depth_ints]
  rfl
theorem W_eqIL {a b : List Int} : W (kEq (.lst (a.map .int)) (.lst (b.map .int)) S) Q = Q (.bl (decide (a = b))) S := by
  unfold kEq
  rw [kEqB_ns fun z h => by cases h]
  simp only [pyOf, py, pys_ints, Option.map_some]
  rw [W_chk, shaped_ints, shaped_ints, eqv_ints]
  simp [W]
theorem W_eqB {a b : Bool} : W (kEq (.bl a) (.bl b) S) Q = Q (.bl (decide (a = b))) S := by
  unfold kEq
  rw [kEqB_ns fun z h => by cases h]
  show W (chk true _) Q = _
  cases a <;> cases b <;> rfl
end
theorem sorted_iff {ns : List Int} : ns = srtI ns ↔ ns.Pairwise (· ≤ ·) := by
  refine ⟨fun h => ?_, fun h => ?_⟩
  · rw [h]
    exact (List.pairwise_mergeSort (le := fun a b : Int => decide (a ≤ b)) (fun a b c h1 h2 => by simp at *; omega) (fun a b => by simp; omega) ns).imp fun q => by simpa using q
  · exact (List.mergeSort_of_pairwise (le := fun a b : Int => decide (a ≤ b)) (h.imp fun q => by simpa using q)).symm
theorem rising_iff {ns : List Int} : ns = srt ns ↔ ns.Pairwise (· < ·) := by
  refine ⟨fun h => ?_, fun h => ?_⟩
  · rw [h]; exact srt_rising ns
  · exact rising_eq h (srt_rising ns) fun k => srt_mem.symm

/-! ### how long a repr is -/
def Shw (n k : Nat) (d : D) : Prop := ∃ e, px d = some e ∧ e.showable = true ∧ e.shown.length ≤ n ∧ e.depth ≤ k
theorem Shw.mono {n n' k k' : Nat} {d : D} (h : Shw n k d) (hn : n ≤ n') (hk : k ≤ k') : Shw n' k' d := by
  obtain ⟨e, h1, h2, h3, h4⟩ := h
  exact ⟨e, h1, h2, Nat.le_trans h3 hn, Nat.le_trans h4 hk⟩
theorem shw_non : Shw 4 0 .non := ⟨_, rfl, rfl, by decide, Nat.le_refl _⟩
theorem shw_bl {b : Bool} : Shw 5 0 (.bl b) := ⟨_, rfl, rfl, by cases b <;> decide, Nat.le_refl _⟩
theorem shw_int {i : Int} (h : i.natAbs < 10 ^ 41) : Shw 42 0 (.int i) := by
  refine ⟨.int i, rfl, ?_, ?_, Nat.le_refl _⟩
  · show decide (i.natAbs.log2 < 1920) = true
    rw [decide_eq_true_eq]
    by_cases h0 : i.natAbs = 0
    · rw [h0]; decide
    · exact (Nat.log2_lt h0).mpr (Nat.lt_trans h (by decide))
  · show (Str.ofString (toString i)).length ≤ 42
    rw [ofString_length]
    exact int_text_length_le10 (k := 41) (by decide) h
theorem shw_str {x : Str} {n : Nat} (h : (reprText x).length ≤ n) : Shw n 0 (.str x) := ⟨.str x, rfl, rfl, h, Nat.le_refl _⟩
theorem piled_le {n : Nat} : ∀ ts : List Str, (∀ t ∈ ts, t.length ≤ n) → piled ts ≤ (n + 2) * ts.length
  | [], _ => by simp [piled]
  | t :: ts, h => by
    have h1 := piled_le ts fun u hu => h u (List.mem_cons_of_mem _ hu)
    have h2 := h t List.mem_cons_self
    rw [piled_cons, List.length_cons, Nat.mul_succ]; omega
theorem join_le (ts : List Str) : (Str.join ", " ts).length ≤ piled ts := by
  by_cases h : ts = []
  · subst h; exact Nat.zero_le _
  · have := join_length_add ts h; omega
theorem tupleText_le (ts : List Str) : (tupleText ts).length ≤ piled ts + 3 := by
  unfold tupleText
  rw [strLen_append, strLen_append]
  have e1 : ((("(" : String) : Str)).length = 1 := rfl
  have e3 : (((if ts.length == 1 then ",)" else ")" : String) : Str)).length ≤ 2 := by split <;> decide
  have := join_le ts
  rw [e1]; omega
theorem textFrom_le : ∀ (ts : List Str) (k : Nat) (acc : Str), (textFrom k acc ts).length ≤ acc.length + piled ts
  | [], k, acc => by show acc.length ≤ _; omega
  | t :: r, k, acc => by
    have h1 := textFrom_le r (k + 1) (acc ++ (if k > 0 then ", " else "" : String) ++ t)
    have e : (acc ++ (if k > 0 then ", " else "" : String) ++ t).length = acc.length + (if k > 0 then 2 else 0) + t.length := by
      rw [strLen_append, strLen_append]
      split <;> rfl
    rw [e] at h1
    have e5 : (if k > 0 then 2 else 0) ≤ 2 := by split <;> omega
    show (textFrom (k + 1) _ r).length ≤ _
    rw [piled_cons]
    omega
theorem listText_le (ts : List Str) : (listText ts).length ≤ piled ts + 3 := by
  unfold listText
  rw [strLen_append]
  have h1 := textFrom_le ts 0 "["
  have e1 : ((("[" : String) : Str)).length = 1 := rfl
  have e2 : ((("]" : String) : Str)).length = 1 := rfl
  rw [e1] at h1
  rw [e2]; omega
theorem dictText_le (ts : List Str) : (dictText ts).length ≤ piled ts + 3 := by
  unfold dictText
  rw [strLen_append, strLen_append]
  have e1 : ((("{" : String) : Str)).length = 1 := rfl
  have e3 : ((("}" : String) : Str)).length = 1 := rfl
  have := join_le ts
  rw [e1, e3]; omega
theorem shw_all {n k : Nat} : ∀ {ds : List D}, (∀ d ∈ ds, Shw n k d) → ∃ es, pxs ds = some es ∧ PyData.showableAll es = true ∧ (PyData.shownAll es).length = ds.length ∧ (∀ t ∈ PyData.shownAll es, t.length ≤ n) ∧ PyData.depthAll es ≤ k
  | [], _ => ⟨[], rfl, rfl, rfl, fun t h => by simp [PyData.shownAll] at h, Nat.zero_le _⟩
  | d :: ds, h => by
    obtain ⟨e, h1, h2, h3, h4⟩ := h d List.mem_cons_self
    obtain ⟨es, g1, g2, g3, g4, g5⟩ := shw_all fun x hx => h x (List.mem_cons_of_mem _ hx)
    refine ⟨e :: es, by simp only [pxs, h1, g1], by simp only [PyData.showableAll, h2, g2, Bool.and_self], by simp [PyData.shownAll, g3], fun t ht => ?_, ?_⟩
    · simp only [PyData.shownAll, List.mem_cons] at ht
      rcases ht with rfl | ht
      · exact h3
      · exact g4 t ht
    · simp only [PyData.depthAll]; omega
theorem shw_tup {n k : Nat} {ds : List D} (h : ∀ d ∈ ds, Shw n k d) : Shw ((n + 2) * ds.length + 3) (k + 1) (.tup ds) := by
  obtain ⟨es, g1, g2, g3, g4, g5⟩ := shw_all h
  refine ⟨.tuple es, by simp only [px, g1]; rfl, by simpa only [PyData.showable] using g2, ?_, by simp only [PyData.depth]; omega⟩
  have := piled_le _ g4
  have := tupleText_le (PyData.shownAll es)
  simp only [PyData.shown]
  rw [g3] at *
  omega
theorem shw_lst {n k : Nat} {ds : List D} (h : ∀ d ∈ ds, Shw n k d) : Shw ((n + 2) * ds.length + 3) (k + 1) (.lst ds) := by
  obtain ⟨es, g1, g2, g3, g4, g5⟩ := shw_all h
  refine ⟨.list es, by simp only [px, g1]; rfl, by simpa only [PyData.showable] using g2, ?_, by simp only [PyData.depth]; omega⟩
  have := piled_le _ g4
  have := listText_le (PyData.shownAll es)
  simp only [PyData.shown]
  rw [g3] at *
  omega
theorem shw_dk0 : Shw 2 1 (.dk [] []) := ⟨.dict [], rfl, rfl, by decide, by decide⟩
theorem shw_dk1 {x : Str} {d : D} {n k : Nat} (h : Shw n k d) : Shw ((reprText x).length + n + 7) (k + 1) (.dk [.inr x] [d]) := by
  obtain ⟨e, h1, h2, h3, h4⟩ := h
  refine ⟨PyData.dict [(PyData.str x, e)], by simp only [px, pxs, h1]; rfl, ?_, ?_, ?_⟩
  · simp only [PyData.showable, PyData.showableKv, h2]; rfl
  · simp only [PyData.shown, PyData.shownKv]
    have := dictText_le [reprText x ++ (": " : Str) ++ e.shown]
    have e1 : (((": " : String) : Str)).length = 2 := rfl
    have e2 : piled [reprText x ++ (": " : Str) ++ e.shown] = (reprText x).length + 2 + e.shown.length + 2 := by
      rw [piled_cons, strLen_append, strLen_append, e1]; simp [piled]
    rw [e2] at this
    exact Nat.le_trans this (by omega)
  · simp only [PyData.depth, PyData.depthKv]
    omega
theorem W_repr {S : Sto} {Q : D → Sto → Prop} {d : D} {n k : Nat} (h : Shw n k d) (hn : n ≤ line) (hk : k ≤ 60) (ho : ∀ j, d ≠ .obj j) (q : ∀ x : Str, kRepr [d] S = .ok (D.str x) S → Q (D.str x) S) : W (kRepr [d] S) Q := by
  obtain ⟨e, h1, h2, h3, h4⟩ := h
  have ep : pxOf S d = some e := by
    cases d with
    | obj j => exact absurd rfl (ho j)
    | _ => exact h1
  have e0 : kRepr [d] S = .ok (D.str e.shown) S := by
    show (match pxOf S d with
      | some e => chk (shOk e) (.ok (D.str e.shown) S)
      | none => .no) = _
    rw [ep]
    simp only
    unfold chk shOk
    rw [if_pos]
    simp only [Bool.and_eq_true, decide_eq_true_eq]
    exact ⟨h2, by omega, by omega⟩
  exact W_eq e0 (q _ e0)
/-- what repr tells of data hangs on no store -/
theorem repr_same {S S' : Sto} {d : D} {x : Str} (ho : ∀ j, d ≠ .obj j) (h : kRepr [d] S = .ok (D.str x) S) : kRepr [d] S' = .ok (D.str x) S' := by
  have ep : ∀ S, pxOf S d = px d := fun S => by
    cases d with
    | obj j => exact absurd rfl (ho j)
    | _ => rfl
  have e1 : ∀ S, kRepr [d] S = (match px d with
      | some e => chk (shOk e) (.ok (D.str e.shown) S)
      | none => .no) := fun S => by
    show (match pxOf S d with
      | some e => chk (shOk e) (.ok (D.str e.shown) S)
      | none => .no) = _
    rw [ep]
  rw [e1] at h ⊢
  cases z : px d with
  | none => rw [z] at h; cases h
  | some e =>
    rw [z] at h
    simp only at h ⊢
    unfold chk at h ⊢
    split at h
    · rename_i c
      rw [if_pos c]
      cases h; rfl
    · cases h
end Qd


/-! Qd27: min(xs) of a list of data that are alike (tuples of ints, ..) -/
namespace Qd
open PySem L2 PySem.W


def atB (es : List PyData) : Nat := argBest (fun i j => PySem.W.dataLt (es.getD i .none) (es.getD j .none)) (es.length - 1)
def rMinD (K : PySem.W.Frag) : List V → Hp → VK → Prop := fun vs H Q => ∃ (a : Addr) (xs : List V) (es : List PyData), vs = [.ref a] ∧ SqL K H a xs ∧ DpAll K H xs es ∧ AlikeAll es ∧ es ≠ [] ∧ PyData.depthAll es ≤ 60 ∧
  ∀ v, xs[atB es]? = some v → Q v H
def atM (es : List PyData) : Nat := argBest (fun i j => PySem.W.dataLt (es.getD j .none) (es.getD i .none)) (es.length - 1)
def rMaxD (K : PySem.W.Frag) : List V → Hp → VK → Prop := fun vs H Q => ∃ (a : Addr) (xs : List V) (es : List PyData), vs = [.ref a] ∧ SqL K H a xs ∧ DpAll K H xs es ∧ AlikeAll es ∧ es ≠ [] ∧ PyData.depthAll es ≤ 60 ∧
  ∀ v, xs[atM es]? = some v → Q v H
theorem vals_at : ∀ {xs : List V} {us : List Value} {i : Nat} {u : Value}, Vals xs us → us[i]? = some u → ∃ x, xs[i]? = some x ∧ RelV x u
  | _, _, _, _, .nil, h => by simp at h
  | _, _, 0, _, .cons r _, h => ⟨_, rfl, by cases h; exact r⟩
  | _, _, i + 1, _, .cons _ rs, h => vals_at (i := i) rs (by simpa using h)
theorem cr_minD {X : Cx} (hc : X.calm = true) (hu : X.A.units + 64 < cLine) : CallR X (.builtin "min") (rMinD X.K) := by
  intro pins s σ H vs us Q I r h
  obtain ⟨a, xs, es, rfl, hs, hd, hal, hne, hdp, q⟩ := h
  obtain ⟨its, rv, hl, hz⟩ := I.list hs
  obtain ⟨u, rfl, ru⟩ := Vals.one r
  obtain rfl : u = Value.ref a := ru
  obtain ⟨as, hr⟩ := Dp.readsAll I es xs its hd rv
  have hlen := dpAll_len hd
  have hle := rv.length
  have h0 : 0 < es.length := List.length_pos_iff.mpr hne
  refine call_min_walkH (iter_listW (A := X.A.in1) (I.ok.hd hc) hl.isList fun s₂ e W st hfp hw hk => ?_)
  refine ⟨_, _, _, _, _, _, _, s.heap, _, rfl, W, st, hfp, by simp; omega, hw, hk, cmpIn_lt (A := X.A.in1) (by simpa using hr) hal (by show X.A.units + 1 + _ < _; omega), fun v s' hP m => ?_⟩
  obtain ⟨h', tk, rfl, hk'⟩ := moved_old e rfl m
  have e1 : its.toArray.size - 1 = es.length - 1 := by simp; omega
  rw [e1] at hP
  have hP' : its[atB es]? = some v := by simpa [atB] using hP
  obtain ⟨x, hx, rx⟩ := vals_at rv hP'
  exact ⟨x, H, I.kept hk', rx, q x hx⟩
theorem cr_maxD {X : Cx} (hc : X.calm = true) (hu : X.A.units + 64 < cLine) : CallR X (.builtin "max") (rMaxD X.K) := by
  intro pins s σ H vs us Q I r h
  obtain ⟨a, xs, es, rfl, hs, hd, hal, hne, hdp, q⟩ := h
  obtain ⟨its, rv, hl, hz⟩ := I.list hs
  obtain ⟨u, rfl, ru⟩ := Vals.one r
  obtain rfl : u = Value.ref a := ru
  obtain ⟨as, hr⟩ := Dp.readsAll I es xs its hd rv
  have hlen := dpAll_len hd
  have hle := rv.length
  have h0 : 0 < es.length := List.length_pos_iff.mpr hne
  refine call_max_walkH (iter_listW (A := X.A.in1) (I.ok.hd hc) hl.isList fun s₂ e W st hfp hw hk => ?_)
  refine ⟨_, _, _, _, _, _, _, s.heap, _, rfl, W, st, hfp, by simp; omega, hw, hk, cmpIn_gt (A := X.A.in1) (by simpa using hr) hal (by show X.A.units + 1 + _ < _; omega), fun v s' hP m => ?_⟩
  obtain ⟨h', tk, rfl, hk'⟩ := moved_old e rfl m
  have e1 : its.toArray.size - 1 = es.length - 1 := by simp; omega
  rw [e1] at hP
  have hP' : its[atM es]? = some v := by simpa [atM] using hP
  obtain ⟨x, hx, rx⟩ := vals_at rv hP'
  exact ⟨x, H, I.kept hk', rx, q x hx⟩
def minOkB (es : List PyData) : Bool := !es.isEmpty && (allAlikeB es && (es.all (fun e => match e with | .none => false | _ => true) && decide (PyData.depthAll es ≤ 60)))
def kMinD : List D → Sto → R D := k1 fun d S => match lsOf S d with
  | some ds => (match pys ds with
    | some es => chk (minOkB es) (match ds[atB es]? with
      | some x => .ok x S
      | none => .no)
    | none => .no)
  | none => .no
def kMaxD : List D → Sto → R D := k1 fun d S => match lsOf S d with
  | some ds => (match pys ds with
    | some es => chk (minOkB es) (match ds[atM es]? with
      | some x => .ok x S
      | none => .no)
    | none => .no)
  | none => .no
theorem minOk {es : List PyData} (h : minOkB es = true) : AlikeAll es ∧ es ≠ [] ∧ PyData.depthAll es ≤ 60 := by
  unfold minOkB at h
  simp only [Bool.and_eq_true, decide_eq_true_eq] at h
  refine ⟨⟨fun x hx y hy => ?_, fun x hx e => ?_⟩, fun e => ?_, h.2.2.2⟩
  · exact List.all_eq_true.mp (List.all_eq_true.mp h.2.1 x hx) y hy
  · have := List.all_eq_true.mp h.2.2.1 x hx
    rw [e] at this; cases this
  · rw [e] at h; cases h.1
theorem fit_minD {K : PySem.W.Frag} : FitC K (rMinD K) kMinD := fit_k1 fun B tb W σ H S d v Q w r q => by
  split at q
  · rename_i ds e
    split at q
    · rename_i es e2
      obtain ⟨c, q⟩ := chk_ok q
      obtain ⟨p, vs, rfl, h1, r1⟩ := lsOf_ok w e r
      obtain ⟨m1, m2, m3⟩ := minOk c
      refine ⟨p, vs, es, rfl, h1, pys_ok w.sub ds vs es r1 e2, m1, m2, m3, fun v hv => ?_⟩
      obtain ⟨x, hx, rx⟩ := reps_get' r1 hv
      rw [hx] at q
      exact q.ok w _ rx
    · exact q.elim
  · exact q.elim

theorem fit_maxD {K : PySem.W.Frag} : FitC K (rMaxD K) kMaxD := fit_k1 fun B tb W σ H S d v Q w r q => by
  split at q
  · rename_i ds e
    split at q
    · rename_i es e2
      obtain ⟨c, q⟩ := chk_ok q
      obtain ⟨p, vs, rfl, h1, r1⟩ := lsOf_ok w e r
      obtain ⟨m1, m2, m3⟩ := minOk c
      refine ⟨p, vs, es, rfl, h1, pys_ok w.sub ds vs es r1 e2, m1, m2, m3, fun v hv => ?_⟩
      obtain ⟨x, hx, rx⟩ := reps_get' r1 hv
      rw [hx] at q
      exact q.ok w _ rx
    · exact q.elim
  · exact q.elim

/-! ### of pairs -/
def encP (r : Int × Int) : D := .tup [.int r.1, .int r.2]
theorem pys_encP (xs : List (Int × Int)) : pys (xs.map encP) = some (xs.map fun r => .tuple [.int r.1, .int r.2]) := by
  induction xs with
  | nil => simp only [List.map_nil, pys]
  | cons x l ih =>
    have e : py (encP x) = some (.tuple [.int x.1, .int x.2]) := by unfold encP; simp only [py, pys]; rfl
    simp only [List.map_cons, pys, e, ih]
theorem alike_P (a b : Int × Int) : alike (.tuple [.int a.1, .int a.2]) (.tuple [.int b.1, .int b.2]) = true := by
  have := alike_ints [a.1, a.2] [b.1, b.2]
  simp only [alike]
  exact this
theorem lt_P (a b : Int × Int) : PySem.W.dataLt (.tuple [.int a.1, .int a.2]) (.tuple [.int b.1, .int b.2]) = HT.lexLt [a.1, a.2] [b.1, b.2] := by
  rw [PySem.W.dataLt_tuple]
  exact lex_ints [a.1, a.2] [b.1, b.2]
theorem argB_le {bt : Nat → Nat → Bool} {f : Nat → Int} {n : Nat} (h1 : ∀ i j, i ≤ n → j ≤ n → bt i j = true → f i ≤ f j) (h2 : ∀ i j, i ≤ n → j ≤ n → bt i j = false → f j ≤ f i) : ∀ k, k ≤ n → argBest bt k ≤ k ∧ ∀ j, j ≤ k → f (argBest bt k) ≤ f j
  | 0, _ => ⟨Nat.le_refl _, fun j hj => by cases Nat.le_zero.mp hj; exact Int.le_refl _⟩
  | k + 1, hk => by
    obtain ⟨i1, i2⟩ := argB_le h1 h2 k (by omega)
    unfold argBest
    cases e : bt (k + 1) (argBest bt k) with
    | true =>
      rw [if_pos rfl]
      refine ⟨Nat.le_refl _, fun j hj => ?_⟩
      have := h1 _ _ hk (by omega) e
      rcases Nat.lt_or_ge k j with q | q
      · have : j = k + 1 := by omega
        subst this; exact Int.le_refl _
      · have := i2 j q; omega
    | false =>
      rw [if_neg (by decide)]
      refine ⟨by omega, fun j hj => ?_⟩
      have := h2 _ _ hk (by omega) e
      rcases Nat.lt_or_ge k j with q | q
      · have : j = k + 1 := by omega
        subst this; exact this
      · exact i2 j q
theorem lexLt_fst {a b c d : Int} : (HT.lexLt [a, b] [c, d] = true → a ≤ c) ∧ (HT.lexLt [a, b] [c, d] = false → c ≤ a) := by
  rw [HT.lexLt_cons]
  by_cases e : a = c
  · rw [if_pos e]; exact ⟨fun _ => by omega, fun _ => by omega⟩
  · rw [if_neg e]
    exact ⟨fun h => by have := of_decide_eq_true h; omega, fun h => by have := of_decide_eq_false h; omega⟩
theorem depth_P (xs : List (Int × Int)) : PyData.depthAll (xs.map fun r => .tuple [.int r.1, .int r.2]) ≤ 60 := by
  have : PyData.depthAll (xs.map fun r => .tuple [.int r.1, .int r.2]) ≤ 1 := by
    induction xs with
    | nil => exact Nat.zero_le _
    | cons x l ih =>
      simp only [List.map_cons, PyData.depthAll, PyData.depth]
      omega
  omega
theorem W_minP {S : Sto} {Q : D → Sto → Prop} {xs : List (Int × Int)} (hne : xs ≠ []) (q : ∀ x ∈ xs, (∀ y ∈ xs, x.1 ≤ y.1) → Q (.tup [.int x.1, .int x.2]) S) : W (kMinD [.lst (xs.map encP)] S) Q := by
  show W (match pys (xs.map encP) with
    | some es => chk (minOkB es) (match (xs.map encP)[atB es]? with
      | some x => .ok x S
      | none => .no)
    | none => .no) Q
  rw [pys_encP]
  simp only
  have hl : 0 < xs.length := List.length_pos_iff.mpr hne
  have eg : ∀ i, i < xs.length → (xs.map fun r => PyData.tuple [.int r.1, .int r.2]).getD i .none = .tuple [.int (xs.getD i (0, 0)).1, .int (xs.getD i (0, 0)).2] := fun i hi => by simp [hi]
  have key := argB_le (bt := fun i j => PySem.W.dataLt ((xs.map fun r => PyData.tuple [.int r.1, .int r.2]).getD i .none) ((xs.map fun r => PyData.tuple [.int r.1, .int r.2]).getD j .none))
    (f := fun i => (xs.getD i (0, 0)).1) (n := xs.length - 1) (fun i j hi hj h => by
      rw [eg i (by omega), eg j (by omega), lt_P] at h
      exact lexLt_fst.1 h) (fun i j hi hj h => by
      rw [eg i (by omega), eg j (by omega), lt_P] at h
      exact lexLt_fst.2 h) (xs.length - 1) (Nat.le_refl _)
  have ea : atB (xs.map fun r => PyData.tuple [.int r.1, .int r.2]) = argBest (fun i j => PySem.W.dataLt ((xs.map fun r => PyData.tuple [.int r.1, .int r.2]).getD i .none) ((xs.map fun r => PyData.tuple [.int r.1, .int r.2]).getD j .none)) (xs.length - 1) := by
    unfold atB; rw [List.length_map]
  rw [← ea] at key
  have hi : atB (xs.map fun r => PyData.tuple [.int r.1, .int r.2]) < xs.length := by omega
  rw [W_chk]
  refine ⟨?_, ?_⟩
  · unfold minOkB
    simp only [Bool.and_eq_true, decide_eq_true_eq]
    refine ⟨?_, ?_, ?_, depth_P xs⟩
    · cases xs with
      | nil => exact absurd rfl hne
      | cons _ _ => rfl
    · unfold allAlikeB
      simp only [List.all_eq_true, List.mem_map, forall_exists_index, and_imp, forall_apply_eq_imp_iff₂]
      exact fun a _ b _ => alike_P a b
    · simp only [List.all_eq_true, List.mem_map, forall_exists_index, and_imp, forall_apply_eq_imp_iff₂]
      intro a _
      trivial
  · rw [List.getElem?_map, List.getElem?_eq_getElem hi]
    refine q _ (List.getElem_mem hi) fun y hy => ?_
    obtain ⟨j, hj, rfl⟩ := List.getElem_of_mem hy
    have := key.2 j (by omega)
    simpa [hi, hj] using this
theorem W_maxP {S : Sto} {Q : D → Sto → Prop} {xs : List (Int × Int)} (hne : xs ≠ []) (q : ∀ x ∈ xs, (∀ y ∈ xs, y.1 ≤ x.1) → Q (.tup [.int x.1, .int x.2]) S) : W (kMaxD [.lst (xs.map encP)] S) Q := by
  show W (match pys (xs.map encP) with
    | some es => chk (minOkB es) (match (xs.map encP)[atM es]? with
      | some x => .ok x S
      | none => .no)
    | none => .no) Q
  rw [pys_encP]
  simp only
  have hl : 0 < xs.length := List.length_pos_iff.mpr hne
  have eg : ∀ i, i < xs.length → (xs.map fun r => PyData.tuple [.int r.1, .int r.2]).getD i .none = .tuple [.int (xs.getD i (0, 0)).1, .int (xs.getD i (0, 0)).2] := fun i hi => by simp [hi]
  have key := argB_le (bt := fun i j => PySem.W.dataLt ((xs.map fun r => PyData.tuple [.int r.1, .int r.2]).getD j .none) ((xs.map fun r => PyData.tuple [.int r.1, .int r.2]).getD i .none))
    (f := fun i => -(xs.getD i (0, 0)).1) (n := xs.length - 1) (fun i j hi hj h => by
      rw [eg i (by omega), eg j (by omega), lt_P] at h
      have := lexLt_fst.1 h
      omega) (fun i j hi hj h => by
      rw [eg i (by omega), eg j (by omega), lt_P] at h
      have := lexLt_fst.2 h
      omega) (xs.length - 1) (Nat.le_refl _)
  have ea : atM (xs.map fun r => PyData.tuple [.int r.1, .int r.2]) = argBest (fun i j => PySem.W.dataLt ((xs.map fun r => PyData.tuple [.int r.1, .int r.2]).getD j .none) ((xs.map fun r => PyData.tuple [.int r.1, .int r.2]).getD i .none)) (xs.length - 1) := by
    unfold atM; rw [List.length_map]
  rw [← ea] at key
  have hi : atM (xs.map fun r => PyData.tuple [.int r.1, .int r.2]) < xs.length := by omega
  rw [W_chk]
  refine ⟨?_, ?_⟩
  · unfold minOkB
    simp only [Bool.and_eq_true, decide_eq_true_eq]
    refine ⟨?_, ?_, ?_, depth_P xs⟩
    · cases xs with
      | nil => exact absurd rfl hne
      | cons _ _ => rfl
    · unfold allAlikeB
      simp only [List.all_eq_true, List.mem_map, forall_exists_index, and_imp, forall_apply_eq_imp_iff₂]
      exact fun a _ b _ => alike_P a b
    · simp only [List.all_eq_true, List.mem_map, forall_exists_index, and_imp, forall_apply_eq_imp_iff₂]
      intro a _
      trivial
  · rw [List.getElem?_map, List.getElem?_eq_getElem hi]
    refine q _ (List.getElem_mem hi) fun y hy => ?_
    obtain ⟨j, hj, rfl⟩ := List.getElem_of_mem hy
    have := key.2 j (by omega)
    simp [hi, hj] at this; omega
end Qd

namespace Qd
/-! Gr: plain sums over dealings: what a dealing that takes some rows first uses of them -/
def sumF {α : Type} (l : List α) (f : α → Int) : Int := (l.map f).sum
section
variable {α β : Type}
theorem sumF_nil {f : α → Int} : sumF [] f = 0 := rfl
theorem sumF_cons {f : α → Int} {x : α} {l : List α} : sumF (x :: l) f = f x + sumF l f := by simp [sumF]
theorem sumF_app {f : α → Int} {a b : List α} : sumF (a ++ b) f = sumF a f + sumF b f := by simp [sumF]
theorem sumF_add (l : List α) (f g : α → Int) : sumF l (fun x => f x + g x) = sumF l f + sumF l g := by
  induction l with
  | nil => rfl
  | cons x l ih => simp only [sumF_cons, ih]; omega
theorem sumF_sub (l : List α) (f g : α → Int) : sumF l (fun x => f x - g x) = sumF l f - sumF l g := by
  induction l with
  | nil => rfl
  | cons x l ih => simp only [sumF_cons, ih]; omega
theorem sumF_congr {l : List α} {f g : α → Int} (h : ∀ x ∈ l, f x = g x) : sumF l f = sumF l g := by
  induction l with
  | nil => rfl
  | cons x l ih => simp only [sumF_cons, ih fun y hy => h y (List.mem_cons_of_mem _ hy), h x List.mem_cons_self]
theorem sumF_le {l : List α} {f g : α → Int} (h : ∀ x ∈ l, f x ≤ g x) : sumF l f ≤ sumF l g := by
  induction l with
  | nil => exact Int.le_refl _
  | cons x l ih => simp only [sumF_cons]; have := ih fun y hy => h y (List.mem_cons_of_mem _ hy); have := h x List.mem_cons_self; omega
theorem sumF_zero {l : List α} {f : α → Int} (h : ∀ x ∈ l, f x = 0) : sumF l f = 0 := by
  induction l with
  | nil => rfl
  | cons x l ih => simp only [sumF_cons, ih fun y hy => h y (List.mem_cons_of_mem _ hy), h x List.mem_cons_self]; rfl
theorem sumF_nonneg {l : List α} {f : α → Int} (h : ∀ x ∈ l, 0 ≤ f x) : 0 ≤ sumF l f := by
  have := sumF_le (l := l) (f := fun _ => 0) (g := f) h
  rwa [sumF_zero fun _ _ => rfl] at this
theorem sumF_swap (l : List α) (m : List β) (f : α → β → Int) : sumF l (fun x => sumF m (f x)) = sumF m (fun y => sumF l (fun x => f x y)) := by
  induction l with
  | nil => simp only [sumF_nil]; exact (sumF_zero fun _ _ => rfl).symm
  | cons x l ih => simp only [sumF_cons, ih, sumF_add]
theorem sumF_filter (l : List α) (p : α → Bool) (f : α → Int) : ((l.filter p).map f).sum = sumF l (fun x => if p x then f x else 0) := by
  induction l with
  | nil => rfl
  | cons x l ih =>
    simp only [sumF_cons, ← ih]
    cases h : p x <;> simp [List.filter_cons, h]
theorem sumF_map {l : List α} {g : α → β} {f : β → Int} : sumF (l.map g) f = sumF l (fun x => f (g x)) := by simp [sumF, Function.comp_def]
theorem sumF_pick {ks : List Nat} (nd : ks.Nodup) (i : Nat) (c : Int) : sumF ks (fun k => if i = k then c else 0) = if i ∈ ks then c else 0 := by
  induction ks with
  | nil => rfl
  | cons k ks ih =>
    rw [List.nodup_cons] at nd
    rw [sumF_cons, ih nd.2]
    by_cases e : i = k
    · subst e; simp [nd.1]
    · simp [e]
theorem getD_range (xs : List α) (d : α) : (List.range xs.length).map (fun k => xs.getD k d) = xs := by
  apply List.ext_getElem (by simp)
  intro i h1 h2
  simp [h2]
theorem sumF_getD (xs : List α) (d : α) (f : α → Int) : sumF (List.range xs.length) (fun k => f (xs.getD k d)) = sumF xs f := by
  conv => rhs; rw [← getD_range xs d, sumF_map]
theorem sumF_take (xs : List α) (d : α) (f : α → Int) (n : Nat) : sumF (xs.take n) f = sumF (List.range xs.length) (fun k => if k < n then f (xs.getD k d) else 0) := by
  induction xs generalizing n with
  | nil => simp [sumF]
  | cons x xs ih =>
    rw [List.length_cons, List.range_succ_eq_map, sumF_cons, sumF_map]
    cases n with
    | zero => simp [sumF_nil]; exact (sumF_zero fun _ _ => by simp).symm
    | succ n =>
      rw [List.take_succ_cons, sumF_cons, ih n]
      simp
end

structure Dl (sent : List (Int × Int × Int)) (came : List (Int × Int)) (deal : List (Int × Int × Int)) : Prop where
  key : ∀ p ∈ deal, ∃ b k : Nat, p.1 = b ∧ p.2.1 = k ∧ b < came.length ∧ k < sent.length ∧ 1 ≤ p.2.2 ∧ (sent.getD k (0, 0, 0)).1 ≤ (came.getD b (0, 0)).1
  free : ∀ k : Nat, k < sent.length → ((deal.filter fun p => decide (p.2.1 = (k : Int))).map fun p => p.2.2).sum ≤ (sent.getD k (0, 0, 0)).2.1
  back : ∀ b : Nat, b < came.length → ((deal.filter fun p => decide (p.1 = (b : Int))).map fun p => p.2.2).sum = (came.getD b (0, 0)).2
  day : came.Pairwise fun a b => a.1 ≤ b.1
  cap : ∀ r ∈ sent, 0 ≤ r.2.1
/-- of the rows that a test takes: how many they tell, and how many of them a dealing uses -/
def gcap (sent : List (Int × Int × Int)) (g : Int × Int × Int → Bool) : Int := sumF sent fun r => if g r then r.2.1 else 0
def rowK (sent : List (Int × Int × Int)) (p : Int × Int × Int) : Int × Int × Int := sent.getD p.2.1.toNat (0, 0, 0)
def used (sent deal : List (Int × Int × Int)) (g : Int × Int × Int → Bool) : Int := sumF deal fun p => if g (rowK sent p) then p.2.2 else 0
def allB (came : List (Int × Int)) : Int := sumF came fun r => r.2
def uptoB (came : List (Int × Int)) (b : Nat) : Int := sumF (came.take b) fun r => r.2
section
variable {sent deal : List (Int × Int × Int)} {came : List (Int × Int)} {g : Int × Int × Int → Bool}
theorem Dl.pos (h : Dl sent came deal) {p : Int × Int × Int} (hp : p ∈ deal) : 0 ≤ p.2.2 := by
  obtain ⟨b, k, _, _, _, _, h1, _⟩ := h.key p hp; omega
theorem Dl.mono (h : Dl sent came deal) {b c : Nat} (hbc : b ≤ c) (hc : c < came.length) : (came.getD b (0, 0)).1 ≤ (came.getD c (0, 0)).1 := by
  by_cases e : b = c
  · subst e; exact Int.le_refl _
  · have hb : b < came.length := by omega
    have := List.pairwise_iff_getElem.mp h.day b c hb hc (by omega)
    simpa [List.getD_eq_getElem?_getD, hb, hc] using this
/-- what the backs of a range take -/
theorem Dl.upto (h : Dl sent came deal) (n : Nat) : sumF deal (fun p => if p.1 < (n : Int) then p.2.2 else 0) = uptoB came n := by
  unfold uptoB
  rw [sumF_take came (0, 0)]
  have e1 : ∀ b ∈ List.range came.length, (if b < n then (came.getD b (0, 0)).2 else 0) = sumF deal (fun p => if p.1.toNat = b then (if p.1 < (n : Int) then p.2.2 else 0) else 0) := fun b hb => by
    rw [List.mem_range] at hb
    rw [← h.back b hb, sumF_filter]
    by_cases hn : b < n
    · rw [if_pos hn]
      apply sumF_congr
      intro p hp
      obtain ⟨b', k, e1, e2, h1, h2, h3, h4⟩ := h.key p hp
      rw [e1]
      simp only [decide_eq_true_eq, Int.toNat_natCast]
      by_cases z : b' = b
      · subst z; rw [if_pos rfl, if_pos rfl, if_pos (by omega)]
      · rw [if_neg (by omega), if_neg z]
    · rw [if_neg hn]
      symm
      apply sumF_zero
      intro p hp
      obtain ⟨b', k, e1, e2, h1, h2, h3, h4⟩ := h.key p hp
      rw [e1]
      simp only [Int.toNat_natCast]
      by_cases z : b' = b
      · subst z; rw [if_pos rfl, if_neg (by omega)]
      · rw [if_neg z]
  rw [sumF_congr e1, ← sumF_swap]
  apply sumF_congr
  intro p hp
  obtain ⟨b', k, e1, e2, h1, h2, h3, h4⟩ := h.key p hp
  rw [sumF_pick List.nodup_range]
  symm
  exact if_pos (by rw [e1]; simpa using h1)
theorem uptoB_len (came : List (Int × Int)) : uptoB came came.length = allB came := by unfold uptoB allB; rw [List.take_length]
theorem Dl.all (h : Dl sent came deal) : sumF deal (fun p => p.2.2) = allB came := by
  rw [← uptoB_len, ← h.upto]
  apply sumF_congr
  intro p hp
  obtain ⟨b', k, e1, e2, h1, h2, h3, h4⟩ := h.key p hp
  rw [if_pos (by omega)]
theorem used_compl (h : Dl sent came deal) (g : Int × Int × Int → Bool) : used sent deal g + used sent deal (fun r => !g r) = allB came := by
  rw [← h.all]
  unfold used
  rw [← sumF_add]
  apply sumF_congr
  intro p hp
  cases e : g (rowK sent p) <;> simp [e]
theorem used_nonneg (h : Dl sent came deal) (g : Int × Int × Int → Bool) : 0 ≤ used sent deal g := sumF_nonneg fun p hp => by
  have := h.pos hp
  split <;> omega
/-- by rows: a test on parts -/
theorem byRows (h : Dl sent came deal) (q : Int × Int × Int → Bool) (g : Int × Int × Int → Bool) : sumF deal (fun p => if q p && g (rowK sent p) then p.2.2 else 0) =
    sumF (List.range sent.length) (fun k => if g (sent.getD k (0, 0, 0)) then sumF deal (fun p => if q p && decide (p.2.1 = (k : Int)) then p.2.2 else 0) else 0) := by
  have e1 : ∀ k ∈ List.range sent.length, (if g (sent.getD k (0, 0, 0)) then sumF deal (fun p => if q p && decide (p.2.1 = (k : Int)) then p.2.2 else 0) else 0) =
      sumF deal (fun p => if p.2.1.toNat = k then (if q p && g (rowK sent p) then p.2.2 else 0) else 0) := fun k hk => by
    by_cases hg : g (sent.getD k (0, 0, 0)) = true
    · rw [if_pos hg]
      apply sumF_congr
      intro p hp
      obtain ⟨b', k', e1, e2, h1, h2, h3, h4⟩ := h.key p hp
      simp only [e2, rowK, Int.toNat_natCast]
      by_cases z : k' = k
      · subst z; simp only [hg, decide_true]; rw [if_pos trivial]
      · rw [if_neg (by simp; omega), if_neg z]
    · rw [if_neg hg]
      symm
      apply sumF_zero
      intro p hp
      obtain ⟨b', k', e1, e2, h1, h2, h3, h4⟩ := h.key p hp
      simp only [e2, rowK, Int.toNat_natCast]
      by_cases z : k' = k
      · subst z; rw [if_pos rfl, if_neg (by simp only [Bool.and_eq_true]; exact fun z => hg z.2)]
      · rw [if_neg z]
  rw [sumF_congr e1, ← sumF_swap]
  apply sumF_congr
  intro p hp
  obtain ⟨b', k, e1, e2, h1, h2, h3, h4⟩ := h.key p hp
  rw [sumF_pick List.nodup_range]
  symm
  exact if_pos (by rw [e2]; simpa using h2)
theorem gcap_ks (sent : List (Int × Int × Int)) (g : Int × Int × Int → Bool) : gcap sent g = sumF (List.range sent.length) (fun k => if g (sent.getD k (0, 0, 0)) then (sent.getD k (0, 0, 0)).2.1 else 0) :=
  (sumF_getD sent (0, 0, 0) fun r => if g r then r.2.1 else 0).symm
theorem part_le (h : Dl sent came deal) (q : Int × Int × Int → Bool) {k : Nat} (hk : k < sent.length) : sumF deal (fun p => if q p && decide (p.2.1 = (k : Int)) then p.2.2 else 0) ≤ (sent.getD k (0, 0, 0)).2.1 := by
  refine Int.le_trans ?_ (h.free k hk)
  rw [sumF_filter]
  apply sumF_le
  intro p hp
  have := h.pos hp
  cases q p <;> simp
  split <;> omega
theorem cap_nonneg (h : Dl sent came deal) {k : Nat} (hk : k < sent.length) : 0 ≤ (sent.getD k (0, 0, 0)).2.1 := by
  rw [List.getD_eq_getElem?_getD, List.getElem?_eq_getElem hk]
  exact h.cap _ (List.getElem_mem hk)
/-- of a test's rows, up to a back, no more than went out by then -/
theorem upto_le (h : Dl sent came deal) (g : Int × Int × Int → Bool) {b : Nat} (hb : b < came.length) : sumF deal (fun p => if decide (p.1 < ((b + 1 : Nat) : Int)) && g (rowK sent p) then p.2.2 else 0) ≤ gcap sent (fun r => g r && decide (r.1 ≤ (came.getD b (0, 0)).1)) := by
  rw [byRows h, gcap_ks]
  apply sumF_le
  intro k hk
  rw [List.mem_range] at hk
  cases hg : g (sent.getD k (0, 0, 0)) with
  | false => simp
  | true =>
    rw [if_pos rfl]
    by_cases hd : (sent.getD k (0, 0, 0)).1 ≤ (came.getD b (0, 0)).1
    · rw [if_pos (by rw [Bool.true_and, decide_eq_true_eq]; exact hd)]
      exact part_le h _ hk
    · rw [if_neg (by rw [Bool.true_and, decide_eq_true_eq]; exact hd), sumF_zero fun p hp => ?_]
      · exact Int.le_refl _
      · obtain ⟨b', k', e1, e2, h1, h2, h3, h4⟩ := h.key p hp
        rw [if_neg]
        simp only [e1, e2, Bool.and_eq_true, decide_eq_true_eq, not_and]
        intro q1 q2
        have := h.mono (b := b') (c := b) (by omega) hb
        have : k' = k := by omega
        subst this
        omega
theorem used_split (h : Dl sent came deal) (g : Int × Int × Int → Bool) (n : Nat) : used sent deal g = sumF deal (fun p => if decide (p.1 < (n : Int)) && g (rowK sent p) then p.2.2 else 0) + sumF deal (fun p => if !decide (p.1 < (n : Int)) && g (rowK sent p) then p.2.2 else 0) := by
  unfold used
  rw [← sumF_add]
  apply sumF_congr
  intro p hp
  cases g (rowK sent p) <;> cases decide (p.1 < (n : Int)) <;> simp
theorem behind (h : Dl sent came deal) (n : Nat) : sumF deal (fun p => if !decide (p.1 < (n : Int)) then p.2.2 else 0) = allB came - uptoB came n := by
  rw [← h.all, ← h.upto, ← sumF_sub]
  apply sumF_congr
  intro p hp
  by_cases e : p.1 < (n : Int) <;> simp [e]
/-- no dealing uses more of a test's rows -/
theorem used_le_all (h : Dl sent came deal) (g : Int × Int × Int → Bool) : used sent deal g ≤ allB came := by
  have := used_compl h g
  have := used_nonneg h (fun r => !g r)
  omega
theorem used_le (h : Dl sent came deal) (g : Int × Int × Int → Bool) {b : Nat} (hb : b < came.length) : used sent deal g ≤ gcap sent (fun r => g r && decide (r.1 ≤ (came.getD b (0, 0)).1)) + (allB came - uptoB came (b + 1)) := by
  rw [used_split h g (b + 1), ← behind h (b + 1)]
  have h1 := upto_le h g hb
  have h2 : sumF deal (fun p => if !decide (p.1 < ((b + 1 : Nat) : Int)) && g (rowK sent p) then p.2.2 else 0) ≤ sumF deal (fun p => if !decide (p.1 < ((b + 1 : Nat) : Int)) then p.2.2 else 0) := sumF_le fun p hp => by
    have := h.pos hp
    cases decide (p.1 < ((b + 1 : Nat) : Int)) <;> cases g (rowK sent p) <;> simp <;> omega
  omega
theorem used_le_cap (h : Dl sent came deal) (g : Int × Int × Int → Bool) : used sent deal g ≤ gcap sent g := by
  have := byRows h (fun _ => true) g
  simp only [Bool.true_and] at this
  unfold used
  rw [this, gcap_ks]
  apply sumF_le
  intro k hk
  rw [List.mem_range] at hk
  split
  · have := part_le h (fun _ => true) hk
    simpa only [Bool.true_and] using this
  · exact Int.le_refl _
/-- a dealing that takes a test's rows first -/
def First (sent : List (Int × Int × Int)) (came : List (Int × Int)) (deal : List (Int × Int × Int)) (g : Int × Int × Int → Bool) : Prop :=
  ∀ p ∈ deal, g (rowK sent p) = false → ∀ k : Nat, k < sent.length → g (sent.getD k (0, 0, 0)) = true → (sent.getD k (0, 0, 0)).1 ≤ (came.getD p.1.toNat (0, 0)).1 →
    (sent.getD k (0, 0, 0)).2.1 ≤ ((deal.filter fun q => decide (q.1 ≤ p.1) && decide (q.2.1 = (k : Int))).map fun q => q.2.2).sum
theorem last_of {α : Type} (f : α → Nat) (P : α → Prop) : ∀ (l : List α), (∃ x ∈ l, P x) → ∃ x ∈ l, P x ∧ ∀ y ∈ l, P y → f y ≤ f x
  | [], h => by obtain ⟨x, hx, _⟩ := h; cases hx
  | z :: l, h => by
    by_cases q : ∃ x ∈ l, P x
    · obtain ⟨x, hx, px, hm⟩ := last_of f P l q
      by_cases pz : P z ∧ f x ≤ f z
      · refine ⟨z, List.mem_cons_self, pz.1, fun y hy py => ?_⟩
        rcases List.mem_cons.mp hy with rfl | hy
        · exact Nat.le_refl _
        · exact Nat.le_trans (hm y hy py) pz.2
      · refine ⟨x, List.mem_cons_of_mem _ hx, px, fun y hy py => ?_⟩
        rcases List.mem_cons.mp hy with rfl | hy
        · exact Nat.le_of_lt (Nat.lt_of_not_le fun z => pz ⟨py, z⟩)
        · exact hm y hy py
    · obtain ⟨x, hx, px⟩ := h
      rcases List.mem_cons.mp hx with rfl | hx
      · refine ⟨x, List.mem_cons_self, px, fun y hy py => ?_⟩
        rcases List.mem_cons.mp hy with rfl | hy
        · exact Nat.le_refl _
        · exact absurd ⟨y, hy, py⟩ q
      · exact absurd ⟨x, hx, px⟩ q
theorem used_first (h : Dl sent came deal) (f : First sent came deal g) : used sent deal g = allB came ∨ ∃ b, b < came.length ∧ used sent deal g = gcap sent (fun r => g r && decide (r.1 ≤ (came.getD b (0, 0)).1)) + (allB came - uptoB came (b + 1)) ∧
    ∃ k, k < sent.length ∧ g (sent.getD k (0, 0, 0)) = false ∧ (sent.getD k (0, 0, 0)).1 ≤ (came.getD b (0, 0)).1 := by
  by_cases q : ∃ p ∈ deal, g (rowK sent p) = false
  · right
    obtain ⟨p, hp, gp, hm⟩ := last_of (fun p : Int × Int × Int => p.1.toNat) (fun p => g (rowK sent p) = false) deal q
    obtain ⟨b, k, e1, e2, h1, h2, h3, h4⟩ := h.key p hp
    refine ⟨b, h1, Int.le_antisymm (used_le h g h1) ?_, k, h2, by rwa [rowK, e2, Int.toNat_natCast] at gp, h4⟩
    rw [used_split h g (b + 1), ← behind h (b + 1)]
    have hA : gcap sent (fun r => g r && decide (r.1 ≤ (came.getD b (0, 0)).1)) ≤ sumF deal (fun p => if decide (p.1 < ((b + 1 : Nat) : Int)) && g (rowK sent p) then p.2.2 else 0) := by
      rw [byRows h, gcap_ks]
      apply sumF_le
      intro j hj
      rw [List.mem_range] at hj
      cases hg : g (sent.getD j (0, 0, 0)) with
      | false => simp
      | true =>
        rw [if_pos rfl]
        by_cases hd : (sent.getD j (0, 0, 0)).1 ≤ (came.getD b (0, 0)).1
        · rw [if_pos (by rw [Bool.true_and, decide_eq_true_eq]; exact hd)]
          have := f p hp gp j hj hg (by rw [e1, Int.toNat_natCast]; exact hd)
          rw [sumF_filter] at this
          refine Int.le_trans this (sumF_le fun x hx => ?_)
          have e : decide (x.1 ≤ p.1) = decide (x.1 < ((b + 1 : Nat) : Int)) := by
            rw [e1, decide_eq_decide]; omega
          rw [e]; exact Int.le_refl _
        · rw [if_neg (by rw [Bool.true_and, decide_eq_true_eq]; exact hd)]
          exact sumF_nonneg fun x hx => by
            have := h.pos hx
            split <;> omega
    have hB : sumF deal (fun p => if !decide (p.1 < ((b + 1 : Nat) : Int)) then p.2.2 else 0) ≤ sumF deal (fun p => if !decide (p.1 < ((b + 1 : Nat) : Int)) && g (rowK sent p) then p.2.2 else 0) := sumF_le fun x hx => by
      have hpx := h.pos hx
      cases hg : g (rowK sent x) with
      | true => simp
      | false =>
        have := hm x hx hg
        obtain ⟨b', k', e1', e2', h1', h2', h3', h4'⟩ := h.key x hx
        rw [e1, e1', Int.toNat_natCast, Int.toNat_natCast] at this
        have e : decide (x.1 < ((b + 1 : Nat) : Int)) = true := by rw [e1', decide_eq_true_eq]; omega
        rw [e]; simp
    omega
  · left
    rw [← h.all]
    apply sumF_congr
    intro p hp
    rw [if_pos]
    cases e : g (rowK sent p) with
    | true => rfl
    | false => exact absurd ⟨p, hp, e⟩ q
/-- what is left of a test's rows -/
theorem left_used (h : Dl sent came deal) (g : Int × Int × Int → Bool) : sumF (List.range sent.length) (fun k => if g (sent.getD k (0, 0, 0)) then (sent.getD k (0, 0, 0)).2.1 - ((deal.filter fun p => decide (p.2.1 = (k : Int))).map fun p => p.2.2).sum else 0) = gcap sent g - used sent deal g := by
  have := byRows h (fun _ => true) g
  simp only [Bool.true_and] at this
  unfold used
  rw [this, gcap_ks, ← sumF_sub]
  apply sumF_congr
  intro k hk
  rw [sumF_filter]
  split <;> simp
end
end Qd

/-! Qz: zip(a, b, strict=True), where both are equally long. (Text by text after the library's own proof of zip(a, b).) -/
namespace PySem
open Sem (wp)
section
variable {prog : Program} {w : World} {A : Around} {E : Value → Shared → Prop} {s : Shared}
theorem callTypeK_meets {T newId initId : String} {Bn Bi : Builtin} {args : List Value} {kw : List (Str × Value)} {S : Spec} {Q Q₁ : Value → Shared → Prop} (ft : TypeCalled T newId initId)
    (hct : checkTypeCall T ⟨args, kw⟩ = pure ()) (hcn : checkBuiltinCall newId ⟨.type T :: args, kw⟩ = pure ())
    (entryN : entryFor table newId = some Bn) (entryI : entryFor table initId = some Bi) (g : Meets (Bn ⟨.type T :: args, kw⟩) S)
    (h : S A.in1 (wants Q₁ E) s)
    (hnext : ∀ obj s₁, Q₁ obj s₁ → s₁.TypeIs obj T ∧ argsOk initId ⟨obj :: args, kw⟩ ∧ ∃ Si, Meets (Bi ⟨obj :: args, kw⟩) Si ∧ Si A.in1 (wants (fun r s₂ => r = .none ∧ Q obj s₂) E) s₁) :
    wpAny (model prog w) A (call (.type T) args kw) Q E s := by
  obtain ⟨c, tl, hmro⟩ := ft.mro
  have hmade := ft.made
  have hsub := ft.sub
  refine wpAny_call (codeAny_of_tree ?_)
  show wpAny _ _ (callAny (.type T) _) _ _ _
  refine wpAny_pure ⟨Code.quiet_builtin _ (by decide +kernel), codeAny_builtin F.entry_type_call ?_⟩
  rw [Around.under_plain (weight_type_call_type T args kw) (units_type_call_type T args kw)]
  have h1 := ft.notType
  have h2 := ft.canCreate
  repeat (any_goals (first | assumption | wp_step))

  refine codeAny_mono (codeAny_call_builtin ft.plain entryN (wpAny_of_eq hcn (g prog w A.in1 _ s h))) fun r s₁ hr => ?_
  cases r with
  | error e => exact hr
  | ok fl =>
    cases fl with
    | ret obj =>
      obtain ⟨hT, hok, Si, gi, hsi⟩ := hnext _ _ hr
      have hli := ft.init.lookup
      have hbi := ft.init.bind obj
      repeat (any_goals (first | assumption | wp_step))

      refine codeAny_mono (codeAny_call_builtin ft.init.plain entryI (ft.init.check _ _ _ _ _ _ _ _ hT hok (gi prog w A.in1 _ s₁ hsi))) fun r₂ s₂ hr₂ => ?_
      cases r₂ with
      | error e => exact hr₂
      | ok fl₂ =>
        cases fl₂ with
        | ret r =>
          obtain ⟨rfl, hq⟩ := hr₂
          repeat (any_goals (first | assumption | wp_step))
        | _ => exact hr₂.elim
    | _ => exact hr.elim

end
theorem object_init_meetsK {T newId : String} {self : Value} {rest : List Value} {kw : List (Str × Value)} (hl : typeLookup (.type T) "__init__" = pure (some (.builtin "object.__init__")))
    (hm : Bind.madeBy (.type T) = pure (some newId)) (hne : (some newId != some "object.__new__") = true) :
    Meets (Builtin.«object.__init__» ⟨self :: rest, kw⟩) (fun _ R s => s.TypeIs self T ∧ R (.ok (.ret .none)) s) := by
  refine Meets.of_wp fun prog w A R s hs => ?_
  obtain ⟨hT, hq⟩ := hs
  cases rest with
  | nil =>
    cases kw with
    | nil => exact wpAny_pure ⟨_, rfl, hq⟩
    | cons a rest =>
      repeat (any_goals (first | assumption | wp_step))
      exact ⟨_, rfl, hq⟩
  | cons a rest =>
    repeat (any_goals (first | assumption | wp_step))
    exact ⟨_, rfl, hq⟩
/-! ### a zip that is strict -/
abbrev IsZipS (h : Heap) (z TI TO : Addr) (f0 : Value) : Prop :=
  h.get? z = some { cls := .type "zip", dict := none, data := .fields #[f0, .bool false, .bool true, .ref TI, .ref TO], slots := #[] }
section
variable {prog : Program} {w : World} {A : Around} {E : Value → Shared → Prop} {s : Shared} {z TI TO i1 i2 : Addr} {fp1 fp2 : List Addr} {n1 n2 i : Nat} {P1 P2 : Nat → Value → Prop} {St1 St2 : Nat → Heap → Prop} {a1 a2 : Value}
theorem nextOrEnd_item {it : Addr} {fp : List Addr} {n k : Nat} {P : Nat → Value → Prop} {St : Nat → Heap → Prop} {Q : Option Value → Shared → Prop} (D : Draws prog w A it fp n P St) (hlt : k < n) (st : St k s.heap)
    (hQ : ∀ x h' tk, P k x → St (k + 1) h' → Heap.SameBut it s.heap h' → Q (some x) { s with heap := h', toks := tk }) : wpAny (model prog w) A (Builtin.SmallTypes.nextOrEnd (.ref it)) Q E s := by
  unfold Builtin.SmallTypes.nextOrEnd
  exact wpAny_bind (wpAny_attempt (D.item k s _ _ hlt st fun x h' tk hx st' hs => wpAny_pure (hQ x h' tk hx st' hs)))
theorem nextOrEnd_done {it : Addr} {fp : List Addr} {n : Nat} {P : Nat → Value → Prop} {St : Nat → Heap → Prop} {Q : Option Value → Shared → Prop} (D : Draws prog w A it fp n P St) (st : St n s.heap)
    (hQ : ∀ h', Heap.ExtBut it s.heap h' → Q none { s with heap := h' }) : wpAny (model prog w) A (Builtin.SmallTypes.nextOrEnd (.ref it)) Q E s := by
  unfold Builtin.SmallTypes.nextOrEnd
  refine wpAny_bind (wpAny_attempt (D.done s _ _ st fun h' e hs he => ?_))
  obtain ⟨o, ho, hc⟩ := he
  refine wpAny_bind (wpAny_isInstance (T := "StopIteration") (b := true) ⟨o, ho, hc⟩ isSubtype_stop ?_)
  exact wpAny_pure (hQ _ hs)
theorem zipS2_next_item {Q : Value → Shared → Prop} (S : ZipSep2 z TI TO i1 i2 fp1 fp2) (D1 : Draws prog w A i1 fp1 n1 P1 St1) (D2 : Draws prog w A i2 fp2 n2 P2 St2)
    (hz : IsZipS s.heap z TI TO .none) (hTI : IsTupOf2 s.heap TI (.ref i1) (.ref i2)) (hTO : IsTupOf2 s.heap TO a1 a2) (st1 : St1 i s.heap) (st2 : St2 i s.heap) (hlt1 : i < n1) (hlt2 : i < n2)
    (hQ : ∀ x1 x2 h' tk, P1 i x1 → P2 i x2 → IsZipS h' z TI TO (rawInt s.heap.objs.size) → IsTupOf2 h' TO x1 x2 → St1 (i + 1) h' → St2 (i + 1) h' → IsTupOf2 h' s.heap.objs.size x1 x2 → h'.objs.size = s.heap.objs.size + 1 →
      (∀ c o, c ≠ z → c ≠ TO → c ≠ i1 → c ≠ i2 → s.heap.get? c = some o → h'.get? c = some o) → Q (.ref s.heap.objs.size) { s with heap := h', toks := tk }) :
    wpAny (model prog w) A (Builtin.«zip.__next__» ⟨[.ref z], []⟩) (fun fin s' => ∃ v, fin = .done (.ret v) ∧ Q v s') E s := by
  obtain ⟨hp, g, d, tk0, os⟩ := s
  show wpAny _ _ (field (.ref z) 2 >>= _) _ _ _
  refine wpAny_bind (wpAny_field hz rfl (x := .bool true) rfl ?_)
  show wpAny _ _ (field (.ref z) 3 >>= _) _ _ _
  refine wpAny_bind (wpAny_field hz rfl (x := .ref TI) rfl ?_)
  refine wpAny_bind (wpAny_seqItems hTI rfl ?_)
  show wpAny _ _ (Builtin.SmallTypes.ownedTupleIsFree (.ref z) >>= _) _ _ _
  refine wpAny_bind ?_
  unfold Builtin.SmallTypes.ownedTupleIsFree
  refine wpAny_bind (wpAny_field hz rfl (x := .none) rfl (wpAny_pure ?_))
  simp only [if_true]
  refine wpAny_bind (wpAny_rule ?_)
  refine wpAny_bind (wpAny_field hz rfl (x := .ref TO) rfl ?_)
  refine wpAny_bind (wpAny_setField_rec hz (by simp) fun g0 hz0 hs0 => ?_)
  replace hz0 : IsZipS g0 z TI TO .ellipsis := hz0
  replace hs0 : Heap.SameBut z hp g0 := hs0
  refine wpAny_bind ?_
  simp only [List.zipIdx_cons, List.zipIdx_nil, List.forIn_cons, List.forIn_nil]
  refine wpAny_bind (wpAny_bind (wpAny_onRaise ?_))
  show wpAny _ _ (Builtin.SmallTypes.nextOrEnd (.ref i1)) _ _ ⟨g0, g, d, tk0, os⟩
  refine nextOrEnd_item D1 hlt1 (D1.over st1 hs0 S.zf1) fun x1 p1 tk1 hx1 sn1 hp1 => ?_
  replace hp1 : Heap.SameBut i1 g0 p1 := hp1
  have hU1 : IsTupOf2 p1 TO a1 a2 := hp1.extBut _ _ S.Ti1 (hs0.extBut _ _ S.TOz hTO)
  refine wpAny_bind (wpAny_seqItems (s := ⟨p1, g, d, tk1, os⟩) hU1 rfl ?_)
  refine wpAny_bind (updateSeq_IsTupOf2 (s := ⟨p1, g, d, tk1, os⟩) hU1 fun g1 hT1 hs1 => ?_)
  replace hT1 : IsTupOf2 g1 TO x1 a2 := hT1
  replace hs1 : Heap.SameBut TO p1 g1 := hs1
  refine wpAny_bind (wpAny_letGo (wpAny_pure ?_))
  refine wpAny_bind (wpAny_bind (wpAny_onRaise ?_))
  show wpAny _ _ (Builtin.SmallTypes.nextOrEnd (.ref i2)) _ _ ⟨g1, g, d, tk1, os⟩
  refine nextOrEnd_item D2 hlt2 (D2.over (D2.over (D2.over st2 hs0 S.zf2) hp1 S.sep1_2) hs1 S.Tf2) fun x2 p2 tk2 hx2 sn2 hp2 => ?_
  replace hp2 : Heap.SameBut i2 g1 p2 := hp2
  have hU2 : IsTupOf2 p2 TO x1 a2 := hp2.extBut _ _ S.Ti2 hT1
  refine wpAny_bind (wpAny_seqItems (s := ⟨p2, g, d, tk2, os⟩) hU2 rfl ?_)
  refine wpAny_bind (updateSeq_IsTupOf2 (s := ⟨p2, g, d, tk2, os⟩) hU2 fun g2 hT2 hs2 => ?_)
  replace hT2 : IsTupOf2 g2 TO x1 x2 := hT2
  replace hs2 : Heap.SameBut TO p2 g2 := hs2
  refine wpAny_bind (wpAny_letGo (wpAny_pure (wpAny_pure ?_)))
  refine wpAny_bind (wpAny_seqItems (s := ⟨g2, g, d, tk2, os⟩) hT2 rfl ?_)
  refine wpAny_bind (wpAny_newTuple ?_)
  have hsz : g2.objs.size = hp.objs.size := by rw [hs2.1, hp2.1, hs1.1, hp1.1, hs0.1]
  have hzz : IsZipS g2 z TI TO .ellipsis := (hs2.extBut _ _ S.TOz.symm (hp2.extBut _ _ S.zi2 (hs1.extBut _ _ S.TOz.symm (hp1.extBut _ _ S.zi1 hz0))))
  have hkk : ∀ c o, c ≠ z → c ≠ TO → c ≠ i1 → c ≠ i2 → hp.get? c = some o → g2.get? c = some o := fun c o cz cT c1 c2 e =>
    (hs2.extBut _ _ cT (hp2.extBut _ _ c2 (hs1.extBut _ _ cT (hp1.extBut _ _ c1 (hs0.extBut _ _ cz e)))))
  have hj1 : St1 (i + 1) g2 := (D1.over (D1.over (D1.over sn1 hs1 S.Tf1) hp2 S.sep2_1) hs2 S.Tf1)
  have hj2 : St2 (i + 1) g2 := (D2.over sn2 hs2 S.Tf2)
  have hzlt : z < g2.objs.size := Heap.lt_size hzz
  show wpAny _ _ (Builtin.SmallTypes.ownedTupleHandOut (.ref z) (.ref g2.objs.size) >>= _) _ _ ⟨g2.push { cls := .type "tuple", data := .seq #[x1, x2] }, g, d, tk2, os⟩
  refine wpAny_bind ?_
  unfold Builtin.SmallTypes.ownedTupleHandOut
  have hz₆ : IsZipS (g2.push { cls := .type "tuple", data := .seq #[x1, x2] }) z TI TO .ellipsis := Heap.get?_push_of_some _ hzz
  refine wpAny_bind (wpAny_setField_rec hz₆ (by simp) fun h₇ hz₇ hs₇ => ?_)
  replace hz₇ : IsZipS h₇ z TI TO (rawInt g2.objs.size) := hz₇
  refine wpAny_setField_rec hz₇ (by simp) fun h₈ hz₈ hs₈ => ?_
  replace hz₈ : IsZipS h₈ z TI TO (rawInt g2.objs.size) := hz₈
  replace hs₇ : Heap.SameBut z (g2.push { cls := .type "tuple", data := .seq #[x1, x2] }) h₇ := hs₇
  replace hs₈ : Heap.SameBut z h₇ h₈ := hs₈
  have up : ∀ c o, c ≠ z → g2.get? c = some o → h₈.get? c = some o := fun c o c1 e => hs₈.extBut _ _ c1 (hs₇.extBut _ _ c1 (Heap.get?_push_of_some _ e))
  have hT₈ : IsTupOf2 h₈ g2.objs.size x1 x2 := hs₈.extBut _ _ (Nat.ne_of_gt hzlt) (hs₇.extBut _ _ (Nat.ne_of_gt hzlt) (Heap.get?_push_size _ rfl))
  have hz8 : h₈.objs.size = g2.objs.size + 1 := by rw [hs₈.1, hs₇.1, Heap.size_push]
  rw [hsz] at hz₈ hT₈ hz8
  refine wpAny_pure ⟨_, rfl, ?_⟩
  show Q (.ref g2.objs.size) ⟨h₈, g, d, tk2, os⟩
  rw [hsz]
  exact hQ x1 x2 h₈ tk2 hx1 hx2 hz₈ (up _ _ S.TOz hT2) (D1.frame _ _ _ hj1 fun b hb o e => up b o (fun q => S.zf1 (q ▸ hb)) e) (D2.frame _ _ _ hj2 fun b hb o e => up b o (fun q => S.zf2 (q ▸ hb)) e) hT₈ hz8 fun c o cz cT c1 c2 e => up c o cz (hkk c o cz cT c1 c2 e)

theorem zipS2_next_end {Q : Fin → Shared → Prop} (hh : A.handled = none) (S : ZipSep2 z TI TO i1 i2 fp1 fp2) (D1 : Draws prog w A i1 fp1 n1 P1 St1) (D2 : Draws prog w A i2 fp2 n2 P2 St2)
    (hz : IsZipS s.heap z TI TO .none) (hTI : IsTupOf2 s.heap TI (.ref i1) (.ref i2)) (hTO : IsTupOf2 s.heap TO a1 a2) (st1 : St1 n1 s.heap) (st2 : St2 n2 s.heap)
    (hE : ∀ h' tk e, (∀ c o, c ≠ z → c ≠ TO → c ≠ i1 → c ≠ i2 → s.heap.get? c = some o → h'.get? c = some o) → (∃ o, h'.get? e = some o ∧ o.cls = .type "StopIteration") → E (.ref e) { s with heap := h', toks := tk }) :
    wpAny (model prog w) A (Builtin.«zip.__next__» ⟨[.ref z], []⟩) Q E s := by
  obtain ⟨hp, g, d, tk0, os⟩ := s
  show wpAny _ _ (field (.ref z) 2 >>= _) _ _ _
  refine wpAny_bind (wpAny_field hz rfl (x := .bool true) rfl ?_)
  show wpAny _ _ (field (.ref z) 3 >>= _) _ _ _
  refine wpAny_bind (wpAny_field hz rfl (x := .ref TI) rfl ?_)
  refine wpAny_bind (wpAny_seqItems hTI rfl ?_)
  show wpAny _ _ (Builtin.SmallTypes.ownedTupleIsFree (.ref z) >>= _) _ _ _
  refine wpAny_bind ?_
  unfold Builtin.SmallTypes.ownedTupleIsFree
  refine wpAny_bind (wpAny_field hz rfl (x := .none) rfl (wpAny_pure ?_))
  simp only [if_true]
  refine wpAny_bind (wpAny_rule ?_)
  refine wpAny_bind (wpAny_field hz rfl (x := .ref TO) rfl ?_)
  refine wpAny_bind (wpAny_setField_rec hz (by simp) fun g0 hz0 hs0 => ?_)
  replace hz0 : IsZipS g0 z TI TO .ellipsis := hz0
  replace hs0 : Heap.SameBut z hp g0 := hs0
  refine wpAny_bind ?_
  simp only [List.zipIdx_cons, List.zipIdx_nil, List.forIn_cons, List.forIn_nil]
  refine wpAny_bind (wpAny_bind (wpAny_onRaise ?_))
  show wpAny _ _ (Builtin.SmallTypes.nextOrEnd (.ref i1)) _ _ ⟨g0, g, d, tk0, os⟩
  refine nextOrEnd_done (s := ⟨g0, g, d, tk0, os⟩) D1 (D1.over st1 hs0 S.zf1) fun q hq => ?_
  replace hq : Heap.ExtBut i1 g0 q := hq
  have hzq : IsZipS q z TI TO .ellipsis := hq _ _ S.zi1 hz0
  refine wpAny_bind (wpAny_setField_rec (s := ⟨q, g, d, tk0, os⟩) hzq (by simp) fun q' hzq' hq' => ?_)
  replace hq' : Heap.SameBut z q q' := hq'
  refine wpAny_bind ?_
  show wpAny _ _ (((Builtin.SmallTypes.nextOrEnd (.ref i2) >>= _) >>= _) >>= _) _ _ _
  refine wpAny_bind (wpAny_bind (wpAny_bind (nextOrEnd_done (s := ⟨q', g, d, tk0, os⟩) D2 (D2.over ?_ hq' S.zf2) fun r hr => ?_)))
  · exact D2.frame _ _ _ (D2.over st2 hs0 S.zf2) fun b hb o e => hq b o (fun x => S.sep1_2 (x ▸ hb)) e
  · replace hr : Heap.ExtBut i2 q' r := hr
    simp only [Option.isSome_none, Bool.false_eq_true, if_false]
    refine wpAny_pure ?_
    show wpAny _ _ (pure _) _ _ _
    refine wpAny_pure ?_
    refine wpAny_bind (wpAny_rule ?_)
    show wpAny _ _ (newExc (.type "StopIteration") [] >>= _) _ _ _
    refine wpAny_bind ?_
    simp only [newExc, newTuple]
    refine wpAny_bind (wpAny_newObj_type ?_ (by size_fits))
    refine wpAny_bind (m := firstArgMember _ _) (wpAny_of_eq (a := Value.none) (by first | rfl | (simp only [firstArgMember]; rfl)) ?_)
    refine wpAny_newObj_type ?_ (by size_fits)
    simp only [raiseNew]
    refine wpAny_bind (wpAny_handled ?_)
    rw [hh]
    refine wpAny_bind (wpAny_pure (wpAny_throw ?_))
    exact hE _ _ _ (fun c o cz cT c1 c2 x => Heap.get?_push_of_some _ (Heap.get?_push_of_some _ (hr _ _ c2 (hq'.extBut _ _ cz (hq _ _ c1 (hs0.extBut _ _ cz x)))))) ⟨_, Heap.get?_push_size _ rfl, rfl⟩
theorem wpAny_pyNext_zipS2_item {Q : Option Value → Shared → Prop} (S : ZipSep2 z TI TO i1 i2 fp1 fp2) (D1 : Draws prog w A.in1 i1 fp1 n1 P1 St1) (D2 : Draws prog w A.in1 i2 fp2 n2 P2 St2)
    (hz : IsZipS s.heap z TI TO .none) (hTI : IsTupOf2 s.heap TI (.ref i1) (.ref i2)) (hTO : IsTupOf2 s.heap TO a1 a2) (st1 : St1 i s.heap) (st2 : St2 i s.heap) (hlt1 : i < n1) (hlt2 : i < n2)
    (hQ : ∀ x1 x2 h' tk, P1 i x1 → P2 i x2 → IsZipS h' z TI TO (rawInt s.heap.objs.size) → IsTupOf2 h' TO x1 x2 → St1 (i + 1) h' → St2 (i + 1) h' → IsTupOf2 h' s.heap.objs.size x1 x2 → h'.objs.size = s.heap.objs.size + 1 →
      (∀ c o, c ≠ z → c ≠ TO → c ≠ i1 → c ≠ i2 → s.heap.get? c = some o → h'.get? c = some o) → Q (some (.ref s.heap.objs.size)) { s with heap := h', toks := tk }) :
    wpAny (model prog w) A (pyNext (.ref z)) Q E s := by
  have hT : s.TypeIs (.ref z) "zip" := ⟨_, hz, rfl⟩
  unfold pyNext
  exact wpAny_bind (wpAny_attempt (wpAny_callSpecial?_slot (name := Str.ofString "__next__") hT F.slot_zip_next
    (wpAny_call_entry F.slot_zip_next hT F.entry_zip_next
      (zipS2_next_item S D1 D2 hz hTI hTO st1 st2 hlt1 hlt2 fun x1 x2 h' tk y1 y2 b1 b2 d1 d2 b5 b6 b7 => wpAny_pure (hQ x1 x2 h' tk y1 y2 b1 b2 d1 d2 b5 b6 b7)) (F.args_zip_next_1 _))))

theorem wpAny_pyNext_zipS2_end {Q : Option Value → Shared → Prop} (hh : A.in1.handled = none) (S : ZipSep2 z TI TO i1 i2 fp1 fp2) (D1 : Draws prog w A.in1 i1 fp1 n1 P1 St1) (D2 : Draws prog w A.in1 i2 fp2 n2 P2 St2)
    (hz : IsZipS s.heap z TI TO .none) (hTI : IsTupOf2 s.heap TI (.ref i1) (.ref i2)) (hTO : IsTupOf2 s.heap TO a1 a2) (st1 : St1 n1 s.heap) (st2 : St2 n2 s.heap)
    (hQ : ∀ h' tk, (∀ c o, c ≠ z → c ≠ TO → c ≠ i1 → c ≠ i2 → s.heap.get? c = some o → h'.get? c = some o) → Q none { s with heap := h', toks := tk }) : wpAny (model prog w) A (pyNext (.ref z)) Q E s := by
  have hT : s.TypeIs (.ref z) "zip" := ⟨_, hz, rfl⟩
  unfold pyNext
  refine wpAny_bind (wpAny_attempt (wpAny_callSpecial?_slot (name := Str.ofString "__next__") hT F.slot_zip_next
    (wpAny_call_entry F.slot_zip_next hT F.entry_zip_next (zipS2_next_end hh S D1 D2 hz hTI hTO st1 st2 fun h' tk e hk he => ?_) (F.args_zip_next_1 _))))
  obtain ⟨o, ho, hc⟩ := he
  refine wpAny_bind (wpAny_isInstance (T := "StopIteration") (b := true) ⟨o, ho, hc⟩ isSubtype_stop ?_)
  exact wpAny_pure (hQ _ _ hk)

theorem wpAny_letOwnedTupleGo_zipS {elts : List Expr} {x1} {pos : Pos} {z TI TO T : Addr} {Q : Unit → Shared → Prop} (hz : IsZipS s.heap z TI TO (rawInt T))
    (hQ : ∀ h', IsZipS h' z TI TO .none → Heap.SameBut z s.heap h' → Q () { s with heap := h' }) :
    wpAny (model prog w) A (letOwnedTupleGo (.Tuple elts x1 pos) (.ref z) (.ref T)) Q E s := by
  unfold letOwnedTupleGo
  refine wpAny_bind (wpAny_load hz ?_)
  show wpAny _ _ (if (["enumerate", "zip", "dict_itemiterator", "dict_reverseitemiterator", "odict_iterator", "itertools.zip_longest", "itertools.pairwise"].contains "zip" &&
      (#[rawInt T, .bool false, .bool true, .ref TI, .ref TO] : Array Value)[0]? == some (rawInt T)) = true then _ else _) Q E s
  rw [if_pos (by simp)]
  refine wpAny_bind (wpAny_rule ?_)
  show wpAny _ _ (setField (.ref z) 0 .none) Q E s
  exact wpAny_setField_rec hz (by simp) fun h' hz' hs' => hQ h' hz' hs'

theorem wpAny_pyIter_zipS {z TI TO : Addr} {f0 : Value} {Q : Value → Shared → Prop} (hz : IsZipS s.heap z TI TO f0) (h : Q (.ref z) s) : wpAny (model prog w) A (pyIter (.ref z)) Q E s := by
  have hT : s.TypeIs (.ref z) "zip" := ⟨_, hz, rfl⟩
  refine wpAny_pyIter_slot hT F.slot_zip_iter (wpAny_call_entry F.slot_zip_iter hT F.entry_zip_iter ?_ (F.args_zip_iter_1 _))
  show wpAny _ _ (ret (.ref z)) _ _ s
  exact wpAny_pure ⟨_, rfl, "zip", _, hT, F.slot_zip_next.lookup, h⟩

/-- zip over 2 iterators of any kind (Draws): as many turns as the shortest has -/
theorem WalksT.zipS2 (hh : A.in1.handled = none) (S : ZipSep2 z TI TO i1 i2 fp1 fp2) (D1 : Draws prog w A.in1 i1 fp1 n1 P1 St1) (D2 : Draws prog w A.in1 i2 fp2 n2 P2 St2) (hn : n1 = n2) :
    WalksT prog w A z (z :: TI :: TO :: (fp1 ++ fp2)) [z, TO, i1, i2] (min n1 n2)
      (fun i vals => ∃ x1 x2, P1 i x1 ∧ P2 i x2 ∧ vals = #[x1, x2])
      (fun i h => IsZipS h z TI TO .none ∧ IsTupOf2 h TI (.ref i1) (.ref i2) ∧ (∃ a1 a2, IsTupOf2 h TO a1 a2) ∧ St1 i h ∧ St2 i h)
      (fun i T h => IsZipS h z TI TO (rawInt T) ∧ IsTupOf2 h TI (.ref i1) (.ref i2) ∧ (∃ a1 a2, IsTupOf2 h TO a1 a2) ∧ St1 (i + 1) h ∧ St2 (i + 1) h ∧ T ≠ z ∧ T ≠ TO ∧ T ≠ i1 ∧ T ≠ i2) where
  sub := fun c hc => by
    have hc' : c = z ∨ c = TO ∨ c = i1 ∨ c = i2 := by simpa using hc
    rcases hc' with rfl | rfl | rfl | rfl
    · exact List.mem_cons_self ..
    · exact List.mem_cons_of_mem _ (List.mem_cons_of_mem _ (List.mem_cons_self ..))
    · exact List.mem_cons_of_mem _ (List.mem_cons_of_mem _ (List.mem_cons_of_mem _ (List.mem_append_left _ S.mem1)))
    · exact List.mem_cons_of_mem _ (List.mem_cons_of_mem _ (List.mem_cons_of_mem _ (List.mem_append_right _ S.mem2)))
  frame := fun i h h' hst hk => by
    obtain ⟨hz, hTI, ⟨a1, a2, hTO⟩, st1, st2⟩ := hst
    exact ⟨hk z (List.mem_cons_self ..) _ hz, hk TI (List.mem_cons_of_mem _ (List.mem_cons_self ..)) _ hTI, ⟨a1, a2, hk TO (List.mem_cons_of_mem _ (List.mem_cons_of_mem _ (List.mem_cons_self ..))) _ hTO⟩,
      D1.frame _ _ _ st1 fun b hb o e => hk b (List.mem_cons_of_mem _ (List.mem_cons_of_mem _ (List.mem_cons_of_mem _ (List.mem_append_left _ hb)))) o e, D2.frame _ _ _ st2 fun b hb o e => hk b (List.mem_cons_of_mem _ (List.mem_cons_of_mem _ (List.mem_cons_of_mem _ (List.mem_append_right _ hb)))) o e⟩
  item := fun i s Q E hi hst hQ => by
    obtain ⟨hz, hTI, ⟨a1, a2, hTO⟩, st1, st2⟩ := hst
    have hi1 : i < n1 := by omega
    have hi2 : i < n2 := by omega
    refine wpAny_pyNext_zipS2_item S D1 D2 hz hTI hTO st1 st2 hi1 hi2 fun x1 x2 h' tk y1 y2 b1 b2 d1 d2 b5 b6 hk => ?_
    have lt : ∀ {c o}, s.heap.get? c = some o → s.heap.objs.size ≠ c := fun e => Nat.ne_of_gt (Heap.lt_size e)
    have l1 : s.heap.objs.size ≠ i1 := by obtain ⟨_, e⟩ := D1.live _ _ st1; exact lt e
    have l2 : s.heap.objs.size ≠ i2 := by obtain ⟨_, e⟩ := D2.live _ _ st2; exact lt e
    exact hQ s.heap.objs.size #[x1, x2] h' tk ⟨x1, x2, y1, y2, rfl⟩ (Nat.le_refl _) ⟨_, b5, rfl, _, rfl⟩
      ⟨b1, hk _ _ S.TIz S.TITO S.TIi1 S.TIi2 hTI, ⟨_, _, b2⟩, d1, d2, lt hz, lt hTO, l1, l2⟩
      fun c o hc e => hk c o (fun x => hc (by simp [x])) (fun x => hc (by simp [x])) (fun x => hc (by simp [x])) (fun x => hc (by simp [x])) e
  go := fun elts k pos i T s Q E hm hQ => by
    obtain ⟨hz, hTI, ⟨a1, a2, hTO⟩, st1, st2, _⟩ := hm
    refine wpAny_letOwnedTupleGo_zipS hz fun h' hz' hs' => hQ h' ⟨hz', hs'.extBut _ _ S.TIz hTI, ⟨a1, a2, hs'.extBut _ _ S.TOz hTO⟩, D1.over st1 hs' S.zf1, D2.over st2 hs' S.zf2⟩ fun c o hc e => hs'.extBut _ _ (fun x => hc (by simp [x])) e
  apart := fun i T h hm hT => by
    obtain ⟨_, _, _, _, _, tz, tT, t1, t2⟩ := hm
    have hT' : T = z ∨ T = TO ∨ T = i1 ∨ T = i2 := by simpa using hT
    rcases hT' with e | e | e | e
    · exact tz e
    · exact tT e
    · exact t1 e
    · exact t2 e
  done := fun s Q E hst hQ => by
    obtain ⟨hz, hTI, ⟨a1, a2, hTO⟩, st1, st2⟩ := hst
    have m1 : min n1 n2 = n1 := by omega
    have m2 : min n1 n2 = n2 := by omega
    exact wpAny_pyNext_zipS2_end hh S D1 D2 hz hTI hTO (m1 ▸ st1) (m2 ▸ st2) fun h' tk hk => hQ h' tk fun c o hc e =>
      hk c o (fun x => hc (by simp [x])) (fun x => hc (by simp [x])) (fun x => hc (by simp [x])) (fun x => hc (by simp [x])) e
  self := fun i s Q E hst hQ => wpAny_pyIter_zipS hst.1 hQ
end
/-! ### it begins -/
abbrev gzZS (h : Heap) (o1 o2 : Obj) : Heap := (gzO2 h o1 o2).push { cls := .type "zip", data := .fields #[.none, .bool false, .bool true, .ref ((h.push o1).push o2).objs.size, .ref (gzT2 h o1 o2).objs.size] }
theorem meets_zip_newS {v1 v2 : Value} {o1 o2 : Obj} {H1 H2 : Heap → Prop} (B1 : Begins v1 o1 H1) (B2 : Begins v2 o2 H2) :
    Meets (Builtin.«zip.__new__» ⟨[.type "zip", v1, v2], [(Str.ofString "strict", .bool true)]⟩) (fun _ R s => (H1 s.heap ∧ H2 s.heap) ∧
      R (.ok (.ret (.ref (gzO2 s.heap o1 o2).objs.size))) { s with heap := gzZS s.heap o1 o2 }) :=
  .of_wp fun prog w A R s h => by
    obtain ⟨hp, g, d, tk, os⟩ := s; obtain ⟨⟨h1, h2⟩, h⟩ := h
    have hsub := sub_zip
    have q1 : ∀ {A' : Around} {E : Value → Shared → Prop} {Q : Value → Shared → Prop}, Q (.ref hp.objs.size) ⟨(hp.push o1), g, d, tk, os⟩ → wpAny (model prog w) A' (pyIter v1) Q E ⟨hp, g, d, tk, os⟩ :=
      fun q => B1.iter prog w _ _ ⟨hp, g, d, tk, os⟩ _ (B1.keeps _ _ h1 fun b o' e => e) q
    have q2 : ∀ {A' : Around} {E : Value → Shared → Prop} {Q : Value → Shared → Prop}, Q (.ref (hp.push o1).objs.size) ⟨((hp.push o1).push o2), g, d, tk, os⟩ → wpAny (model prog w) A' (pyIter v2) Q E ⟨(hp.push o1), g, d, tk, os⟩ :=
      fun q => B2.iter prog w _ _ ⟨(hp.push o1), g, d, tk, os⟩ _ (B2.keeps _ _ h2 fun b o' e => (Heap.get?_push_of_some _ e)) q
    wp_walk using q1, q2
    exact ⟨_, rfl, h⟩
theorem typeCall_zipS (a b : Value) : checkTypeCall "zip" ⟨[a, b], [(Str.ofString "strict", .bool true)]⟩ = pure () := by kernel_rfl
theorem newCall_zipS (a b : Value) : checkBuiltinCall "zip.__new__" ⟨[.type "zip", a, b], [(Str.ofString "strict", .bool true)]⟩ = pure () := by kernel_rfl
theorem args_object_init_3S (a b c : Value) : argsOk "object.__init__" ⟨[a, b, c], [(Str.ofString "strict", .bool true)]⟩ := by
  unfold argsOk; rw [signature?_of (id := "object.__init__") (n := ['_', '_', 'i', 'n', 'i', 't', '_', '_'].reverse) (o := ['t', 'c', 'e', 'j', 'b', 'o']) (by kernel_rfl) F.owner_object]; kernel_rfl
section
variable {prog : Program} {w : World} {A : Around} {E : Value → Shared → Prop} {s : Shared}
theorem zip_begins2S {v1 v2 : Value} {o1 o2 : Obj} {H1 H2 : Heap → Prop} {Q : Value → Shared → Prop} (B1 : Begins v1 o1 H1) (B2 : Begins v2 o2 H2) (h1 : H1 s.heap) (h2 : H2 s.heap)
    (h : ∀ h', IsZipS h' (s.heap.objs.size + 4) (s.heap.objs.size + 2) (s.heap.objs.size + 3) .none → IsTupOf2 h' (s.heap.objs.size + 2) (.ref s.heap.objs.size) (.ref (s.heap.objs.size + 1)) →
      IsTupOf2 h' (s.heap.objs.size + 3) .none .none → h'.get? s.heap.objs.size = some o1 → h'.get? (s.heap.objs.size + 1) = some o2 → h'.objs.size = s.heap.objs.size + 5 →
      (∀ c o, s.heap.get? c = some o → h'.get? c = some o) → Q (.ref (s.heap.objs.size + 4)) { s with heap := h' }) :
    wpAny (model prog w) A (call (.type "zip") [v1, v2] [(Str.ofString "strict", .bool true)]) Q E s := by
  refine callTypeK_meets F.called_zip (typeCall_zipS _ _) (newCall_zipS _ _) F.entry_zip_new F.entry_object_init (Q₁ := fun obj s₁ => s₁.TypeIs obj "zip" ∧ Q obj s₁)
    (meets_zip_newS B1 B2) ⟨⟨h1, h2⟩, ?_⟩ fun obj s₁ hq => ⟨hq.1, args_object_init_3S obj _ _, _, object_init_meetsK F.called_zip.init.lookup F.called_zip.made (by decide), hq.1, rfl, hq.2⟩
  have z1 : (s.heap.push o1).objs.size = s.heap.objs.size + 1 := by rw [Heap.size_push]
  have z2 : ((s.heap.push o1).push o2).objs.size = s.heap.objs.size + 2 := by rw [Heap.size_push, z1]
  have zT : (gzT2 s.heap o1 o2).objs.size = s.heap.objs.size + 3 := by rw [Heap.size_push, z2]
  have zO : (gzO2 s.heap o1 o2).objs.size = s.heap.objs.size + 4 := by rw [Heap.size_push, zT]
  have zZ : (gzZS s.heap o1 o2).objs.size = s.heap.objs.size + 5 := by rw [Heap.size_push, zO]
  have gZ : (gzZS s.heap o1 o2).get? (gzO2 s.heap o1 o2).objs.size = some { cls := .type "zip", data := .fields #[.none, .bool false, .bool true, .ref ((s.heap.push o1).push o2).objs.size, .ref (gzT2 s.heap o1 o2).objs.size] } := Heap.get?_push_size _ rfl
  have gO : (gzZS s.heap o1 o2).get? (gzT2 s.heap o1 o2).objs.size = some { cls := .type "tuple", data := .seq #[.none, .none] } := Heap.get?_push_of_some _ (Heap.get?_push_size _ rfl)
  have gT : (gzZS s.heap o1 o2).get? ((s.heap.push o1).push o2).objs.size = some { cls := .type "tuple", data := .seq #[.ref s.heap.objs.size, .ref (s.heap.push o1).objs.size] } := Heap.get?_push_of_some _ (Heap.get?_push_of_some _ (Heap.get?_push_size _ rfl))
  have g1 : (gzZS s.heap o1 o2).get? s.heap.objs.size = some o1 := Heap.get?_push_of_some _ (Heap.get?_push_of_some _ (Heap.get?_push_of_some _ (Heap.get?_push_of_some _ (Heap.get?_push_size _ B1.free))))
  have g2 : (gzZS s.heap o1 o2).get? (s.heap.push o1).objs.size = some o2 := Heap.get?_push_of_some _ (Heap.get?_push_of_some _ (Heap.get?_push_of_some _ (Heap.get?_push_size _ B2.free)))
  rw [zO, zT, z2] at gZ
  rw [zT] at gO
  rw [z2, z1] at gT
  rw [z1] at g2
  show _ ∧ _
  rw [zO]
  exact ⟨⟨_, gZ, rfl⟩, h _ gZ gT gO g1 g2 zZ fun c o e => Heap.get?_push_of_some _ (Heap.get?_push_of_some _ (Heap.get?_push_of_some _ (Heap.get?_push_of_some _ (Heap.get?_push_of_some _ e))))⟩
end
theorem GoesN.zipS {prog : Program} {w : World} {A : Around} {elts : List Expr} {x1 : Nat} {pos : Pos} {z TI TO i1 i2 : Addr} {fp1 fp2 : List Addr} {n1 n2 : Nat} {P1 P2 : Nat → Value → Prop} {St1 St2 : Nat → Heap → Prop} (hh : A.in1.handled = none) (S : ZipSep2 z TI TO i1 i2 fp1 fp2) (D1 : Draws prog w A.in1 i1 fp1 n1 P1 St1) (D2 : Draws prog w A.in1 i2 fp2 n2 P2 St2) (hn : n1 = n2) :
    GoesN prog w A (.Tuple elts x1 pos) z (z :: TI :: TO :: (fp1 ++ fp2)) [z, TO, i1, i2] (min n1 n2) (fun i h₀ v h => ∃ T x y, v = .ref T ∧ h₀.objs.size ≤ T ∧ P1 i x ∧ P2 i y ∧ h.IsTuple T #[x, y])
      (fun i h => IsZipS h z TI TO .none ∧ IsTupOf2 h TI (.ref i1) (.ref i2) ∧ (∃ a1 a2, IsTupOf2 h TO a1 a2) ∧ St1 i h ∧ St2 i h) :=
  (GoesN.ofWalksT (WalksT.zipS2 hh S D1 D2 hn)).mono fun i h₀ v h _ ⟨T, vals, ev, hn, ⟨x, y, hx, hy, evs⟩, hT⟩ => ⟨T, x, y, ev, hn, hx, hy, evs ▸ hT⟩
end PySem

/-! Qz: zip(a text, a list or a tuple, strict=True) over the layer -/
namespace PyProof.Rows
open PySem
section
variable {M : Model} {A : Around} {E : Value → Shared → Prop} {s : Shared} {env : Env}
theorem callWith_type_kwB {pos : Pos} {T : String} {first : List Value} {args : List (Bool × Sem Value)} {keywords : List (Option Str × Sem Value)} {Q : Value → Shared → Prop}
    (hplain : args.any (·.1) = false) (hkw : keywords.any (·.1.isNone) = false)
    (h : wpAny M A (evalArgs (.type T) true args keywords) (fun a s₁ => wpAny M A (call (.type T) (first ++ a.pos) a.kw) Q E s₁) E s) :
    wpAny M A (callWith pos (.type T) first args keywords) Q E s := by
  unfold callWith
  refine wpAny_bind (wpAny_holding (wpAny_mono h (fun a s₁ h₁ => wpAny_bind (wpAny_standAt ?_)) fun _ _ x => x))
  simp only [hplain, hkw, Bool.or_false]
  refine wpAny_bind (wpAny_pure ?_)
  exact wpAny_bind (wpAny_mono h₁ (fun r s₂ hr => wpAny_bind (wpAny_holding (wpAny_point (wpAny_pure hr)))) fun _ _ x => x)
theorem callWith_type_kw {pos : Pos} {T : String} {e : Expr} {rest : List Expr} {kws : List Keyword} {Q : Value → Shared → Prop}
    (h : wpAny M A (spliced (backTo pos (starEach (e :: rest) env))) (fun vs s₁ => wpAny M A (evalAll ((backToKw pos (keywordEach kws env)).map (·.2)))
      (fun kvs s₂ => wpAny M A (call (.type T) vs (((backToKw pos (keywordEach kws env)).filterMap (·.1)).zip kvs)) Q E s₂) E s₁) E s)
    (he : backTo pos (starEach (e :: rest) env) = (false, eval e env) :: backTo pos (starEach rest env) := by rfl)
    (hplain : (backTo pos (starEach (e :: rest) env)).any (·.1) = false := by rfl)
    (hall : (backToKw pos (keywordEach kws env)).all (·.1.isSome) = true := by rfl)
    (hkw : (backToKw pos (keywordEach kws env)).any (·.1.isNone) = false := by rfl) :
    wpAny M A (callWith pos (.type T) [] (backTo pos (starEach (e :: rest) env)) (backToKw pos (keywordEach kws env))) Q E s := by
  refine callWith_type_kwB hplain hkw ?_
  rw [he] at h ⊢
  exact evalArgs_kwB hall h
end
end PyProof.Rows
namespace Qd
open PySem L2

def sgV (x : Str) : List V := x.cps.toList.map fun c => V.str ⟨#[c]⟩
theorem sgV_len (x : Str) : (sgV x).length = x.cps.size := by simp [sgV]
def ItZipT (K : PySem.W.Frag) (x : Str) (k : Bool) (b : Addr) (us : List V) : It := ⟨fun i H => i < min (sgV x).length us.length ∧ SrcH K k b us H, fun i H v H' => ∃ T, v = .ref T ∧ H T = none ∧ H' = upd H T (.tup (((sgV x)[i]?.bind fun v => us[i]?.map fun u => [v, u]).getD [])),
  fun i H => i = min (sgV x).length us.length ∧ SrcH K k b us H⟩
theorem turn_zipT {P : Program} {w : World} {K : PySem.W.Frag} {elts : List Expr} {kk : Nat} {tpos : Pos} (x : Str) (t : Tok) (k : Bool) (b N : Addr) (us : List V) (hb : b < N) (hlen : (sgV x).length = us.length) :
    Turn P w K (.Tuple elts kk tpos) (ItZipT K x k b us) [N + 4, N + 2, N + 3, N, N + 1] (N + 4) (fun i h => (IsZipS h (N + 4) (N + 2) (N + 3) .none ∧ IsTupOf2 h (N + 2) (.ref N) (.ref (N + 1)) ∧ ∃ a1 a2, IsTupOf2 h (N + 3) a1 a2) ∧ h.IsStrIter N (strIterType x) x t i ∧ ItA k (N + 1) b i h) := by
  have nb : b ≠ N + 1 := Nat.ne_of_lt (Nat.lt_succ_of_lt hb)
  refine turnN (fun i => ((sgV x)[i]?.bind fun v => us[i]?.map fun u => [v, u]).getD []) (fun H => SrcH K k b us H) (ι := List Value) (fun its h => SrcA k b its.toArray h) ((N + 4) :: (N + 2) :: (N + 3) :: ([N] ++ [N + 1, b])) _ (wr := [N + 4, N + 3, N, N + 1])
    (fun i => ?_) (by simp) (fun i h st c hc => ?_) (fun i h h' st q => ?_) (fun c hc => ?_) (fun A i s Q E st h => wpAny_pyIter_zipS st.1.1 h) (fun X pins σ H s hK I hs j0 st => ?_)
  · cases (sgV x)[i]? with
    | none => exact Nat.zero_le _
    | some v => cases us[i]? with
      | none => exact Nat.zero_le _
      | some u => exact two_line
  · obtain ⟨⟨hz, hTI, a1, a2, hTO⟩, h1, h2⟩ := st
    have e' : c = N + 4 ∨ c = N + 2 ∨ c = N + 3 ∨ c = N ∨ c = N + 1 := by simpa using hc
    rcases e' with z | z | z | z | z
    · subst z; exact ⟨_, hz, fun v q => nomatch q⟩
    · subst z; exact ⟨_, hTI, fun v q => nomatch q⟩
    · subst z; exact ⟨_, hTO, fun v q => nomatch q⟩
    · subst z
      obtain ⟨o, e, c, d⟩ := h1
      exact ⟨o, e, fun v z => by rw [d] at z; cases z⟩
    · subst z; exact h2.obj
  · obtain ⟨⟨hz, hTI, a1, a2, hTO⟩, h1, h2⟩ := st
    exact ⟨⟨q _ (by simp) _ hz, q _ (by simp) _ hTI, a1, a2, q _ (by simp) _ hTO⟩, (let ⟨o, ho, r⟩ := h1; ⟨o, q N (by simp) o ho, r⟩), h2.keep fun o x => q _ (by simp) o x⟩
  · have e' : c = N + 4 ∨ c = N + 3 ∨ c = N ∨ c = N + 1 := by simpa using hc
    rcases e' with z | z | z | z <;> subst z <;> simp
  · subst hK
    obtain ⟨its2, rv2, sa2, la2⟩ := src_of I hs
    refine ⟨its2, sa2, fun A hh => ?_⟩
    have sep : ZipSep2 (N + 4) (N + 2) (N + 3) N (N + 1) (N :: []) ((N + 1) :: [b]) := zip_sep2 (fun c hc => nomatch hc) (fun c hc => by rw [List.mem_singleton.mp hc]; exact hb)
    have sz2 : x.cps.size = its2.toArray.size := by have h1 := rv2.length; have h2 := sgV_len x; have h3 : its2.toArray.size = its2.length := (by simp); omega
    have G := GoesN.zipS (elts := elts) (x1 := kk) (pos := tpos) (A := A) hh sep (Draws.text (prog := P) (w := w) (A := A.in1) hh N x t) (drawsK (prog := P) (w := w) (A := A.in1) hh k (N + 1) b nb its2.toArray) sz2
    have sz : min x.cps.size its2.toArray.size = min (sgV x).length us.length := by have h1 := rv2.length; have h2 := sgV_len x; have h3 : its2.toArray.size = its2.length := (by simp); omega
    rw [sz] at G
    refine (GoesN.cast G fun i h => ⟨fun ⟨x, y, z, p, r, t⟩ => ⟨⟨⟨x, y, z⟩, p, r⟩, t⟩, fun ⟨⟨⟨x, y, z⟩, p, r⟩, t⟩ => ⟨x, y, z, p, r, t⟩⟩).mono fun i h₀ v h hi ⟨T, c1, y, e1, e2, e3, e4, e5⟩ => ?_
    obtain ⟨c, u0, hc, rfl⟩ := e3
    have e4' : its2[i]? = some y := by simpa using e4
    have hi1 : i < (sgV x).length := by omega
    have hi2 : i < us.length := by omega
    have hv : (sgV x)[i]? = some (.str ⟨#[c]⟩) := by
      unfold sgV
      rw [List.getElem?_map, Array.getElem?_toList, hc]; rfl
    have hu : us[i]? = some us[i] := by simp [hi2]
    obtain ⟨y', q2, r2⟩ := rv2.get hu
    rw [e4'] at q2; cases q2
    refine ⟨T, [.str ⟨#[c]⟩ u0, y], e1, e2, ?_, by simpa using e5⟩
    rw [hv, hu]
    exact .cons ⟨u0, rfl⟩ (.cons r2 .nil)
section
variable {X : Cx} {W : WX} {e e2 : Expr} {f g : FE} {elts : List Expr} {kk : Nat} {p pos tpos : Pos} {kws : List Keyword}
def iZipTK (K : PySem.W.Frag) (ta tb : TE) (tk : TA) : TI := fun σ H R => ta σ H fun x H1 => tb σ H1 fun y H2 => tk σ H2 fun zs H3 => ∃ z b us k, x = .str z ∧ y = .ref b ∧ zs = [.bl true] ∧ SrcH K k b us H3 ∧ (sgV z).length = us.length ∧ R (ItZipT K z k b us) H3
theorem pi_zipTK {ta tb : TE} {tk : TA} (hg : Gl X "zip") (hm : X.mg "zip" = none) (he : PE X e ta) (he2 : PE X e2 tb) (hk : PK X kws tk) (hks : (backToKw pos (keywordEach kws X.env)).filterMap (·.1) = [Str.ofString "strict"] := by rfl)
    (hs : starEach [e, e2] X.env = (false, eval e X.env) :: starEach [e2] X.env := by rfl) (hs2 : starEach (e2 :: []) X.env = (false, eval e2 X.env) :: starEach [] X.env := by rfl)
    (hall : (backToKw pos (keywordEach kws X.env)).all (·.1.isSome) = true := by rfl) (hnone : (backToKw pos (keywordEach kws X.env)).any (·.1.isNone) = false := by rfl)
    (hbt : backTo pos (starEach [e, e2] X.env) = (false, eval e X.env) :: backTo pos (starEach [e2] X.env) := by rfl) (hpl : (backTo pos (starEach [e, e2] X.env)).any (·.1) = false := by rfl) : PI X (.Tuple elts kk tpos) (.Call (.Name "zip" p) [e, e2] kws pos) (iZipTK X.K ta tb tk) := by
  refine ⟨fun pins s σ H R I h => ?_⟩
  refine wpAny_Call_Name_kw (ld_blt I hg hm PyProof.Rows.boot_zip (PyProof.Rows.callWith_type_kw (thn ((pa_cons he (pa_cons he2 pa_nil hs2) hs).run pos pins s σ H (fun vs H2 => tk σ H2 fun zs H3 => ∃ z b us k, vs = [.str z, .ref b] ∧ zs = [.bl true] ∧ SrcH X.K k b us H3 ∧ (sgV z).length = us.length ∧ R (ItZipT X.K z k b us) H3) I ?_) fun us s1 ⟨vs, H1, I1, r1, q1⟩ =>
    thn (hk.run pos pins s1 σ H1 _ I1 q1) fun ws s2 ⟨zs, H2, I2, r2, q2⟩ => ?_) hbt hpl hall hnone))
  · have h' : ta σ H fun x H1 => tb σ H1 fun y H2 => tk σ H2 fun zs H3 => ∃ z b us k, x = .str z ∧ y = .ref b ∧ zs = [.bl true] ∧ SrcH X.K k b us H3 ∧ (sgV z).length = us.length ∧ R (ItZipT X.K z k b us) H3 := h
    have key : (fun (x : V) H1 => tb σ H1 fun y H2 => tk σ H2 fun zs H3 => ∃ z b us k, x = .str z ∧ y = .ref b ∧ zs = [.bl true] ∧ SrcH X.K k b us H3 ∧ (sgV z).length = us.length ∧ R (ItZipT X.K z k b us) H3) = fun (x : V) H1 => tb σ H1 fun y H2 => tk σ H2 fun zs H3 => ∃ z b us k, [x, y] = [.str z, .ref b] ∧ zs = [.bl true] ∧ SrcH X.K k b us H3 ∧ (sgV z).length = us.length ∧ R (ItZipT X.K z k b us) H3 := by
      funext x H1
      congr 1
      funext y H2
      congr 1
      funext zs H3
      simp only [List.cons.injEq, and_true, and_assoc]
    rw [key] at h'
    exact h'
  · obtain ⟨z, b, us0, k, rfl, rfl, hq, hlen, q⟩ := q2
    obtain ⟨u, u2, rfl, ru, ru2⟩ := Vals.two r1
    obtain ⟨t, rfl⟩ := ru
    obtain rfl : u2 = Value.ref b := ru2
    obtain ⟨w1, rfl, rw1⟩ := Vals.one r2
    obtain rfl : w1 = Value.bool true := rw1
    obtain ⟨its2, rv2, sa2, la2⟩ := src_of I2 hq
    rw [hks]
    refine zip_begins2S (begins_text z t) (beginsK k b its2.toArray) trivial sa2 fun h' hz hTI hTO h1 h2 hsz hkp => wpAny_pyIter_zipS hz ?_
    have I3 : Inv X pins σ H2 { s2 with heap := h' } := I2.kept (t' := s2.toks) hkp
    refine ⟨s2.heap.objs.size + 4, [s2.heap.objs.size + 4, s2.heap.objs.size + 2, s2.heap.objs.size + 3, s2.heap.objs.size, s2.heap.objs.size + 1], _, _, H2, rfl, I3, turn_zipT z t k b s2.heap.objs.size us0 la2 hlen, ⟨⟨hz, hTI, _, _, hTO⟩, ⟨_, h1, rfl, rfl⟩, itObj_it h2⟩, fun c hc => ?_, q⟩
    have hle : s2.heap.objs.size ≤ c := by
      have e' : c = s2.heap.objs.size + 4 ∨ c = s2.heap.objs.size + 2 ∨ c = s2.heap.objs.size + 3 ∨ c = s2.heap.objs.size ∨ c = s2.heap.objs.size + 1 := by simpa using hc
      rcases e' with z | z | z | z | z <;> rw [z] <;> first | exact Nat.le_add_right _ _ | exact Nat.le_refl _
    exact I2.fpOk hle (I2.hok.fresh hle)
theorem itOk_zipT {K : PySem.W.Frag} {B : Hp} {tb : Tb} {z : Str} {k : Bool} {b : Addr} {us : List V} {es : List D} (h' : ∀ (B' H' : Hp), (∀ a o, B a = some o → B' a = some o) → (∀ a o, B' a = some o → H' a = some o) → SrcH K k b us H')
    (r' : reps K B tb es us) : ItOk K (ItZipT K z k b us) (zipD (signsD z) es) B tb := by
  have r : ∀ B tb, reps K B tb (signsD z) (sgV z) := fun B tb => by
    unfold signsD sgV
    induction z.cps.toList with
    | nil => exact reps_nil
    | cons c l ih => exact reps_cons rep_str ih
  intro i B1 tb1 H1 S1 s t w
  have hl' := h' B1 H1 s w.sub
  refine ⟨fun d hd => ?_, fun e => ⟨by rw [zipD_len] at e; rw [e, reps_len (r B tb), reps_len r'], hl'⟩⟩
  rw [zipD_get] at hd
  cases z1 : (signsD z)[i]? with
  | none => rw [z1] at hd; cases hd
  | some d0 =>
    cases z' : es[i]? with
    | none => rw [z1, z'] at hd; cases hd
    | some d1 =>
      rw [z1, z'] at hd
      obtain ⟨v, h1, h2⟩ := reps_get (r B tb) z1
      obtain ⟨u, h3, h4⟩ := reps_get r' z'
      have i1 := (List.getElem?_eq_some_iff.mp h1).1
      have i2 := (List.getElem?_eq_some_iff.mp h3).1
      refine ⟨⟨by omega, hl'⟩, fun x H' ⟨T, e1, e2, e3⟩ => ?_⟩
      subst e1 e3
      rw [h1, h3]
      have hr : reps K B1 tb1 [d0, d1] [v, u] := reps_cons (rep_mono s t _ _ h2) (reps_cons (rep_mono s t _ _ h4) reps_nil)
      obtain ⟨B', x', w', r'⟩ := new_tup w hr e2
      refine ⟨B', x', w', ?_⟩
      have : d = .tup [d0, d1] := (Option.some.inj hd).symm
      rw [this]; exact r'
def iZipS (f g : FE) (fk : FA) : FI := fun ρ S => (f ρ S).bind fun d S => (g ρ S).bind fun e S => (fk ρ S).bind fun zs S => match d, frOf e, zs with
  | .str z, some es, [.bl true] => chk (decide ((signsD z).length = es.length)) (.ok (zipD (signsD z) es) S)
  | _, _, _ => .no
theorem di_zipS {fk : FA} (hg : Gl X "zip") (hm : X.mg "zip" = none) (he : DE X W e f) (he2 : DE X W e2 g) (hk : DK X W kws fk) (hks : (backToKw pos (keywordEach kws X.env)).filterMap (·.1) = [Str.ofString "strict"] := by rfl)
    (hs : starEach [e, e2] X.env = (false, eval e X.env) :: starEach [e2] X.env := by rfl) (hs2 : starEach (e2 :: []) X.env = (false, eval e2 X.env) :: starEach [] X.env := by rfl)
    (hall : (backToKw pos (keywordEach kws X.env)).all (·.1.isSome) = true := by rfl) (hnone : (backToKw pos (keywordEach kws X.env)).any (·.1.isNone) = false := by rfl)
    (hbt : backTo pos (starEach [e, e2] X.env) = (false, eval e X.env) :: backTo pos (starEach [e2] X.env) := by rfl) (hpl : (backTo pos (starEach [e, e2] X.env)).any (·.1) = false := by rfl) : DI X W (.Tuple elts kk tpos) (.Call (.Name "zip" p) [e, e2] kws pos) (iZipS f g fk) := (pi_zipTK hg hm he he2 hk hks hs hs2 hall hnone hbt hpl).imp fun σ H Rk ⟨B, tb, ρ, S, w, e, q⟩ =>
  LE.step w e q fun d S1 B1 tb1 H1 v x1 w1 e1 r1 h1 => LE.step w1 e1 h1 fun d2 S2 B2 tb2 H2 u x2 w2 e2 r2 h2 => LA.step w2 e2 h2 fun zs S3 B3 tb3 H3 us3 x3 w3 e3 r3 h3 => by
    split at h3
    · rename_i z es hd2
      obtain ⟨hc, h3⟩ := chk_ok h3
      obtain ⟨b, us, k', rfl, q4, q5⟩ := src_fr hd2 (rep_ex x3 _ _ r2)
      have hv : v = .str z := by simpa only [rep] using r1
      have h1 : us3 = [.bl true] := by
        simp only [reps] at r3
        obtain ⟨v, t, rfl, h1, rfl⟩ := r3
        simp only [rep] at h1; rw [h1]
      refine ⟨z, b, us, k', hv, rfl, h1, q5 B3 H3 (fun _ _ h => h) w3.sub, ?_, h3.ok w3 _ (itOk_zipT q5 q4)⟩
      have hc := of_decide_eq_true hc
      rw [reps_len q4, ← hc]
      simp [sgV, signsD]
    · exact h3.elim
end
end Qd

/-! Qy: what comes out of texts' slices, signs, zip, dict displays -/
namespace Qd
open PySem L2

section
variable {S : Sto} {ρ : Rho} {Q : D → Sto → Prop} {QL : List D → Sto → Prop} {f g : FE} {lo hi : FO} {fk : FA}
theorem W_slU : W (eSlU f lo hi ρ S) Q = W (f ρ S) fun x S => W (lo ρ S) fun l S => W (hi ρ S) fun h S => match x with
    | .str z => z.length ≤ line ∧ Q (.str (cutS z l h)) S
    | x => W (kSl x l h S) Q := by
  unfold eSlU
  rw [W_bind]; congr; funext x S
  rw [W_bind]; congr; funext l S
  rw [W_bind]; congr; funext h S
  cases x <;> first
    | rfl
    | (show W (chk _ _) Q = _; rw [W_chk, decide_eq_true_eq]; rfl)
theorem W_iseqU : W (iSeqU f ρ S) QL = W (f ρ S) fun d S => match d with
    | .str z => QL (signsD z) S
    | d => match frOf d with
      | some ds => QL ds S
      | none => False := by
  unfold iSeqU
  rw [W_bind]; congr; funext d S
  cases d <;> first
    | rfl
    | (simp only; cases frOf _ <;> rfl)
theorem W_zipS : W (iZipS f g (aCons (eC (.bl true)) aNil) ρ S) QL = W (f ρ S) fun d S => W (g ρ S) fun e S => match d with
    | .str z => (match frOf e with
      | some es => (signsD z).length = es.length ∧ QL (zipD (signsD z) es) S
      | none => False)
    | _ => False := by
  unfold iZipS
  rw [W_bind]; congr; funext x S
  rw [W_bind]; congr; funext l S
  show W (match x, frOf l, [D.bl true] with
  | .str z, some es, [.bl true] => chk (decide ((signsD z).length = es.length)) (.ok (zipD (signsD z) es) S)
  | _, _, _ => .no) QL = _
  generalize frOf l = o
  cases o with
  | none => cases x <;> rfl
  | some es => cases x <;> first
    | rfl
    | (simp only; rw [W_chk, decide_eq_true_eq]; rfl)
theorem W_gget1 {nm : Str} {kvs : List (Str × D)} : W (eGGet1 nm kvs (eC (.glo nm)) g ρ S) Q = W (g ρ S) fun y S => match y with
    | .str z => Q ((kvs.lookup z).getD .non) S
    | _ => False := by
  show W (chk (decide (nm = nm)) _) Q = _
  rw [W_chk, decide_eq_true_eq]
  simp only [true_and]
  rw [W_bind]; congr; funext y S
  cases y <;> rfl
theorem W_dC {ks : List Key} {ds : List D} : W (eDC ks ds ρ S) Q = Q (.dk ks ds) S := rfl
def inT (a b : Str) : Bool := !(Builtin.Str.occurrences b a 0 b.length 1).isEmpty
theorem W_inT {a b : Str} : W (kInB false (.str a) (.str b) S) Q = Q (.bl (inT a b)) S := rfl
theorem W_inD {n : Bool} {x : D} {ds : List D} : W (kInB n x (.tup ds) S) Q = ((flatD x && ds.all flatD) = true ∧ Q (.bl (if n then !(ds.any fun d => eqF d x) else ds.any fun d => eqF d x)) S) := by
  cases x <;> exact W_chk
theorem W_ginT {nm : Str} {ds : List D} {x : D} : W (kGInT nm ds false x (.glo nm) S) Q = ((flatD x && ds.all flatD) = true ∧ Q (.bl (ds.any fun d => eqF d x)) S) := by
  show W (chk (decide (nm = nm) && _) _) Q = _
  rw [W_chk]
  simp only [decide_true, Bool.true_and]
  rfl
theorem W_len_U {x : Str} : W (kLen [.str x] S) Q = (x.length ≤ line ∧ Q (.int x.length) S) := by
  show W (chk _ _) Q = _
  rw [W_chk, decide_eq_true_eq]; rfl
theorem W_upper : W (eUpper f ρ S) Q = W (f ρ S) fun o S => match o with
    | .str a => a.length ≤ 5592405 ∧ Q (.str (Txt.upper a)) S
    | _ => False := by
  unfold eUpper
  rw [W_bind]; congr; funext x S
  cases x <;> first
    | rfl
    | (show W (chk _ _) Q = _; rw [W_chk, decide_eq_true_eq]; rfl)
theorem compAll {p : Pt} {tt : FT} {te : FE} (b : D → Bool) : ∀ (xs : List D) (acc : List D), (∀ x ∈ xs, ∃ ρ1, bindP p x ρ = some ρ1 ∧ tt ρ1 S = .ok true S ∧ te ρ1 S = .ok (.bl (b x)) S) → comp p tt te ρ xs S acc = .ok (acc ++ xs.map fun x => .bl (b x)) S := fun xs acc h => by
  have := comp_mapD (p := p) (tt := tt) (te := te) (ρ := ρ) (S := S) (fun _ => true) (fun x => .bl (b x)) xs acc fun x hx => by
    obtain ⟨ρ1, e1, e2, e3⟩ := h x hx
    exact ⟨ρ1, e1, e2, fun _ => e3⟩
  rw [filter_all] at this
  exact this
theorem W_allP {xs : List D} {b : D → Bool} : W (kAll [.lst ([] ++ xs.map fun x => .bl (b x))] S) Q = Q (.bl (xs.all b)) S := by
  have e : ([] : List D) ++ xs.map (fun x => D.bl (b x)) = (xs.map b).map .bl := by simp
  rw [e, W_all]
  congr 2
  simp [List.all_map]
end
end Qd


/-! Qt: statements run one at a time; texts: sums, signs, upper, how long shown, x not in a list of texts -/
namespace Qd
open PySem L2

theorem step_fn {g : FF} {fa : FA} {dds ds : List D} {pt : Pt} {B : FS} {ρ : Rho} {S : Sto} {N : Rho → Sto → Prop} {T : D → Sto → Prop} {P : D → Sto → Prop} (hfa : fa ρ S = .ok ds S) (h : W (g (ds ++ dds) S) P)
    (hb : ∀ d S', P d S' → ∃ ρ', bindP pt d ρ = some ρ' ∧ Ws (B ρ' S') N T) : Ws (sSeq (sAsg (eFn g fa dds) (gPt pt)) B ρ S) N T := by
  rw [W_seq, W_asg, W_fn, hfa, W_ok]
  refine W.mono h fun d S' q => ?_
  rw [W_pt]
  obtain ⟨ρ', e, q2⟩ := hb d S' q
  rw [e]
  exact q2
theorem step_asg {f : FE} {pt : Pt} {B : FS} {ρ : Rho} {S : Sto} {N : Rho → Sto → Prop} {T : D → Sto → Prop} (P : D → Sto → Prop) (h : W (f ρ S) P)
    (hb : ∀ d S', P d S' → ∃ ρ', bindP pt d ρ = some ρ' ∧ Ws (B ρ' S') N T) : Ws (sSeq (sAsg f (gPt pt)) B ρ S) N T := by
  rw [W_seq, W_asg]
  refine W.mono h fun d S' q => ?_
  rw [W_pt]
  obtain ⟨ρ', e, q2⟩ := hb d S' q
  rw [e]
  exact q2
/-- .. where what comes out is told, and the store is as it was -/
theorem step_is {f : FE} {pt : Pt} {B : FS} {ρ ρ' : Rho} {S : Sto} {N : Rho → Sto → Prop} {T : D → Sto → Prop} (d0 : D) (h : W (f ρ S) fun d S' => d = d0 ∧ S' = S) (hp : bindP pt d0 ρ = some ρ') (hb : Ws (B ρ' S) N T) : Ws (sSeq (sAsg f (gPt pt)) B ρ S) N T :=
  step_asg _ h fun d S' q => by
    obtain ⟨rfl, rfl⟩ := q
    exact ⟨ρ', hp, hb⟩
theorem step_expr {f : FE} {B : FS} {ρ : Rho} {S : Sto} {N : Rho → Sto → Prop} {T : D → Sto → Prop} (h : W (f ρ S) fun _ S' => Ws (B ρ S') N T) : Ws (sSeq (sExpr f) B ρ S) N T := by
  rw [W_seq, W_expr]; exact h
theorem step_if {t : FT} {f g B : FS} {ρ : Rho} {S : Sto} {N : Rho → Sto → Prop} {T : D → Sto → Prop} (P : Bool → Sto → Prop) (h : W (t ρ S) P) (hb : ∀ b S', P b S' → Ws (sSeq (if b then f else g) B ρ S') N T) : Ws (sSeq (sIf t f g) B ρ S) N T := by
  rw [W_seq, W_sif]
  refine W.mono h fun b S' q => ?_
  have := hb b S' q
  rw [W_seq] at this
  cases b <;> exact this
theorem step_par {fa : FA} {is : List Nat} {B : FS} {ρ ρ' : Rho} {S : Sto} {N : Rho → Sto → Prop} {T : D → Sto → Prop} (ds0 : List D) (h : W (fa ρ S) fun ds S' => ds = ds0 ∧ S' = S) (hp : bindPs (is.map .nm) ds0 ρ = some ρ') (hb : Ws (B ρ' S) N T) : Ws (sSeq (sPar fa is) B ρ S) N T := by
  rw [W_seq, W_par]
  refine W.mono h fun ds S' q => ?_
  obtain ⟨rfl, rfl⟩ := q
  rw [hp]
  exact hb
theorem step_st {f B : FS} {ρ : Rho} {S : Sto} {N : Rho → Sto → Prop} {T : D → Sto → Prop} (P : Rho → Sto → Prop) (h : Ws (f ρ S) P T) (hb : ∀ ρ' S', P ρ' S' → Ws (B ρ' S') N T) : Ws (sSeq f B ρ S) N T := by
  rw [W_seq]
  exact Ws.mono h hb fun _ _ q => q

/-! ### texts -/
/-- plain signs alone -/
def plainS (w : Str) : Prop := ∀ c ∈ w.cps.toList, c ≤ 122
/-- a word -/
def Wrd (w : Str) : Prop := w.length ≤ 6 ∧ plainS w
theorem cps_app (a b : Str) : (a ++ b).cps.toList = a.cps.toList ++ b.cps.toList := by
  show (a.cps ++ b.cps).toList = _
  simp
theorem plain_app {a b : Str} (h : plainS a) (g : plainS b) : plainS (a ++ b) := fun c hc => by
  rw [cps_app] at hc
  rcases List.mem_append.mp hc with hc | hc
  · exact h c hc
  · exact g c hc
theorem len_app (a b : Str) : (a ++ b).length = a.length + b.length := Str.length_append a b
theorem plain_cut {w : Str} {lo hi : Option Int} (h : plainS w) : plainS (cutS w lo hi) := fun c hc => h c (by
  unfold cutS at hc
  exact List.mem_of_mem_drop (List.mem_of_mem_take (by simpa using hc)))
theorem upper_small : ∀ c, c ≤ 122 → ∀ e ∈ Unicode.upperOf c, e ≤ 255 := by
  have h : ∀ c : Fin 123, ∀ e ∈ Unicode.upperOf c.val, e ≤ 255 := by decide +kernel
  exact fun c hc => h ⟨c, by omega⟩
theorem upper_ok {w : Str} (h : plainS w) : ∀ c ∈ (Txt.upper w).cps.toList, c ≤ 255 := fun c hc => by
  unfold Txt.upper placed at hc
  simp only [Array.toList_flatten, Array.toList_map, Array.toList_mapIdx, List.mem_flatten, List.mem_map, List.mem_mapIdx] at hc
  obtain ⟨l, ⟨a, ⟨i, hi, rfl⟩, rfl⟩, hl⟩ := hc
  exact upper_small _ (h _ (List.getElem_mem hi)) c (by simpa using hl)
theorem upper_len (w : Str) : (Txt.upper w).length ≤ 3 * w.length := PyProof.Rows.len_upper w
theorem shw_txt {x : Str} (h : ∀ c ∈ x.cps.toList, c ≤ 255) (hl : x.length ≤ 40) : Shw 410 0 (.str x) := shw_str (by
  have := StrLaws.reprText_len x fun c hc => Nat.lt_of_le_of_lt (h c hc) (by decide)
  omega)
theorem eqvS {a b : Str} : PyData.eqv (.str a) (.str b) = (a == b) := by rw [PyData.eqv]
theorem okPlain {w : Str} (h : plainS w) : PyData.strOk w = true := by
  unfold PyData.strOk
  rw [← Array.all_toList, List.all_eq_true]
  exact fun c hc => decide_eq_true (Nat.lt_of_le_of_lt (h c hc) (by decide))
section
variable {S : Sto} {Q : D → Sto → Prop}
theorem W_addS {a b : Str} : W (kAdd (.str a) (.str b) S) Q = (a.length + b.length ≤ line ∧ Q (.str (a ++ b)) S) := by
  show W (chk _ _) Q = _
  rw [W_chk, decide_eq_true_eq]; rfl
theorem W_ixU {z : Str} {i : Int} : W (kIx (.str z) (.int i) S) Q = (z.length ≤ line ∧ match atI z.cps.toList i with
    | some c => Q (.str ⟨#[c]⟩) S
    | none => False) := by
  show W (chk _ _) Q = _
  rw [W_chk, decide_eq_true_eq]
  congr
  cases atI z.cps.toList i <;> rfl
theorem pys_strs (ws : List Str) : pys (ws.map .str) = some (ws.map .str) := by
  induction ws with
  | nil => rfl
  | cons w ws ih => simp only [List.map_cons, pys, py, ih]
theorem canLay_strs {ws : List Str} (h : ∀ w ∈ ws, plainS w) : PyData.canLayAll0 (ws.map .str) = true := by
  induction ws with
  | nil => rfl
  | cons w ws ih =>
    simp only [List.map_cons, PyData.canLayAll0, PyData.canLay0, ih fun x hx => h x (List.mem_cons_of_mem _ hx), okPlain (h w List.mem_cons_self), Bool.and_self]
theorem depth_strs (ws : List Str) : PyData.depthAll (ws.map .str) = 0 := by
  induction ws with
  | nil => rfl
  | cons w ws ih => simp only [List.map_cons, PyData.depthAll, PyData.depth, ih]; rfl
theorem W_inO {k : Nat} {w : Str} {ws : List Str} (h : S.m[k]? = some (some (.lst (ws.map .str)))) (hp : ∀ w ∈ ws, plainS w) (hw : plainS w) : W (kInB true (.str w) (.obj k) S) Q = Q (.bl (!(ws.any fun z => z == w))) S := by
  show W (match pyOf S (.str w), pyOf S (.obj k) with
    | some d, some (.list ds) => chk (SeqAt.shaped d && SeqAt.shaped (.list ds)) (.ok (.bl (if true = true then !(ds.any fun z => PyData.eqv z d) else ds.any fun z => PyData.eqv z d)) S)
    | _, _ => .no) Q = _
  have e1 : pyOf S (.obj k) = some (.list (ws.map .str)) := by
    unfold pyOf
    simp only [h, pys_strs]; rfl
  have e2 : SeqAt.shaped (.str w) = true := by
    unfold SeqAt.shaped
    simp only [PyData.canLay0, okPlain hw, PyData.depth]; rfl
  have e3 : SeqAt.shaped (.list (ws.map .str)) = true := by
    unfold SeqAt.shaped
    simp only [PyData.canLay0, PyData.depth, canLay_strs hp, depth_strs]; rfl
  rw [e1]
  show W (chk _ _) Q = _
  rw [W_chk, e2, e3]
  simp only [if_true, List.any_map]
  have e4 : (fun z => PyData.eqv z (.str w)) ∘ PyData.str = fun z => z == w := by funext z; exact eqvS
  rw [e4]
  simp [W]
end
theorem pig : ∀ (xs ws : List Str), xs.Nodup → (∀ x ∈ xs, x ∈ ws) → xs.length ≤ ws.length
  | [], ws, _, _ => Nat.zero_le _
  | x :: xs, ws, hd, hm => by
    have hx := hm x List.mem_cons_self
    have h2 := List.nodup_cons.mp hd
    have := pig xs (ws.erase x) h2.2 fun y hy => by
      have hne : y ≠ x := fun e => h2.1 (e ▸ hy)
      exact (List.mem_erase_of_ne hne).mpr (hm y (List.mem_cons_of_mem _ hy))
    rw [List.length_erase_of_mem hx] at this
    have : 0 < ws.length := List.length_pos_of_mem hx
    simp only [List.length_cons]
    omega
end Qd


/-! Qx1: try with several clauses, each by one class or by a tuple of classes, with a name or none; the exception that is caught is tracked: it may be kept -/
namespace Qd
open PySem L2 PyProof.Rows

theorem exV_ok {P : Program} {w : World} {H : Hp} {h : Heap} {a : Addr} {cls : Value} {d : Option Addr} {oe : Obj} {vs : Array Value} (e : h.get? a = some oe) (z : Zc cls d oe) (hd : oe.data = .fields vs) : ObjOk P w H h a (ExV cls d a) :=
  ⟨⟨oe, vs, e, z, hd⟩, ⟨oe, e⟩, fun _ _ ⟨o, v, q, r⟩ k => ⟨o, v, k o q, r⟩⟩
section
variable {X : Cx} {pins : List (Addr × Obj)} {σ : L2.St} {H : Hp} {s : Shared}
/-- a thing that stands in the heap, untracked, made since the def began, is tracked from here on -/
theorem trackX {a : Addr} {o : HO} {oe : Obj} {vs : Array Value} (I : Inv X pins σ H s) (ha : H a = none) (h0 : X.s_0.heap.get? a = none) (hL : a ≠ X.env.locals) (he : s.heap.get? a = some oe) (hd : oe.data = .fields vs) (hob : ObjOk X.prog X.w (upd H a o) s.heap a o) (hp : ∀ p ∈ X.pn ++ pins, p.1 ≠ a) :
    Inv X pins σ (upd H a o) s := by
  refine ⟨I.ok, I.os, I.bare, ⟨fun b u e n hb hx => I.base.keep b u e n hb hx, fun b u e n hb hx => I.base.slot b u e n hb hx, fun b u e n hx => ?_, fun b u e hx => I.base.there b u e hx, fun b xs e => ?_, fun b u v e => ?_, fun b ps e => ?_⟩, I.loc, I.cell, ?_, fun x c e => ?_, fun p hpm => ?_, fun b u e => ?_, I.len⟩
  · have q := I.base.free b u e n hx
    rw [upd_ne fun z => by rw [z, h0] at e; cases e]; exact q
  · have q := I.base.tups b xs e
    rw [upd_ne (ne_of_none q ha)]; exact q
  · have q := I.base.frzs b u v e
    rw [upd_ne (ne_of_none q ha)]; exact q
  · obtain ⟨m, q⟩ := I.base.tbls b ps e
    exact ⟨m, by rw [upd_ne (ne_of_none q ha)]; exact q⟩
  · rw [upd_ne (Ne.symm hL)]; exact I.free
  · obtain ⟨v, hc⟩ := I.cell x c e
    have q := I.freeC x c e
    rw [upd_ne]
    · exact q
    · intro z
      obtain ⟨oc, e1, e2⟩ := hc
      rw [z, he] at e1; cases e1
      rw [hd] at e2; cases e2
  · obtain ⟨e, n, r⟩ := I.pin p hpm
    exact ⟨e, by rw [upd_ne (hp p hpm)]; exact n, r⟩
  · by_cases hb : b = a
    · subst hb
      rw [upd_same] at e; cases e
      exact hob
    · rw [upd_ne hb] at e
      exact (I.hok b u e).stay (fun _ _ _ q => q) (fun c q => by rw [upd_ne (ne_of_none q ha)]; exact q) fun c xs q => by rw [upd_ne (ne_of_none q ha)]; exact q
theorem inSuite (I : Inv X pins σ H s) (a : Addr) : Inv (X.suite a (X.pn ++ pins)) [] σ H s :=
  ⟨I.ok.suite _ _, I.os, I.bare, I.base, I.loc, I.cell, I.free, I.freeC, fun p hp => I.pin p (by rwa [List.append_nil] at hp), I.hok, I.len⟩
theorem outSuite {a : Addr} (I : Inv (X.suite a (X.pn ++ pins)) [] σ H s) (ok : X.Ok) : Inv X pins σ H s :=
  ⟨ok, I.os, I.bare, I.base, I.loc, I.cell, I.free, I.freeC, fun p hp => I.pin p (by rw [List.append_nil]; exact hp), I.hok, I.len⟩
end

/-! ### the test of a clause -/
def TestOk (X : Cx) (t : Expr) (cs : List Value) : Prop := ∀ (pins : List (Addr × Obj)) (σ : L2.St) (H : Hp) (s : Shared) (a : Addr) (cls : Value) (b : Bool) (Q : Bool → Shared → Prop) (E : Value → Shared → Prop), Inv (X.suite a (X.pn ++ pins)) [] σ H s →
  PySem.W.Looks (model X.prog X.w) s.heap (typeOf (.ref a)) cls → PySem.W.exmAny X.K cls cs = some b → (∀ h', (∀ q o, s.heap.get? q = some o → h'.get? q = some o) → Q b { s with heap := h' }) →
  wpAny (model X.prog X.w) (X.A.mark (some (.ref a))) (eval t X.env) (fun c s₁ => wpAny (model X.prog X.w) (X.A.mark (some (.ref a))) (excMatches (.ref a) c) Q E s₁) E s
section
variable {X : Cx}
theorem name_at {pins : List (Addr × Obj)} {σ : L2.St} {H : Hp} {s : Shared} {a : Addr} {x : Str} {c : Value} {np : Pos} {Q : Value → Shared → Prop} {E : Value → Shared → Prop} (hc : Names X x c) (I : Inv (X.suite a (X.pn ++ pins)) [] σ H s) (q : Q c s) :
    wpAny (model X.prog X.w) (X.A.mark (some (.ref a))) (eval (.Name x np) X.env) Q E s := by
  obtain ⟨hg, hdbg, hm | ⟨hm, hv, hnn⟩⟩ := hc
  · exact ld_glob (X := X.suite a (X.pn ++ pins)) I hg hm q hdbg
  · exact ld_blt (X := X.suite a (X.pn ++ pins)) I hg hm hv q hnn hdbg
theorem any_one {K : PySem.W.Frag} {cls c : Value} {b : Bool} (h : PySem.W.exmAny K cls [c] = some b) : PySem.W.exmOne K cls c = some b := by
  obtain ⟨b1, d1, h1, h2, rfl⟩ := PySem.W.exmAny_cons h
  cases h2
  rw [Bool.or_false]; exact h1
theorem test_1 {x : Str} {c : Value} {np : Pos} (hc : Names X x c) : TestOk X (.Name x np) [c] := fun pins σ H s a cls b Q E I LT hb q =>
  name_at hc I ((PySem.W.exm_one I.kIn LT (any_one hb)).here (q s.heap fun _ _ z => z))
theorem test_2 {x1 x2 : Str} {c1 c2 : Value} {p1 p2 tpos : Pos} {k : Nat} (n1 : Names X x1 c1) (n2 : Names X x2 c2) : TestOk X (.Tuple [.Name x1 p1, .Name x2 p2] k tpos) [c1, c2] := fun pins σ H s a cls b Q E I LT hb q => by
  refine wpAny_Tuple (wpAny_items_cons (name_at n1 I (wpAny_items_cons (name_at n2 I (wpAny_items_nil ⟨by rw [sizeLine_eq]; exact (by decide : 2 ≤ 16777216), ?_⟩)))))
  have more : ∀ (b : Addr) (o : Obj), s.heap.get? b = some o → (s.heap.push { cls := .type "tuple", data := .seq [c1, c2].toArray }).get? b = some o := fun b o z => Heap.get?_push_of_some _ z
  exact (PySem.W.exm_tup2 (I.kIn.keeps more) (LT.keeps more) (Heap.get?_push_size s.heap rfl) hb).here (q _ more)
theorem test_3 {x1 x2 x3 : Str} {c1 c2 c3 : Value} {p1 p2 p3 tpos : Pos} {k : Nat} (n1 : Names X x1 c1) (n2 : Names X x2 c2) (n3 : Names X x3 c3) : TestOk X (.Tuple [.Name x1 p1, .Name x2 p2, .Name x3 p3] k tpos) [c1, c2, c3] := fun pins σ H s a cls b Q E I LT hb q => by
  refine wpAny_Tuple (wpAny_items_cons (name_at n1 I (wpAny_items_cons (name_at n2 I (wpAny_items_cons (name_at n3 I (wpAny_items_nil ⟨by rw [sizeLine_eq]; exact (by decide : 3 ≤ 16777216), ?_⟩)))))))
  have more : ∀ (b : Addr) (o : Obj), s.heap.get? b = some o → (s.heap.push { cls := .type "tuple", data := .seq [c1, c2, c3].toArray }).get? b = some o := fun b o z => Heap.get?_push_of_some _ z
  exact (PySem.W.exm_tup3 (I.kIn.keeps more) (LT.keeps more) (Heap.get?_push_size s.heap rfl) hb).here (q _ more)
end

/-! ### try -/
/-- a clause: its classes, the slot of its name, what its suite asks -/
abbrev Cl := List Value × Option Nat × TS
/-- the ends behind a suite: its name goes -/
def goneE (oi : Option Nat) (D : Ends) : Ends := match oi with
  | none => D
  | some i => { nx := fun σ' H' => D.nx (σ'.set i none) H', rt := D.rt, bk := fun σ' H' => D.bk (σ'.set i none) H', ct := fun σ' H' => D.ct (σ'.set i none) H' }
def putN (oi : Option Nat) (a : Addr) (σ : L2.St) : L2.St := match oi with
  | none => σ
  | some i => σ.set i (some (.ref a))
/-- what the clauses wish of an exception of the body -/
def wCl (K : PySem.W.Frag) (Wout : WX) (D : Ends) : List Cl → WX
  | [] => Wout
  | (cs, oi, ts) :: r => fun cls d σ H => ∃ b, PySem.W.exmAny K cls cs = some b ∧ (b = true → ∀ a, H a = none → ts (goneE oi D) (putN oi a σ) (upd H a (ExV cls d a))) ∧ (b = false → wCl K Wout D r cls d σ H)
inductive ClOk (X : Cx) : List ExceptHandler → List Cl → Prop
  | nil : ClOk X [] []
  | bare {t : Expr} {cs : List Value} {ts : TS} {b₀ : Stmt} {suite : List Stmt} {pos : Pos} {hds : List ExceptHandler} {l : List Cl} (ht : TestOk X t cs) (hsu : ∀ (a : Addr) (pn : List (Addr × Obj)), PSs (X.suite a pn) (b₀ :: suite) ts) (r : ClOk X hds l) :
      ClOk X (.ExceptHandler (some t) none (b₀ :: suite) pos :: hds) ((cs, none, ts) :: l)
  | named {t : Expr} {cs : List Value} {i : Nat} {n : Str} {ts : TS} {b₀ : Stmt} {suite : List Stmt} {pos : Pos} {hds : List ExceptHandler} {l : List Cl} (hN : X.N.Nodup) (hi : X.N[i]? = some n) (hln : X.env.kindOf n = some .local) (ht : TestOk X t cs)
      (hsu : ∀ (a : Addr) (pn : List (Addr × Obj)), PSs (X.suite a pn) (b₀ :: suite) ts) (r : ClOk X hds l) : ClOk X (.ExceptHandler (some t) (some n) (b₀ :: suite) pos :: hds) ((cs, some i, ts) :: l)
theorem fly_more {base : Heap} {l : List Env} {e : Addr} {Z : Obj → Prop} {h h' : Heap} (f : HandSPX.FlyingZ base l e Z h) (k : ∀ b o, h.get? b = some o → h'.get? b = some o) : HandSPX.FlyingZ base l e Z h' := by
  obtain ⟨f1, f2, f3, oe, vs, T, oT, ts, q1, q2, q3, q4, q5, q6, q7, q8, q9⟩ := f
  exact ⟨fun b o q => k b o (f1 b o q), f2, f3.of_keeps fun b o q _ => ⟨o, k b o q, rfl⟩, oe, vs, T, oT, ts, k _ _ q1, q2, q3, q4, q5, q6, k _ _ q7, q8, q9⟩
section
variable {X : Cx} {body : List Stmt} {h₀ : ExceptHandler} {hds : List ExceptHandler} {l : List Cl} {pos : Pos} {tb : WX → TS} {Wout : WX}
theorem ps_tryV (hs : X.stack = X.env :: X.outer) (hf : X.env.frame = some X.env.locals) (hex : X.ex = []) (tk : Takes X Wout)
    (hb : ∀ (W : WX) (pn : List (Addr × Obj)) (xe : Value → Shared → Prop), Takes (X.tr pn xe) W → PassesOwn (model X.prog X.w) X.A X.env xe → PSs (X.tr pn xe) body (tb W))
    (hh : ClOk X (h₀ :: hds) l) : PS X (.Try body (h₀ :: hds) [] [] pos) (fun D σ H => tb (wCl X.K Wout D l) D σ H) := by
  constructor
  intro pins s σ H D I h
  have ok := I.ok
  have frm : X.A.frames = some (X.env :: X.outer) := by rw [ok.frames, hs]
  refine wpAny_Try_except ?_
  let xe2 : Value → Shared → Prop := fun e s₁ => wpAny (model X.prog X.w) X.A (noteFrame e X.env) (fun _ s₂ => wpAny (model X.prog X.w) X.A (setFlight e none) (fun _ s₃ => wpAny (model X.prog X.w) X.A (handleBy e X.env (h₀ :: hds)) (SP X pins D) X.xe s₃) X.xe s₂) X.xe s₁
  refine wpAny_mono ((hb (wCl X.K Wout D l) (X.pn ++ pins) xe2 ?_ PassesOwn.looking).run [] s σ H D (I.toTry _) h) ?_ fun e s1 he => he
  · rintro u s' ⟨a, B, sI, pins', σ', H', cls, d, rfl, J', nb, up, sky, na, os, ag, wish⟩
    have J : Inv X pins σ' H' sI := J'.ofTry ok
    show wpAny (model X.prog X.w) X.A (noteFrame (.ref a) X.env) _ _ _
    have skyE : Sky B (X.env :: X.outer) a (Zc cls d) X.env.locals s'.heap := hs ▸ sky
    refine Sky.land Zc.steady frm hf skyE fun h3 fl3 up3 => ?_
    -- where a stands
    have Bn : B.get? a = none := fl3.2.1
    have fr_of : ∀ b, b ∈ frs X.stack → b = X.env.locals ∨ b ∈ X.fs := fun b hb => by
      rw [hs] at hb
      unfold frs at hb
      rw [List.filterMap_cons, hf] at hb
      exact List.mem_cons.mp hb
    have there : ∀ (h : Heap) (oe : Obj) (vs : Array Value), h.FunFrames B (X.env :: X.outer) → h.get? a = some oe → oe.data = .fields vs → a ∉ frs X.stack := fun h oe vs ff e dd hm => by
      rw [hs] at hm
      obtain ⟨_, o', e', hnf⟩ := ff.mem hm
      rw [e] at e'; cases e'
      exact hnf _ dd
    have nS : a ∉ frs X.stack := by
      obtain ⟨oe, vs, e, _, dd⟩ := fl3.there
      exact there h3 oe vs fl3.2.2.1 e dd
    have nL : a ≠ X.env.locals := fun z => nS (by rw [hs]; unfold frs; rw [List.filterMap_cons, hf, z]; exact List.mem_cons_self)
    have nsI : sI.heap.get? a = none := by
      cases e : sI.heap.get? a with
      | none => rfl
      | some o => have := nb a o e nS; rw [Bn] at this; cases this
    have n0 : X.s_0.heap.get? a = none := by
      cases e : X.s_0.heap.get? a with
      | none => rfl
      | some o =>
        obtain ⟨o', q⟩ := J.base.there a o e (by rw [hex]; exact List.not_mem_nil)
        rw [nsI] at q; cases q
    have np : ∀ p ∈ X.pn ++ pins, p.1 ≠ a := fun p hp z => by
      have q := (J.pin p hp).1
      rw [z, nsI] at q; cases q
    have go : ∀ (hs' : List ExceptHandler) (l' : List Cl), ClOk X hs' l' → ∀ h5, HandSPX.FlyingZ B (X.env :: X.outer) a (Zc cls d) h5 → s'.heap.UpToSlots h5 → wCl X.K Wout D l' cls d σ' H' →
        wpAny (model X.prog X.w) X.A (handleBy (.ref a) X.env hs') (SP X pins D) X.xe { s' with heap := h5 } := by
      intro hs' l' hk
      induction hk with
      | nil =>
        intro h5 fl5 up5 wish
        refine wpAny_handleBy_nil ?_
        obtain ⟨_, _, _, oe, vs, T, oT, ts', he, _, hd, h1, _⟩ := id fl5
        unfold PySem.passOn
        refine wpAny_bind (wpAny_field he hd h1 ?_)
        rw [if_neg (show ¬ ((Value.ref T == Value.none) = true) from by simp)]
        have last : wpAny (model X.prog X.w) X.A (setFlight (.ref a) X.env.frame) (fun _ s4 => wpAny (model X.prog X.w) X.A (throw (.ref a) : Sem Flow) (SP X pins D) X.xe s4) X.xe { s' with heap := h5 } := by
          rw [hf]
          refine HandSPX.setFlight_upZ fl5 fun h6 hh6 up6 => wpAny_throw (tk _ _ ?_)
          exact ⟨a, B, sI, pins, σ', H', cls, d, rfl, J, nb, (up.trans up5).trans up6, .inr (.inr (hs ▸ hh6)), na, os, ag, wish⟩
        first
          | exact wpAny_bind (wpAny_pure (wpAny_bind last))
          | exact wpAny_bind last
      | @bare t cs ts b₀ suite pos' hds2 l2 ht hsu r ih =>
        rintro h5 fl5 up5 ⟨b, hb1, yes, no⟩
        have J5 : Inv X pins σ' H' { s' with heap := h5 } := J.landed nb fl5.1 (up.trans up5) os ag
        obtain ⟨oe5, _, he5, hz5, _⟩ := fl5.there
        refine wpAny_handleBy_cons (codeAny_handlers_test ?_) (by intro q; cases q)
        refine ht _ σ' H' { s' with heap := h5 } a cls b _ _ (inSuite J5 a) (fun A Q E s k q => wpAny_typeOf_ref (k _ _ he5) (by rw [hz5.1]; exact q)) hb1 fun h6 k6 => ?_
        have fl6 := fly_more fl5 k6
        have up6 : s'.heap.UpToSlots h6 := up5.trans (Heap.UpToSlots.of_keeps k6)
        cases b with
        | false => exact ih h6 fl6 up6 (no rfl)
        | true =>
          refine codeAny_handlers_suite ?_
          refine HandSPX.lands_againZ fl6 fun h7 fl7 up7 => ?_
          obtain ⟨oe7, vs7, he7, hz7, hd7⟩ := fl7.there
          have T7 := trackX (J.landed (s' := { s' with heap := h7 }) nb fl7.1 ((up.trans up6).trans up7) os ag) na n0 nL he7 hd7 (exV_ok he7 hz7 hd7) np
          refine wpAny_mono ((hsu a (X.pn ++ pins)).run [] _ _ _ _ (inSuite T7 a) (yes rfl a na)) (fun f s8 hsp => ?_) (fun _ _ z => False.elim z)
          cases f with
          | next => obtain ⟨σ8, H8, S8, q8⟩ := hsp; exact ⟨_, _, outSuite S8 ok, q8⟩
          | brk => obtain ⟨σ8, H8, S8, q8⟩ := hsp; exact ⟨_, _, outSuite S8 ok, q8⟩
          | cont => obtain ⟨σ8, H8, S8, q8⟩ := hsp; exact ⟨_, _, outSuite S8 ok, q8⟩
          | ret u => obtain ⟨v8, σ8, H8, S8, r8, q8⟩ := hsp; exact ⟨_, _, _, outSuite S8 ok, r8, q8⟩
      | @named t cs i n ts b₀ suite pos' hds2 l2 hN hi hln ht hsu r ih =>
        rintro h5 fl5 up5 ⟨b, hb1, yes, no⟩
        have J5 : Inv X pins σ' H' { s' with heap := h5 } := J.landed nb fl5.1 (up.trans up5) os ag
        obtain ⟨oe5, _, he5, hz5, _⟩ := fl5.there
        refine wpAny_handleBy_cons (codeAny_handlers_test ?_) (by intro q; cases q)
        refine ht _ σ' H' { s' with heap := h5 } a cls b _ _ (inSuite J5 a) (fun A Q E s k q => wpAny_typeOf_ref (k _ _ he5) (by rw [hz5.1]; exact q)) hb1 fun h6 k6 => ?_
        have fl6 := fly_more fl5 k6
        have up6 : s'.heap.UpToSlots h6 := up5.trans (Heap.UpToSlots.of_keeps k6)
        cases b with
        | false => exact ih h6 fl6 up6 (no rfl)
        | true =>
          refine codeAny_handlers_suite_as ?_
          refine HandSPX.lands_againZ fl6 fun h7 fl7 up7 => ?_
          obtain ⟨oe7, vs7, he7, hz7, hd7⟩ := fl7.there
          have T7 := trackX (J.landed (s' := { s' with heap := h7 }) nb fl7.1 ((up.trans up6).trans up7) os ag) na n0 nL he7 hd7 (exV_ok he7 hz7 hd7) np
          refine store_ok (X := X.suite a (X.pn ++ pins)) (v := .ref a) (inSuite T7 a) hN hi (.inl hln) rfl (fun s8 S8 => ?_) (.inr hln)
          refine wpAny_mono ((hsu a (X.pn ++ pins)).run [] s8 _ _ _ S8 (yes rfl a na)) (fun f s9 hsp => ?_) (fun _ _ z => False.elim z)
          have ends : ∀ {σ9 : L2.St} {H9 : Hp} {Q : Shared → Prop}, Inv (X.suite a (X.pn ++ pins)) [] σ9 H9 s9 → (∀ s10, Inv X pins (σ9.set i none) H9 s10 → Q s10) →
              wpAny (model X.prog X.w) X.A (do bindName X.env n .none; unbindBehindTheSuite X.env n pos') (fun _ s10 => Q s10) X.xe s9 := fun S9 hq => gone_ok (outSuite S9 ok) hN hi hln hq
          cases f with
          | next => obtain ⟨σ9, H9, S9, q9⟩ := hsp; exact ends S9 fun s10 J10 => ⟨_, _, J10, q9⟩
          | brk => obtain ⟨σ9, H9, S9, q9⟩ := hsp; exact ends S9 fun s10 J10 => ⟨_, _, J10, q9⟩
          | cont => obtain ⟨σ9, H9, S9, q9⟩ := hsp; exact ends S9 fun s10 J10 => ⟨_, _, J10, q9⟩
          | ret u => obtain ⟨v9, σ9, H9, S9, r9, q9⟩ := hsp; exact ends S9 fun s10 J10 => ⟨_, _, _, J10, r9, q9⟩
    exact go _ _ hh h3 fl3 up3 wish
  · intro f s1 hsp
    cases f with
    | next => obtain ⟨σ', H', J', q⟩ := hsp; exact wpAny_execs_nil ⟨σ', H', J'.ofTry ok, q⟩
    | brk => obtain ⟨σ', H', J', q⟩ := hsp; exact ⟨σ', H', J'.ofTry ok, q⟩
    | cont => obtain ⟨σ', H', J', q⟩ := hsp; exact ⟨σ', H', J'.ofTry ok, q⟩
    | ret u => obtain ⟨v, σ', H', J', r, q⟩ := hsp; exact ⟨v, σ', H', J'.ofTry ok, r, q⟩
end
end Qd

/-! Qx2: exceptions of own classes over ValueError, LookupError, ArithmeticError, with own classes between; their __init__ calls that of the class above, then stores fields -/
namespace Qd
open PySem L2 PyProof.Rows

structure BaseX (B newId initId : String) (tl : List Value) : Prop where
  F : ExcBaseFacts B newId initId tl
  SF : StoreFacts B tl "object.__setattr__" "object"
  hid : PySem.W.handedIn (.builtin initId) = true
theorem bx_VE : BaseX "ValueError" "ValueError.__new__" "ValueError.__init__" [.type "ValueError", .type "Exception", .type "BaseException", .type "object"] := ⟨PySem.F.excBase_ValueError, PySem.F.store_ValueError, rfl⟩
theorem bx_LE : BaseX "LookupError" "LookupError.__new__" "LookupError.__init__" [.type "LookupError", .type "Exception", .type "BaseException", .type "object"] := ⟨PySem.F.excBase_LookupError, PySem.F.store_LookupError, rfl⟩
theorem bx_AE : BaseX "ArithmeticError" "ArithmeticError.__new__" "ArithmeticError.__init__" [.type "ArithmeticError", .type "Exception", .type "BaseException", .type "object"] := ⟨PySem.F.excBase_ArithmeticError, PySem.F.store_ArithmeticError, rfl⟩
/-- what the written part says of such a class -/
structure XcC (K : PySem.W.Frag) (C : Addr) (newId : String) (tl : List Value) : Prop where
  ini : PySem.W.excInitIn K C tl newId = true
  ovr : PySem.W.excOver K C tl = true
  hd : PySem.W.hasDictIn K C = true
  sa : PySem.W.findIn K (.ref C) "__setattr__" = some (some (.builtin "object.__setattr__"))
  exC : PySem.W.subIn K (.ref C) (.type "BaseException") = some true
  tyC : PySem.W.typeIn K (.ref C) = some (.type "type")
  kC : PySem.W.keepIn K (.ref C) = true
section
variable {prog : Program} {w : World} {A : Around} {R : Result → Shared → Prop} {hp : Heap} {g : Array GenState} {d : Drawn} {t : Nat} {os : OsState} {K : PySem.W.Frag} {C x : Addr} {B newId initId : String} {tl : List Value} {name : Str} {tk : Tok} {v : Value} {fv : Array Value}
theorem own_new (BX : BaseX B newId initId tl) (T : XcC K C newId tl) (X : K.In hp) (hx : hp.get? x = some { cls := .ref C, data := .fields fv }) (hno : PySem.W.findIn K (.ref C) name = some none)
    (hq : ∀ h' tk' dx, (∀ b o, b ≠ x → hp.get? b = some o → h'.get? b = some o) → hp.objs.size ≤ dx → dx ≠ x → h'.get? x = some { cls := .ref C, dict := some dx, data := .fields fv } →
      h'.Ns1 dx (fun y => if y = name then some v else none) → R (.ok (.ret .none)) ⟨h', g, d, tk', os⟩) :
    codeAny (model prog w) A (.call (.builtin "object.__setattr__") ⟨[.ref x, .str name tk, v], []⟩) R ⟨hp, g, d, t, os⟩ := by
  obtain ⟨cd, hcd, hh⟩ := PySem.W.any_some T.hd
  have inst : PySem.W.InstAt hp x { cls := .ref C, data := .fields fv } C none := ⟨hx, rfl, rfl, trivial⟩
  refine PySem.W.osa_openX (r := none) BX.SF X inst T.ovr (by unfold PySem.W.takerIn; rw [hno]; rfl) fun b => ?_
  have look : PySem.W.Looks (model prog w) hp (classData C) cd := PySem.W.looks_clsIn X hcd
  have ne : x ≠ hp.objs.size := Nat.ne_of_lt (Heap.lt_size hx)
  obtain ⟨nm, bs, mro, ns, qn, hd, sn, sb, ab, col, del⟩ := cd
  dsimp only at hh
  subst hh
  dsimp only
  unfold Builtin.ObjectAttr.storeInOwnDict Builtin.ObjectAttr.ownDictForStores
  repeat (first | (with_reducible refine HandSPX.store_in_new ?_ ?_) | (with_reducible refine wpAny_loadPart_at hx ?_) | (with_reducible refine look.at ?_) | wp_step)
  · exact ⟨_, #[], _, (Heap.get?_update_ne _ _ _ _ ne.symm).trans (Heap.get?_push_at rfl rfl), rfl, fun e he => absurd he (by simp), fun _ => rfl⟩
  · intro h' tk' hn same
    refine hq h' tk' hp.objs.size (fun b o hb ho => (same.2 b (Nat.ne_of_lt (Heap.lt_size ho))).trans ((Heap.get?_update_ne _ _ _ _ hb).trans (Heap.get?_push_of_some _ ho))) (Nat.le_refl _) ne.symm ?_ hn
    have hx1 : (hp.push { cls := .type "dict", data := .dict #[] }).get? x = some { cls := .ref C, data := .fields fv } := Heap.get?_push_of_some _ hx
    exact (same.2 x ne).trans (Heap.get?_update_self _ hx1 rfl)
theorem own_old {dx : Addr} {m0 : Str → Option Value} {nl : List Str} (BX : BaseX B newId initId tl) (T : XcC K C newId tl) (X : K.In hp) (hx : hp.get? x = some { cls := .ref C, dict := some dx, data := .fields fv }) (hns : hp.Ns1 dx m0) (hw : Within m0 nl) (hz : nl.length ≤ 1000)
    (hno : PySem.W.findIn K (.ref C) name = some none) (hq : ∀ h' tk', (∀ b o, b ≠ dx → hp.get? b = some o → h'.get? b = some o) → h'.Ns1 dx (fun y => if y = name then some v else m0 y) → R (.ok (.ret .none)) ⟨h', g, d, tk', os⟩) :
    codeAny (model prog w) A (.call (.builtin "object.__setattr__") ⟨[.ref x, .str name tk, v], []⟩) R ⟨hp, g, d, t, os⟩ := by
  obtain ⟨oD, _, _, hoD, _, _⟩ := hns.count hw
  obtain ⟨cd, hcd, hh⟩ := PySem.W.any_some T.hd
  have inst : PySem.W.InstAt hp x { cls := .ref C, dict := some dx, data := .fields fv } C (some oD) := ⟨hx, rfl, rfl, hoD⟩
  refine PySem.W.osa_openX (r := none) BX.SF X inst T.ovr (by unfold PySem.W.takerIn; rw [hno]; rfl) fun b => ?_
  have look : PySem.W.Looks (model prog w) hp (classData C) cd := PySem.W.looks_clsIn X hcd
  obtain ⟨nm, bs, mro, ns, qn, hd, sn, sb, ab, col, del⟩ := cd
  dsimp only at hh
  subst hh
  dsimp only
  unfold Builtin.ObjectAttr.storeInOwnDict Builtin.ObjectAttr.ownDictForStores
  repeat (first | (with_reducible refine OEX.store_in_old hns hw hz ?_) | (with_reducible refine wpAny_loadPart_at hx ?_) | (with_reducible refine look.at ?_) | wp_step)
  exact fun h' tk' hn same => hq h' tk' (fun b o hb ho => (same.2 b hb).trans ho) hn
end
end Qd

/-! Qx3: such an exception is made: C(e, ..), its __init__ walked -/
namespace Qd
open PySem L2 PyProof.Rows

section
variable {X : Cx} {pins : List (Addr × Obj)} {σ : L2.St} {H : Hp} {s : Shared} {a C dx : Addr} {f : Str} {y : V} {u : Value} {fs : List (Str × V)} {E : Value → Shared → Prop} {A : Around} {B newId initId : String} {tl : List Value}
theorem st_new {Q : Unit → Shared → Prop} (BX : BaseX B newId initId tl) (T : XcC X.K C newId tl) (I : Inv X pins σ H s) (e : H a = some (exo a C none)) (hno : PySem.W.findIn X.K (.ref C) f = some none) (ry : RelV y u)
    (h : ∀ dx s', H dx = none → dx ≠ a → Inv X pins σ (upd (upd H dx (exd dx [(f, y)])) a (exo a C (some dx))) s' → Q () s') : wpAny (model X.prog X.w) A (setAttr (.ref a) f u) Q E s := by
  obtain ⟨t1, ho⟩ := exo_at I.hok e
  obtain ⟨hp, g, d, t, os⟩ := s
  refine PySem.W.set_plain I.kIn (ox := { cls := .ref C, dict := none, data := .fields #[.ref t1, .none, .none, .none, .bool false, .none] }) (od := none) ⟨ho, rfl, rfl, trivial⟩ T.sa ?_
  refine own_new BX T I.kIn ho hno fun h' tk' dx k dn dne hx hn => ?_
  have freshD : H dx = none := I.hok.fresh dn
  have olds : ∀ {b : Addr} {o : Obj}, hp.get? b = some o → b ≠ dx := fun q => Nat.ne_of_lt (Nat.lt_of_lt_of_le (Heap.lt_size q) dn)
  have offA : ∀ {b : Addr}, H b = none → b ≠ a := fun n z => by rw [z, e] at n; cases n
  refine h dx _ freshD dne (I.un (t' := tk') (H' := upd (upd H dx (exd dx [(f, y)])) a (exo a C (some dx))) ⟨fun b o q n _ _ => k b o (offA n) q, fun b o q n _ _ => ⟨o.slots, k b o (offA n) q⟩, fun b o q n _ => by rw [upd_ne (offA n), upd_ne (olds q)]; exact n, fun b o q _ => ?_,
    fun b xs q => by rw [upd_ne (at_ne e q exo_tup), upd_ne (ne_of_none q freshD)]; exact q, fun b o v q => by rw [upd_ne (at_ne e q exo_frz), upd_ne (ne_of_none q freshD)]; exact q,
    fun b ps q => ⟨#[], by rw [upd_ne (at_ne e q exo_tbl), upd_ne (ne_of_none q freshD), q]; simp⟩⟩ fun b o q => ?_)
  · rcases Classical.em (b = a) with hb | hb
    · exact ⟨_, by rw [hb]; exact hx⟩
    · exact ⟨o, k b o hb q⟩
  · rcases Classical.em (b = a) with hb | hb
    · subst hb; rw [upd_same] at q; cases q; exact exo_ok hx
    · rw [upd_ne hb] at q
      rcases Classical.em (b = dx) with hd | hd
      · subst hd; rw [upd_same] at q; cases q
        exact exd_ok hn (relO_put (fs := []) ry fun _ => trivial)
      · rw [upd_ne hd] at q
        exact (I.hok b o q).stay (fun c v hc z => k c v (hc.elim (fun hc => hc ▸ hb) fun hc => at_ne e hc exo_own) z)
          (fun c hc => by rw [upd_ne (at_ne e hc exo_own), upd_ne (ne_of_none hc freshD)]; exact hc) (fun c xs hc => by rw [upd_ne (at_ne e hc exo_tup), upd_ne (ne_of_none hc freshD)]; exact hc)
theorem st_old {Q : Unit → Shared → Prop} (BX : BaseX B newId initId tl) (T : XcC X.K C newId tl) (I : Inv X pins σ H s) (e : H a = some (exo a C (some dx))) (ed : H dx = some (exd dx fs)) (hl : fs.length ≤ 900) (hno : PySem.W.findIn X.K (.ref C) f = some none) (ry : RelV y u)
    (h : ∀ s', Inv X pins σ (upd H dx (exd dx ((f, y) :: fs))) s' → Q () s') : wpAny (model X.prog X.w) A (setAttr (.ref a) f u) Q E s := by
  obtain ⟨t1, ho⟩ := exo_at I.hok e
  obtain ⟨mA, hns, rel⟩ := exd_at I.hok ed
  obtain ⟨hp, g, d, t, os⟩ := s
  obtain ⟨oD, _, _, hoD, _, _⟩ := hns.count (within_of rel)
  refine PySem.W.set_plain I.kIn (ox := { cls := .ref C, dict := some dx, data := .fields #[.ref t1, .none, .none, .none, .bool false, .none] }) (od := some oD) ⟨ho, rfl, rfl, hoD⟩ T.sa ?_
  refine own_old BX T I.kIn ho hns (within_of rel) (by rw [List.length_map]; omega) hno fun h' tk' k hn => ?_
  have there : ∃ o, h'.get? dx = some o := by obtain ⟨o, _, _, e', _⟩ := hn; exact ⟨o, e'⟩
  exact h _ (I.write (t' := tk') (x := dx) (e := dx) (o := exd dx ((f, y) :: fs)) (by rw [ed]; trivial) (.inl rfl) k there (exd_ok hn (relO_put ry rel)))
/-- B.__init__(self, ..) of a built-in class: nothing of it is told -/
theorem init_at {us : List Value} {Q : Value → Shared → Prop} (BX : BaseX B newId initId tl) (T : XcC X.K C newId tl) (I : Inv X pins σ H s) (e : H a = some (exo a C none)) (hl : us.length ≤ sizeLine) (h : ∀ s', Inv X pins σ H s' → Q .none s') :
    wpAny (model X.prog X.w) A (call (.builtin initId) (.ref a :: us)) Q E s := by
  obtain ⟨nm, N, qn, bs, bm, hdct, sn, sub, ab, col, dd, k0, k1, k2, k3, k5, hC, hT⟩ := PySem.W.excInit_of I.kIn T.ini
  obtain ⟨t1, ho⟩ := exo_at I.hok e
  obtain ⟨hp, g, d, t, os⟩ := s
  refine wpAny_call (PySem.HandSPX.init_base BX.F hT hC ho hl fun h' t2 k hx => ?_)
  have J := I.write (t' := t) (x := a) (e := a) (o := exo a C none) (by rw [e]; trivial) (.inl rfl) k ⟨_, hx⟩ (exo_ok hx)
  have same : upd H a (exo a C none) = H := funext fun b => by
    rcases Classical.em (b = a) with hb | hb
    · rw [hb, upd_same, e]
    · rw [upd_ne hb]
  rw [same] at J
  exact h _ J
end

/-! ### readings and rules -/
/-- D.__init__(self, ..), D an own class that has none of its own -/
def tInit (K : PySem.W.Frag) (newId : String) (tl : List Value) (ta : TA) : TE := fun σ H Q => ta σ H fun vs H1 => ∃ (a C : Addr) (ws : List V), vs = .ref a :: ws ∧ ws.length ≤ 1000 ∧ XcC K C newId tl ∧ H1 a = some (exo a C none) ∧ Q .non H1
/-- self.f = e -/
def tSt (K : PySem.W.Frag) (newId : String) (tl : List Value) (f : Str) (to te : TE) : TS := fun D σ H => te σ H fun y H1 => to σ H1 fun x H2 => ∃ a C : Addr, x = .ref a ∧ XcC K C newId tl ∧ PySem.W.findIn K (.ref C) f = some none ∧
  ((H2 a = some (exo a C none) ∧ ∀ dx, H2 dx = none → dx ≠ a → D.nx σ (upd (upd H2 dx (exd dx [(f, y)])) a (exo a C (some dx)))) ∨
    ∃ (dx : Addr) (fs : List (Str × V)), H2 a = some (exo a C (some dx)) ∧ H2 dx = some (exd dx fs) ∧ fs.length ≤ 900 ∧ D.nx σ (upd H2 dx (exd dx ((f, y) :: fs))))
/-- the class whose __init__ is called -/
structure Above (K : PySem.W.Frag) (D : Addr) (initId : String) : Prop where
  sp : PySem.W.specialIn K (.ref D) "__getattribute__" = some (some (.builtin "type.__getattribute__"))
  rd : PySem.W.readsIn K D (.type "type") = true
  fi : PySem.W.findCls K (.ref D) (.type "type") "__init__" = some (.val (.builtin initId))
section
variable {X : Cx} {o e : Expr} {es : List Expr} {to te : TE} {ta : TA} {f y : Str} {p p' p1 p2 pos : Pos} {B newId initId : String} {tl : List Value} {D0 : Addr}
theorem pe_init {pl : Sem Bool} (BX : BaseX B newId initId tl) (hg : Gl X y) (hm : X.mg y = some (.ref D0)) (Ab : Above X.K D0 initId) (ha : PA X (e :: es) ta)
    (hc : eval (.Call (.Attribute (.Name y p1) "__init__" p2) (e :: es) [] pos) X.env = (eval (.Name y p1) X.env >>= fun ov => standAt p2.atName >>= fun _ => holding [ov] (getMethod ov "__init__" pl) >>= fun fx => callWith pos fx.1 fx.2 (backTo pos (starEach (e :: es) X.env)) (backToKw pos (keywordEach [] X.env))) := by rfl)
    (hd : (y == ("__debug__" : Str)) = false := by decide) (he : starEach (e :: es) X.env = (false, eval e X.env) :: starEach es X.env := by rfl) (hpl : (backTo pos (starEach es X.env)).any (·.1) = false := by rfl) :
    PE X (.Call (.Attribute (.Name y p1) "__init__" p2) (e :: es) [] pos) (tInit X.K newId tl ta) := by
  refine ⟨fun pins s σ H Q I h => PySem.W.methodCall_KW (ld_glob I hg hm ?_ hd) hc⟩
  refine PySem.W.method_cls I.kIn Ab.sp (PySem.W.cls_value I.kIn Ab.rd Ab.fi BX.hid ?_)
  show wpAny _ _ (callWith pos (Value.builtin initId) [] (backTo pos (starEach (e :: es) X.env)) []) _ _ _
  refine PyProof.Rows.callWith_method1 (thn (ha.run pos pins _ σ H _ (I.tok _) h) ?_) he hpl
  rintro us s1 ⟨vs, H1, I1, r1, a, C, ws, rfl, hl, T, ea, q⟩
  cases r1 with
  | @cons _ u0 _ ur ra rw' =>
    obtain rfl : u0 = Value.ref a := ra
    exact init_at BX T I1 ea (by rw [← Paired.length rw', sizeLine_eq]; omega) fun s' J => ⟨.non, H1, J, rfl, q⟩
theorem ps_st (BX : BaseX B newId initId tl) (ho : PE X o to) (he : PE X e te) (hs : swapsWith e (some (.Attribute o f p')) pos.line X.env = pure false := by rfl) : PS X (.Assign [.Attribute o f p'] e pos) (tSt X.K newId tl f to te) := by
  refine ⟨fun pins s σ H D I h => plainObj_wpAny_Assign_Attribute (thn (he.run pins s σ H _ I h) ?_) hs⟩
  rintro v s1 ⟨yv, H1, I1, r1, q1⟩
  refine thn (ho.run pins s1 σ H1 _ I1 q1) ?_
  rintro u s2 ⟨x, H2, I2, r2, a, C, rfl, T, hno, q⟩
  obtain rfl : u = Value.ref a := r2
  rcases q with ⟨ea, q⟩ | ⟨dx, fs, ea, ed, hl, q⟩
  · exact st_new BX T I2 ea hno r1 fun dx s' n ne J => ⟨σ, _, J, q dx n ne⟩
  · exact st_old BX T I2 ea ed hl hno r1 fun s' J => ⟨σ, _, J, q⟩
end
/-- what __init__ leaves: the fields stored, the last one ahead -/
def spI (K : PySem.W.Frag) (newId : String) (tl : List Value) (ns : List Str) : Sp := fun vs H Q _ => ∃ (a C : Addr) (ys : List V), vs = .ref a :: ys ∧ ys.length = ns.length ∧ XcC K C newId tl ∧ (∀ n ∈ ns, PySem.W.findIn K (.ref C) n = some none) ∧ H a = some (exo a C none) ∧
  ∀ H' dx, H dx = none → dx ≠ a → H' a = some (exo a C (some dx)) → H' dx = some (exd dx (ns.zip ys).reverse) → (∀ b, b ≠ a → b ≠ dx → H' b = H b) → Q .non H'
abbrev tI0 (K : PySem.W.Frag) (newId : String) (tl : List Value) (tx : Str) : TS := tDrop (tInit K newId tl (tCons (tVar 0) (tCons (tC (.str tx)) tNil)))
section
variable {K : PySem.W.Frag} {newId : String} {tl : List Value} {tx n1 n2 n3 : Str} {vs : List V} {H : Hp} {Q : VK} {E : XK}
theorem spI1 (h : spI K newId tl [n1] vs H Q E) : tSeq (tI0 K newId tl tx) (tSt K newId tl n1 (tVar 0) (tVar 1)) { nx := fun _ H2 => Q .non H2, rt := Q } (L2.start ["self", n1] vs) H := by
  obtain ⟨a, C, ys, rfl, hl, T, hn, ha, q⟩ := h
  obtain ⟨y1, rfl⟩ : ∃ y1, ys = [y1] := by
    match ys, hl with
    | [y1], _ => exact ⟨y1, rfl⟩
  refine ⟨.ref a, rfl, a, C, [.str tx], rfl, by simp, T, ha, y1, rfl, .ref a, rfl, a, C, rfl, T, hn _ (by simp), .inl ⟨ha, fun dx hd ne => ?_⟩⟩
  exact q _ dx hd ne upd_same (by rw [upd_ne ne, upd_same]; rfl) fun b h1 h2 => by rw [upd_ne h1, upd_ne h2]
theorem spI2 (h : spI K newId tl [n1, n2] vs H Q E) : tSeq (tI0 K newId tl tx) (tSeq (tSt K newId tl n1 (tVar 0) (tVar 1)) (tSt K newId tl n2 (tVar 0) (tVar 2))) { nx := fun _ H2 => Q .non H2, rt := Q } (L2.start ["self", n1, n2] vs) H := by
  obtain ⟨a, C, ys, rfl, hl, T, hn, ha, q⟩ := h
  obtain ⟨y1, y2, rfl⟩ : ∃ y1 y2, ys = [y1, y2] := by
    match ys, hl with
    | [y1, y2], _ => exact ⟨y1, y2, rfl⟩
  refine ⟨.ref a, rfl, a, C, [.str tx], rfl, by simp, T, ha, y1, rfl, .ref a, rfl, a, C, rfl, T, hn _ (by simp), .inl ⟨ha, fun dx hd ne => ?_⟩⟩
  have d1 : upd (upd H dx (exd dx [(n1, y1)])) a (exo a C (some dx)) dx = some (exd dx [(n1, y1)]) := by rw [upd_ne ne, upd_same]
  refine ⟨y2, rfl, .ref a, rfl, a, C, rfl, T, hn _ (by simp), .inr ⟨dx, _, upd_same, d1, by simp, ?_⟩⟩
  exact q _ dx hd ne (by rw [upd_ne (Ne.symm ne), upd_same]) (by rw [upd_same]; rfl) fun b h1 h2 => by rw [upd_ne h2, upd_ne h1, upd_ne h2]
theorem spI3 (h : spI K newId tl [n1, n2, n3] vs H Q E) : tSeq (tI0 K newId tl tx) (tSeq (tSt K newId tl n1 (tVar 0) (tVar 1)) (tSeq (tSt K newId tl n2 (tVar 0) (tVar 2)) (tSt K newId tl n3 (tVar 0) (tVar 3)))) { nx := fun _ H2 => Q .non H2, rt := Q } (L2.start ["self", n1, n2, n3] vs) H := by
  obtain ⟨a, C, ys, rfl, hl, T, hn, ha, q⟩ := h
  obtain ⟨y1, y2, y3, rfl⟩ : ∃ y1 y2 y3, ys = [y1, y2, y3] := by
    match ys, hl with
    | [y1, y2, y3], _ => exact ⟨y1, y2, y3, rfl⟩
  refine ⟨.ref a, rfl, a, C, [.str tx], rfl, by simp, T, ha, y1, rfl, .ref a, rfl, a, C, rfl, T, hn _ (by simp), .inl ⟨ha, fun dx hd ne => ?_⟩⟩
  have d1 : upd (upd H dx (exd dx [(n1, y1)])) a (exo a C (some dx)) dx = some (exd dx [(n1, y1)]) := by rw [upd_ne ne, upd_same]
  refine ⟨y2, rfl, .ref a, rfl, a, C, rfl, T, hn _ (by simp), .inr ⟨dx, _, upd_same, d1, by simp, ?_⟩⟩
  refine ⟨y3, rfl, .ref a, rfl, a, C, rfl, T, hn _ (by simp), .inr ⟨dx, _, by rw [upd_ne (Ne.symm ne), upd_same], upd_same, by simp, ?_⟩⟩
  exact q _ dx hd ne (by rw [upd_ne (Ne.symm ne), upd_ne (Ne.symm ne), upd_same]) (by rw [upd_same]; rfl) fun b h1 h2 => by rw [upd_ne h2, upd_ne h2, upd_ne h1, upd_ne h2]
end
/-- C(e, ..) -/
def tMkX (C : Addr) (ns : List Str) (ta : TA) : L2.St → Hp → XK → Prop := fun σ H Q => ta σ H fun vs H1 => vs.length = ns.length ∧ ∀ d, H1 d = none → Q (.ref C) (some d) (upd H1 d (.xd (ns.zip vs).reverse))
section
variable {X : Cx} {e : Expr} {es : List Expr} {ta : TA} {x : Str} {p pos : Pos} {B newId initId : String} {tl : List Value} {C fI : Addr} {k : Nat} {fd : FuncData} {ps ns : List Str}
theorem pmk_x (BX : BaseX B newId initId tl) (T : XcC X.K C newId tl) (hns : ∀ n ∈ ns, PySem.W.findIn X.K (.ref C) n = some none) (hn9 : ns.length ≤ 900) (iC : PySem.W.findIn X.K (.ref C) "__init__" = some (some (.ref fI))) (tI : PySem.W.typeIn X.K (.ref fI) = some (.type "function"))
    (F1 : FnG X.prog X.w X.K X.mg X.base k fI fd ps (spI X.K newId tl ns)) (hr : Room (k + 1) X.A) (gs : X.A.guards = some []) (hb : Binds X.K fd ps []) (hg : Gl X x) (hm : X.mg x = some (.ref C)) (ha : PA X (e :: es) ta)
    (hdb : (x == ("__debug__" : Str)) = false := by decide) (he : starEach (e :: es) X.env = (false, eval e X.env) :: starEach es X.env := by rfl) (hpl : (backTo pos (starEach es X.env)).any (·.1) = false := by rfl) :
    PMk X (.Call (.Name x p) (e :: es) [] pos) (tMkX C ns ta) := by
  intro pins s σ H Q I h
  obtain ⟨nm, N, qn, bs, bm, hdct, sn, sub, ab, col, dd, k0, k1, k2, k3, k5, hC0, hT⟩ := PySem.W.excInit_of I.ok.mod.kin T.ini
  refine wpAny_Call_Name_kw (ld_glob I hg hm (PySem.W.callWith_K (h₀ := X.base) I.ok.mod.kin T.kC (thn (ha.run pos pins s σ H _ I h) ?_) he hpl) hdb)
  rintro us s1 ⟨vs, H1, I1, r1, hl, q1⟩
  refine ⟨I1.kIn, ?_⟩
  have hC := I1.bk _ _ hC0
  obtain ⟨hp, g, dr, tk, os⟩ := s1
  have hsz : hp.objs.size ≤ hp.objs.size + 1 := Nat.le_succ _
  have na : H1 (hp.objs.size + 1) = none := I1.hok.fresh hsz
  have more : ∀ b o, hp.get? b = some o → ((hp.push (PySem.W.kdv_tup us)).push (HandSPX.excO C hp.objs.size)).get? b = some o := fun b o q => Heap.get?_push_of_some _ (Heap.get?_push_of_some _ q)
  have at1 : ((hp.push (PySem.W.kdv_tup us)).push (HandSPX.excO C hp.objs.size)).get? (hp.objs.size + 1) = some (HandSPX.excO C hp.objs.size) := by heap_get
  have I2 := I1.laid (t' := tk) (a := hp.objs.size + 1) (o := exo (hp.objs.size + 1) C none) (h' := (hp.push (PySem.W.kdv_tup us)).push (HandSPX.excO C hp.objs.size)) more hsz (exo_ok at1)
  have hq : spI X.K newId tl ns (V.ref (hp.objs.size + 1) :: vs) (upd H1 (hp.objs.size + 1) (exo (hp.objs.size + 1) C none))
      (fun v H2 => v = .non ∧ ∃ (d : Addr) (fs : List (Str × V)), H2 (hp.objs.size + 1) = some (exo (hp.objs.size + 1) C (some d)) ∧ H2 d = some (exd d fs) ∧ H1 d = none ∧ Q (.ref C) (some d) (upd (del H2 (hp.objs.size + 1)) d (.xd fs))) (fun _ _ _ => False) := by
    refine ⟨_, C, vs, rfl, hl, T, hns, upd_same, fun H' d hd ne h1 h2 h3 => ⟨rfl, d, _, h1, h2, ?_, ?_⟩⟩
    · rwa [upd_ne ne] at hd
    · have hd1 : H1 d = none := by rwa [upd_ne ne] at hd
      have same : upd (del H' (hp.objs.size + 1)) d (.xd (ns.zip vs).reverse) = upd H1 d (.xd (ns.zip vs).reverse) := funext fun b => by
        rcases Classical.em (b = d) with hb | hb
        · rw [hb, upd_same, upd_same]
        · rw [upd_ne hb, upd_ne hb]
          rcases Classical.em (b = hp.objs.size + 1) with ha | ha
          · rw [ha, del_same, na]
          · rw [del_ne ha, h3 b ha hb, upd_ne ha]
      rw [same]; exact q1 d hd1
  have r2 : Vals (V.ref (hp.objs.size + 1) :: vs) (Value.ref (hp.objs.size + 1) :: us) := .cons rfl r1
  have hlen : (Value.ref (hp.objs.size + 1) :: us).length = ps.length := r2.length.symm.trans (F1.len _ _ _ _ hq)
  have hus : us.length ≤ sizeLine := by rw [← Paired.length r1, sizeLine_eq, hl]; omega
  have hb2 := hb ⟨(hp.push (PySem.W.kdv_tup us)).push (HandSPX.excO C hp.objs.size), g, dr, tk, os⟩ (Value.ref (hp.objs.size + 1) :: us) I2.kIn (by rw [List.append_nil]; exact hlen)
  rw [List.append_nil] at hb2
  refine wpAny_call (HandSPX.call_own BX.F hT hC (PySem.W.looks_findIn I1.kIn iC) (fun self => PySem.W.bind_fn I1.kIn self tI) hus (codeAny_mono (F1.go _ X.stack _ _ ⟨Value.ref (hp.objs.size + 1) :: us, []⟩ _ _ _ (fun _ _ _ => False) (hr.make C us []) (under_guards gs) (I2.env0.make C us []) hb2 r2 hq) ?_))
  rintro (er | fl) s' hq'
  · obtain ⟨_, _, _, _, _, _, _, _, _, _, _, _, z⟩ := hq'
    exact z.elim
  · cases fl with
    | ret u =>
      obtain ⟨v, H2, os2, bare2, un2, hok2, rv, rfl, d, fs, ea, ed, hd1, q2⟩ := hq'
      obtain ⟨h2, g2, d2, t2, os'⟩ := s'
      exact ⟨rv, mk_end (raises_own T.exC T.tyC) I1 hsz more un2 hok2 os2 bare2 ea ed hd1 q2⟩
    | _ => exact hq'.elim
end
end Qd

/-! Qx4: promises of defs that may also be called while an exception is handled (no loops in them) -/
namespace Qd
open PySem L2 PyProof.Rows
open L2H (RoomH roomH_of)

structure FnQ (P : Program) (w : World) (K : PySem.W.Frag) (mg : Str → Option Value) (base : Heap) (k : Nat) (f : Addr) (fd : FuncData) (ps : List Str) (sp : Sp) : Prop where
  len : ∀ vs H Q E, sp vs H Q E → vs.length = ps.length
  go : ∀ (A : Around) (outer : List Env) (s : Shared) (H : Hp) (args : Args) (us : List Value) (vs : List V) (Q : VK) (E : XK),
    RoomH k A → A.guards = some [] → Env0 P w K mg base A outer s H → BindsTo s fd args (ps.zip us) → Vals vs us → sp vs H Q E →
      codeAny (model P w) A (.call (.ref f) args) (CR (L2.CX P w) outer P w H s Q E) s
/-- the context of a def's body that may run while an exception is handled -/
abbrev cxQ (P : Program) (w : World) (K : PySem.W.Frag) (mg : Str → Option Value) (base : Heap) (N : List Str) (qual : Str) (scope : Scope) (f : Addr) (cd : Value) (A : Around) (outer : List Env) (s : Shared) (H : Hp) (E : XK) : Cx :=
  { cxOf (L2.CX P w) P w K mg base N qual scope f cd A outer s H E with calm := false }
section
variable {P : Program} {w : World} {K : PySem.W.Frag} {mg : Str → Option Value} {base : Heap}
theorem FnQ.toG {k : Nat} {f : Addr} {fd : FuncData} {ps : List Str} {sp : Sp} (F : FnQ P w K mg base k f fd ps sp) : FnG P w K mg base k f fd ps sp :=
  ⟨F.len, fun A o s H as us vs Q E hr => F.go A o s H as us vs Q E (roomH_of hr)⟩
theorem FnQ.more {j k : Nat} {f : Addr} {fd : FuncData} {ps : List Str} {sp : Sp} (F : FnQ P w K mg base j f fd ps sp) (h : j ≤ k) : FnQ P w K mg base k f fd ps sp :=
  ⟨F.len, fun A o s H as us vs Q E hr => F.go A o s H as us vs Q E (hr.mono h)⟩
theorem env0_cold {A : Around} {outer : List Env} {s : Shared} {H : Hp} (e : Env0 P w K mg base A outer s H) : Env0 P w K mg base { A with handled := none } outer s H := ⟨e.frames, e.mod, e.bs, e.bsz, e.funs, e.frf, e.hok, e.bare⟩
theorem inv_startQ {N ps : List Str} {qual : Str} {scope : Scope} {f : Addr} {cd : Value} {A : Around} {outer : List Env} {s s1 : Shared} {H : Hp} {E : XK} {us : List Value} {vs : List V}
    (S : FnScope N ps scope) (e0 : Env0 P w K mg base A outer s H) (hl : vs.length = ps.length) (r : Vals vs us)
    (x : InCallC s s.heap.objs.size (bindL (envOfC qual scope s.heap.objs.size f cd).kindOf (ps.zip us) fun _ => none) (cellsFrom (s.heap.objs.size + 1) scope.names []) (bindC (envOfC qual scope s.heap.objs.size f cd).kindOf (ps.zip us) fun _ => none) s1) :
    Inv (cxQ P w K mg base N qual scope f cd A outer s H E) [] (L2.start N vs) H s1 := by
  have I := inv_start (CX := L2.CX P w) (E := E) S rfl (env0_cold e0) hl r x
  exact ⟨⟨I.ok.mod, I.ok.kind, I.ok.glob, I.ok.blt, I.ok.above, I.ok.inj, I.ok.has, I.ok.cab, fun z => (nomatch z), Around.frames_deeper e0.frames, I.ok.stk, I.ok.exf, I.ok.bs, I.ok.bsz, I.ok.noex, I.ok.exfs, I.ok.funs, I.ok.frf⟩,
    I.os, I.bare, I.base, I.loc, I.cell, I.free, I.freeC, I.pin, I.hok, I.len⟩
theorem CE_ofQ {N : List Str} {qual : Str} {scope : Scope} {f : Addr} {cdv : Value} {A : Around} {outer : List Env} {s s2 : Shared} {H H2 : Hp} {E : XK} {Q : VK} {τ : L2.St} {v : V} {u : Value}
    (J : Inv (cxQ P w K mg base N qual scope f cdv A outer s H E) [] τ H2 s2) (rv : RelV v u) (q : Q v H2) : CE outer P w H s Q u s2 := ⟨v, H2, J.os, J.bare, J.base, J.hok, rv, q⟩
theorem fnQ_of {x qual : Str} {params : Arguments} {body : List Stmt} {scope : Scope} {dvs : List V} {kws : List (Str × V)} {f : Addr} {fd : FuncData} {N ps : List Str} {k : Nat} {sp : Sp} (F : FunD K x qual params body scope dvs kws f fd) (S : FnScope N ps scope)
    (len : ∀ vs H Q E, sp vs H Q E → vs.length = ps.length)
    (hb : ∀ (cdv : Value) (A : Around) (outer : List Env) (s : Shared) (H : Hp) (vs : List V) (Q : VK) (E : XK), RoomH k (A.deeper (envOfC qual scope s.heap.objs.size f cdv)) → A.guards = some [] → sp vs H Q E →
      ∃ t, PSs (cxQ P w K mg base N qual scope f cdv A outer s H E) body t ∧ t { nx := fun _ H2 => Q .non H2, rt := Q } (L2.start N vs) H) : FnQ P w K mg base (k + 1) f fd ps sp := by
  obtain ⟨oc, od, dV, kV, doc, pm, an, cdv, ct, osl, rfl, lk, hcd, _, _⟩ := F.ex
  refine ⟨len, fun A outer s H args us vs Q E hr gs e0 bt rv hsp => ?_⟩
  have stays : ∀ b o, base.get? b = some o → s.heap.get? b = some o := fun b o e => (e0.bs b o e).1
  have kin : K.In s.heap := e0.mod.kin.keeps stays
  obtain ⟨t, ht, hq⟩ := hb cdv A outer s H vs Q E (hr.deeper _) gs hsp
  have kinds : ∀ y ∈ ps.zip us, scope.names.lookup y.1 = some .local ∨ (scope.names.lookup y.1 = some .cell ∧ ((cellsFrom (s.heap.objs.size + 1) scope.names []).lookup y.1).isSome = true) := fun y hy =>
    (S.par y.1 (List.of_mem_zip (a := y.1) (b := y.2) hy).1).imp id fun q => ⟨q, PySem.W.cellsFrom_some _ _ _ (.inl q)⟩
  refine codeAny_call_function hr.depth (kin _ _ lk) rfl S.co S.gen rfl (PySem.W.codeRec_of kin hcd) (bt _ _ _ _ (wpAny_newFunctionEnv_cells S.kind kinds fun env he s1 x => ?_))
  subst he
  refine ⟨(e0.mod.nolimit.keeps stays).keeps x.toInCall.keep, codeAny_func (wpAny_mono (ht.run [] s1 (L2.start N vs) H _ (inv_startQ (us := us) S e0 (len _ _ _ _ hsp) rv x) hq) ?_ fun _ _ hs => hs)⟩
  intro fl s2 hs
  cases fl with
  | next => obtain ⟨τ, H2, J, q⟩ := hs; exact CE_ofQ (v := .non) (u := .none) J rfl q
  | ret u => obtain ⟨v, τ, H2, J, rv2, q⟩ := hs; exact CE_ofQ J rv2 q
  | brk => obtain ⟨_, _, _, z⟩ := hs; exact z.elim
  | cont => obtain ⟨_, _, _, z⟩ := hs; exact z.elim
end
end Qd

/-! Qx5: defs that may run while an exception is handled, over pure values; raise; try -/
namespace Qd
open PySem L2 PyProof.Rows
open L2H (RoomH roomH_of)

/-! ### calls -/
section
variable {X : Cx} {W : WX} {k : Nat} {f : Addr} {fd : FuncData} {ps : List Str} {sp : Sp} {x : Str} {dvs : List V} {ds : List Value} {p pos : Pos} {e : Expr} {es : List Expr} {t : TA}
theorem runQ {pins : List (Addr × Obj)} {σ : L2.St} {H : Hp} {s : Shared} {Q : VK} {pos : List Value} {kw : List (Str × Value)} {us : List Value} {vs : List V} (F : FnQ X.prog X.w X.K X.mg X.base k f fd ps sp) (hr : RoomH k X.A) (gs : X.A.guards = some [])
    (tk : Takes X W) (I : Inv X pins σ H s) (bt : us.length = ps.length → BindsTo s fd ⟨pos, kw⟩ (ps.zip us)) (r : Vals vs us) (h : sp vs H Q (eAt W σ)) : wpAny (model X.prog X.w) X.A (call (.ref f) pos kw) (EP X pins σ Q) X.xe s := by
  have hl : us.length = ps.length := r.length.symm.trans (F.len _ _ _ _ h)
  refine wpAny_call (codeAny_mono (F.go X.A X.stack s H ⟨pos, kw⟩ us vs Q (eAt W σ) hr gs I.env0 (bt hl) r h) ?_)
  rintro (e | fl) s2 hq
  · exact tk e s2 (XE.of_call I (E := eAt W σ) (fun _ _ _ z => z) hq)
  · cases fl with
    | ret u => exact I.after hq
    | _ => exact hq.elim
theorem pe_callQ (F : FnQ X.prog X.w X.K X.mg X.base k f fd ps sp) (hr : RoomH k X.A) (gs : X.A.guards = some []) (tk : Takes X W) (hg : Gl X x) (hm : X.mg x = some (.ref f)) (kp : PySem.W.keepIn X.K (.ref f) = true) (hb : Binds X.K fd ps ds) (hd : Vals dvs ds)
    (ha : PA X (e :: es) t) (hdb : (x == ("__debug__" : Str)) = false := by decide) (he : starEach (e :: es) X.env = (false, eval e X.env) :: starEach es X.env := by rfl) (hpl : (backTo pos (starEach es X.env)).any (·.1) = false := by rfl) :
    PE X (.Call (.Name x p) (e :: es) [] pos) (tCallG sp dvs W t) := ⟨fun pins s σ H Q I h =>
  wpAny_Call_Name_kw (ld_glob I hg hm (PySem.W.callWith_K (h₀ := X.base) I.ok.mod.kin kp (thn (ha.run pos pins s σ H _ I h) fun us s1 ⟨vs, H1, I1, r, q⟩ =>
    ⟨I1.kIn, runQ (us := us ++ ds) (vs := vs ++ dvs) F hr gs tk I1 (fun hl => hb s1 us I1.kIn hl) (r.append hd) q⟩) he hpl) hdb)⟩
variable {g : FF} {fa : FA} {dds : List D}
theorem d_fnQ (F : FnQ X.prog X.w X.K X.mg X.base k f fd ps (SpD X.K ps.length g)) (hr : RoomH k X.A) (gs : X.A.guards = some []) (tk : Takes X W) (hg : Gl X x) (hm : X.mg x = some (.ref f)) (hk : PySem.W.keepIn X.K (.ref f) = true) (hb : Binds X.K fd ps ds) (hd : Vals dvs ds) (hdd : ∀ B tb, reps X.K B tb dds dvs) (hl : (e :: es).length + dvs.length = ps.length)
    (la : ∀ ρ S d S', fa ρ S = .ok d S' → d.length = (e :: es).length)
    (ha : DA X W (e :: es) fa) (hdb : (x == ("__debug__" : Str)) = false := by decide) (he : starEach (e :: es) X.env = (false, eval e X.env) :: starEach es X.env := by rfl) (hpl : (backTo pos (starEach es X.env)).any (·.1) = false := by rfl) :
    DE X W (.Call (.Name x p) (e :: es) [] pos) (eFn g fa dds) := (pe_callQ F hr gs tk hg hm hk hb hd ha hdb he hpl).imp fun σ H Q ⟨B, tb, ρ, S, w, e1, q⟩ => by
  unfold eFn at q
  refine ⟨B, tb, ρ, S, w, e1, ?_⟩
  cases z : fa ρ S with
  | er C ns vs S1 => rw [z] at q; exact q
  | no => rw [z] at q; exact q
  | ok as S1 =>
    rw [z] at q
    have l1 := la _ _ _ _ z
    intro B1 tb1 H1 x1 w1 vs r1
    refine ⟨by rw [List.length_append, reps_len r1, l1]; exact hl, B1, tb1, S1, as ++ dds, w1, reps_append r1 (hdd _ _), ?_⟩
    exact post_F (W := W) (σ := σ) (Post.mono x1 q)
end
theorem fn_DQ {P : Program} {w : World} {K : PySem.W.Frag} {mg : Str → Option Value} {base : Heap} {N ps : List Str} {k : Nat} {fb : FS} {b : Bool} {x qual : Str} {params : Arguments} {body : List Stmt} {scope : Scope} {dvs : List V} {kws : List (Str × V)} {f : Addr} {fd : FuncData} (F : FunD K x qual params body scope dvs kws f fd) (Sc : FnScope N ps scope)
    (hb : ∀ (cdv : Value) (A : Around) (outer : List Env) (s : Shared) (H : Hp) (E : XK), RoomH k (A.deeper (PyProof.Rows.envOfC qual scope s.heap.objs.size f cdv)) → (A.deeper (PyProof.Rows.envOfC qual scope s.heap.objs.size f cdv)).guards = some [] →
      Takes (cxQ P w K mg base N qual scope f cdv A outer s H E) (wE E) → PassesOwn (model P w) (A.deeper (PyProof.Rows.envOfC qual scope s.heap.objs.size f cdv)) (PyProof.Rows.envOfC qual scope s.heap.objs.size f cdv) (cxQ P w K mg base N qual scope f cdv A outer s H E).xe →
      DSs (cxQ P w K mg base N qual scope f cdv A outer s H E) (wE E) body fb) :
    FnQ P w K mg base (k + 1) f fd ps (SpD K ps.length (run0 b fb N.length)) := by
  refine fnQ_of F Sc (fun vs H Q E h => h.1) (fun cdv A outer s H vs Q E hr gs h => ⟨_, hb cdv A outer s H E hr gs (takes_of rfl rfl rfl rfl) (passes_of rfl), ?_⟩)
  obtain ⟨hl, B, tb, S, ds, wd, r, q⟩ := h
  refine ⟨B, tb, rho0 N.length ds, S, wd, rep_start r, ?_⟩
  unfold run0 at q
  cases z : fb (rho0 N.length ds) S with
  | er C ns vs S' => rw [z] at q; exact q.elim
  | no => rw [z] at q; exact q.elim
  | ok o S' =>
    rw [z] at q
    have bk : ∀ {H' B' : Hp} {tb' : Tb}, Wd K H' B' tb' S' → Wd K H' B' tb' (if b = true then S'.back S.m.length else S') := fun w' => by
      split
      · exact w'.back _
      · exact w'
    cases o with
    | rt d => exact fun B' tb' H' v x' w' r' => q B' tb' H' v x' (bk w') r'
    | nx ρ => exact fun B' tb' H' σ' x' w' r' => q B' tb' H' .non x' (bk w') rep_non
    | bk ρ => exact q.elim
    | ct ρ => exact q.elim
    | xx ρ C ns vs => exact fun B' tb' H' σ' x' w' r' => q B' tb' H' x' (w'.back _)
/-! ### raise -/
def sRaise (C : Str) (ns : List Str) (fa : FA) : FS := fun ρ S => (fa ρ S).st ρ fun ds S => .ok (.xx ρ C ns.reverse ds.reverse) S
def sRaise0 (C : Str) : FS := fun ρ S => .ok (.xx ρ C [] []) S
section
variable {X : Cx} {W : WX} {C : Str} {e : Expr} {pos : Pos} {ns : List Str} {fa : FA}
theorem ds_raise0 (hc : X.calm = true) (tk : Takes X W) (he : PMk X e (fun _ H Q => Q (.ref (He.ga X.K C)) none H)) : DS X W (.Raise (some e) none pos) (sRaise0 C) := (ps_raise hc tk he).imp fun Dn σ H ⟨B, tb, ρ, S, w, e1, q⟩ =>
  (q B tb H σ (Ex.refl _ _) w e1).1 rfl
theorem ds_raise (hc : X.calm = true) (tk : Takes X W) (la : ∀ ρ S d S', fa ρ S = .ok d S' → d.length = ns.length) (he : PMk X e (tMkX (He.ga X.K C) ns (LA X.K W fa))) : DS X W (.Raise (some e) none pos) (sRaise C ns fa) := (ps_raise hc tk he).imp fun Dn σ H ⟨B, tb, ρ, S, w, e1, q⟩ => by
  unfold sRaise at q
  refine ⟨B, tb, ρ, S, w, e1, ?_⟩
  cases z : fa ρ S with
  | er C' ns' vs S1 => rw [z] at q; exact fun B1 tb1 H1 x1 w1 => q B1 tb1 H1 σ x1 w1 (e1.ex x1)
  | no => rw [z] at q; exact q
  | ok ds S1 =>
    rw [z] at q
    intro B1 tb1 H1 x1 w1 vs r1
    have hl : vs.length = ns.length := by rw [reps_len r1, la _ _ _ _ z]
    refine ⟨hl, fun d hd => ?_⟩
    have w2 := w1.more hd (.xd (ns.zip vs).reverse)
    refine (q B1 tb1 _ σ x1 w2 (e1.ex x1)).2 d vs.reverse ?_ (by simp [hl]) (reps_reverse r1)
    rw [upd_same]
    congr 2
    simp only [List.zip, List.reverse_zipWith hl.symm]
end
end Qd

/-! Qx6: try over pure values -/
namespace Qd
open PySem L2 PyProof.Rows

/-- a clause: its classes, the slot of its name, its suite -/
abbrev Hc := List Str × Option Nat × FS
/-- which classes stand above -/
abbrev Anc := List (Str × List Str)
def putD (oi : Option Nat) (d : D) (ρ : Rho) : Rho := match oi with
  | none => ρ
  | some i => ρ.set i (some d)
def goneD (oi : Option Nat) (ρ : Rho) : Rho := match oi with
  | none => ρ
  | some i => ρ.set i none
def finS (oi : Option Nat) (r : R Out) : R Out := match r with
  | .ok (.nx ρ) S => .ok (.nx (goneD oi ρ)) S
  | .ok (.bk ρ) S => .ok (.bk (goneD oi ρ)) S
  | .ok (.ct ρ) S => .ok (.ct (goneD oi ρ)) S
  | .ok (.rt d) S => .ok (.rt d) S
  | _ => .no
def hnd (tab : Anc) : List Hc → Rho → Str → List Str → List D → Sto → R Out
  | [], ρ, C, ns, vs, S => .ok (.xx ρ C ns vs) S
  | (xs, oi, fs) :: r, ρ, C, ns, vs, S => match tab.lookup C with
    | none => .no
    | some anc => if ns.length ≠ vs.length then .no else if xs.any (anc.contains ·) then finS oi (fs (putD oi (.exc C ns vs) ρ) S) else hnd tab r ρ C ns vs S
def sTry (tab : Anc) (fb : FS) (hs : List Hc) : FS := fun ρ S => match fb ρ S with
  | .ok (.xx ρ1 C ns vs) S1 => hnd tab hs ρ1 C ns vs S1
  | r => r
/-- the classes' facts -/
def ExTab (K : PySem.W.Frag) (tab : Anc) (names : List Str) : Prop := ∀ C anc, tab.lookup C = some anc → ∀ x ∈ names, PySem.W.exmOne K (.ref (He.ga K C)) (.ref (He.ga K x)) = some (anc.contains x)
theorem exTab_any {K : PySem.W.Frag} {tab : Anc} {names : List Str} (E : ExTab K tab names) {C : Str} {anc : List Str} (h : tab.lookup C = some anc) : ∀ xs : List Str, (∀ x ∈ xs, x ∈ names) →
    PySem.W.exmAny K (.ref (He.ga K C)) (xs.map fun x => .ref (He.ga K x)) = some (xs.any (anc.contains ·))
  | [], _ => rfl
  | x :: xs, hx => by
    have h1 := E C anc h x (hx x List.mem_cons_self)
    have h2 := exTab_any E h xs fun y hy => hx y (List.mem_cons_of_mem _ hy)
    show PySem.W.exmAny K (.ref (He.ga K C)) (.ref (He.ga K x) :: xs.map fun x => .ref (He.ga K x)) = _
    unfold PySem.W.exmAny
    rw [h1, h2]
    rfl
inductive HcOk (X : Cx) (names : List Str) : List ExceptHandler → List Hc → Prop
  | nil : HcOk X names [] []
  | bare {t : Expr} {xs : List Str} {fs : FS} {b₀ : Stmt} {suite : List Stmt} {pos : Pos} {hds : List ExceptHandler} {l : List Hc} (ht : TestOk X t (xs.map fun x => .ref (He.ga X.K x))) (hx : ∀ x ∈ xs, x ∈ names)
      (hsu : ∀ (a : Addr) (pn : List (Addr × Obj)), DSs (X.suite a pn) WF (b₀ :: suite) fs) (r : HcOk X names hds l) : HcOk X names (.ExceptHandler (some t) none (b₀ :: suite) pos :: hds) ((xs, none, fs) :: l)
  | named {t : Expr} {xs : List Str} {i : Nat} {n : Str} {fs : FS} {b₀ : Stmt} {suite : List Stmt} {pos : Pos} {hds : List ExceptHandler} {l : List Hc} (hN : X.N.Nodup) (hi : X.N[i]? = some n) (hln : X.env.kindOf n = some .local) (ht : TestOk X t (xs.map fun x => .ref (He.ga X.K x)))
      (hx : ∀ x ∈ xs, x ∈ names) (hsu : ∀ (a : Addr) (pn : List (Addr × Obj)), DSs (X.suite a pn) WF (b₀ :: suite) fs) (r : HcOk X names hds l) : HcOk X names (.ExceptHandler (some t) (some n) (b₀ :: suite) pos :: hds) ((xs, some i, fs) :: l)
def toCl (K : PySem.W.Frag) (h : Hc) : Cl := (h.1.map fun x => .ref (He.ga K x), h.2.1, LS K WF h.2.2)
theorem HcOk.cl {X : Cx} {names : List Str} {hds : List ExceptHandler} {l : List Hc} (h : HcOk X names hds l) : ClOk X hds (l.map (toCl X.K)) := by
  induction h with
  | nil => exact .nil
  | bare ht hx hsu r ih => exact .bare ht hsu ih
  | named hN hi hln ht hx hsu r ih => exact .named hN hi hln ht hsu ih
theorem HcOk.names {X : Cx} {names : List Str} {hds : List ExceptHandler} {l : List Hc} (h : HcOk X names hds l) : ∀ c ∈ l, ∀ x ∈ c.1, x ∈ names := by
  induction h with
  | nil => exact fun c hc => nomatch hc
  | bare ht hx hsu r ih => exact fun c hc => (List.mem_cons.mp hc).elim (fun e => by rw [e]; exact hx) (ih c)
  | named hN hi hln ht hx hsu r ih => exact fun c hc => (List.mem_cons.mp hc).elim (fun e => by rw [e]; exact hx) (ih c)
section
variable {K : PySem.W.Frag} {H B : Hp} {tb : Tb} {S : Sto} {W : WX} {Dn : Ends} {σ : L2.St} {ρ : Rho}
theorem orep_notX {d : D} {a : Addr} {fs : List (Str × V)} (h : orep K H B tb d a) (e : H a = some (.xd fs)) : False := by
  cases d with
  | lst ds => obtain ⟨vs, h1, _⟩ := h; rw [e] at h1; cases h1
  | dk ks ds => obtain ⟨vs, h1, _⟩ := h; rw [e] at h1; cases h1
  | dt ks ds => obtain ⟨vs, h1, _⟩ := h; rw [e] at h1; cases h1
  | ins C ns ds => obtain ⟨dx, vs, h1, _⟩ := h; rw [e] at h1; cases h1
  | _ => exact h.elim
theorem Wd.adoptX (w : Wd K H B tb S) {p : Addr} {fs : List (Str × V)} (hp : H p = some (.xd fs)) : ∃ B', Ex B tb B' tb ∧ Wd K H B' tb S ∧ B' p = some (.xd fs) := by
  have ex : Ex B tb (upd B p (.xd fs)) tb := ⟨fun a u h => by
    rcases Classical.em (a = p) with e | e
    · subst e
      have := w.sub _ _ h
      rw [hp] at this; rw [upd_same]; exact this
    · rw [upd_ne e]; exact h, ⟨[], by simp⟩, rfl⟩
  refine ⟨_, ex, ⟨fun a u h => ?_, w.len, fun k d h => ?_, fun a u h => ?_, w.inj, w.fl⟩, upd_same⟩
  · rcases Classical.em (a = p) with e | e
    · subst e; rw [upd_same] at h; cases h; exact hp
    · rw [upd_ne e] at h; exact w.sub _ _ h
  · obtain ⟨a, h1, h2, h3⟩ := w.at_ k d h
    have ne : a ≠ p := fun z => orep_notX h3 (by rw [z]; exact hp)
    exact ⟨a, h1, by rw [upd_ne ne]; exact h2, orep_ex ex rfl h3⟩
  · obtain ⟨h1, h2, h3⟩ := w.fr a u h
    have ne : a ≠ p := fun z => by
      obtain ⟨vs, rfl⟩ := w.fl a u h
      rw [z, hp] at h1; cases h1
    exact ⟨h1, by rw [upd_ne ne]; exact h2, h3⟩
theorem finS_ok {oi : Option Nat} {r : R Out} (h : PostS K B tb W Dn (finS oi r)) : PostS K B tb WF (goneE oi Dn) r := by
  have gone : ∀ {ρ : Rho} {B' : Hp} {tb' : Tb} {σ' : L2.St} {i : Nat}, repE K B' tb' ρ σ' → repE K B' tb' (ρ.set i none) (σ'.set i none) := fun r => r.forget _ _
  cases r with
  | er C ns vs S => exact h.elim
  | no => exact h.elim
  | ok o S => cases o with
    | rt d => cases oi <;> exact h
    | xx ρ C ns vs => exact h.elim
    | nx ρ => cases oi with
      | none => exact h
      | some i => exact fun B' tb' H' σ' x w r => h B' tb' H' _ x w (gone r)
    | bk ρ => cases oi with
      | none => exact h
      | some i => exact fun B' tb' H' σ' x w r => h B' tb' H' _ x w (gone r)
    | ct ρ => cases oi with
      | none => exact h
      | some i => exact fun B' tb' H' σ' x w r => h B' tb' H' _ x w (gone r)
theorem hnd_ok {tab : Anc} {names : List Str} (E : ExTab K tab names) {C : Str} {ns : List Str} {vs : List D} {d : Option Addr} (w : Wd K H B tb S) (e : repE K B tb ρ σ)
    (hd : (ns = [] ∧ d = none) ∨ ∃ dd xs, d = some dd ∧ H dd = some (.xd (ns.zip xs)) ∧ ns.length = xs.length ∧ reps K B tb vs xs) : ∀ l : List Hc, (∀ c ∈ l, ∀ x ∈ c.1, x ∈ names) → PostS K B tb W Dn (hnd tab l ρ C ns vs S) →
      wCl K W Dn (l.map (toCl K)) (.ref (He.ga K C)) d σ H
  | [], _, q => by
    have q2 := q B tb H σ (Ex.refl _ _) w e
    rcases hd with ⟨rfl, rfl⟩ | ⟨dd, xs, rfl, h1, h2, h3⟩
    · exact q2.1 rfl
    · exact q2.2 dd xs h1 h2 h3
  | (xs, oi, fs) :: l, hl, q => by
    unfold hnd at q
    cases z : tab.lookup C with
    | none => rw [z] at q; exact q.elim
    | some anc =>
      rw [z] at q
      simp only at q
      have hlen : ns.length = vs.length := Decidable.byContradiction fun h => by
        rw [if_pos h] at q; exact q.elim
      rw [if_neg (fun z => z hlen)] at q
      refine ⟨_, exTab_any E z xs (hl _ List.mem_cons_self), fun hb a ha => ?_, fun hb => ?_⟩
      · rw [if_pos hb] at q
        obtain ⟨B1, x1, w1, hx1⟩ : ∃ B1, Ex B tb B1 tb ∧ Wd K H B1 tb S ∧ ((ns = [] ∧ d = none) ∨ ∃ dd, d = some dd ∧ ∃ xs, B1 dd = some (.xd (ns.zip xs)) ∧ ns.length = xs.length ∧ reps K B tb vs xs) := by
          rcases hd with ⟨rfl, rfl⟩ | ⟨dd, xs, rfl, h1, h2, h3⟩
          · exact ⟨B, Ex.refl _ _, w, .inl ⟨rfl, rfl⟩⟩
          · obtain ⟨B1, x1, w1, h4⟩ := w.adoptX h1
            exact ⟨B1, x1, w1, .inr ⟨dd, rfl, xs, h4, h2, h3⟩⟩
        obtain ⟨w2, x2⟩ := w1.new ha (ExV (.ref (He.ga K C)) d a)
        have re : rep K (upd B1 a (ExV (.ref (He.ga K C)) d a)) tb (.exc C ns vs) (.ref a) := by
          simp only [rep]
          rcases hd with ⟨rfl, rfl⟩ | ⟨dd, xs, rfl, h1, h2, h3⟩
          · obtain rfl : vs = [] := List.eq_nil_of_length_eq_zero hlen.symm
            exact ⟨a, none, [], rfl, upd_same, .inl ⟨rfl, rfl⟩, rfl, reps_nil⟩
          · rcases hx1 with ⟨_, z⟩ | ⟨dd', hdd, xs', h4, h5, h6⟩
            · cases z
            · cases hdd
              exact ⟨a, some dd, xs', rfl, upd_same, .inr ⟨dd, rfl, x2.sub _ _ h4⟩, h5, reps_ex (x1.trans x2) _ _ h6⟩
        have e2 := e.ex (x1.trans x2)
        refine ⟨_, tb, putD oi (.exc C ns vs) ρ, S, w2, ?_, (finS_ok q).mono (x1.trans x2)⟩
        cases oi with
        | none => exact e2
        | some i => exact e2.set i re
      · rw [if_neg (by rw [hb]; exact Bool.false_ne_true)] at q
        exact hnd_ok E w e hd l (fun c hc => hl c (List.mem_cons_of_mem _ hc)) q
end
section
variable {X : Cx} {W : WX} {body : List Stmt} {h₀ : ExceptHandler} {hds : List ExceptHandler} {l : List Hc} {pos : Pos} {fb : FS} {tab : Anc} {names : List Str}
theorem ds_try (E : ExTab X.K tab names) (hs : X.stack = X.env :: X.outer) (hf : X.env.frame = some X.env.locals) (hex : X.ex = []) (tk : Takes X W)
    (hb : ∀ (W : WX) (pn : List (Addr × Obj)) (xe : Value → Shared → Prop), Takes (X.tr pn xe) W → PassesOwn (model X.prog X.w) X.A X.env xe → DSs (X.tr pn xe) W body fb)
    (hh : HcOk X names (h₀ :: hds) l) : DS X W (.Try body (h₀ :: hds) [] [] pos) (sTry tab fb l) := (ps_tryV (tb := fun W => LS X.K W fb) hs hf hex tk hb hh.cl).imp fun Dn σ H ⟨B, tb, ρ, S, w, e, q⟩ => by
  refine ⟨B, tb, ρ, S, w, e, ?_⟩
  unfold sTry at q
  cases z : fb ρ S with
  | er C ns vs S1 => rw [z] at q; exact q
  | no => rw [z] at q; exact q
  | ok o S1 =>
    rw [z] at q
    cases o with
    | nx ρ1 => exact q
    | rt d => exact q
    | bk ρ1 => exact q
    | ct ρ1 => exact q
    | xx ρ1 C ns vs =>
      intro B1 tb1 H1 σ1 x1 w1 e1
      exact ⟨fun hn => hnd_ok E w1 e1 (.inl ⟨hn, rfl⟩) l hh.names (q.mono x1), fun dd xs h1 h2 h3 => hnd_ok E w1 e1 (.inr ⟨dd, xs, rfl, h1, h2, h3⟩) l hh.names (q.mono x1)⟩
end
end Qd

/-! Qx7: fields of exceptions and instances; isinstance with own classes -/
namespace Qd
open PySem L2 PyProof.Rows

/-- what an exception's class says for reading and for isinstance -/
structure XgC (K : PySem.W.Frag) (C : Addr) : Prop where
  ga : PySem.W.findIn K (.ref C) "__getattribute__" = some (some (.builtin "BaseException.__getattribute__"))
  gg : PySem.W.findIn K (.ref C) "__getattr__" = some none
  exC : PySem.W.subIn K (.ref C) (.type "BaseException") = some true
  hd : PySem.W.hasDictIn K C = true
  ha : PySem.W.findIn K (.ref C) "__class__" = some (some (.builtin "object.__class__"))
  hm : PySem.W.mroIn K C (.type "object") = some true
/-- what an own class says for isinstance -/
structure InsI (K : PySem.W.Frag) (C : Addr) : Prop where
  cl : Cls K C
  ha : PySem.W.findIn K (.ref C) "__class__" = some (some (.builtin "object.__class__"))
  hm : PySem.W.mroIn K C (.type "object") = some true
def XgB (K : PySem.W.Frag) (C : Addr) : Bool := decide (PySem.W.findIn K (.ref C) "__getattribute__" = some (some (.builtin "BaseException.__getattribute__"))) && (decide (PySem.W.findIn K (.ref C) "__getattr__" = some none) && (decide (PySem.W.subIn K (.ref C) (.type "BaseException") = some true) && (PySem.W.hasDictIn K C &&
  (decide (PySem.W.findIn K (.ref C) "__class__" = some (some (.builtin "object.__class__"))) && decide (PySem.W.mroIn K C (.type "object") = some true)))))
theorem xgB_ok {K : PySem.W.Frag} {C : Addr} (h : XgB K C = true) : XgC K C := by
  unfold XgB at h
  simp only [Bool.and_eq_true, decide_eq_true_eq] at h
  obtain ⟨a, b, c, d, e, f⟩ := h
  exact ⟨a, b, c, d, e, f⟩

/-! ### e.f -/
def tXF (K : PySem.W.Frag) (te : TE) (f : Str) : TE := fun σ H Q => te σ H fun x H1 => ∃ (a C dd : Addr) (fs : List (Str × V)) (v : V), x = .ref a ∧ H1 a = some (ExV (.ref C) (some dd) a) ∧ H1 dd = some (.xd fs) ∧ XgC K C ∧ PySem.W.findIn K (.ref C) f = some none ∧ fs.lookup f = some v ∧ Q v H1
theorem exV_at {P : Program} {w : World} {H : Hp} {h : Heap} {cls : Value} {d : Option Addr} {a : Addr} (hok : HOk P w H h) (e : H a = some (ExV cls d a)) : ∃ (oe : Obj) (vs : Array Value), h.get? a = some oe ∧ Zc cls d oe ∧ oe.data = .fields vs := by
  obtain ⟨q, _, _⟩ : ObjOk P w H h a (ExV cls d a) := hok a _ e
  exact q
section
variable {X : Cx} {e : Expr} {te : TE} {f : Str} {pos : Pos}
theorem pe_xfld (he : PE X e te) (hb : attributeBase e f X.env (eval e X.env) = eval e X.env) : PE X (.Attribute e f pos) (tXF X.K te f) := by
  refine ⟨fun pins s σ H Q I h => attr_of hb (thn (he.run pins s σ H _ I h) ?_)⟩
  rintro u s1 ⟨x, H1, I1, rx, a, C, dd, fs, v, rfl, ea, ed, T, hno, hl, q⟩
  obtain rfl : u = Value.ref a := rx
  obtain ⟨oe, vs, ho, hz, hd⟩ := exV_at I1.hok ea
  obtain ⟨mA, hns, hr⟩ : ObjOk X.prog X.w H1 s1.heap dd (.xd fs) := I1.hok dd _ ed
  obtain ⟨od, hod, hlook⟩ := lookIn_ns hns
  obtain ⟨u, hu, ru⟩ := RelO.some_of (v := v) (o := mA f) (by rw [← hl]; exact hr f)
  have inst : PySem.W.InstAt s1.heap a oe C (some od) := ⟨ho, hz.1, by unfold PySem.W.notCls; rw [hd] <;> rfl, by rw [hz.2]; exact hod⟩
  exact HandSPX.exc_get I1.kIn inst T.ga T.gg T.exC (PySem.W.findObj_own T.hd hno rfl (by rw [hlook, hu])) (handed_of ru) ⟨v, H1, I1.tok _, ru, q⟩
end
/-- the fields of a value -/
def fieldsOf (S : Sto) (xl il : List Str) : D → Option (List Str × List D)
  | .exc C ns vs => if xl.contains C then some (ns, vs) else none
  | .ins C ns vs => if il.contains C then some (ns, vs) else none
  | .obj k => match S.m[k]? with
    | some (some (.ins C ns vs)) => if il.contains C then some (ns, vs) else none
    | _ => none
  | _ => none
def eFld (xl il : List Str) (f : Str) (g : FE) : FE := fun ρ S => (g ρ S).bind fun d S => match fieldsOf S xl il d with
  | some (ns, vs) => (match (ns.zip vs).lookup f with
    | some v => .ok v S
    | none => .no)
  | none => .no
theorem zip_look {K : PySem.W.Frag} {B : Hp} {tb : Tb} {f : Str} : ∀ {ns : List Str} {ds : List D} {vs : List V} {d : D}, reps K B tb ds vs → (ns.zip ds).lookup f = some d → ∃ v, (ns.zip vs).lookup f = some v ∧ rep K B tb d v
  | [], ds, vs, d, _, h => by simp at h
  | n :: ns, [], vs, d, _, h => by simp at h
  | n :: ns, e :: ds, vs, d, r, h => by
    simp only [reps] at r
    obtain ⟨v, us, rfl, r1, r2⟩ := r
    simp only [List.zip_cons_cons, List.lookup_cons] at h ⊢
    cases z : f == n with
    | true => rw [z] at h; cases h; exact ⟨v, rfl, r1⟩
    | false => rw [z] at h; exact zip_look r2 h
section
variable {X : Cx} {W : WX} {e : Expr} {g : FE} {f : Str} {pos : Pos} {xl il : List Str}
theorem d_fld (hx : ∀ C ∈ xl, XgC X.K (He.ga X.K C) ∧ PySem.W.findIn X.K (.ref (He.ga X.K C)) f = some none) (hi : ∀ C ∈ il, Cls X.K (He.ga X.K C) ∧ NoAttr X.K (He.ga X.K C) f) (he : DE X W e g) (hb : attributeBase e f X.env (eval e X.env) = eval e X.env := by rfl) :
    DE X W (.Attribute e f pos) (eFld xl il f g) := ((pe_xfld he hb).or (pe_fld he hb)).imp fun σ H Q ⟨B, tb, ρ, S, w, e1, q⟩ => by
  unfold eFld at q
  cases z : g ρ S with
  | er C ns vs S1 => rw [z] at q; exact .inl ⟨B, tb, ρ, S, w, e1, by rw [z]; exact q⟩
  | no => rw [z] at q; exact q.elim
  | ok d S1 =>
    rw [z] at q
    simp only [bind_ok] at q
    cases y : fieldsOf S1 xl il d with
    | none => rw [y] at q; exact q.elim
    | some p =>
      obtain ⟨ns, vs⟩ := p
      rw [y] at q
      simp only at q
      cases l : (ns.zip vs).lookup f with
      | none => rw [l] at q; exact q.elim
      | some v =>
        rw [l] at q
        simp only at q
        cases d with
        | exc C ns' vs' =>
          refine .inl ⟨B, tb, ρ, S, w, e1, ?_⟩
          rw [z]
          simp only [fieldsOf] at y
          split at y
          · rename_i hC
            cases y
            intro B1 tb1 H1 x1 w1 u r
            simp only [rep] at r
            obtain ⟨a, d, xs, rfl, h1, h2, h3, h4⟩ := r
            obtain ⟨u, hu, ru⟩ := zip_look h4 l
            rcases h2 with ⟨rfl, rfl⟩ | ⟨dd, rfl, h2⟩
            · simp at l
            · obtain ⟨t1, t2⟩ := hx C (List.contains_iff_mem.mp hC)
              exact ⟨a, _, dd, _, u, rfl, w1.sub _ _ h1, w1.sub _ _ h2, t1, t2, hu, q.mono x1 |>.ok w1 u ru⟩
          · cases y
        | ins C ns' vs' =>
          refine .inr ⟨B, tb, ρ, S, w, e1, ?_⟩
          rw [z]
          simp only [fieldsOf] at y
          split at y
          · rename_i hC
            cases y
            intro B1 tb1 H1 x1 w1 u r
            simp only [rep] at r
            obtain ⟨a, dx, xs, rfl, h1, h3, h4⟩ := r
            obtain ⟨u, hu, ru⟩ := zip_look h4 l
            obtain ⟨t1, t2⟩ := hi C (List.contains_iff_mem.mp hC)
            exact ⟨a, _, dx, _, u, rfl, w1.sub _ _ h1, t1, t2, hu, q.mono x1 |>.ok w1 u ru⟩
          · cases y
        | obj k =>
          refine .inr ⟨B, tb, ρ, S, w, e1, ?_⟩
          rw [z]
          simp only [fieldsOf] at y
          split at y
          · rename_i C ns' vs' hk
            split at y
            · rename_i hC
              cases y
              intro B1 tb1 H1 x1 w1 u r
              simp only [rep] at r
              obtain ⟨a, rfl, ha⟩ := r
              obtain ⟨h0, ⟨dx, xs, h1, h3, h4⟩, _⟩ := w1.live hk ha
              obtain ⟨u, hu, ru⟩ := zip_look h4 l
              obtain ⟨t1, t2⟩ := hi C (List.contains_iff_mem.mp hC)
              exact ⟨a, _, dx, _, u, rfl, h1, t1, t2, hu, q.mono x1 |>.ok w1 u ru⟩
            · cases y
          · cases y
        | _ => cases y
end
end Qd

/-! Qx8: isinstance with own classes, of any value -/
namespace Qd
open PySem L2 PyProof.Rows

inductive Ck where
  | own (x : Str) | blt (n : String)
  deriving DecidableEq
def Ck.v (K : PySem.W.Frag) : Ck → Value
  | .own x => .ref (He.ga K x)
  | .blt n => .type n
/-- which types are of which classes -/
abbrev KT := List (Ck × List (Ck × Bool))
def ktOne (kt : KT) (t c : Ck) : Option Bool := (kt.lookup t).bind fun r => r.lookup c
def ktAny (kt : KT) (t : Ck) : List Ck → Option Bool
  | [] => some false
  | c :: r => match ktOne kt t c with
    | some true => some true
    | some false => ktAny kt t r
    | none => none
def KtOk (K : PySem.W.Frag) (kt : KT) : Prop := ∀ t r, (t, r) ∈ kt → ∀ c b, (c, b) ∈ r → PySem.W.kitOne K (t.v K) (c.v K) = some b
def ktB (K : PySem.W.Frag) (kt : KT) : Bool := kt.all fun p => p.2.all fun q => decide (PySem.W.kitOne K (p.1.v K) (q.1.v K) = some q.2)
theorem ktB_ok {K : PySem.W.Frag} {kt : KT} (h : ktB K kt = true) : KtOk K kt := fun t r h1 c b h2 => by
  have := List.all_eq_true.mp (List.all_eq_true.mp h _ h1) _ h2
  simpa using this
theorem mem_of_lookupC {β : Type} {t : Ck} : ∀ {l : List (Ck × β)} {r : β}, l.lookup t = some r → (t, r) ∈ l
  | [], r, h => by simp at h
  | (k, v) :: l, r, h => by
    rw [List.lookup_cons] at h
    split at h
    · rename_i z
      cases h
      rw [beq_iff_eq.mp z]; exact List.mem_cons_self
    · exact List.mem_cons_of_mem _ (mem_of_lookupC h)
theorem ktOne_ok {K : PySem.W.Frag} {kt : KT} (h : KtOk K kt) {t c : Ck} {b : Bool} (e : ktOne kt t c = some b) : PySem.W.kitOne K (t.v K) (c.v K) = some b := by
  unfold ktOne at e
  cases z : kt.lookup t with
  | none => rw [z] at e; cases e
  | some r =>
    rw [z] at e
    exact h t r (mem_of_lookupC z) c b (mem_of_lookupC e)
theorem ktAny_ok {K : PySem.W.Frag} {kt : KT} (h : KtOk K kt) {t : Ck} : ∀ {cs : List Ck} {b : Bool}, ktAny kt t cs = some b → PySem.W.kitAny K (t.v K) (cs.map (Ck.v K)) = some b
  | [], b, e => e
  | c :: r, b, e => by
    unfold ktAny at e
    show PySem.W.kitAny K (t.v K) (c.v K :: r.map (Ck.v K)) = some b
    unfold PySem.W.kitAny
    split at e
    · rename_i z; rw [ktOne_ok h z]; exact e
    · rename_i z; rw [ktOne_ok h z]; exact ktAny_ok h e
    · cases e

/-! ### the call -/
/-- what holds of every class here -/
structure ClsF (K : PySem.W.Frag) : Prop where
  hn : PySem.W.specialIn K (.builtin "object.__class__") "__get__" = some (some (.builtin "getset_descriptor.__get__"))
  htk : PySem.W.takesIn K (.builtin "object.__class__") = some true
inductive TyY (K : PySem.W.Frag) (H : Hp) : V → Value → Prop where
  | of {x : V} {t : Value} (h : TyX K H x t) : TyY K H x t
  | exc0 {a C : Addr} (h : H a = some (ExV (.ref C) none a)) (F : XgC K C) : TyY K H (.ref a) (.ref C)
  | exc {a C dd : Addr} {fs : List (Str × V)} (h : H a = some (ExV (.ref C) (some dd) a)) (hd : H dd = some (.xd fs)) (F : XgC K C) : TyY K H (.ref a) (.ref C)
def rIsY (K : PySem.W.Frag) : List V → Hp → VK → Prop := fun xs H Q => ∃ (x c : V) (t u : Value) (b : Bool), xs = [x, c] ∧ ClsV c u ∧ TyY K H x t ∧ PySem.W.kitOne K t u = some b ∧ Q (.bl b) H
def rIsYT (K : PySem.W.Frag) : List V → Hp → VK → Prop := fun xs H Q => ∃ (x : V) (tp : Addr) (cs : List V) (t : Value) (ws : List Value) (b : Bool), xs = [x, .ref tp] ∧ H tp = some (.tup cs) ∧ Paired ClsV cs ws ∧ TyY K H x t ∧ PySem.W.kitAny K t ws = some b ∧ Q (.bl b) H
section
variable {X : Cx} {pins : List (Addr × Obj)} {σ : L2.St} {H : Hp} {s : Shared}
theorem cls_there {K : PySem.W.Frag} {C : Addr} (h : PySem.W.hasDictIn K C = true) : (PySem.W.clsIn K C).isSome = true := by
  obtain ⟨cd, e, _⟩ := PySem.W.any_some h
  rw [e]; rfl
theorem kit_ofY {x : V} {u t : Value} (F : ClsF X.K) (I : Inv X pins σ H s) (rx : RelV x u) (ty : TyY X.K H x t) : ∃ P : Heap → Prop, PySem.W.KitX X.K u t P ∧ P s.heap ∧ u ≠ .builtin "__main__.__loader__#opaque" := by
  cases ty with
  | of h => exact kit_of I rx h
  | @exc0 a C h T =>
    obtain rfl : u = Value.ref a := rx
    obtain ⟨oe, vs, ho, hz, hd⟩ := exV_at I.hok h
    exact ⟨_, PySem.W.kitx_exc (ox := oe) (od := none) (cls_there T.hd) T.ga T.gg T.exC T.ha F.hn F.htk T.hm, ⟨ho, hz.1, by unfold PySem.W.notCls; rw [hd] <;> rfl, by rw [hz.2]; trivial⟩, fun z => nomatch z⟩
  | @exc a C dd fs h hx T =>
    obtain rfl : u = Value.ref a := rx
    obtain ⟨oe, vs, ho, hz, hd⟩ := exV_at I.hok h
    obtain ⟨mA, hns, _⟩ : ObjOk X.prog X.w H s.heap dd (.xd fs) := I.hok dd _ hx
    obtain ⟨od, hod, _⟩ := lookIn_ns hns
    exact ⟨_, PySem.W.kitx_exc (ox := oe) (od := some od) (cls_there T.hd) T.ga T.gg T.exC T.ha F.hn F.htk T.hm, ⟨ho, hz.1, by unfold PySem.W.notCls; rw [hd] <;> rfl, by rw [hz.2]; exact hod⟩, fun z => nomatch z⟩
theorem call_isY (F : ClsF X.K) : CallR X (.builtin "isinstance") (rIsY X.K) := by
  rintro pins s σ H xs us Q I r ⟨x, c, t, u, b, rfl, k, ty, e, q⟩
  obtain ⟨u1, u2, rfl, r1, r2⟩ := vals2 r
  obtain rfl := k.eq r2
  obtain ⟨P, Z, p, hx⟩ := kit_ofY F I r1 ty
  exact PySem.W.kia_one Z I.kIn p e hx fun tk => ⟨.bl b, H, I.tok tk, rfl, q⟩
theorem call_isYT (F : ClsF X.K) : CallR X (.builtin "isinstance") (rIsYT X.K) := by
  rintro pins s σ H xs us Q I r ⟨x, tp, cs, t, ws, b, rfl, hT, k, ty, e, q⟩
  obtain ⟨u1, u2, rfl, r1, r2⟩ := vals2 r
  cases (show u2 = Value.ref tp from r2)
  obtain ⟨P, Z, p, hx⟩ := kit_ofY F I r1 ty
  obtain ⟨_, its, rv, ⟨oc, od, dt, sl⟩, h1, h2, n, h3⟩ : ObjOk X.prog X.w H s.heap tp (.tup cs) := I.hok tp _ hT
  obtain rfl := ClsV.all k rv
  simp only at h2 h3
  subst h2 h3
  exact PySem.W.kia_tup Z I.kIn p h1 e hx fun tk => ⟨.bl b, H, I.tok tk, rfl, q⟩
end

/-! ### over pure values -/
def ckOf (S : Sto) (xl il : List Str) : D → Option Ck
  | .exc C _ _ => if xl.contains C then some (.own C) else none
  | .ins C _ _ => if il.contains C then some (.own C) else none
  | .obj k => match S.m[k]? with
    | some (some (.ins C _ _)) => if il.contains C then some (.own C) else none
    | _ => (tyOf S (.obj k)).map .blt
  | d => (tyOf S d).map .blt
def clsD : D → Option Ck
  | .glo x => some (.own x)
  | .ty n => some (.blt n)
  | _ => none
def clsDs : List D → Option (List Ck)
  | [] => some []
  | d :: ds => match clsD d, clsDs ds with
    | some a, some r => some (a :: r)
    | _, _ => none
def kIsO (kt : KT) (xl il : List Str) : List D → Sto → R D := k2 fun d c S => match ckOf S xl il d with
  | none => .no
  | some t => match c with
    | .tup cs => (match (clsDs cs).bind (ktAny kt t) with
      | some b => .ok (.bl b) S
      | none => .no)
    | c => match (clsD c).bind (ktOne kt t) with
      | some b => .ok (.bl b) S
      | none => .no
/-- the classes' facts -/
structure IsF (K : PySem.W.Frag) (kt : KT) (xl il : List Str) : Prop where
  f : ClsF K
  k : KtOk K kt
  x : ∀ C ∈ xl, XgC K (He.ga K C)
  i : ∀ C ∈ il, InsI K (He.ga K C)
section
variable {K : PySem.W.Frag} {H B : Hp} {tb : Tb} {S : Sto}
theorem clsD_ok {d : D} {c : Ck} {v : V} (r : rep K B tb d v) (e : clsD d = some c) : ClsV v (c.v K) := by
  cases d with
  | glo x => cases e; simp only [rep] at r; subst r; exact .own _
  | ty n => cases e; simp only [rep] at r; subst r; exact .ty _
  | _ => cases e
theorem clsDs_ok : ∀ {ds : List D} {cs : List Ck} {vs : List V}, reps K B tb ds vs → clsDs ds = some cs → Paired ClsV vs (cs.map (Ck.v K))
  | [], cs, vs, r, e => by simp only [reps] at r; subst r; cases e; exact .nil
  | d :: ds, cs, vs, r, e => by
    simp only [reps] at r
    obtain ⟨v, us, rfl, r1, r2⟩ := r
    simp only [clsDs] at e
    split at e
    · rename_i a as h1 h2
      cases e
      exact .cons (clsD_ok r1 h1) (clsDs_ok r2 h2)
    · cases e
theorem ckOf_ok {kt : KT} {xl il : List Str} (F : IsF K kt xl il) (w : Wd K H B tb S) {d : D} {v : V} {t : Ck} (r : rep K B tb d v) (e : ckOf S xl il d = some t) : TyY K H v (t.v K) := by
  have blt : ∀ {T : String}, tyOf S d = some T → TyY K H v (.type T) := fun h => .of (tyOf_ok w h r)
  have ins : ∀ {a dx : Addr} {fs : List (Str × V)} {C : Str}, H a = some (.ins (He.ga K C) dx fs) → C ∈ il → TyY K H (.ref a) (.ref (He.ga K C)) := fun h hC => .of (.base (.ins h (F.i _ hC).cl (F.i _ hC).ha F.f.hn F.f.htk (F.i _ hC).hm))
  cases d with
  | exc C ns vs =>
    simp only [ckOf] at e
    split at e
    · rename_i hC
      cases e
      simp only [rep] at r
      obtain ⟨a, d, xs, rfl, h1, h2, h3, h4⟩ := r
      have T := F.x C (List.contains_iff_mem.mp hC)
      rcases h2 with ⟨rfl, rfl⟩ | ⟨dd, rfl, h2⟩
      · exact .exc0 (w.sub _ _ h1) T
      · exact .exc (w.sub _ _ h1) (w.sub _ _ h2) T
    · cases e
  | ins C ns vs =>
    simp only [ckOf] at e
    split at e
    · rename_i hC
      cases e
      simp only [rep] at r
      obtain ⟨a, dx, xs, rfl, h1, h3, h4⟩ := r
      exact ins (w.sub _ _ h1) (List.contains_iff_mem.mp hC)
    · cases e
  | obj k =>
    simp only [ckOf] at e
    split at e
    · rename_i C ns vs hk
      split at e
      · rename_i hC
        cases e
        simp only [rep] at r
        obtain ⟨a, rfl, ha⟩ := r
        obtain ⟨h0, ⟨dx, xs, h1, h3, h4⟩, _⟩ := w.live hk ha
        exact ins h1 (List.contains_iff_mem.mp hC)
      · cases e
    · obtain ⟨T, hT, rfl⟩ := Option.map_eq_some_iff.mp e
      exact blt hT
  | _ =>
    simp only [ckOf, Option.map_eq_some_iff] at e
    obtain ⟨T, hT, rfl⟩ := e
    exact blt hT
theorem fit_isO {kt : KT} {xl il : List Str} (F : IsF K kt xl il) : FitC K (fun xs H Q => rIsY K xs H Q ∨ rIsYT K xs H Q) (kIsO kt xl il) := fit_k2 fun B tb W σ H S d c v u Q w r1 r2 q => by
  cases z : ckOf S xl il d with
  | none => rw [z] at q; exact q.elim
  | some t =>
    rw [z] at q
    simp only at q
    have ty := ckOf_ok F w r1 z
    have one : ∀ b, (clsD c).bind (ktOne kt t) = some b → Post K B tb W σ (.ok (.bl b) S) (fun d _ B' tb' H' => ∀ z, rep K B' tb' d z → Q z H') → rIsY K [v, u] H Q := fun b h q => by
      obtain ⟨ck, h1, h2⟩ := Option.bind_eq_some_iff.mp h
      exact ⟨v, u, _, _, b, rfl, clsD_ok r2 h1, ty, ktOne_ok F.k h2, q.ok w _ rep_bl⟩
    cases c with
    | tup cs =>
      simp only at q
      cases y : (clsDs cs).bind (ktAny kt t) with
      | none => rw [y] at q; exact q.elim
      | some b =>
        rw [y] at q
        obtain ⟨cks, h1, h2⟩ := Option.bind_eq_some_iff.mp y
        simp only [rep] at r2
        obtain ⟨a, vs, rfl, h3, h4⟩ := r2
        exact .inr ⟨v, a, vs, _, _, b, rfl, w.sub _ _ h3, clsDs_ok h4 h1, ty, ktAny_ok F.k h2, q.ok w _ rep_bl⟩
    | _ =>
      simp only at q
      split at q
      · rename_i b y
        exact .inl (one b y q)
      · exact q.elim
theorem cr_isO {X : Cx} (F : ClsF X.K) : CallR X (.builtin "isinstance") (fun xs H Q => rIsY X.K xs H Q ∨ rIsYT X.K xs H Q) := CallR.or (call_isY F) (call_isYT F)
end
end Qd

/-! Qx9: facts of classes by one look each -/
namespace Qd
open PySem L2 PyProof.Rows
open L2H (RoomH)

/-- a class's statements -/
def clsSts : Stmt → List Stmt
  | .ClassDef _ _ _ body _ _ _ _ _ _ _ => body
  | _ => []
abbrev veT : List Value := [.type "ValueError", .type "Exception", .type "BaseException", .type "object"]
abbrev leT : List Value := [.type "LookupError", .type "Exception", .type "BaseException", .type "object"]
abbrev aeT : List Value := [.type "ArithmeticError", .type "Exception", .type "BaseException", .type "object"]
theorem rq {k : Nat} {A : Around} (hr : Room k A) (h : Option Value) : RoomH k (A.mark h) := ⟨hr.dp, hr.un⟩
theorem rqH {k : Nat} {A : Around} (hr : RoomH k A) (h : Option Value) : RoomH k (A.mark h) := ⟨hr.dp, hr.un⟩
theorem unitsH {k : Nat} {A : Around} (r : RoomH k A) : A.units + 64 < cLine := by have := r.un; omega
theorem room65H {k : Nat} {A : Around} (r : RoomH k A) : A.units + 65 < cLine := by have := r.un; omega
/-- a class without an __init__ of its own -/
structure X0F (K : PySem.W.Frag) (x : Str) (newId : String) (tl : List Value) : Prop where
  q : PySem.W.excIn K (He.ga K x) tl newId = true
  k : PySem.W.keepIn K (.ref (He.ga K x)) = true
  b : PySem.W.subIn K (.ref (He.ga K x)) (.type "BaseException") = some true
  t : PySem.W.typeIn K (.ref (He.ga K x)) = some (.type "type")
def x0B (K : PySem.W.Frag) (x : Str) (newId : String) (tl : List Value) : Bool := PySem.W.excIn K (He.ga K x) tl newId && (PySem.W.keepIn K (.ref (He.ga K x)) && (decide (PySem.W.subIn K (.ref (He.ga K x)) (.type "BaseException") = some true) && decide (PySem.W.typeIn K (.ref (He.ga K x)) = some (.type "type"))))
theorem x0B_ok {K : PySem.W.Frag} {x : Str} {newId : String} {tl : List Value} (h : x0B K x newId tl = true) : X0F K x newId tl := by
  unfold x0B at h
  simp only [Bool.and_eq_true, decide_eq_true_eq] at h
  exact ⟨h.1, h.2.1, h.2.2.1, h.2.2.2⟩
/-- one with -/
structure XiF (K : PySem.W.Frag) (x : Str) (newId : String) (tl : List Value) (ns : List Str) : Prop where
  c : XcC K (He.ga K x) newId tl
  n : ∀ n ∈ ns, PySem.W.findIn K (.ref (He.ga K x)) n = some none
  i : PySem.W.findIn K (.ref (He.ga K x)) "__init__" = some (some (.ref (He.ma K (He.ga K x) "__init__")))
  t : PySem.W.typeIn K (.ref (He.ma K (He.ga K x) "__init__")) = some (.type "function")
def xcB (K : PySem.W.Frag) (C : Addr) (newId : String) (tl : List Value) : Bool := PySem.W.excInitIn K C tl newId && (PySem.W.excOver K C tl && (PySem.W.hasDictIn K C && (decide (PySem.W.findIn K (.ref C) "__setattr__" = some (some (.builtin "object.__setattr__"))) &&
  (decide (PySem.W.subIn K (.ref C) (.type "BaseException") = some true) && (decide (PySem.W.typeIn K (.ref C) = some (.type "type")) && PySem.W.keepIn K (.ref C))))))
theorem xcB_ok {K : PySem.W.Frag} {C : Addr} {newId : String} {tl : List Value} (h : xcB K C newId tl = true) : XcC K C newId tl := by
  unfold xcB at h
  simp only [Bool.and_eq_true, decide_eq_true_eq] at h
  obtain ⟨a, b, c, d, e, f, g⟩ := h
  exact ⟨a, b, c, d, e, f, g⟩
def xiB (K : PySem.W.Frag) (x : Str) (newId : String) (tl : List Value) (ns : List Str) : Bool := xcB K (He.ga K x) newId tl && ((ns.all fun n => decide (PySem.W.findIn K (.ref (He.ga K x)) n = some none)) &&
  (decide (PySem.W.findIn K (.ref (He.ga K x)) "__init__" = some (some (.ref (He.ma K (He.ga K x) "__init__")))) && decide (PySem.W.typeIn K (.ref (He.ma K (He.ga K x) "__init__")) = some (.type "function"))))
theorem xiB_ok {K : PySem.W.Frag} {x : Str} {newId : String} {tl : List Value} {ns : List Str} (h : xiB K x newId tl ns = true) : XiF K x newId tl ns := by
  unfold xiB at h
  simp only [Bool.and_eq_true, decide_eq_true_eq, List.all_eq_true] at h
  exact ⟨xcB_ok h.1, h.2.1, h.2.2.1, h.2.2.2⟩
def abB (K : PySem.W.Frag) (y : Str) (initId : String) : Bool := decide (PySem.W.specialIn K (.ref (He.ga K y)) "__getattribute__" = some (some (.builtin "type.__getattribute__"))) && (PySem.W.readsIn K (He.ga K y) (.type "type") &&
  (match PySem.W.findCls K (.ref (He.ga K y)) (.type "type") "__init__" with
    | some (.val (.builtin i)) => decide (i = initId)
    | _ => false))
theorem abB_ok {K : PySem.W.Frag} {y : Str} {initId : String} (h : abB K y initId = true) : Above K (He.ga K y) initId := by
  unfold abB at h
  simp only [Bool.and_eq_true, decide_eq_true_eq] at h
  obtain ⟨a, b, c⟩ := h
  refine ⟨a, b, ?_⟩
  split at c
  · rename_i i e
    rw [e, of_decide_eq_true c]
  · cases c
def exTabB (K : PySem.W.Frag) (tab : Anc) (names : List Str) : Bool := tab.all fun p => names.all fun x => decide (PySem.W.exmOne K (.ref (He.ga K p.1)) (.ref (He.ga K x)) = some (p.2.contains x))
theorem mem_of_lookupS {β : Type} {t : Str} : ∀ {l : List (Str × β)} {r : β}, l.lookup t = some r → (t, r) ∈ l
  | [], r, h => by simp at h
  | (k, v) :: l, r, h => by
    rw [List.lookup_cons] at h
    split at h
    · rename_i z
      cases h
      rw [beq_iff_eq.mp z]; exact List.mem_cons_self
    · exact List.mem_cons_of_mem _ (mem_of_lookupS h)
theorem exTabB_ok {K : PySem.W.Frag} {tab : Anc} {names : List Str} (h : exTabB K tab names = true) : ExTab K tab names := fun C anc e x hx => by
  have := List.all_eq_true.mp (List.all_eq_true.mp h _ (mem_of_lookupS e)) _ hx
  simpa using this
def fxB (K : PySem.W.Frag) (l : List Str) (f : Str) : Bool := l.all fun C => XgB K (He.ga K C) && decide (PySem.W.findIn K (.ref (He.ga K C)) f = some none)
theorem fxB_ok {K : PySem.W.Frag} {l : List Str} {f : Str} (h : fxB K l f = true) : ∀ C ∈ l, XgC K (He.ga K C) ∧ PySem.W.findIn K (.ref (He.ga K C)) f = some none := fun C hC => by
  have := List.all_eq_true.mp h _ hC
  simp only [Bool.and_eq_true, decide_eq_true_eq] at this
  exact ⟨xgB_ok this.1, this.2⟩
def clB (K : PySem.W.Frag) (C : Addr) : Bool := PySem.W.plainGet K C Str.empty && (PySem.W.hasDictIn K C && (PySem.W.plainOver K C && decide (PySem.W.findIn K (.ref C) "__setattr__" = some (some (.builtin "object.__setattr__")))))
theorem clB_ok {K : PySem.W.Frag} {C : Addr} (h : clB K C = true) : Cls K C := by
  unfold clB at h
  simp only [Bool.and_eq_true, decide_eq_true_eq] at h
  exact ⟨h.1, h.2.1, h.2.2.1, h.2.2.2⟩
def fiB (K : PySem.W.Frag) (l : List Str) (f : Str) : Bool := l.all fun C => clB K (He.ga K C) && decide (PySem.W.findIn K (.ref (He.ga K C)) f = some none)
theorem fiB_ok {K : PySem.W.Frag} {l : List Str} {f : Str} (h : fiB K l f = true) : ∀ C ∈ l, Cls K (He.ga K C) ∧ NoAttr K (He.ga K C) f := fun C hC => by
  have := List.all_eq_true.mp h _ hC
  simp only [Bool.and_eq_true, decide_eq_true_eq] at this
  exact ⟨clB_ok this.1, this.2⟩
def insB (K : PySem.W.Frag) (C : Addr) : Bool := clB K C && (decide (PySem.W.findIn K (.ref C) "__class__" = some (some (.builtin "object.__class__"))) && decide (PySem.W.mroIn K C (.type "object") = some true))
def isB (K : PySem.W.Frag) (kt : KT) (xl il : List Str) : Bool := decide (PySem.W.specialIn K (.builtin "object.__class__") "__get__" = some (some (.builtin "getset_descriptor.__get__"))) && (decide (PySem.W.takesIn K (.builtin "object.__class__") = some true) &&
  (ktB K kt && ((xl.all fun C => XgB K (He.ga K C)) && il.all fun C => insB K (He.ga K C))))
theorem isB_ok {K : PySem.W.Frag} {kt : KT} {xl il : List Str} (h : isB K kt xl il = true) : IsF K kt xl il := by
  unfold isB at h
  simp only [Bool.and_eq_true, decide_eq_true_eq, List.all_eq_true] at h
  obtain ⟨a, b, c, d, e⟩ := h
  refine ⟨⟨a, b⟩, ktB_ok c, fun C hC => xgB_ok (d C hC), fun C hC => ?_⟩
  have := e C hC
  unfold insB at this
  simp only [Bool.and_eq_true, decide_eq_true_eq] at this
  exact ⟨clB_ok this.1, this.2.1, this.2.2⟩
end Qd

/-! QxA: list(range(..)), xs.extend(..) -/
namespace Qd
open PySem L2 PyProof.Rows

theorem rgV_rep {K : PySem.W.Frag} {B : Hp} {tb : Tb} (a b : Int) : reps K B tb (rangeD a (b - a).toNat) (rgV a b) := by
  unfold rangeD rgV
  exact reps_map _ _ _ fun _ _ => rep_int
def rgOkB (a b : Int) : Bool := small62 a && (small62 b && decide ((b - a).toNat ≤ 16777216))
theorem rgOk_of {a b : Int} (h : rgOkB a b = true) : RgOk a b := by
  unfold rgOkB small62 at h
  simp only [Bool.and_eq_true, decide_eq_true_eq] at h
  exact ⟨h.1.1, h.1.2, h.2.1.1, h.2.1.2, h.2.2⟩
def eListR1 (f : FE) : FE := fun ρ S => (f ρ S).bind fun d S => match d with
  | .int j => chk (rgOkB 0 j) (.ok (.lst (rangeD 0 (j - 0).toNat)) S)
  | _ => .no
section
variable {X : Cx} {W : WX} {a b : Expr} {f g : FE} {p p2 apos cpos pos : Pos}
theorem d_listR1 (hc : X.calm = true) (hg : Gl X "list") (hm : X.mg "list" = none) (hg2 : Gl X "range") (hm2 : X.mg "range" = none) (ha : DE X W a f) (na : starEach [a] X.env = (false, eval a X.env) :: starEach [] X.env := by rfl)
    (na2 : starEach [.Call (.Name "range" p2) [a] [] cpos] X.env = (false, eval (.Call (.Name "range" p2) [a] [] cpos) X.env) :: starEach [] X.env := by rfl) : DE X W (.Call (.Name "list" p) [.Call (.Name "range" p2) [a] [] cpos] [] pos) (eListR1 f) :=
  (pe_listRg hc hg hm (prg_1 hg2 hm2 ha na) na2).imp fun σ H Q ⟨B, tb, ρ, S, w, e, q⟩ => LE.step w e q fun d S1 B1 tb1 H1 v x1 w1 e1 r1 h1 => by
    cases d with
    | int j =>
      obtain ⟨c, h1⟩ := chk_ok h1
      simp only [rep] at r1; subst r1
      refine ⟨j, rfl, rgOk_of c, fun q hq => ?_⟩
      obtain ⟨w2, x2⟩ := w1.new hq (.lst (rgV 0 j))
      refine h1 _ _ _ x2 w2 (.ref q) ?_
      simp only [rep]
      exact ⟨q, rgV 0 j, rfl, upd_same, rgV_rep 0 j⟩
    | _ => exact h1.elim
/-- a list, changing or not -/
def extOf (S : Sto) : D → Option (List D)
  | .lst ds => some ds
  | .obj k => match S.m[k]? with
    | some (some (.lst ds)) => some ds
    | _ => none
  | _ => none
def eExtend (f g : FE) : FE := fun ρ S => (f ρ S).bind fun o S1 => match o with
  | .obj k => chk (match S1.m[k]? with | some (some (.lst _)) => true | _ => false) ((g ρ S1).bind fun y S2 => match S2.m[k]?, extOf S2 y with
    | some (some (.lst ds)), some es => chk (decide (ds.length + es.length ≤ line)) (.ok .non (S2.put k (.lst (ds ++ es))))
    | _, _ => .no)
  | _ => .no
theorem extOf_ok {K : PySem.W.Frag} {H B : Hp} {tb : Tb} {S : Sto} (w : Wd K H B tb S) {d : D} {v : V} {ds : List D} (r : rep K B tb d v) (e : extOf S d = some ds) : ∃ a vs, v = .ref a ∧ H a = some (.lst vs) ∧ reps K B tb ds vs := by
  cases d with
  | lst es =>
    cases e
    simp only [rep] at r
    obtain ⟨a, vs, rfl, h1, h2⟩ := r
    exact ⟨a, vs, rfl, w.sub _ _ h1, h2⟩
  | obj k =>
    simp only [extOf] at e
    split at e
    · rename_i es hk
      cases e
      simp only [rep] at r
      obtain ⟨a, rfl, ha⟩ := r
      obtain ⟨_, ⟨vs, hv, hr⟩, _⟩ := w.live hk ha
      exact ⟨a, vs, rfl, hv, hr⟩
    · cases e
  | _ => cases e
theorem d_extend (ha : DE X W a f) (hb : DE X W b g) (hse : starEach (b :: []) X.env = (false, eval b X.env) :: starEach [] X.env := by rfl) (hbase : attributeBase a "extend" X.env (eval a X.env) = eval a X.env := by rfl)
    (hfew : ((backTo cpos (starEach (b :: []) X.env)).all (fun x => !x.1) && (backToKw cpos (keywordEach [] X.env)).all (fun x => x.1.isSome) && decide ((b :: []).length + ([] : List Keyword).length + (if ([] : List Keyword).isEmpty then 0 else 1) < 30)) = true := by rfl)
    (hline : (apos.endLine == cpos.line) = true := by rfl) (hplain : (backTo cpos (starEach [] X.env)).any (·.1) = false := by rfl) : DE X W (.Call (.Attribute a "extend" apos) [b] [] cpos) (eExtend f g) :=
  (pe_bm PySem.F.plainAttrs_list PySem.F.slot_list_extend PySem.F.type_list_extend mt_extend ha (pa_cons hb pa_nil hse) hbase hfew hline hse hplain).imp fun σ H Q ⟨B, tb, ρ, S, w, e, q⟩ => by
    refine LE.step w e q fun o S1 B1 tb1 H1 v x1 w1 e1 r1 h1 => ?_
    split at h1
    · rename_i k
      obtain ⟨c, h1⟩ := chk_ok h1
      simp only [rep] at r1
      obtain ⟨p, rfl, hp⟩ := r1
      refine ⟨?_, ?_⟩
      · split at c
        · rename_i ds hk
          obtain ⟨_, ⟨vs, hv, _⟩, _⟩ := w1.live hk hp
          exact .inl ⟨rfl, vs, SqL.of hv⟩
        · cases c
      · refine LE.step w1 e1 h1 fun y S2 B2 tb2 H2 u x2 w2 e2 r2 h2 => ?_
        have hp2 := x2.at_ hp
        split at h2
        · rename_i ds es hk hes
          obtain ⟨c2, h2⟩ := chk_ok h2
          obtain ⟨_, ⟨vs, hv, hr⟩, _⟩ := w2.live hk hp2
          obtain ⟨b', zs, rfl, hz, rz⟩ := extOf_ok w2 r2 hes
          refine ⟨p, b', vs, zs, rfl, rfl, hv, hz, by rw [reps_len hr, reps_len rz, line_eq]; exact of_decide_eq_true c2, ?_⟩
          have w3 := w2.put hk hp2 (o := .lst (vs ++ zs)) (d' := .lst (ds ++ es)) ⟨_, upd_same, reps_append hr rz⟩
          exact h2 _ _ _ (Ex.refl _ _) w3 _ rep_non
        · exact h2.elim
    · exact h1.elim
end
end Qd

/-! Qk: sorted of a tuple -/
namespace Qd
open PySem L2 PyProof.Rows PySem.W

section
variable {prog : Program} {w : World} {A : Around} {E : Value → Shared → Prop} {s : Shared}
theorem collect_tup {l : Addr} {vs : List Value} {Q : List Value → Shared → Prop} (hl : IsTup s.heap l vs.toArray) (hsz : vs.length ≤ sizeLine)
    (h : Q vs { s with heap := (s.heap.push (seqObj "list" #[] 0)).update s.heap.objs.size (Obj.mapSeq (· ++ vs.toArray)) }) :
    wpAny (model prog w) A (collect (.ref l)) Q E s := by
  obtain ⟨o, ho, hc, n, hd⟩ := id hl
  have ho1 : (s.heap.push (seqObj "list" #[] 0)).get? l = some o := Heap.get?_push_of_some _ ho
  have hn : (s.heap.push (seqObj "list" #[] 0)).get? s.heap.objs.size = some (seqObj "list" #[] 0) := Heap.get?_push_size _ rfl
  unfold collect
  refine wpAny_bind (wpAny_runValue (codeAny_builtin entry_proto_collect' ?_))
  show wpAny _ _ (newList [] >>= fun e => again (.builtin "list.__iadd__" ⟨[e, .ref l], []⟩)) _ _ s
  refine wpAny_bind (wpAny_newList (wpAny_pure ⟨Code.quiet_builtin _ (by decide +kernel), codeAny_builtin entry_list_iadd' ?_⟩))
  change wpAny _ _ (Builtin.List.listExtendWith (.ref s.heap.objs.size) (.ref l) (.ref s.heap.objs.size)) _ _ { s with heap := s.heap.push (seqObj "list" #[] 0) }
  unfold Builtin.List.listExtendWith
  refine wpAny_bind (wpAny_typeOf (T := "tuple") ⟨o, ho1, hc⟩ ?_)
  rw [if_pos (by rw [show (Value.type "tuple" == Value.type "tuple") = true from rfl]; simp)]
  refine wpAny_bind (listItems_at ho1 hd (wpAny_bind (listItems_at (xs := #[]) (n := 0) hn rfl ?_)))
  rw [if_neg (by simp)]
  refine wpAny_bind (listUpdate_at (xs := #[]) (n := 0) hn rfl ?_ (Nat.zero_le _) (by show (#[] ++ vs.toArray).size ≤ sizeLine + 1; simp only [Array.size_append, List.size_toArray, List.length_nil]; omega))
  refine wpAny_pure (wpAny_bind (wpAny_load (get?_update_seq hn _) ?_))
  show wpAny _ _ (pure ((#[] : Array Value) ++ vs.toArray).toList) Q E _
  have e : ((#[] : Array Value) ++ vs.toArray).toList = vs := by simp
  rw [e]
  exact wpAny_pure h
theorem sortedT_of {l : Addr} {vs : List Value} {Q : Value → Shared → Prop} (hl : IsTup s.heap l vs.toArray) (hL : vs.length ≤ sizeLine)
    (body : ∀ E' : Value → Shared → Prop, wpAny (model prog w) A.in1.in1 (Builtin.«list.sort» ⟨[.ref (s.heap.objs.size + 1)], []⟩) (fun f s' => f = .done (.ret .none) ∧ Q (.ref (s.heap.objs.size + 1)) s') E' { s with heap := copyHeap s.heap vs }) :
    wpAny (model prog w) A (call (.builtin "sorted") [.ref l]) Q E s := by
  refine call_function_entry_kw kind_sorted plain_sorted entry_sorted (args_sorted1 _) ?_
  unfold Builtin.«sorted»
  refine wpAny_bind (m := checkCount "sorted" 1 1 _) (wpAny_pure (wpAny_bind (collect_tup hl hL (wpAny_bind (wpAny_newList ?_ hL)))))
  have size1 : ((s.heap.push (seqObj "list" #[] 0)).update s.heap.objs.size (Obj.mapSeq (· ++ vs.toArray))).objs.size = s.heap.objs.size + 1 := by
    rw [Heap.size_update, Heap.size_push]
  show wpAny _ _ _ _ _ { s with heap := copyHeap s.heap vs }
  rw [size1]
  refine wpAny_bind (wpAny_holding (wpAny_call_entry_kw slot_list_sort ⟨_, copyHeap_at s.heap vs, rfl⟩ entry_list_sort ?b (args_list_sort _)))
  refine wpAny_mono (body _) ?_ fun _ _ e => e
  rintro f s' ⟨rfl, hq⟩
  exact ⟨_, rfl, wpAny_pure ⟨_, rfl, hq⟩⟩
variable {β : Type} {R : Value → β → Prop} {bs : List β} {enc : β → PyData} {vs : List Value}
theorem sortedT_data {l : Addr} {Q : Value → Shared → Prop} (hl : IsTup s.heap l vs.toArray) (e : EachIs R vs bs) (er : EachIs (fun v b => ∃ as, Reads s.heap v (enc b) as) vs bs) (hal : AllAlike (bs.map enc)) (hk : Sortable (bs.map enc)) (hL : bs.length ≤ sizeLine)
    (hu : ∀ b, b ∈ bs → A.units + 2 + (enc b).depth < cLine) (h : ∀ out, out.length = bs.length → EachIs R out (bs.mergeSort (dataLe false enc)) → Q (.ref (s.heap.objs.size + 1)) { s with heap := sortedAll s.heap vs (List.toArray out) }) :
    wpAny (model prog w) A (call (.builtin "sorted") [.ref l]) Q E s := by
  have er2 : EachIs (fun v b => ∃ as, Reads (sortingHeap (copyHeap s.heap vs) (s.heap.objs.size + 1) vs) v (enc b) as) vs bs := er.mono fun _ _ ⟨as, r⟩ => ⟨as, PyProof.Rows.Reads.keeps (fun _ _ => sorting_copy_old) r⟩
  have St := SortsAt.data (prog := prog) (w := w) (A := A.in1.in1) (s := { s with heap := sortingHeap (copyHeap s.heap vs) (s.heap.objs.size + 1) vs }) (each_map (R := fun v d => ∃ as, Reads (sortingHeap (copyHeap s.heap vs) (s.heap.objs.size + 1) vs) v d as) enc er2) hal hk (bound_map hu)
  have hL2 : vs.length ≤ sizeLine := by rw [e.length]; exact hL
  refine sortedT_of hl hL2 fun _ => list_sort_vals (s := { s with heap := copyHeap s.heap vs }) (copyHeap_at s.heap vs) St hL2 ⟨rfl, ?_⟩
  exact h _ (by rw [sortVals_length false rfl]; exact e.length) (sortVals_data false e er2 hal)
end
def rSortT (K : PySem.W.Frag) : List V → Hp → VK → Prop := fun vs H Q => ∃ (a : Addr) (xs : List V) (es : List PyData), vs = [.ref a] ∧ SqT K H a xs ∧ DpAll K H xs es ∧ AllAlike es ∧ Sortable es ∧ (∀ e ∈ es, e.depth ≤ 60) ∧
  ∀ p, H p = none → Q (.ref p) (upd H p (.lst (((xs.zip es).mergeSort (dataLe false Prod.snd)).map Prod.fst)))
theorem cr_sortT {X : Cx} (hu : X.A.units + 64 < cLine) : CallR X (.builtin "sorted") (rSortT X.K) := by
  rintro pins s σ H vs us Q I r ⟨a, xs, es, rfl, hs, hd, hal, hso, hdp, q⟩
  obtain ⟨its, rv, hl, hz⟩ := I.tuple hs
  obtain ⟨u, rfl, ru⟩ := Vals.one r
  obtain rfl : u = Value.ref a := ru
  obtain ⟨as, hr⟩ := Dp.readsAll I es xs its hd rv
  have hlen := dpAll_len hd
  have e2 : (xs.zip es).map Prod.snd = es := zip_snd hlen
  have hzl : (xs.zip es).length = es.length := by rw [← e2, List.length_map, e2]
  refine sortedT_data (R := fun u (b : V × PyData) => RelV b.1 u) (enc := Prod.snd) (bs := xs.zip es) (vs := its) hl (each_zip rv hlen) (readsAll_each Prod.snd (as := as) (by rw [e2]; exact hr)) (by rw [e2]; exact hal) (by rw [e2]; exact hso)
    (by rw [hzl, ← hlen]; exact hz) (fun b hb => ?_) fun out ho he => ?_
  · have := hdp b.2 (by rw [← e2]; exact List.mem_map.mpr ⟨b, hb, rfl⟩)
    omega
  · obtain ⟨m, F⟩ := I.fr
    obtain ⟨c, F', N', _, kp⟩ := sorted_news F (fun p hp => nomatch hp : News X.base X.env.locals s.heap []) its out
    have hf : H (s.heap.objs.size + 1) = none := I.hok.fresh (Nat.le_succ _)
    refine ⟨.ref (s.heap.objs.size + 1), upd H (s.heap.objs.size + 1) (.lst (((xs.zip es).mergeSort (dataLe false Prod.snd)).map Prod.fst)), I.laid (t' := s.toks) kp (Nat.le_succ _) ⟨?_, out, c, vals_each he, (N' _ List.mem_cons_self).1⟩, rfl, q _ hf⟩
    rw [List.length_map, List.length_mergeSort, hzl, ← hlen]
    exact hz
/-- sorted of a list or a tuple -/
def kSortedA : List D → Sto → R D := k1 fun d S => match d with
  | .tup ds => (match pys ds with
    | some es => chk (sortOkB es) (.ok (.lst (ds.mergeSort leD)) S)
    | none => .no)
  | d => kSorted [d] S
theorem fit_sortedA {K : PySem.W.Frag} : FitC K (fun vs H Q => rSortD K vs H Q ∨ rSortT K vs H Q) kSortedA := fit_k1 fun B tb W σ H S d v Q w r q => by
  cases d with
  | tup ds =>
    right
    simp only at q
    split at q
    · rename_i es e2
      obtain ⟨c, q⟩ := chk_ok q
      simp only [rep] at r
      obtain ⟨p, vs, rfl, h1, r1⟩ := r
      refine ⟨p, vs, es, rfl, SqT.ex w.sub h1, pys_ok w.sub ds vs es r1 e2, sortOk_alike c, sortOk_sortable c, sortOk_depth c, fun l hl => ?_⟩
      obtain ⟨B', e', w', r'⟩ := new_lst w (sort_reps r1 e2) hl
      exact q B' tb _ e' w' _ r'
    · exact q.elim
  | _ => exact .inl (fit_sorted B tb W σ H S _ [v] Q w (reps_cons r reps_nil) q)
theorem cr_sortA {X : Cx} (hu : X.A.units + 64 < cLine) : CallR X (.builtin "sorted") (fun vs H Q => rSortD X.K vs H Q ∨ rSortT X.K vs H Q) := CallR.or (cr_sortD hu) (cr_sortT hu)
end Qd

/-! Qh: the look behind the top, the interpreter's own table told too (a class's own attributes ask it) -/
namespace Qd
open PySem L2 PyProof.Rows

def asY (g : Addr → Option Obj) (n : Nat) : List Addr := He.asD g n ++ [cStatics]
def kY (g : Addr → Option Obj) (n : Nat) : PySem.W.Frag := He.frT g (asY g n)
abbrev AlY : Type := He.AlT × Bool
def obsY (n : Nat) (fa : List He.Fa) (fn : List He.DefD) (ts : List He.Tab) (ex : PySem.W.Frag → Bool) (g : Addr → Option Obj) : AlY := (He.obsT fa fn ts (kY g n), ex (kY g n))
def valY (fn : List He.DefD) (ts : List He.Tab) (w : World) : AlY := (He.valT fn ts w, true)
structure SaysY (fa : List He.Fa) (fn : List He.DefD) (ts : List He.Tab) (ex : PySem.W.Frag → Bool) (w : World) (K : PySem.W.Frag) : Prop where
  t : He.SaysT fa fn ts w K
  more : ex K = true
def hookY (n : Nat) (fa : List He.Fa) (fn : List He.DefD) (ts : List He.Tab) (ex : PySem.W.Frag → Bool) : PySem.W.Hook where
  α := AlY
  obs := fun s => obsY n fa fn ts ex s.heap.get?
  val := fun w => valY fn ts w
  says := fun w h => ∃ K : PySem.W.Frag, K.In h ∧ SaysY fa fn ts ex w K
  of := fun _ _ e => ⟨_, He.frT_in, ⟨congrArg (fun z : AlY => z.1) e, congrArg (fun z : AlY => z.2) e⟩⟩
  keeps := fun _ _ _ ⟨K, hK, c⟩ k => ⟨K, PySem.W.Frag.In.keeps hK k, c⟩
theorem obsY_eq {n : Nat} {fa : List He.Fa} {fn : List He.DefD} {ts : List He.Tab} {ex : PySem.W.Frag → Bool} {g : Addr → Option Obj} {s : Shared} (h : ∀ a, g a = s.heap.get? a) : obsY n fa fn ts ex g = (hookY n fa fn ts ex).obs s := by
  have e : g = s.heap.get? := funext h
  rw [e] <;> rfl
end Qd

/-! Qv: how bodies that may raise are reasoned about -/
namespace Qd
open PySem L2

section
variable {α β : Type} {ρ : Rho} {S : Sto}
/-- what comes out, by its wish; what is raised, by another one -/
def Wx (r : R α) (Q : α → Sto → Prop) (E : Str → List Str → List D → Sto → Prop) : Prop := match r with
  | .ok a S => Q a S
  | .er C ns vs S => E C ns vs S
  | .no => False
def Wsx (r : R Out) (N : Rho → Sto → Prop) (T : D → Sto → Prop) (E : Rho → Str → List Str → List D → Sto → Prop) : Prop := match r with
  | .ok (.nx ρ) S => N ρ S
  | .ok (.rt d) S => T d S
  | .ok (.xx ρ C ns vs) S => E ρ C ns vs S
  | _ => False
variable {N : Rho → Sto → Prop} {T : D → Sto → Prop} {E : Rho → Str → List Str → List D → Sto → Prop} {Q : D → Sto → Prop} {E' : Str → List Str → List D → Sto → Prop}
theorem Wx_of {r : R α} {Q : α → Sto → Prop} (h : W r Q) : Wx r Q E' := by
  cases r with
  | ok a S => exact h
  | er C ns vs S => exact h.elim
  | no => exact h
theorem Wsx_of {r : R Out} (h : Ws r N T) : Wsx r N T E := by
  cases r with
  | ok o S => cases o <;> first | exact h | exact h.elim
  | er C ns vs S => exact h.elim
  | no => exact h
theorem Wx_ok {a : α} {Q : α → Sto → Prop} : Wx (.ok a S) Q E' = Q a S := rfl
theorem Wx_er {C : Str} {ns : List Str} {vs : List D} {Q : α → Sto → Prop} : Wx (.er C ns vs S : R α) Q E' = E' C ns vs S := rfl
theorem Wx.imp {r : R α} {Q Q' : α → Sto → Prop} {F F' : Str → List Str → List D → Sto → Prop} (h : Wx r Q F) (i : ∀ a S, Q a S → Q' a S) (j : ∀ C ns vs S, F C ns vs S → F' C ns vs S) : Wx r Q' F' := by
  cases r with
  | ok a S => exact i _ _ h
  | er C ns vs S => exact j _ _ _ _ h
  | no => exact h
theorem of_Wx {r r0 : R α} (h : Wx r (fun a S => r0 = .ok a S) (fun C ns vs S => r0 = .er C ns vs S)) : r = r0 := by
  cases r with
  | ok a S => exact h.symm
  | er C ns vs S => exact h.symm
  | no => exact h.elim
theorem Wsx_st {r : R α} {k : α → Sto → R Out} : Wsx (r.st ρ k) N T E = Wx r (fun a S => Wsx (k a S) N T E) (fun C ns vs S => E ρ C ns vs S) := by cases r <;> rfl
theorem Wx_bind {r : R α} {k : α → Sto → R D} : Wx (r.bind k) Q E' = Wx r (fun a S => Wx (k a S) Q E') E' := by cases r <;> rfl
theorem Wx_run {b : Bool} {fb : FS} {n : Nat} {ds : List D} : Wx (run0 b fb n ds S) Q E' = Wsx (fb (rho0 n ds) S) (fun _ S' => Q .non (if b = true then S'.back S.m.length else S')) (fun d S' => Q d (if b = true then S'.back S.m.length else S')) (fun _ C ns vs S' => E' C ns vs (S'.back S.m.length)) := by
  unfold run0
  cases fb (rho0 n ds) S with
  | ok o S => cases o <;> rfl
  | er C ns vs S => rfl
  | no => rfl
theorem Wsx_seq {f g : FS} : Wsx (sSeq f g ρ S) N T E = Wsx (f ρ S) (fun ρ S => Wsx (g ρ S) N T E) T E := by
  unfold sSeq
  cases f ρ S with
  | ok o S => cases o <;> rfl
  | er C ns vs S => rfl
  | no => rfl
theorem Wsx_nil : Wsx (sNil ρ S) N T E = N ρ S := rfl
theorem Wsx_if {t : FT} {f g : FS} : Wsx (sIf t f g ρ S) N T E = Wx (t ρ S) (fun b S => if b = true then Wsx (f ρ S) N T E else Wsx (g ρ S) N T E) (fun C ns vs S => E ρ C ns vs S) := by
  unfold sIf
  rw [Wsx_st]
  congr; funext d S
  split <;> rfl
theorem Wsx_expr {f : FE} : Wsx (sExpr f ρ S) N T E = Wx (f ρ S) (fun _ S => N ρ S) (fun C ns vs S => E ρ C ns vs S) := Wsx_st
theorem Wsx_ret {f : FE} : Wsx (sRet f ρ S) N T E = Wx (f ρ S) T (fun C ns vs S => E ρ C ns vs S) := Wsx_st
theorem Wsx_raise {C : Str} {ns : List Str} {fa : FA} : Wsx (sRaise C ns fa ρ S) N T E = Wx (fa ρ S) (fun ds S => E ρ C ns.reverse ds.reverse S) (fun C ns vs S => E ρ C ns vs S) := Wsx_st
theorem Wsx_raise0 {C : Str} : Wsx (sRaise0 C ρ S) N T E = E ρ C [] [] S := rfl
theorem Wsx_for {fi : FI} {p : Pt} {body : FS} : Wsx (sFor fi p body ρ S) N T E = Wx (fi ρ S) (fun ds S => Wsx (loop p body ds ρ S) N T E) (fun C ns vs S => E ρ C ns vs S) := Wsx_st
theorem Wsx_asg {f : FE} {pt : Pt} : Wsx (sAsg f (gPt pt) ρ S) N T E = Wx (f ρ S) (fun d S => match bindP pt d ρ with | some ρ' => N ρ' S | none => False) (fun C ns vs S => E ρ C ns vs S) := by
  unfold sAsg
  rw [Wsx_st]
  congr; funext d S
  unfold gPt
  cases bindP pt d ρ <;> rfl
theorem Wx_fn {g : FF} {fa : FA} {dds : List D} : Wx (eFn g fa dds ρ S) Q E' = Wx (fa ρ S) (fun ds S => Wx (g (ds ++ dds) S) Q E') E' := Wx_bind
theorem Wsx_loop {p : Pt} {body : FS} (I : List D → Rho → Sto → Prop) {ds : List D} (h0 : I ds ρ S)
    (hs : ∀ d r ρ S, I (d :: r) ρ S → ∃ ρ1, bindP p d ρ = some ρ1 ∧ Wsx (body ρ1 S) (fun ρ S => I r ρ S) T E) (hn : ∀ ρ S, I [] ρ S → N ρ S) : Wsx (loop p body ds ρ S) N T E := by
  induction ds generalizing ρ S with
  | nil => exact hn _ _ h0
  | cons d r ih =>
    obtain ⟨ρ1, e, h⟩ := hs d r ρ S h0
    unfold loop
    rw [e]
    simp only
    cases z : body ρ1 S with
    | ok o S2 =>
      rw [z] at h
      cases o with
      | nx ρ2 => exact ih h
      | rt d => exact h
      | xx ρ2 C ns vs => exact h
      | bk ρ2 => exact h.elim
      | ct ρ2 => exact h.elim
    | er C ns vs S2 => rw [z] at h; exact h.elim
    | no => rw [z] at h; exact h.elim
theorem Wsx_try {tab : Anc} {fb : FS} {hs : List Hc} : Wsx (sTry tab fb hs ρ S) N T E = Wsx (fb ρ S) N T (fun ρ1 C ns vs S1 => Wsx (hnd tab hs ρ1 C ns vs S1) N T E) := by
  unfold sTry
  cases fb ρ S with
  | ok o S => cases o <;> rfl
  | er C ns vs S => rfl
  | no => rfl
/-- a clause that takes it, with a name -/
theorem Wsx_hnd {tab : Anc} {xs anc : List Str} {i : Nat} {fs : FS} {r : List Hc} {C : Str} {ns : List Str} {vs : List D} (h1 : tab.lookup C = some anc) (h2 : ns.length = vs.length) (h3 : xs.any (anc.contains ·) = true)
    (h : Ws (fs (ρ.set i (some (.exc C ns vs))) S) (fun ρ S => N (ρ.set i none) S) T) : Wsx (hnd tab ((xs, some i, fs) :: r) ρ C ns vs S) N T E := by
  unfold hnd
  rw [h1]
  simp only [ne_eq, h2, not_true_eq_false, if_false, h3, if_true, putD]
  cases z : fs (ρ.set i (some (.exc C ns vs))) S with
  | ok o S2 =>
    rw [z] at h
    cases o with
    | nx ρ2 => exact h
    | rt d => exact h
    | _ => exact h.elim
  | er C ns vs S2 => rw [z] at h; exact h.elim
  | no => rw [z] at h; exact h.elim
/-- one that doesn't -/
theorem Wsx_pass {tab : Anc} {xs anc : List Str} {oi : Option Nat} {fs : FS} {r : List Hc} {C : Str} {ns : List Str} {vs : List D} (h1 : tab.lookup C = some anc) (h2 : ns.length = vs.length) (h3 : xs.any (anc.contains ·) = false)
    (h : Wsx (hnd tab r ρ C ns vs S) N T E) : Wsx (hnd tab ((xs, oi, fs) :: r) ρ C ns vs S) N T E := by
  unfold hnd
  rw [h1]
  simp only [ne_eq, h2, not_true_eq_false, if_false, h3, Bool.false_eq_true]
  exact h
theorem Ws_of_Wsx {r : R Out} (h : Wsx r N T fun _ _ _ _ _ => False) : Ws r N T := by
  cases r with
  | ok o S => cases o <;> exact h
  | er C ns vs S => exact h
  | no => exact h
theorem W_of_Wx {r : R α} {Q : α → Sto → Prop} (h : Wx r Q fun _ _ _ _ => False) : W r Q := by
  cases r <;> exact h
/-! ### more forms -/
theorem W_aug {i : Nat} {f : FE} {k : D → D → Sto → R D} : Ws (sAug k i f ρ S) N T = match ρ[i]? with
    | some (some x) => W (f ρ S) fun y S => W (k x y S) fun z S => N (ρ.set i (some z)) S
    | _ => False := by
  unfold sAug
  cases ρ[i]? with
  | none => rfl
  | some o => cases o with
    | none => rfl
    | some x =>
      simp only
      rw [Ws_st]
      congr; funext y S
      rw [Ws_st]
      rfl
theorem W_addSI {i j : Int} : W (kAddS (.int i) (.int j) S) Q = Q (.int (i + j)) S := rfl
theorem W_subSI {i j : Int} : W (kSubI (.int i) (.int j) S) Q = Q (.int (i - j)) S := rfl
theorem W_listR1 {f : FE} : W (eListR1 f ρ S) Q = W (f ρ S) fun d S => match d with
    | .int j => rgOkB 0 j = true ∧ Q (.lst (rangeD 0 j.toNat)) S
    | _ => False := by
  unfold eListR1
  rw [W_bind]
  congr; funext d S
  cases d with
  | int j => simp only [W_chk, W_ok, Int.sub_zero]
  | _ => rfl
theorem W_fldX {xl il : List Str} {f : Str} {g : FE} : W (eFld xl il f g ρ S) Q = W (g ρ S) fun d S => match fieldsOf S xl il d with
    | some (ns, vs) => (match (ns.zip vs).lookup f with
      | some v => Q v S
      | none => False)
    | none => False := by
  unfold eFld
  rw [W_bind]
  congr; funext d S
  cases fieldsOf S xl il d with
  | none => rfl
  | some p =>
    obtain ⟨ns, vs⟩ := p
    simp only
    cases (ns.zip vs).lookup f <;> rfl
theorem W_sortAL {ds : List D} : W (kSortedA [.lst ds] S) Q = W (kSorted [.lst ds] S) Q := rfl
theorem W_sortAO {k : Nat} : W (kSortedA [.obj k] S) Q = W (kSorted [.obj k] S) Q := rfl
theorem W_sortTI {ns : List Int} : W (kSortedA [.tup (ns.map .int)] S) Q = Q (.lst ((srtI ns).map .int)) S := by
  show W (match pys (ns.map .int) with
    | some es => chk (sortOkB es) (.ok (.lst ((ns.map D.int).mergeSort leD)) S)
    | none => .no) Q = _
  rw [pys_ints]
  simp only
  rw [W_chk, sortOk_int, sort_int]
  simp [W]
theorem W_neIL {a b : List Int} : W (kNe (.lst (a.map .int)) (.lst (b.map .int)) S) Q = Q (.bl (!decide (a = b))) S := by
  unfold kNe
  rw [kEqB_ns fun z h => by cases h]
  simp only [pyOf, py, pys_ints, Option.map_some]
  rw [W_chk, shaped_ints, shaped_ints, eqv_ints]
  simp [W]
theorem W_ext {f g : FE} {k : Nat} {ds : List D} (hf : f ρ S = .ok (.obj k) S) (hk : S.m[k]? = some (some (.lst ds)))
    (h : W (g ρ S) fun y S2 => ∃ ds es, S2.m[k]? = some (some (.lst ds)) ∧ extOf S2 y = some es ∧ ds.length + es.length ≤ line ∧ Q .non (S2.put k (.lst (ds ++ es)))) : W (eExtend f g ρ S) Q := by
  unfold eExtend
  rw [hf]
  simp only [bind_ok, hk, W_chk, W_bind, true_and]
  refine W.mono h fun y S2 ⟨ds, es, h1, h2, h3, h4⟩ => ?_
  rw [h1, h2]
  simp only [W_chk, W_ok, decide_eq_true_eq]
  exact ⟨h3, h4⟩
end
end Qd

namespace K38
open PySem L2 Qd
def top (i : Nat) : Stmt := PySem.Challenge.pw_stakecrates_k38_rounds_and_their_room.main.body.getD i (.Pass ⟨0, 0, 0, 0⟩)
abbrev s_law_take : Stmt := top 44
abbrev s_law_stops : Stmt := top 47
abbrev s_is_whole : Stmt := top 32
abbrev s_is_within : Stmt := top 33
abbrev s_is_stop : Stmt := top 36
abbrev s_check_stops : Stmt := top 37
abbrev s_need_of : Stmt := top 38
abbrev s_need : Stmt := top 39
abbrev s_law_walked : Stmt := top 48
abbrev s_law_number : Stmt := top 45
abbrev s_law_room_right : Stmt := top 50
abbrev s_least_room : Stmt := top 40
abbrev s_law_orders : Stmt := top 49
abbrev s_law_told_right : Stmt := top 51
abbrev s_law_odd_stop : Stmt := top 54
abbrev s_law_sort : Stmt := top 52
abbrev s_law_seen : Stmt := top 53
abbrev s_law_refused_right : Stmt := top 55
abbrev s_law_right : Stmt := top 56
abbrev s_law_purse : Stmt := top 43
abbrev s_law_cell : Stmt := top 42
abbrev s_law_cells : Stmt := top 46
abbrev s_law : Stmt := top 57
abbrev s_NoRows_i : Stmt := (clsSts (top 6)).getD 0 (.Pass ⟨0, 0, 0, 0⟩)
abbrev xtab : Anc := [("NoRows", ["NoRows", "StakeError"])]
abbrev xnms : List Str := ["NoRows"]
abbrev ktb : KT := [(.own "NoRows", [(.own "Empty", false), (.own "FullError", false), (.own "LackError", false), (.own "Lacks", false), (.own "LacksAt", false), (.own "LacksOn", false), (.own "NoAmount", false), (.own "NoBack", false), (.own "NoBacks", false), (.own "NoDay", false), (.own "NoDealing", false), (.own "NoDebts", false), (.own "NoDeed", false), (.own "NoForm", false), (.own "NoLoad", false), (.own "NoMany", false), (.own "NoName", false), (.own "NoOuts", false), (.own "NoPlace", false), (.own "NoRow", false), (.own "NoRule", false), (.own "NoRules", false), (.own "NoStakes", false), (.own "NoText", false), (.own "NotOut", false), (.own "Short", false), (.own "StakeError", true), (.own "Taken", false), (.own "TooMany", false), (.blt "ValueError", true)])]
abbrev xls : List Str := ["NoRows"]
abbrev ils : List Str := []
abbrev xl_number : List Str := ["NoRows"]
abbrev il_number : List Str := []
/-- what the top has written -/
structure Txt (w : World) (K : PySem.W.Frag) (mg : Str → Option Value) : Prop where
  b_ValueError : mg "ValueError" = none
  b_abs : mg "abs" = none
  b_all : mg "all" = none
  b_bool : mg "bool" = none
  b_enumerate : mg "enumerate" = none
  b_int : mg "int" = none
  b_isinstance : mg "isinstance" = none
  b_len : mg "len" = none
  b_list : mg "list" = none
  b_max : mg "max" = none
  b_min : mg "min" = none
  b_range : mg "range" = none
  b_repr : mg "repr" = none
  b_sorted : mg "sorted" = none
  b_str : mg "str" = none
  b_sum : mg "sum" = none
  b_tuple : mg "tuple" = none
  i_MOST_LOAD : ∃ t, mg "MOST_LOAD" = some (.int 999 t)
  c_Empty : mg "Empty" = some (.ref (He.ga K "Empty"))
  c_FullError : mg "FullError" = some (.ref (He.ga K "FullError"))
  c_LackError : mg "LackError" = some (.ref (He.ga K "LackError"))
  c_Lacks : mg "Lacks" = some (.ref (He.ga K "Lacks"))
  c_LacksAt : mg "LacksAt" = some (.ref (He.ga K "LacksAt"))
  c_LacksOn : mg "LacksOn" = some (.ref (He.ga K "LacksOn"))
  c_NoAmount : mg "NoAmount" = some (.ref (He.ga K "NoAmount"))
  c_NoBack : mg "NoBack" = some (.ref (He.ga K "NoBack"))
  c_NoBacks : mg "NoBacks" = some (.ref (He.ga K "NoBacks"))
  c_NoDay : mg "NoDay" = some (.ref (He.ga K "NoDay"))
  c_NoDealing : mg "NoDealing" = some (.ref (He.ga K "NoDealing"))
  c_NoDebts : mg "NoDebts" = some (.ref (He.ga K "NoDebts"))
  c_NoDeed : mg "NoDeed" = some (.ref (He.ga K "NoDeed"))
  c_NoForm : mg "NoForm" = some (.ref (He.ga K "NoForm"))
  c_NoLoad : mg "NoLoad" = some (.ref (He.ga K "NoLoad"))
  c_NoMany : mg "NoMany" = some (.ref (He.ga K "NoMany"))
  c_NoName : mg "NoName" = some (.ref (He.ga K "NoName"))
  c_NoOuts : mg "NoOuts" = some (.ref (He.ga K "NoOuts"))
  c_NoPlace : mg "NoPlace" = some (.ref (He.ga K "NoPlace"))
  c_NoRow : mg "NoRow" = some (.ref (He.ga K "NoRow"))
  c_NoRows : mg "NoRows" = some (.ref (He.ga K "NoRows"))
  c_NoRule : mg "NoRule" = some (.ref (He.ga K "NoRule"))
  c_NoRules : mg "NoRules" = some (.ref (He.ga K "NoRules"))
  c_NoStakes : mg "NoStakes" = some (.ref (He.ga K "NoStakes"))
  c_NoText : mg "NoText" = some (.ref (He.ga K "NoText"))
  c_NotOut : mg "NotOut" = some (.ref (He.ga K "NotOut"))
  c_Short : mg "Short" = some (.ref (He.ga K "Short"))
  c_StakeError : mg "StakeError" = some (.ref (He.ga K "StakeError"))
  c_Taken : mg "Taken" = some (.ref (He.ga K "Taken"))
  c_TooMany : mg "TooMany" = some (.ref (He.ga K "TooMany"))
  x_NoRows : XiF K "NoRows" "ValueError.__new__" veT ["number"]
  FI_NoRows : ∃ fd, FunD K "__init__" "NoRows.__init__" (defArgs s_NoRows_i) (defBody s_NoRows_i) (defScope s_NoRows_i) [] [] (He.ma K (He.ga K "NoRows") "__init__") fd
  ab_StakeError : Above K (He.ga K "StakeError") "ValueError.__init__"
  ext : ExTab K xtab xnms
  is : IsF K ktb xls ils
  fx_number : ∀ C ∈ xl_number, XgC K (He.ga K C) ∧ PySem.W.findIn K (.ref (He.ga K C)) "number" = some none
  fi_number : ∀ C ∈ il_number, Cls K (He.ga K C) ∧ NoAttr K (He.ga K C) "number"
  g_law_take : mg "_law_take" = some (.ref (He.ga K "_law_take"))
  F_law_take : ∃ fd, FunD K "_law_take" "_law_take" (defArgs s_law_take) (defBody s_law_take) (defScope s_law_take) [] [] (He.ga K "_law_take") fd
  g_law_stops : mg "_law_stops" = some (.ref (He.ga K "_law_stops"))
  F_law_stops : ∃ fd, FunD K "_law_stops" "_law_stops" (defArgs s_law_stops) (defBody s_law_stops) (defScope s_law_stops) [] [] (He.ga K "_law_stops") fd
  g_is_whole : mg "is_whole" = some (.ref (He.ga K "is_whole"))
  F_is_whole : ∃ fd, FunD K "is_whole" "is_whole" (defArgs s_is_whole) (defBody s_is_whole) (defScope s_is_whole) [] [] (He.ga K "is_whole") fd
  g_is_within : mg "is_within" = some (.ref (He.ga K "is_within"))
  F_is_within : ∃ fd, FunD K "is_within" "is_within" (defArgs s_is_within) (defBody s_is_within) (defScope s_is_within) [] [] (He.ga K "is_within") fd
  g_is_stop : mg "is_stop" = some (.ref (He.ga K "is_stop"))
  F_is_stop : ∃ fd, FunD K "is_stop" "is_stop" (defArgs s_is_stop) (defBody s_is_stop) (defScope s_is_stop) [] [] (He.ga K "is_stop") fd
  g_check_stops : mg "check_stops" = some (.ref (He.ga K "check_stops"))
  F_check_stops : ∃ fd, FunD K "check_stops" "check_stops" (defArgs s_check_stops) (defBody s_check_stops) (defScope s_check_stops) [] [] (He.ga K "check_stops") fd
  g_need_of : mg "need_of" = some (.ref (He.ga K "need_of"))
  F_need_of : ∃ fd, FunD K "need_of" "need_of" (defArgs s_need_of) (defBody s_need_of) (defScope s_need_of) [] [] (He.ga K "need_of") fd
  g_need : mg "need" = some (.ref (He.ga K "need"))
  F_need : ∃ fd, FunD K "need" "need" (defArgs s_need) (defBody s_need) (defScope s_need) [] [] (He.ga K "need") fd
  g_law_walked : mg "_law_walked" = some (.ref (He.ga K "_law_walked"))
  F_law_walked : ∃ fd, FunD K "_law_walked" "_law_walked" (defArgs s_law_walked) (defBody s_law_walked) (defScope s_law_walked) [] [] (He.ga K "_law_walked") fd
  g_law_number : mg "_law_number" = some (.ref (He.ga K "_law_number"))
  F_law_number : ∃ fd, FunD K "_law_number" "_law_number" (defArgs s_law_number) (defBody s_law_number) (defScope s_law_number) [] [] (He.ga K "_law_number") fd
  g_law_room_right : mg "_law_room_right" = some (.ref (He.ga K "_law_room_right"))
  F_law_room_right : ∃ fd, FunD K "_law_room_right" "_law_room_right" (defArgs s_law_room_right) (defBody s_law_room_right) (defScope s_law_room_right) [] [] (He.ga K "_law_room_right") fd
  g_least_room : mg "least_room" = some (.ref (He.ga K "least_room"))
  F_least_room : ∃ fd, FunD K "least_room" "least_room" (defArgs s_least_room) (defBody s_least_room) (defScope s_least_room) [] [] (He.ga K "least_room") fd
  g_law_orders : mg "_law_orders" = some (.ref (He.ga K "_law_orders"))
  F_law_orders : ∃ fd, FunD K "_law_orders" "_law_orders" (defArgs s_law_orders) (defBody s_law_orders) (defScope s_law_orders) [] [] (He.ga K "_law_orders") fd
  g_law_told_right : mg "_law_told_right" = some (.ref (He.ga K "_law_told_right"))
  F_law_told_right : ∃ fd, FunD K "_law_told_right" "_law_told_right" (defArgs s_law_told_right) (defBody s_law_told_right) (defScope s_law_told_right) [] [] (He.ga K "_law_told_right") fd
  g_law_odd_stop : mg "_law_odd_stop" = some (.ref (He.ga K "_law_odd_stop"))
  F_law_odd_stop : ∃ fd, FunD K "_law_odd_stop" "_law_odd_stop" (defArgs s_law_odd_stop) (defBody s_law_odd_stop) (defScope s_law_odd_stop) [] [] (He.ga K "_law_odd_stop") fd
  g_law_sort : mg "_law_sort" = some (.ref (He.ga K "_law_sort"))
  F_law_sort : ∃ fd, FunD K "_law_sort" "_law_sort" (defArgs s_law_sort) (defBody s_law_sort) (defScope s_law_sort) [] [] (He.ga K "_law_sort") fd
  g_law_seen : mg "_law_seen" = some (.ref (He.ga K "_law_seen"))
  F_law_seen : ∃ fd, FunD K "_law_seen" "_law_seen" (defArgs s_law_seen) (defBody s_law_seen) (defScope s_law_seen) [] [] (He.ga K "_law_seen") fd
  g_law_refused_right : mg "_law_refused_right" = some (.ref (He.ga K "_law_refused_right"))
  F_law_refused_right : ∃ fd, FunD K "_law_refused_right" "_law_refused_right" (defArgs s_law_refused_right) (defBody s_law_refused_right) (defScope s_law_refused_right) [] [] (He.ga K "_law_refused_right") fd
  g_law_right : mg "_law_right" = some (.ref (He.ga K "_law_right"))
  F_law_right : ∃ fd, FunD K "_law_right" "_law_right" (defArgs s_law_right) (defBody s_law_right) (defScope s_law_right) [] [] (He.ga K "_law_right") fd
  g_law_purse : mg "_law_purse" = some (.ref (He.ga K "_law_purse"))
  F_law_purse : ∃ fd, FunD K "_law_purse" "_law_purse" (defArgs s_law_purse) (defBody s_law_purse) (defScope s_law_purse) [] [] (He.ga K "_law_purse") fd
  g_law_cell : mg "_law_cell" = some (.ref (He.ga K "_law_cell"))
  F_law_cell : ∃ fd, FunD K "_law_cell" "_law_cell" (defArgs s_law_cell) (defBody s_law_cell) (defScope s_law_cell) [] [] (He.ga K "_law_cell") fd
  g_law_cells : mg "_law_cells" = some (.ref (He.ga K "_law_cells"))
  F_law_cells : ∃ fd, FunD K "_law_cells" "_law_cells" (defArgs s_law_cells) (defBody s_law_cells) (defScope s_law_cells) [] [] (He.ga K "_law_cells") fd
  g_law : mg "law" = some (.ref (He.ga K "law"))
  F_law : ∃ fd, FunD K "law" "law" (defArgs s_law) (defBody s_law) (defScope s_law) [] [] (He.ga K "law") fd
section
variable {P : Program} {w : World} {K : PySem.W.Frag} {mg : Str → Option Value} {base : Heap}
def kw0 {α : Type} (as bs : List α) : List α := match as, bs with
  | [], [b0] => [b0]
  | _, _ => []
theorem mix_kw0 : Mix 0 1 1 @kw0 where
  len := fun as bs h1 h2 => by
    cases as with
    | cons _ _ => simp at h1 h2
    | nil =>
      cases bs with
      | nil => simp at h1 h2
      | cons _ bs => 
        cases bs with
        | cons _ _ => simp at h1 h2
        | nil => rfl
  rel := fun R as bs as' bs' h1 h2 => by
    cases h1 with
    | cons _ _ => exact .nil
    | nil =>
      cases h2 with
      | nil => exact .nil
      | cons pb0 h2 => 
        cases h2 with
        | cons _ _ => exact .nil
        | nil => exact (.cons pb0 .nil)
theorem kb_kw0 {fd : FuncData} (F : FunD K "need" "need" (defArgs s_need) (defBody s_need) (defScope s_need) [] [] (He.ga K "need") fd) : KBinds K fd ["stops"] ["stops"] (fun a b => kw0 a b) (fun a b => kw0 a b) := by
  obtain ⟨oc, od, dV, kV, doc, pm, an, cdv, ct, osl, rfl, lk, hcd, hD, hK⟩ := F.ex
  rcases hD with ⟨_, rfl⟩ | ⟨e, _⟩
  · refine ⟨fun s us ws KI hl => ?_, fun h1 h2 => mix_kw0.rel _ _ _ _ _ h1 h2⟩
    cases us with
    | cons _ _ => exact absurd (show (0 : Nat) = 1 from hl) (by decide)
    | nil =>
      cases ws with
      | nil => exact absurd (show (0 : Nat) = 1 from hl) (by decide)
      | cons _ ws => 
        cases ws with
        | cons _ _ => exact absurd (show (0 : Nat) = 1 from hl) (by decide)
        | nil => exact .of_eq rfl
  · exact absurd rfl e
def kw1 {α : Type} (as bs : List α) : List α := match as, bs with
  | [], [b0] => [b0]
  | _, _ => []
theorem mix_kw1 : Mix 0 1 1 @kw1 where
  len := fun as bs h1 h2 => by
    cases as with
    | cons _ _ => simp at h1 h2
    | nil =>
      cases bs with
      | nil => simp at h1 h2
      | cons _ bs => 
        cases bs with
        | cons _ _ => simp at h1 h2
        | nil => rfl
  rel := fun R as bs as' bs' h1 h2 => by
    cases h1 with
    | cons _ _ => exact .nil
    | nil =>
      cases h2 with
      | nil => exact .nil
      | cons pb0 h2 => 
        cases h2 with
        | cons _ _ => exact .nil
        | nil => exact (.cons pb0 .nil)
theorem kb_kw1 {fd : FuncData} (F : FunD K "least_room" "least_room" (defArgs s_least_room) (defBody s_least_room) (defScope s_least_room) [] [] (He.ga K "least_room") fd) : KBinds K fd ["stops"] ["stops"] (fun a b => kw1 a b) (fun a b => kw1 a b) := by
  obtain ⟨oc, od, dV, kV, doc, pm, an, cdv, ct, osl, rfl, lk, hcd, hD, hK⟩ := F.ex
  rcases hD with ⟨_, rfl⟩ | ⟨e, _⟩
  · refine ⟨fun s us ws KI hl => ?_, fun h1 h2 => mix_kw1.rel _ _ _ _ _ h1 h2⟩
    cases us with
    | cons _ _ => exact absurd (show (0 : Nat) = 1 from hl) (by decide)
    | nil =>
      cases ws with
      | nil => exact absurd (show (0 : Nat) = 1 from hl) (by decide)
      | cons _ ws => 
        cases ws with
        | cons _ _ => exact absurd (show (0 : Nat) = 1 from hl) (by decide)
        | nil => exact .of_eq rfl
  · exact absurd rfl e
theorem sc_NoRows_i : FnScope ["self", "number"] ["self", "number"] (defScope s_NoRows_i) := ⟨by kernel_rfl, by kernel_rfl, by kernel_rfl, by decide +kernel, rfl, by decide +kernel, by decide +kernel⟩
theorem ok_NoRows_i (T : Txt w K mg) {fd : FuncData} (F : FunD K "__init__" "NoRows.__init__" (defArgs s_NoRows_i) (defBody s_NoRows_i) (defScope s_NoRows_i) [] [] (He.ma K (He.ga K "NoRows") "__init__") fd) : FnG P w K mg base 1 (He.ma K (He.ga K "NoRows") "__init__") fd ["self", "number"] (spI K "ValueError.__new__" veT ["number"]) :=
  fnG_of F sc_NoRows_i (fun vs H Q E h => by
    obtain ⟨a, C, ys, rfl, hl, _⟩ := h
    simpa using hl) fun cdv A outer s H vs Q E hr gs h => ⟨_, pss_cons (ps_expr (pe_init bx_VE (gl (by kernel_rfl)) T.c_StakeError T.ab_StakeError (pa_cons (pe_var (i := 0) rfl (Or.inl (by kernel_rfl)) (by kernel_rfl) (by kernel_rfl)) (pa_cons pe_str pa_nil)))) (pss_one (ps_st bx_VE (pe_var (i := 0) rfl (Or.inl (by kernel_rfl)) (by kernel_rfl) (by kernel_rfl)) (pe_var (i := 1) rfl (Or.inl (by kernel_rfl)) (by kernel_rfl) (by kernel_rfl)))), spI1 h⟩
theorem sc_law_take : FnScope ["_law_purse_here", "_law_many", "_law_old", "_law_taken"] ["_law_purse_here", "_law_many"] (defScope s_law_take) := ⟨by kernel_rfl, by kernel_rfl, by kernel_rfl, by decide +kernel, rfl, by decide +kernel, by decide +kernel⟩
def b_law_take : FS := sSeq (sAsg (e2 kAdd (e2 kIx (eVar 0) (eC (.int 2))) (eC (.int 1))) (gSet (eVar 0) (eC (.int 2)))) (sSeq (sAsg (e2 kIx (eVar 0) (eC (.int 0))) (gPt (.nm 2))) (sSeq (sAsg (e2 kMod (e2 kAdd (e2 kAdd (e2 kMul (eVar 2) (e2 kAdd (e2 kMod (eVar 2) (eC (.int 45013))) (eC (.int 19013)))) (e2 kMul (eC (.int 91009)) (e2 kIx (eVar 0) (eC (.int 2))))) (eC (.int 11))) (eC (.int 2147483423))) (gSet (eVar 0) (eC (.int 0)))) (sSeq (sIf (tV (e2 kGt (e2 kIx (eVar 0) (eC (.int 1))) (eC (.int 0)))) (sSeq (sAsg (e2 kMod (e2 kIx (eVar 0) (eC (.int 1))) (eVar 1)) (gPt (.nm 3))) (sSeq (sAsg (e2 kDiv (e2 kIx (eVar 0) (eC (.int 1))) (eVar 1)) (gSet (eVar 0) (eC (.int 1)))) (sRet (eVar 3)))) (sNil)) (sRet (e2 kMod (e2 kDiv (e2 kIx (eVar 0) (eC (.int 0))) (eC (.int 32))) (eVar 1))))))
def m_law_take : FF := run0 true b_law_take 4
theorem ok_law_take (T : Txt w K mg) (sm : SmB base) {fd : FuncData} (F : FunD K "_law_take" "_law_take" (defArgs s_law_take) (defBody s_law_take) (defScope s_law_take) [] [] (He.ga K "_law_take") fd) : FnG P w K mg base 1 (He.ga K "_law_take") fd ["_law_purse_here", "_law_many"] (SpD K (["_law_purse_here", "_law_many"] : List Str).length m_law_take) := by
  refine fn_D (b := true) F sc_law_take (fun cdv A outer s H E hr gs tk hp => ?_)
  have hu := hr.units
  have hv := room65 hr
  exact dss_cons (ds_asg (d_add (d_ix (d_var (pe_var (i := 0) rfl (Or.inl (by kernel_rfl)) (by kernel_rfl) (by kernel_rfl))) (d_int) (fun _ _ => rfl)) (d_int)) (dg_set (d_var (pe_var (i := 0) rfl (Or.inl (by kernel_rfl)) (by kernel_rfl) (by kernel_rfl))) (d_int))) (dss_cons (ds_asg (d_ix (d_var (pe_var (i := 0) rfl (Or.inl (by kernel_rfl)) (by kernel_rfl) (by kernel_rfl))) (d_int) (fun _ _ => rfl)) (dg_pt (pt_nm sc_law_take.nd rfl (Or.inl (by kernel_rfl)) (Or.inl rfl))) (by kernel_rfl)) (dss_cons (ds_asg (d_mod (d_add (d_add (d_mul (d_var (pe_var (i := 2) rfl (Or.inl (by kernel_rfl)) (by kernel_rfl) (by kernel_rfl))) (d_add (d_mod (d_var (pe_var (i := 2) rfl (Or.inl (by kernel_rfl)) (by kernel_rfl) (by kernel_rfl))) (d_int)) (d_int))) (d_mul (d_int) (d_ix (d_var (pe_var (i := 0) rfl (Or.inl (by kernel_rfl)) (by kernel_rfl) (by kernel_rfl))) (d_int) (fun _ _ => rfl)))) (d_int)) (d_int)) (dg_set (d_var (pe_var (i := 0) rfl (Or.inl (by kernel_rfl)) (by kernel_rfl) (by kernel_rfl))) (d_int))) (dss_cons (ds_if (t_gt hu (d_ix (d_var (pe_var (i := 0) rfl (Or.inl (by kernel_rfl)) (by kernel_rfl) (by kernel_rfl))) (d_int) (fun _ _ => rfl)) (d_int)) (dss_cons (ds_asg (d_mod (d_ix (d_var (pe_var (i := 0) rfl (Or.inl (by kernel_rfl)) (by kernel_rfl) (by kernel_rfl))) (d_int) (fun _ _ => rfl)) (d_var (pe_var (i := 1) rfl (Or.inl (by kernel_rfl)) (by kernel_rfl) (by kernel_rfl)))) (dg_pt (pt_nm sc_law_take.nd rfl (Or.inl (by kernel_rfl)) (Or.inl rfl))) (by kernel_rfl)) (dss_cons (ds_asg (d_div (d_ix (d_var (pe_var (i := 0) rfl (Or.inl (by kernel_rfl)) (by kernel_rfl) (by kernel_rfl))) (d_int) (fun _ _ => rfl)) (d_var (pe_var (i := 1) rfl (Or.inl (by kernel_rfl)) (by kernel_rfl) (by kernel_rfl)))) (dg_set (d_var (pe_var (i := 0) rfl (Or.inl (by kernel_rfl)) (by kernel_rfl) (by kernel_rfl))) (d_int))) (dss_one (ds_ret (d_var (pe_var (i := 3) rfl (Or.inl (by kernel_rfl)) (by kernel_rfl) (by kernel_rfl))))))) (dss_nil)) (dss_one (ds_ret (d_mod (d_div (d_ix (d_var (pe_var (i := 0) rfl (Or.inl (by kernel_rfl)) (by kernel_rfl) (by kernel_rfl))) (d_int) (fun _ _ => rfl)) (d_int)) (d_var (pe_var (i := 1) rfl (Or.inl (by kernel_rfl)) (by kernel_rfl) (by kernel_rfl)))))))))
theorem sc_law_stops : FnScope ["_law_purse_here", "_law_many", "_law_found", "_law_k", "_law_top", "_law_some", "_law_drop", "_law_take_here"] ["_law_purse_here", "_law_many"] (defScope s_law_stops) := ⟨by kernel_rfl, by kernel_rfl, by kernel_rfl, by decide +kernel, rfl, by decide +kernel, by decide +kernel⟩
def b_law_stops : FS := sSeq (sAsg (eLstM (aNil)) (gPt (.nm 2))) (sSeq (sFor (iRange1 (eVar 1)) (.nm 3) (sSeq (sAsg (e2 kIx (eLst (aCons (eC (.int 10)) (aCons (eC (.int 1000)) (aNil)))) (eFn m_law_take (aCons (eVar 0) (aCons (eC (.int 2)) (aNil))) [])) (gPt (.nm 4))) (sSeq (sPar (aCons (eFn m_law_take (aCons (eVar 0) (aCons (eVar 4) (aNil))) []) (aCons (eFn m_law_take (aCons (eVar 0) (aCons (eVar 4) (aNil))) []) (aNil))) [6, 7]) (sSeq (sAsg (eLst (aCons (eTup (aCons (eVar 6) (aCons (eVar 7) (aNil)))) (aCons (eTup (aCons (eVar 6) (aCons (eVar 7) (aNil)))) (aCons (eTup (aCons (eVar 6) (aCons (eVar 6) (aNil)))) (aCons (eTup (aCons (eVar 6) (aCons (eC (.int 0)) (aNil)))) (aCons (eTup (aCons (eC (.int 0)) (aCons (eVar 7) (aNil)))) (aNil))))))) (gPt (.nm 5))) (sExpr (eAppend (eVar 2) (e2 kIx (e2 kAdd (eVar 5) (eSlU (eVar 2) (oSome (eC (.int (-1)))) (oNone))) (eFn m_law_take (aCons (eVar 0) (aCons (e2 kAdd (eC (.int 5)) (eCall kInt (aCons (e2 kNe (eVar 2) (eLst (aNil))) (aNil)))) (aNil))) [])))))))) (sRet (fz (eVar 2))))
def m_law_stops : FF := run0 true b_law_stops 8
theorem ok_law_stops (T : Txt w K mg) (sm : SmB base) {fd : FuncData} (F : FunD K "_law_stops" "_law_stops" (defArgs s_law_stops) (defBody s_law_stops) (defScope s_law_stops) [] [] (He.ga K "_law_stops") fd) : FnG P w K mg base 2 (He.ga K "_law_stops") fd ["_law_purse_here", "_law_many"] (SpD K (["_law_purse_here", "_law_many"] : List Str).length m_law_stops) := by
  obtain ⟨fd_law_take, F_law_take⟩ := T.F_law_take
  have G_law_take := ok_law_take (P := P) (w := w) (base := base) T sm F_law_take
  refine fn_D (b := true) F sc_law_stops (fun cdv A outer s H E hr gs tk hp => ?_)
  have hu := hr.units
  have hv := room65 hr
  exact dss_cons (ds_asg (d_lstM (da_nil)) (dg_pt (pt_nm sc_law_stops.nd rfl (Or.inl (by kernel_rfl)) (Or.inl rfl))) (by kernel_rfl)) (dss_cons (ds_for hp rfl (di_range1 (gl (by kernel_rfl)) T.b_range (d_var (pe_var (i := 1) rfl (Or.inl (by kernel_rfl)) (by kernel_rfl) (by kernel_rfl)))) (pt_nm sc_law_stops.nd rfl (Or.inl (by kernel_rfl)) (Or.inl rfl)) (dss_cons (ds_asg (d_ix (d_lst (da_cons (d_int) (da_cons (d_int) (da_nil)))) (d_fn G_law_take (hr.mono (by decide)) gs tk (gl (by kernel_rfl)) T.g_law_take F_law_take.kp (L2.FunD.bindsN F_law_take (ps := ["_law_purse_here", "_law_many"]) (fun _ _ _ _ _ _ us hl => match us, hl with | [_, _], _ => rfl)) .nil (fun _ _ => reps_nil) rfl (al_cons (al_cons (al_nil))) (da_cons (d_var (pe_var (i := 0) rfl (Or.inl (by kernel_rfl)) (by kernel_rfl) (by kernel_rfl))) (da_cons (d_int) (da_nil))) (by kernel_rfl)) (fun _ _ => rfl)) (dg_pt (pt_nm sc_law_stops.nd rfl (Or.inl (by kernel_rfl)) (Or.inl rfl))) (by kernel_rfl)) (dss_cons (ds_par2 (i := 6) (j := 7) rfl sc_law_stops.nd rfl rfl (by decide) (by kernel_rfl) (by kernel_rfl) (da_cons (d_fn G_law_take (hr.mono (by decide)) gs tk (gl (by kernel_rfl)) T.g_law_take F_law_take.kp (L2.FunD.bindsN F_law_take (ps := ["_law_purse_here", "_law_many"]) (fun _ _ _ _ _ _ us hl => match us, hl with | [_, _], _ => rfl)) .nil (fun _ _ => reps_nil) rfl (al_cons (al_cons (al_nil))) (da_cons (d_var (pe_var (i := 0) rfl (Or.inl (by kernel_rfl)) (by kernel_rfl) (by kernel_rfl))) (da_cons (d_var (pe_var (i := 4) rfl (Or.inl (by kernel_rfl)) (by kernel_rfl) (by kernel_rfl))) (da_nil))) (by kernel_rfl)) (da_cons (d_fn G_law_take (hr.mono (by decide)) gs tk (gl (by kernel_rfl)) T.g_law_take F_law_take.kp (L2.FunD.bindsN F_law_take (ps := ["_law_purse_here", "_law_many"]) (fun _ _ _ _ _ _ us hl => match us, hl with | [_, _], _ => rfl)) .nil (fun _ _ => reps_nil) rfl (al_cons (al_cons (al_nil))) (da_cons (d_var (pe_var (i := 0) rfl (Or.inl (by kernel_rfl)) (by kernel_rfl) (by kernel_rfl))) (da_cons (d_var (pe_var (i := 4) rfl (Or.inl (by kernel_rfl)) (by kernel_rfl) (by kernel_rfl))) (da_nil))) (by kernel_rfl)) (da_nil))) (by kernel_rfl)) (dss_cons (ds_asg (d_lst (da_cons (d_tup (da_cons (d_var (pe_var (i := 6) rfl (Or.inl (by kernel_rfl)) (by kernel_rfl) (by kernel_rfl))) (da_cons (d_var (pe_var (i := 7) rfl (Or.inl (by kernel_rfl)) (by kernel_rfl) (by kernel_rfl))) (da_nil)))) (da_cons (d_tup (da_cons (d_var (pe_var (i := 6) rfl (Or.inl (by kernel_rfl)) (by kernel_rfl) (by kernel_rfl))) (da_cons (d_var (pe_var (i := 7) rfl (Or.inl (by kernel_rfl)) (by kernel_rfl) (by kernel_rfl))) (da_nil)))) (da_cons (d_tup (da_cons (d_var (pe_var (i := 6) rfl (Or.inl (by kernel_rfl)) (by kernel_rfl) (by kernel_rfl))) (da_cons (d_var (pe_var (i := 6) rfl (Or.inl (by kernel_rfl)) (by kernel_rfl) (by kernel_rfl))) (da_nil)))) (da_cons (d_tup (da_cons (d_var (pe_var (i := 6) rfl (Or.inl (by kernel_rfl)) (by kernel_rfl) (by kernel_rfl))) (da_cons (d_int) (da_nil)))) (da_cons (d_tup (da_cons (d_int) (da_cons (d_var (pe_var (i := 7) rfl (Or.inl (by kernel_rfl)) (by kernel_rfl) (by kernel_rfl))) (da_nil)))) (da_nil))))))) (dg_pt (pt_nm sc_law_stops.nd rfl (Or.inl (by kernel_rfl)) (Or.inl rfl))) (by kernel_rfl)) (dss_one (ds_expr (d_append (d_var (pe_var (i := 2) rfl (Or.inl (by kernel_rfl)) (by kernel_rfl) (by kernel_rfl))) (d_ix (d_add (d_var (pe_var (i := 5) rfl (Or.inl (by kernel_rfl)) (by kernel_rfl) (by kernel_rfl))) (d_slU (d_var (pe_var (i := 2) rfl (Or.inl (by kernel_rfl)) (by kernel_rfl) (by kernel_rfl))) (do_some (d_negc)) (do_none))) (d_fn G_law_take (hr.mono (by decide)) gs tk (gl (by kernel_rfl)) T.g_law_take F_law_take.kp (L2.FunD.bindsN F_law_take (ps := ["_law_purse_here", "_law_many"]) (fun _ _ _ _ _ _ us hl => match us, hl with | [_, _], _ => rfl)) .nil (fun _ _ => reps_nil) rfl (al_cons (al_cons (al_nil))) (da_cons (d_var (pe_var (i := 0) rfl (Or.inl (by kernel_rfl)) (by kernel_rfl) (by kernel_rfl))) (da_cons (d_add (d_int) (d_callT call_int1 fit_int (gl (by kernel_rfl)) T.b_int (by kernel_rfl) (da_cons (d_ne hu (d_var (pe_var (i := 2) rfl (Or.inl (by kernel_rfl)) (by kernel_rfl) (by kernel_rfl))) (d_lst (da_nil))) (da_nil)) (by decide) (by kernel_rfl))) (da_nil))) (by kernel_rfl)) (fun _ _ => rfl))))))))) (dss_one (ds_ret (d_fz (d_var (pe_var (i := 2) rfl (Or.inl (by kernel_rfl)) (by kernel_rfl) (by kernel_rfl)))))))
theorem sc_is_whole : FnScope ["thing"] ["thing"] (defScope s_is_whole) := ⟨by kernel_rfl, by kernel_rfl, by kernel_rfl, by decide +kernel, rfl, by decide +kernel, by decide +kernel⟩
def b_is_whole : FS := sRet (bAnd (eCall kIsi (aCons (eVar 0) (aCons (eC (.ty "int")) (aNil)))) (bNot (eCall kIsi (aCons (eVar 0) (aCons (eC (.ty "bool")) (aNil))))))
def m_is_whole : FF := run0 true b_is_whole 1
theorem ok_is_whole (T : Txt w K mg) (sm : SmB base) {fd : FuncData} (F : FunD K "is_whole" "is_whole" (defArgs s_is_whole) (defBody s_is_whole) (defScope s_is_whole) [] [] (He.ga K "is_whole") fd) : FnG P w K mg base 1 (He.ga K "is_whole") fd ["thing"] (SpD K (["thing"] : List Str).length m_is_whole) := by
  refine fn_D (b := true) F sc_is_whole (fun cdv A outer s H E hr gs tk hp => ?_)
  have hu := hr.units
  have hv := room65 hr
  exact dss_one (ds_ret (d_and (d_callB opr_isi fit_isi (gl (by kernel_rfl)) T.b_isinstance (by kernel_rfl) (da_cons (d_var (pe_var (i := 0) rfl (Or.inl (by kernel_rfl)) (by kernel_rfl) (by kernel_rfl))) (da_cons (d_ty (T := "int") (gl (by kernel_rfl)) T.b_int (by kernel_rfl)) (da_nil))) (by decide) (by kernel_rfl)) (d_one (d_not (d_callB opr_isi fit_isi (gl (by kernel_rfl)) T.b_isinstance (by kernel_rfl) (da_cons (d_var (pe_var (i := 0) rfl (Or.inl (by kernel_rfl)) (by kernel_rfl) (by kernel_rfl))) (da_cons (d_ty (T := "bool") (gl (by kernel_rfl)) T.b_bool (by kernel_rfl)) (da_nil))) (by decide) (by kernel_rfl))))))
theorem sc_is_within : FnScope ["thing", "low", "high"] ["thing", "low", "high"] (defScope s_is_within) := ⟨by kernel_rfl, by kernel_rfl, by kernel_rfl, by decide +kernel, rfl, by decide +kernel, by decide +kernel⟩
def b_is_within : FS := sRet (bAnd (eFn m_is_whole (aCons (eVar 0) (aNil)) []) (e3 kLe kLe (eVar 1) (eVar 0) (eVar 2)))
def m_is_within : FF := run0 true b_is_within 3
theorem ok_is_within (T : Txt w K mg) (sm : SmB base) {fd : FuncData} (F : FunD K "is_within" "is_within" (defArgs s_is_within) (defBody s_is_within) (defScope s_is_within) [] [] (He.ga K "is_within") fd) : FnG P w K mg base 2 (He.ga K "is_within") fd ["thing", "low", "high"] (SpD K (["thing", "low", "high"] : List Str).length m_is_within) := by
  obtain ⟨fd_is_whole, F_is_whole⟩ := T.F_is_whole
  have G_is_whole := ok_is_whole (P := P) (w := w) (base := base) T sm F_is_whole
  refine fn_D (b := true) F sc_is_within (fun cdv A outer s H E hr gs tk hp => ?_)
  have hu := hr.units
  have hv := room65 hr
  exact dss_one (ds_ret (d_and (d_fn G_is_whole (hr.mono (by decide)) gs tk (gl (by kernel_rfl)) T.g_is_whole F_is_whole.kp (L2.FunD.bindsN F_is_whole (ps := ["thing"]) (fun _ _ _ _ _ _ us hl => match us, hl with | [_], _ => rfl)) .nil (fun _ _ => reps_nil) rfl (al_cons (al_nil)) (da_cons (d_var (pe_var (i := 0) rfl (Or.inl (by kernel_rfl)) (by kernel_rfl) (by kernel_rfl))) (da_nil)) (by kernel_rfl)) (d_one (d_leLe hu (d_var (pe_var (i := 1) rfl (Or.inl (by kernel_rfl)) (by kernel_rfl) (by kernel_rfl))) (d_var (pe_var (i := 0) rfl (Or.inl (by kernel_rfl)) (by kernel_rfl) (by kernel_rfl))) (d_var (pe_var (i := 2) rfl (Or.inl (by kernel_rfl)) (by kernel_rfl) (by kernel_rfl)))))))
theorem sc_is_stop : FnScope ["thing", "part"] ["thing"] (defScope s_is_stop) := ⟨by kernel_rfl, by kernel_rfl, by kernel_rfl, by decide +kernel, rfl, by decide +kernel, by decide +kernel⟩
def b_is_stop : FS := sSeq (sIf (tOr2 (tNot1 (tV (eCall kIsi (aCons (eVar 0) (aCons (eC (.ty "tuple")) (aNil)))))) (tV (e2 kNe (eCall kLen (aCons (eVar 0) (aNil))) (eC (.int 2))))) (sRet (eC (.bl false))) (sNil)) (sRet (eCall kAll (aCons (eComp (iSeqU (eVar 0)) (.nm 1) (tYesD) (eFn m_is_within (aCons (eVar 1) (aCons (eC (.int 0)) (aCons (eC (.int 999)) (aNil)))) []) [1]) (aNil))))
def m_is_stop : FF := run0 true b_is_stop 2
theorem ok_is_stop (T : Txt w K mg) (sm : SmB base) {fd : FuncData} (F : FunD K "is_stop" "is_stop" (defArgs s_is_stop) (defBody s_is_stop) (defScope s_is_stop) [] [] (He.ga K "is_stop") fd) : FnG P w K mg base 3 (He.ga K "is_stop") fd ["thing"] (SpD K (["thing"] : List Str).length m_is_stop) := by
  obtain ⟨fd_is_within, F_is_within⟩ := T.F_is_within
  have G_is_within := ok_is_within (P := P) (w := w) (base := base) T sm F_is_within
  obtain ⟨t_MOST_LOAD, i_MOST_LOAD⟩ := T.i_MOST_LOAD
  refine fn_D (b := true) F sc_is_stop (fun cdv A outer s H E hr gs tk hp => ?_)
  have hu := hr.units
  have hv := room65 hr
  exact dss_cons (ds_if (t_w (dw_or (t_not (t_val (d_callB opr_isi fit_isi (gl (by kernel_rfl)) T.b_isinstance (by kernel_rfl) (da_cons (d_var (pe_var (i := 0) rfl (Or.inl (by kernel_rfl)) (by kernel_rfl) (by kernel_rfl))) (da_cons (d_ty (T := "tuple") (gl (by kernel_rfl)) T.b_tuple (by kernel_rfl)) (da_nil))) (by decide) (by kernel_rfl)))) (dw_or1 (t_ne hu (d_callB call_len fit_len (gl (by kernel_rfl)) T.b_len (by kernel_rfl) (da_cons (d_var (pe_var (i := 0) rfl (Or.inl (by kernel_rfl)) (by kernel_rfl) (by kernel_rfl))) (da_nil)) (by decide) (by kernel_rfl)) (d_int))))) (dss_one (ds_ret (d_bl))) (dss_nil)) (dss_one (ds_ret (d_callB (cr_all rfl) fit_all (gl (by kernel_rfl)) T.b_all (by kernel_rfl) (da_cons (d_comp (own := [("part", 1)]) rfl sc_is_stop.nd (di_seqU (d_var (pe_var (i := 0) rfl (Or.inl (by kernel_rfl)) (by kernel_rfl) (by kernel_rfl)))) (blkOk_by (by kernel_rfl)) (by simp [slotsP, slotsPs]) (fun _ _ _ _ _ => pt_nm sc_is_stop.nd rfl (Or.inl (by kernel_rfl)) (Or.inr (by kernel_rfl))) (fun _ _ _ _ _ => dts_nil) (fun _ _ _ _ _ => d_fn G_is_within (hr.mono (by decide)) gs tk0 (gl (by kernel_rfl)) T.g_is_within F_is_within.kp (L2.FunD.bindsN F_is_within (ps := ["thing", "low", "high"]) (fun _ _ _ _ _ _ us hl => match us, hl with | [_, _, _], _ => rfl)) .nil (fun _ _ => reps_nil) rfl (al_cons (al_cons (al_cons (al_nil)))) (da_cons (d_var (pe_var (i := 1) rfl (Or.inl (by kernel_rfl)) (by kernel_rfl) (by kernel_rfl))) (da_cons (d_int) (da_cons (d_c (pe_glob (v := .int 999) (gl (by kernel_rfl)) i_MOST_LOAD ⟨_, rfl⟩ (by kernel_rfl)) (fun _ _ => rep_int)) (da_nil)))) (by kernel_rfl))) (da_nil)) (by decide) (by kernel_rfl))))
theorem sc_check_stops : FnScope ["stops", "number", "stop"] ["stops"] (defScope s_check_stops) := ⟨by kernel_rfl, by kernel_rfl, by kernel_rfl, by decide +kernel, rfl, by decide +kernel, by decide +kernel⟩
def b_check_stops : FS := sSeq (sIf (tNot1 (tV (eCall kIsi (aCons (eVar 0) (aCons (eTup (aCons (eC (.ty "list")) (aCons (eC (.ty "tuple")) (aNil)))) (aNil)))))) (sRaise "NoRows" ["number"] (aCons (eC .non) (aNil))) (sNil)) (sFor (iEnum (eVar 0)) (.tp [.nm 1, .nm 2]) (sIf (tNot1 (tV (eFn m_is_stop (aCons (eVar 2) (aNil)) []))) (sRaise "NoRows" ["number"] (aCons (eVar 1) (aNil))) (sNil)))
def m_check_stops : FF := run0 true b_check_stops 3
theorem ok_check_stops (T : Txt w K mg) (sm : SmB base) {fd : FuncData} (F : FunD K "check_stops" "check_stops" (defArgs s_check_stops) (defBody s_check_stops) (defScope s_check_stops) [] [] (He.ga K "check_stops") fd) : FnG P w K mg base 4 (He.ga K "check_stops") fd ["stops"] (SpD K (["stops"] : List Str).length m_check_stops) := by
  obtain ⟨fdI_NoRows, FI_NoRows⟩ := T.FI_NoRows
  have GI_NoRows := ok_NoRows_i (P := P) (w := w) (base := base) T FI_NoRows
  obtain ⟨fd_is_stop, F_is_stop⟩ := T.F_is_stop
  have G_is_stop := ok_is_stop (P := P) (w := w) (base := base) T sm F_is_stop
  refine fn_D (b := true) F sc_check_stops (fun cdv A outer s H E hr gs tk hp => ?_)
  have hu := hr.units
  have hv := room65 hr
  exact dss_cons (ds_if (t_not (t_val (d_callB opr_isi fit_isi (gl (by kernel_rfl)) T.b_isinstance (by kernel_rfl) (da_cons (d_var (pe_var (i := 0) rfl (Or.inl (by kernel_rfl)) (by kernel_rfl) (by kernel_rfl))) (da_cons (d_tup (da_cons (d_ty (T := "list") (gl (by kernel_rfl)) T.b_list (by kernel_rfl)) (da_cons (d_ty (T := "tuple") (gl (by kernel_rfl)) T.b_tuple (by kernel_rfl)) (da_nil)))) (da_nil))) (by decide) (by kernel_rfl)))) (dss_one (ds_raise (ns := ["number"]) rfl tk (al_n1) (pmk_x bx_VE T.x_NoRows.c T.x_NoRows.n (by decide) T.x_NoRows.i T.x_NoRows.t GI_NoRows (hr.mono (by decide)) gs (L2.FunD.bindsN FI_NoRows (ps := ["self", "number"]) (fun _ _ _ _ _ _ us hl => match us, hl with | [_, _], _ => rfl)) (gl (by kernel_rfl)) T.c_NoRows (da_cons (d_non) (da_nil))))) (dss_nil)) (dss_one (ds_for hp rfl (di_enum (gl (by kernel_rfl)) T.b_enumerate (d_var (pe_var (i := 0) rfl (Or.inl (by kernel_rfl)) (by kernel_rfl) (by kernel_rfl)))) (pg_seq rfl (pts_cons (pt_nm sc_check_stops.nd rfl (Or.inl (by kernel_rfl)) (Or.inl rfl)) (pts_cons (pt_nm sc_check_stops.nd rfl (Or.inl (by kernel_rfl)) (Or.inl rfl)) (pts_nil)))) (dss_one (ds_if (t_not (t_val (d_fn G_is_stop (hr.mono (by decide)) gs tk (gl (by kernel_rfl)) T.g_is_stop F_is_stop.kp (L2.FunD.bindsN F_is_stop (ps := ["thing"]) (fun _ _ _ _ _ _ us hl => match us, hl with | [_], _ => rfl)) .nil (fun _ _ => reps_nil) rfl (al_cons (al_nil)) (da_cons (d_var (pe_var (i := 2) rfl (Or.inl (by kernel_rfl)) (by kernel_rfl) (by kernel_rfl))) (da_nil)) (by kernel_rfl)))) (dss_one (ds_raise (ns := ["number"]) rfl tk (al_n1) (pmk_x bx_VE T.x_NoRows.c T.x_NoRows.n (by decide) T.x_NoRows.i T.x_NoRows.t GI_NoRows (hr.mono (by decide)) gs (L2.FunD.bindsN FI_NoRows (ps := ["self", "number"]) (fun _ _ _ _ _ _ us hl => match us, hl with | [_, _], _ => rfl)) (gl (by kernel_rfl)) T.c_NoRows (da_cons (d_var (pe_var (i := 1) rfl (Or.inl (by kernel_rfl)) (by kernel_rfl) (by kernel_rfl))) (da_nil))))) (dss_nil)))))
theorem sc_need_of : FnScope ["stops", "has", "most", "drop", "take"] ["stops"] (defScope s_need_of) := ⟨by kernel_rfl, by kernel_rfl, by kernel_rfl, by decide +kernel, rfl, by decide +kernel, by decide +kernel⟩
def b_need_of : FS := sSeq (sAsg (eCall kSum (aCons (eComp (iSeqU (eVar 0)) (.tp [.nm 3, .nm 4]) (tYesD) (eVar 3) [3, 4]) (aNil))) (gPt (.nm 1))) (sSeq (sAsg (eVar 1) (gPt (.nm 2))) (sSeq (sFor (iSeqU (eVar 0)) (.tp [.nm 3, .nm 4]) (sSeq (sAug kAddS 1 (e2 kSub (eVar 4) (eVar 3))) (sAsg (eCall kMax2 (aCons (eVar 2) (aCons (eVar 1) (aNil)))) (gPt (.nm 2))))) (sRet (eVar 2))))
def m_need_of : FF := run0 true b_need_of 5
theorem ok_need_of (T : Txt w K mg) (sm : SmB base) {fd : FuncData} (F : FunD K "need_of" "need_of" (defArgs s_need_of) (defBody s_need_of) (defScope s_need_of) [] [] (He.ga K "need_of") fd) : FnG P w K mg base 1 (He.ga K "need_of") fd ["stops"] (SpD K (["stops"] : List Str).length m_need_of) := by
  refine fn_D (b := true) F sc_need_of (fun cdv A outer s H E hr gs tk hp => ?_)
  have hu := hr.units
  have hv := room65 hr
  exact dss_cons (ds_asg (d_callB (cr_sum rfl) fit_sum (gl (by kernel_rfl)) T.b_sum (by kernel_rfl) (da_cons (d_comp (own := [("drop", 3), ("take", 4)]) rfl sc_need_of.nd (di_seqU (d_var (pe_var (i := 0) rfl (Or.inl (by kernel_rfl)) (by kernel_rfl) (by kernel_rfl)))) (blkOk_by (by kernel_rfl)) (by simp [slotsP, slotsPs]) (fun _ _ _ _ _ => pg_seq rfl (pts_cons (pt_nm sc_need_of.nd rfl (Or.inl (by kernel_rfl)) (Or.inr (by kernel_rfl))) (pts_cons (pt_nm sc_need_of.nd rfl (Or.inl (by kernel_rfl)) (Or.inr (by kernel_rfl))) (pts_nil)))) (fun _ _ _ _ _ => dts_nil) (fun _ _ _ _ _ => d_var (pe_var (i := 3) rfl (Or.inl (by kernel_rfl)) (by kernel_rfl) (by kernel_rfl)))) (da_nil)) (by decide) (by kernel_rfl)) (dg_pt (pt_nm sc_need_of.nd rfl (Or.inl (by kernel_rfl)) (Or.inl rfl))) (by kernel_rfl)) (dss_cons (ds_asg (d_var (pe_var (i := 1) rfl (Or.inl (by kernel_rfl)) (by kernel_rfl) (by kernel_rfl))) (dg_pt (pt_nm sc_need_of.nd rfl (Or.inl (by kernel_rfl)) (Or.inl rfl))) (by kernel_rfl)) (dss_cons (ds_for hp rfl (di_seqU (d_var (pe_var (i := 0) rfl (Or.inl (by kernel_rfl)) (by kernel_rfl) (by kernel_rfl)))) (pg_seq rfl (pts_cons (pt_nm sc_need_of.nd rfl (Or.inl (by kernel_rfl)) (Or.inl rfl)) (pts_cons (pt_nm sc_need_of.nd rfl (Or.inl (by kernel_rfl)) (Or.inl rfl)) (pts_nil)))) (dss_cons (ds_aug (i := 1) sc_need_of.nd rfl (Or.inl (by kernel_rfl)) ip_addS fit_addS (d_sub (d_var (pe_var (i := 4) rfl (Or.inl (by kernel_rfl)) (by kernel_rfl) (by kernel_rfl))) (d_var (pe_var (i := 3) rfl (Or.inl (by kernel_rfl)) (by kernel_rfl) (by kernel_rfl)))) (Or.inl rfl)) (dss_one (ds_asg (d_callB (call_max2 rfl) fit_max2 (gl (by kernel_rfl)) T.b_max (by kernel_rfl) (da_cons (d_var (pe_var (i := 2) rfl (Or.inl (by kernel_rfl)) (by kernel_rfl) (by kernel_rfl))) (da_cons (d_var (pe_var (i := 1) rfl (Or.inl (by kernel_rfl)) (by kernel_rfl) (by kernel_rfl))) (da_nil))) (by decide) (by kernel_rfl)) (dg_pt (pt_nm sc_need_of.nd rfl (Or.inl (by kernel_rfl)) (Or.inl rfl))) (by kernel_rfl))))) (dss_one (ds_ret (d_var (pe_var (i := 2) rfl (Or.inl (by kernel_rfl)) (by kernel_rfl) (by kernel_rfl)))))))
theorem sc_need : FnScope ["stops"] ["stops"] (defScope s_need) := ⟨by kernel_rfl, by kernel_rfl, by kernel_rfl, by decide +kernel, rfl, by decide +kernel, by decide +kernel⟩
def b_need : FS := sSeq (sExpr (eFn m_check_stops (aCons (eVar 0) (aNil)) [])) (sRet (eFn m_need_of (aCons (eVar 0) (aNil)) []))
def m_need : FF := run0 true b_need 1
theorem ok_need (T : Txt w K mg) (sm : SmB base) {fd : FuncData} (F : FunD K "need" "need" (defArgs s_need) (defBody s_need) (defScope s_need) [] [] (He.ga K "need") fd) : FnG P w K mg base 5 (He.ga K "need") fd ["stops"] (SpD K (["stops"] : List Str).length m_need) := by
  obtain ⟨fd_check_stops, F_check_stops⟩ := T.F_check_stops
  have G_check_stops := ok_check_stops (P := P) (w := w) (base := base) T sm F_check_stops
  obtain ⟨fd_need_of, F_need_of⟩ := T.F_need_of
  have G_need_of := ok_need_of (P := P) (w := w) (base := base) T sm F_need_of
  refine fn_D (b := true) F sc_need (fun cdv A outer s H E hr gs tk hp => ?_)
  have hu := hr.units
  have hv := room65 hr
  exact dss_cons (ds_expr (d_fn G_check_stops (hr.mono (by decide)) gs tk (gl (by kernel_rfl)) T.g_check_stops F_check_stops.kp (L2.FunD.bindsN F_check_stops (ps := ["stops"]) (fun _ _ _ _ _ _ us hl => match us, hl with | [_], _ => rfl)) .nil (fun _ _ => reps_nil) rfl (al_cons (al_nil)) (da_cons (d_var (pe_var (i := 0) rfl (Or.inl (by kernel_rfl)) (by kernel_rfl) (by kernel_rfl))) (da_nil)) (by kernel_rfl))) (dss_one (ds_ret (d_fn G_need_of (hr.mono (by decide)) gs tk (gl (by kernel_rfl)) T.g_need_of F_need_of.kp (L2.FunD.bindsN F_need_of (ps := ["stops"]) (fun _ _ _ _ _ _ us hl => match us, hl with | [_], _ => rfl)) .nil (fun _ _ => reps_nil) rfl (al_cons (al_nil)) (da_cons (d_var (pe_var (i := 0) rfl (Or.inl (by kernel_rfl)) (by kernel_rfl) (by kernel_rfl))) (da_nil)) (by kernel_rfl))))
theorem sc_law_walked : FnScope ["_law_calls", "_law_order", "_law_has", "_law_most", "_law_k", "_law_row"] ["_law_calls", "_law_order"] (defScope s_law_walked) := ⟨by kernel_rfl, by kernel_rfl, by kernel_rfl, by decide +kernel, rfl, by decide +kernel, by decide +kernel⟩
def b_law_walked : FS := sSeq (sAsg (eCall kSum (aCons (eComp (iSeqU (eVar 0)) (.nm 5) (tYesD) (e2 kIx (eVar 5) (eC (.int 0))) [5]) (aNil))) (gPt (.nm 2))) (sSeq (sAsg (eVar 2) (gPt (.nm 3))) (sSeq (sFor (iSeqU (eVar 1)) (.nm 4) (sSeq (sAsg (e2 kAdd (e2 kSub (eVar 2) (e2 kIx (e2 kIx (eVar 0) (eVar 4)) (eC (.int 0)))) (e2 kIx (e2 kIx (eVar 0) (eVar 4)) (eC (.int 1)))) (gPt (.nm 2))) (sAsg (eCall kMax2 (aCons (eVar 3) (aCons (eVar 2) (aNil)))) (gPt (.nm 3))))) (sRet (eVar 3))))
def m_law_walked : FF := run0 true b_law_walked 6
theorem ok_law_walked (T : Txt w K mg) (sm : SmB base) {fd : FuncData} (F : FunD K "_law_walked" "_law_walked" (defArgs s_law_walked) (defBody s_law_walked) (defScope s_law_walked) [] [] (He.ga K "_law_walked") fd) : FnG P w K mg base 1 (He.ga K "_law_walked") fd ["_law_calls", "_law_order"] (SpD K (["_law_calls", "_law_order"] : List Str).length m_law_walked) := by
  refine fn_D (b := true) F sc_law_walked (fun cdv A outer s H E hr gs tk hp => ?_)
  have hu := hr.units
  have hv := room65 hr
  exact dss_cons (ds_asg (d_callB (cr_sum rfl) fit_sum (gl (by kernel_rfl)) T.b_sum (by kernel_rfl) (da_cons (d_comp (own := [("_law_row", 5)]) rfl sc_law_walked.nd (di_seqU (d_var (pe_var (i := 0) rfl (Or.inl (by kernel_rfl)) (by kernel_rfl) (by kernel_rfl)))) (blkOk_by (by kernel_rfl)) (by simp [slotsP, slotsPs]) (fun _ _ _ _ _ => pt_nm sc_law_walked.nd rfl (Or.inl (by kernel_rfl)) (Or.inr (by kernel_rfl))) (fun _ _ _ _ _ => dts_nil) (fun _ _ _ _ _ => d_ix (d_var (pe_var (i := 5) rfl (Or.inl (by kernel_rfl)) (by kernel_rfl) (by kernel_rfl))) (d_int) (fun _ _ => rfl))) (da_nil)) (by decide) (by kernel_rfl)) (dg_pt (pt_nm sc_law_walked.nd rfl (Or.inl (by kernel_rfl)) (Or.inl rfl))) (by kernel_rfl)) (dss_cons (ds_asg (d_var (pe_var (i := 2) rfl (Or.inl (by kernel_rfl)) (by kernel_rfl) (by kernel_rfl))) (dg_pt (pt_nm sc_law_walked.nd rfl (Or.inl (by kernel_rfl)) (Or.inl rfl))) (by kernel_rfl)) (dss_cons (ds_for hp rfl (di_seqU (d_var (pe_var (i := 1) rfl (Or.inl (by kernel_rfl)) (by kernel_rfl) (by kernel_rfl)))) (pt_nm sc_law_walked.nd rfl (Or.inl (by kernel_rfl)) (Or.inl rfl)) (dss_cons (ds_asg (d_add (d_sub (d_var (pe_var (i := 2) rfl (Or.inl (by kernel_rfl)) (by kernel_rfl) (by kernel_rfl))) (d_ix (d_ix (d_var (pe_var (i := 0) rfl (Or.inl (by kernel_rfl)) (by kernel_rfl) (by kernel_rfl))) (d_var (pe_var (i := 4) rfl (Or.inl (by kernel_rfl)) (by kernel_rfl) (by kernel_rfl))) (fun _ _ => rfl)) (d_int) (fun _ _ => rfl))) (d_ix (d_ix (d_var (pe_var (i := 0) rfl (Or.inl (by kernel_rfl)) (by kernel_rfl) (by kernel_rfl))) (d_var (pe_var (i := 4) rfl (Or.inl (by kernel_rfl)) (by kernel_rfl) (by kernel_rfl))) (fun _ _ => rfl)) (d_int) (fun _ _ => rfl))) (dg_pt (pt_nm sc_law_walked.nd rfl (Or.inl (by kernel_rfl)) (Or.inl rfl))) (by kernel_rfl)) (dss_one (ds_asg (d_callB (call_max2 rfl) fit_max2 (gl (by kernel_rfl)) T.b_max (by kernel_rfl) (da_cons (d_var (pe_var (i := 3) rfl (Or.inl (by kernel_rfl)) (by kernel_rfl) (by kernel_rfl))) (da_cons (d_var (pe_var (i := 2) rfl (Or.inl (by kernel_rfl)) (by kernel_rfl) (by kernel_rfl))) (da_nil))) (by decide) (by kernel_rfl)) (dg_pt (pt_nm sc_law_walked.nd rfl (Or.inl (by kernel_rfl)) (Or.inl rfl))) (by kernel_rfl))))) (dss_one (ds_ret (d_var (pe_var (i := 3) rfl (Or.inl (by kernel_rfl)) (by kernel_rfl) (by kernel_rfl)))))))
theorem sc_law_number : FnScope ["_law_thing"] ["_law_thing"] (defScope s_law_number) := ⟨by kernel_rfl, by kernel_rfl, by kernel_rfl, by decide +kernel, rfl, by decide +kernel, by decide +kernel⟩
def b_law_number : FS := sRet (bAnd (eCall kIsi (aCons (eVar 0) (aCons (eC (.ty "int")) (aNil)))) (bNot (eCall kIsi (aCons (eVar 0) (aCons (eC (.ty "bool")) (aNil))))))
def m_law_number : FF := run0 true b_law_number 1
theorem ok_law_number (T : Txt w K mg) (sm : SmB base) {fd : FuncData} (F : FunD K "_law_number" "_law_number" (defArgs s_law_number) (defBody s_law_number) (defScope s_law_number) [] [] (He.ga K "_law_number") fd) : FnG P w K mg base 1 (He.ga K "_law_number") fd ["_law_thing"] (SpD K (["_law_thing"] : List Str).length m_law_number) := by
  refine fn_D (b := true) F sc_law_number (fun cdv A outer s H E hr gs tk hp => ?_)
  have hu := hr.units
  have hv := room65 hr
  exact dss_one (ds_ret (d_and (d_callB opr_isi fit_isi (gl (by kernel_rfl)) T.b_isinstance (by kernel_rfl) (da_cons (d_var (pe_var (i := 0) rfl (Or.inl (by kernel_rfl)) (by kernel_rfl) (by kernel_rfl))) (da_cons (d_ty (T := "int") (gl (by kernel_rfl)) T.b_int (by kernel_rfl)) (da_nil))) (by decide) (by kernel_rfl)) (d_one (d_not (d_callB opr_isi fit_isi (gl (by kernel_rfl)) T.b_isinstance (by kernel_rfl) (da_cons (d_var (pe_var (i := 0) rfl (Or.inl (by kernel_rfl)) (by kernel_rfl) (by kernel_rfl))) (da_cons (d_ty (T := "bool") (gl (by kernel_rfl)) T.b_bool (by kernel_rfl)) (da_nil))) (by decide) (by kernel_rfl))))))
theorem sc_law_room_right : FnScope ["_law_told", "_law_calls", "_law_room", "_law_order", "_law_one", "_law_row"] ["_law_told", "_law_calls"] (defScope s_law_room_right) := ⟨by kernel_rfl, by kernel_rfl, by kernel_rfl, by decide +kernel, rfl, by decide +kernel, by decide +kernel⟩
def b_law_room_right : FS := sSeq (sIf (tOr2 (tNot1 (tV (eCall kIsi (aCons (eVar 0) (aCons (eC (.ty "tuple")) (aNil)))))) (tOr2 (tV (e2 kNe (eCall kLen (aCons (eVar 0) (aNil))) (eC (.int 2)))) (tOr2 (tNot1 (tV (eFn m_law_number (aCons (e2 kIx (eVar 0) (eC (.int 0))) (aNil)) []))) (tNot1 (tV (eCall kIsi (aCons (e2 kIx (eVar 0) (eC (.int 1))) (aCons (eC (.ty "tuple")) (aNil))))))))) (sRet (eC (.bl false))) (sNil)) (sSeq (sAsg (eVar 0) (gPt (.tp [.nm 2, .nm 3]))) (sSeq (sIf (tOr2 (tNot1 (tV (eCall kAll (aCons (eComp (iSeqU (eVar 3)) (.nm 4) (tYesD) (eFn m_law_number (aCons (eVar 4) (aNil)) []) [4]) (aNil))))) (tV (e2 kNe (eCall kSortedA (aCons (eVar 3) (aNil))) (eListR1 (eCall kLen (aCons (eVar 1) (aNil))))))) (sRet (eC (.bl false))) (sNil)) (sSeq (sIf (tV (e2 kNe (eVar 2) (eFn m_law_walked (aCons (eVar 1) (aCons (eVar 3) (aNil))) []))) (sRet (eC (.bl false))) (sNil)) (sRet (e2 kEq (eVar 2) (eCall kMax2 (aCons (eCall kSum (aCons (eComp (iSeqU (eVar 1)) (.nm 5) (tYesD) (e2 kIx (eVar 5) (eC (.int 0))) [5]) (aNil))) (aCons (eCall kSum (aCons (eComp (iSeqU (eVar 1)) (.nm 5) (tYesD) (e2 kIx (eVar 5) (eC (.int 1))) [5]) (aNil))) (aNil)))))))))
def m_law_room_right : FF := run0 true b_law_room_right 6
theorem ok_law_room_right (T : Txt w K mg) (sm : SmB base) {fd : FuncData} (F : FunD K "_law_room_right" "_law_room_right" (defArgs s_law_room_right) (defBody s_law_room_right) (defScope s_law_room_right) [] [] (He.ga K "_law_room_right") fd) : FnG P w K mg base 2 (He.ga K "_law_room_right") fd ["_law_told", "_law_calls"] (SpD K (["_law_told", "_law_calls"] : List Str).length m_law_room_right) := by
  obtain ⟨fd_law_number, F_law_number⟩ := T.F_law_number
  have G_law_number := ok_law_number (P := P) (w := w) (base := base) T sm F_law_number
  obtain ⟨fd_law_walked, F_law_walked⟩ := T.F_law_walked
  have G_law_walked := ok_law_walked (P := P) (w := w) (base := base) T sm F_law_walked
  refine fn_D (b := true) F sc_law_room_right (fun cdv A outer s H E hr gs tk hp => ?_)
  have hu := hr.units
  have hv := room65 hr
  exact dss_cons (ds_if (t_w (dw_or (t_not (t_val (d_callB opr_isi fit_isi (gl (by kernel_rfl)) T.b_isinstance (by kernel_rfl) (da_cons (d_var (pe_var (i := 0) rfl (Or.inl (by kernel_rfl)) (by kernel_rfl) (by kernel_rfl))) (da_cons (d_ty (T := "tuple") (gl (by kernel_rfl)) T.b_tuple (by kernel_rfl)) (da_nil))) (by decide) (by kernel_rfl)))) (dw_or (t_ne hu (d_callB call_len fit_len (gl (by kernel_rfl)) T.b_len (by kernel_rfl) (da_cons (d_var (pe_var (i := 0) rfl (Or.inl (by kernel_rfl)) (by kernel_rfl) (by kernel_rfl))) (da_nil)) (by decide) (by kernel_rfl)) (d_int)) (dw_or (t_not (t_val (d_fn G_law_number (hr.mono (by decide)) gs tk (gl (by kernel_rfl)) T.g_law_number F_law_number.kp (L2.FunD.bindsN F_law_number (ps := ["_law_thing"]) (fun _ _ _ _ _ _ us hl => match us, hl with | [_], _ => rfl)) .nil (fun _ _ => reps_nil) rfl (al_cons (al_nil)) (da_cons (d_ix (d_var (pe_var (i := 0) rfl (Or.inl (by kernel_rfl)) (by kernel_rfl) (by kernel_rfl))) (d_int) (fun _ _ => rfl)) (da_nil)) (by kernel_rfl)))) (dw_or1 (t_not (t_val (d_callB opr_isi fit_isi (gl (by kernel_rfl)) T.b_isinstance (by kernel_rfl) (da_cons (d_ix (d_var (pe_var (i := 0) rfl (Or.inl (by kernel_rfl)) (by kernel_rfl) (by kernel_rfl))) (d_int) (fun _ _ => rfl)) (da_cons (d_ty (T := "tuple") (gl (by kernel_rfl)) T.b_tuple (by kernel_rfl)) (da_nil))) (by decide) (by kernel_rfl))))))))) (dss_one (ds_ret (d_bl))) (dss_nil)) (dss_cons (ds_asg (d_var (pe_var (i := 0) rfl (Or.inl (by kernel_rfl)) (by kernel_rfl) (by kernel_rfl))) (dg_pt (pg_seq rfl (pts_cons (pt_nm sc_law_room_right.nd rfl (Or.inl (by kernel_rfl)) (Or.inl rfl)) (pts_cons (pt_nm sc_law_room_right.nd rfl (Or.inl (by kernel_rfl)) (Or.inl rfl)) (pts_nil)))))) (dss_cons (ds_if (t_w (dw_or (t_not (t_val (d_callB (cr_all rfl) fit_all (gl (by kernel_rfl)) T.b_all (by kernel_rfl) (da_cons (d_comp (own := [("_law_one", 4)]) rfl sc_law_room_right.nd (di_seqU (d_var (pe_var (i := 3) rfl (Or.inl (by kernel_rfl)) (by kernel_rfl) (by kernel_rfl)))) (blkOk_by (by kernel_rfl)) (by simp [slotsP, slotsPs]) (fun _ _ _ _ _ => pt_nm sc_law_room_right.nd rfl (Or.inl (by kernel_rfl)) (Or.inr (by kernel_rfl))) (fun _ _ _ _ _ => dts_nil) (fun _ _ _ _ _ => d_fn G_law_number (hr.mono (by decide)) gs tk0 (gl (by kernel_rfl)) T.g_law_number F_law_number.kp (L2.FunD.bindsN F_law_number (ps := ["_law_thing"]) (fun _ _ _ _ _ _ us hl => match us, hl with | [_], _ => rfl)) .nil (fun _ _ => reps_nil) rfl (al_cons (al_nil)) (da_cons (d_var (pe_var (i := 4) rfl (Or.inl (by kernel_rfl)) (by kernel_rfl) (by kernel_rfl))) (da_nil)) (by kernel_rfl))) (da_nil)) (by decide) (by kernel_rfl)))) (dw_or1 (t_ne hu (d_callB (cr_sortA hu) fit_sortedA (gl (by kernel_rfl)) T.b_sorted (by kernel_rfl) (da_cons (d_var (pe_var (i := 3) rfl (Or.inl (by kernel_rfl)) (by kernel_rfl) (by kernel_rfl))) (da_nil)) (by decide) (by kernel_rfl)) (d_listR1 rfl (gl (by kernel_rfl)) T.b_list (gl (by kernel_rfl)) T.b_range (d_callB call_len fit_len (gl (by kernel_rfl)) T.b_len (by kernel_rfl) (da_cons (d_var (pe_var (i := 1) rfl (Or.inl (by kernel_rfl)) (by kernel_rfl) (by kernel_rfl))) (da_nil)) (by decide) (by kernel_rfl))))))) (dss_one (ds_ret (d_bl))) (dss_nil)) (dss_cons (ds_if (t_ne hu (d_var (pe_var (i := 2) rfl (Or.inl (by kernel_rfl)) (by kernel_rfl) (by kernel_rfl))) (d_fn G_law_walked (hr.mono (by decide)) gs tk (gl (by kernel_rfl)) T.g_law_walked F_law_walked.kp (L2.FunD.bindsN F_law_walked (ps := ["_law_calls", "_law_order"]) (fun _ _ _ _ _ _ us hl => match us, hl with | [_, _], _ => rfl)) .nil (fun _ _ => reps_nil) rfl (al_cons (al_cons (al_nil))) (da_cons (d_var (pe_var (i := 1) rfl (Or.inl (by kernel_rfl)) (by kernel_rfl) (by kernel_rfl))) (da_cons (d_var (pe_var (i := 3) rfl (Or.inl (by kernel_rfl)) (by kernel_rfl) (by kernel_rfl))) (da_nil))) (by kernel_rfl))) (dss_one (ds_ret (d_bl))) (dss_nil)) (dss_one (ds_ret (d_eq hu (d_var (pe_var (i := 2) rfl (Or.inl (by kernel_rfl)) (by kernel_rfl) (by kernel_rfl))) (d_callB (call_max2 rfl) fit_max2 (gl (by kernel_rfl)) T.b_max (by kernel_rfl) (da_cons (d_callB (cr_sum rfl) fit_sum (gl (by kernel_rfl)) T.b_sum (by kernel_rfl) (da_cons (d_comp (own := [("_law_row", 5)]) rfl sc_law_room_right.nd (di_seqU (d_var (pe_var (i := 1) rfl (Or.inl (by kernel_rfl)) (by kernel_rfl) (by kernel_rfl)))) (blkOk_by (by kernel_rfl)) (by simp [slotsP, slotsPs]) (fun _ _ _ _ _ => pt_nm sc_law_room_right.nd rfl (Or.inl (by kernel_rfl)) (Or.inr (by kernel_rfl))) (fun _ _ _ _ _ => dts_nil) (fun _ _ _ _ _ => d_ix (d_var (pe_var (i := 5) rfl (Or.inl (by kernel_rfl)) (by kernel_rfl) (by kernel_rfl))) (d_int) (fun _ _ => rfl))) (da_nil)) (by decide) (by kernel_rfl)) (da_cons (d_callB (cr_sum rfl) fit_sum (gl (by kernel_rfl)) T.b_sum (by kernel_rfl) (da_cons (d_comp (own := [("_law_row", 5)]) rfl sc_law_room_right.nd (di_seqU (d_var (pe_var (i := 1) rfl (Or.inl (by kernel_rfl)) (by kernel_rfl) (by kernel_rfl)))) (blkOk_by (by kernel_rfl)) (by simp [slotsP, slotsPs]) (fun _ _ _ _ _ => pt_nm sc_law_room_right.nd rfl (Or.inl (by kernel_rfl)) (Or.inr (by kernel_rfl))) (fun _ _ _ _ _ => dts_nil) (fun _ _ _ _ _ => d_ix (d_var (pe_var (i := 5) rfl (Or.inl (by kernel_rfl)) (by kernel_rfl) (by kernel_rfl))) (d_int) (fun _ _ => rfl))) (da_nil)) (by decide) (by kernel_rfl)) (da_nil))) (by decide) (by kernel_rfl))))))))
theorem sc_least_room : FnScope ["stops", "falling", "rising", "order", "k"] ["stops"] (defScope s_least_room) := ⟨by kernel_rfl, by kernel_rfl, by kernel_rfl, by decide +kernel, rfl, by decide +kernel, by decide +kernel⟩
def b_least_room : FS := sSeq (sExpr (eFn m_check_stops (aCons (eVar 0) (aNil)) [])) (sSeq (sAsg (eCompG true (iRange1 (eCall kLen (aCons (eVar 0) (aNil)))) (.nm 4) (tV (e2 kLe (e2 kIx (e2 kIx (eVar 0) (eVar 4)) (eC (.int 1))) (e2 kIx (e2 kIx (eVar 0) (eVar 4)) (eC (.int 0))))) (eVar 4) [4]) (gPt (.nm 1))) (sSeq (sAsg (eCompG true (iRange1 (eCall kLen (aCons (eVar 0) (aNil)))) (.nm 4) (tV (e2 kGt (e2 kIx (e2 kIx (eVar 0) (eVar 4)) (eC (.int 1))) (e2 kIx (e2 kIx (eVar 0) (eVar 4)) (eC (.int 0))))) (eVar 4) [4]) (gPt (.nm 2))) (sSeq (sAsg (eCall kTuple (aCons (e2 kAdd (eVar 1) (eVar 2)) (aNil))) (gPt (.nm 3))) (sRet (eTup (aCons (eFn m_need_of (aCons (eComp (iSeqU (eVar 3)) (.nm 4) (tYesD) (e2 kIx (eVar 0) (eVar 4)) [4]) (aNil)) []) (aCons (eVar 3) (aNil))))))))
def m_least_room : FF := run0 true b_least_room 5
theorem ok_least_room (T : Txt w K mg) (sm : SmB base) {fd : FuncData} (F : FunD K "least_room" "least_room" (defArgs s_least_room) (defBody s_least_room) (defScope s_least_room) [] [] (He.ga K "least_room") fd) : FnG P w K mg base 5 (He.ga K "least_room") fd ["stops"] (SpD K (["stops"] : List Str).length m_least_room) := by
  obtain ⟨fd_check_stops, F_check_stops⟩ := T.F_check_stops
  have G_check_stops := ok_check_stops (P := P) (w := w) (base := base) T sm F_check_stops
  obtain ⟨fd_need_of, F_need_of⟩ := T.F_need_of
  have G_need_of := ok_need_of (P := P) (w := w) (base := base) T sm F_need_of
  refine fn_D (b := true) F sc_least_room (fun cdv A outer s H E hr gs tk hp => ?_)
  have hu := hr.units
  have hv := room65 hr
  exact dss_cons (ds_expr (d_fn G_check_stops (hr.mono (by decide)) gs tk (gl (by kernel_rfl)) T.g_check_stops F_check_stops.kp (L2.FunD.bindsN F_check_stops (ps := ["stops"]) (fun _ _ _ _ _ _ us hl => match us, hl with | [_], _ => rfl)) .nil (fun _ _ => reps_nil) rfl (al_cons (al_nil)) (da_cons (d_var (pe_var (i := 0) rfl (Or.inr (Or.inl (by kernel_rfl))) (by kernel_rfl) (by kernel_rfl))) (da_nil)) (by kernel_rfl))) (dss_cons (ds_setC true (i := 1) (own := [("k", 4)]) rfl sc_least_room.nd rfl (by kernel_rfl) (by kernel_rfl) (by kernel_rfl) (by kernel_rfl) (di_range1 (gl (by kernel_rfl)) T.b_range (d_callB call_len fit_len (gl (by kernel_rfl)) T.b_len (by kernel_rfl) (da_cons (d_var (pe_var (i := 0) rfl (Or.inr (Or.inl (by kernel_rfl))) (by kernel_rfl) (by kernel_rfl))) (da_nil)) (by decide) (by kernel_rfl))) (blkOk_by (by kernel_rfl)) (by simp [slotsP, slotsPs]) (fun _ _ _ _ _ => pt_nm sc_least_room.nd rfl (Or.inl (by kernel_rfl)) (Or.inr (by kernel_rfl))) (fun _ _ _ _ _ => pts_one' (t_le hu (d_ix (d_ix (d_var (pe_var (i := 0) rfl (Or.inr (Or.inl (by kernel_rfl))) (by kernel_rfl) (by kernel_rfl))) (d_var (pe_var (i := 4) rfl (Or.inl (by kernel_rfl)) (by kernel_rfl) (by kernel_rfl))) (fun _ _ => rfl)) (d_int) (fun _ _ => rfl)) (d_ix (d_ix (d_var (pe_var (i := 0) rfl (Or.inr (Or.inl (by kernel_rfl))) (by kernel_rfl) (by kernel_rfl))) (d_var (pe_var (i := 4) rfl (Or.inl (by kernel_rfl)) (by kernel_rfl) (by kernel_rfl))) (fun _ _ => rfl)) (d_int) (fun _ _ => rfl)))) (fun _ _ _ _ _ => d_var (pe_var (i := 4) rfl (Or.inl (by kernel_rfl)) (by kernel_rfl) (by kernel_rfl)))) (dss_cons (ds_setC true (i := 2) (own := [("k", 4)]) rfl sc_least_room.nd rfl (by kernel_rfl) (by kernel_rfl) (by kernel_rfl) (by kernel_rfl) (di_range1 (gl (by kernel_rfl)) T.b_range (d_callB call_len fit_len (gl (by kernel_rfl)) T.b_len (by kernel_rfl) (da_cons (d_var (pe_var (i := 0) rfl (Or.inr (Or.inl (by kernel_rfl))) (by kernel_rfl) (by kernel_rfl))) (da_nil)) (by decide) (by kernel_rfl))) (blkOk_by (by kernel_rfl)) (by simp [slotsP, slotsPs]) (fun _ _ _ _ _ => pt_nm sc_least_room.nd rfl (Or.inl (by kernel_rfl)) (Or.inr (by kernel_rfl))) (fun _ _ _ _ _ => pts_one' (t_gt hu (d_ix (d_ix (d_var (pe_var (i := 0) rfl (Or.inr (Or.inl (by kernel_rfl))) (by kernel_rfl) (by kernel_rfl))) (d_var (pe_var (i := 4) rfl (Or.inl (by kernel_rfl)) (by kernel_rfl) (by kernel_rfl))) (fun _ _ => rfl)) (d_int) (fun _ _ => rfl)) (d_ix (d_ix (d_var (pe_var (i := 0) rfl (Or.inr (Or.inl (by kernel_rfl))) (by kernel_rfl) (by kernel_rfl))) (d_var (pe_var (i := 4) rfl (Or.inl (by kernel_rfl)) (by kernel_rfl) (by kernel_rfl))) (fun _ _ => rfl)) (d_int) (fun _ _ => rfl)))) (fun _ _ _ _ _ => d_var (pe_var (i := 4) rfl (Or.inl (by kernel_rfl)) (by kernel_rfl) (by kernel_rfl)))) (dss_cons (ds_asg (d_callT call_tuple_of fit_tuple (gl (by kernel_rfl)) T.b_tuple (by kernel_rfl) (da_cons (d_add (d_var (pe_var (i := 1) rfl (Or.inl (by kernel_rfl)) (by kernel_rfl) (by kernel_rfl))) (d_var (pe_var (i := 2) rfl (Or.inl (by kernel_rfl)) (by kernel_rfl) (by kernel_rfl)))) (da_nil)) (by decide) (by kernel_rfl)) (dg_pt (pt_nm sc_least_room.nd rfl (Or.inl (by kernel_rfl)) (Or.inl rfl))) (by kernel_rfl)) (dss_one (ds_ret (d_tup (da_cons (d_fn G_need_of (hr.mono (by decide)) gs tk (gl (by kernel_rfl)) T.g_need_of F_need_of.kp (L2.FunD.bindsN F_need_of (ps := ["stops"]) (fun _ _ _ _ _ _ us hl => match us, hl with | [_], _ => rfl)) .nil (fun _ _ => reps_nil) rfl (al_cons (al_nil)) (da_cons (d_comp (own := [("k", 4)]) rfl sc_least_room.nd (di_seqU (d_var (pe_var (i := 3) rfl (Or.inl (by kernel_rfl)) (by kernel_rfl) (by kernel_rfl)))) (blkOk_by (by kernel_rfl)) (by simp [slotsP, slotsPs]) (fun _ _ _ _ _ => pt_nm sc_least_room.nd rfl (Or.inl (by kernel_rfl)) (Or.inr (by kernel_rfl))) (fun _ _ _ _ _ => dts_nil) (fun _ _ _ _ _ => d_ix (d_var (pe_var (i := 0) rfl (Or.inr (Or.inl (by kernel_rfl))) (by kernel_rfl) (by kernel_rfl))) (d_var (pe_var (i := 4) rfl (Or.inl (by kernel_rfl)) (by kernel_rfl) (by kernel_rfl))) (fun _ _ => rfl))) (da_nil)) (by kernel_rfl)) (da_cons (d_var (pe_var (i := 3) rfl (Or.inl (by kernel_rfl)) (by kernel_rfl) (by kernel_rfl))) (da_nil)))))))))
theorem sc_law_orders : FnScope ["_law_many", "_law_found", "_law_k", "_law_longer", "_law_one", "_law_at"] ["_law_many"] (defScope s_law_orders) := ⟨by kernel_rfl, by kernel_rfl, by kernel_rfl, by decide +kernel, rfl, by decide +kernel, by decide +kernel⟩
def b_law_orders : FS := sSeq (sAsg (eLst (aCons (eLst (aNil)) (aNil))) (gPt (.nm 1))) (sSeq (sFor (iRange1 (eVar 0)) (.nm 2) (sSeq (sAsg (eLstM (aNil)) (gPt (.nm 3))) (sSeq (sFor (iSeqU (eVar 1)) (.nm 4) (sExpr (eExtend (eVar 3) (eComp (iRange1 (e2 kAdd (eCall kLen (aCons (eVar 4) (aNil))) (eC (.int 1)))) (.nm 5) (tYesD) (e2 kAdd (e2 kAdd (eSlU (eVar 4) (oNone) (oSome (eVar 5))) (eLst (aCons (eVar 2) (aNil)))) (eSlU (eVar 4) (oSome (eVar 5)) (oNone))) [5])))) (sAsg (fz (eVar 3)) (gPt (.nm 1)))))) (sRet (eVar 1)))
def m_law_orders : FF := run0 true b_law_orders 6
theorem ok_law_orders (T : Txt w K mg) (sm : SmB base) {fd : FuncData} (F : FunD K "_law_orders" "_law_orders" (defArgs s_law_orders) (defBody s_law_orders) (defScope s_law_orders) [] [] (He.ga K "_law_orders") fd) : FnG P w K mg base 1 (He.ga K "_law_orders") fd ["_law_many"] (SpD K (["_law_many"] : List Str).length m_law_orders) := by
  refine fn_D (b := true) F sc_law_orders (fun cdv A outer s H E hr gs tk hp => ?_)
  have hu := hr.units
  have hv := room65 hr
  exact dss_cons (ds_asg (d_lst (da_cons (d_lst (da_nil)) (da_nil))) (dg_pt (pt_nm sc_law_orders.nd rfl (Or.inl (by kernel_rfl)) (Or.inl rfl))) (by kernel_rfl)) (dss_cons (ds_for hp rfl (di_range1 (gl (by kernel_rfl)) T.b_range (d_var (pe_var (i := 0) rfl (Or.inl (by kernel_rfl)) (by kernel_rfl) (by kernel_rfl)))) (pt_nm sc_law_orders.nd rfl (Or.inr (by kernel_rfl)) (Or.inl rfl)) (dss_cons (ds_asg (d_lstM (da_nil)) (dg_pt (pt_nm sc_law_orders.nd rfl (Or.inl (by kernel_rfl)) (Or.inl rfl))) (by kernel_rfl)) (dss_cons (ds_for hp rfl (di_seqU (d_var (pe_var (i := 1) rfl (Or.inl (by kernel_rfl)) (by kernel_rfl) (by kernel_rfl)))) (pt_nm sc_law_orders.nd rfl (Or.inr (by kernel_rfl)) (Or.inl rfl)) (dss_one (ds_expr (d_extend (d_var (pe_var (i := 3) rfl (Or.inl (by kernel_rfl)) (by kernel_rfl) (by kernel_rfl))) (d_comp (own := [("_law_at", 5)]) rfl sc_law_orders.nd (di_range1 (gl (by kernel_rfl)) T.b_range (d_add (d_callB call_len fit_len (gl (by kernel_rfl)) T.b_len (by kernel_rfl) (da_cons (d_var (pe_var (i := 4) rfl (Or.inr (Or.inl (by kernel_rfl))) (by kernel_rfl) (by kernel_rfl))) (da_nil)) (by decide) (by kernel_rfl)) (d_int))) (blkOk_by (by kernel_rfl)) (by simp [slotsP, slotsPs]) (fun _ _ _ _ _ => pt_nm sc_law_orders.nd rfl (Or.inl (by kernel_rfl)) (Or.inr (by kernel_rfl))) (fun _ _ _ _ _ => dts_nil) (fun _ _ _ _ _ => d_add (d_add (d_slU (d_var (pe_var (i := 4) rfl (Or.inr (Or.inl (by kernel_rfl))) (by kernel_rfl) (by kernel_rfl))) (do_none) (do_some (d_var (pe_var (i := 5) rfl (Or.inl (by kernel_rfl)) (by kernel_rfl) (by kernel_rfl))))) (d_lst (da_cons (d_var (pe_var (i := 2) rfl (Or.inr (Or.inl (by kernel_rfl))) (by kernel_rfl) (by kernel_rfl))) (da_nil)))) (d_slU (d_var (pe_var (i := 4) rfl (Or.inr (Or.inl (by kernel_rfl))) (by kernel_rfl) (by kernel_rfl))) (do_some (d_var (pe_var (i := 5) rfl (Or.inl (by kernel_rfl)) (by kernel_rfl) (by kernel_rfl)))) (do_none)))))))) (dss_one (ds_asg (d_fz (d_var (pe_var (i := 3) rfl (Or.inl (by kernel_rfl)) (by kernel_rfl) (by kernel_rfl)))) (dg_pt (pt_nm sc_law_orders.nd rfl (Or.inl (by kernel_rfl)) (Or.inl rfl))) (by kernel_rfl)))))) (dss_one (ds_ret (d_var (pe_var (i := 1) rfl (Or.inl (by kernel_rfl)) (by kernel_rfl) (by kernel_rfl))))))
theorem sc_law_told_right : FnScope ["_law_purse_here", "_law_calls", "_law_handed", "_law_text", "_law_told", "_law_least", "_law_order"] ["_law_purse_here", "_law_calls"] (defScope s_law_told_right) := ⟨by kernel_rfl, by kernel_rfl, by kernel_rfl, by decide +kernel, rfl, by decide +kernel, by decide +kernel⟩
def b_law_told_right : FS := sSeq (sAsg (e2 kIx (eLst (aCons (eVar 1) (aCons (eCall kTuple (aCons (eVar 1) (aNil))) (aNil)))) (eFn m_law_take (aCons (eVar 0) (aCons (eC (.int 2)) (aNil))) [])) (gPt (.nm 2))) (sSeq (sAsg (eCall kRepr (aCons (eVar 2) (aNil))) (gPt (.nm 3))) (sSeq (sFor (iSeqU (eLst (aCons (eFn m_need (aCons (eVar 2) (aNil)) []) (aCons (eFnK m_need aNil (aCons (eVar 2) (aNil)) (@kw0)) (aNil))))) (.nm 4) (sIf (tOr2 (tNot1 (tV (eFn m_law_number (aCons (eVar 4) (aNil)) []))) (tV (e2 kNe (eVar 4) (eFn m_law_walked (aCons (eVar 1) (aCons (eListR1 (eCall kLen (aCons (eVar 1) (aNil)))) (aNil))) [])))) (sRet (eC (.bl false))) (sNil))) (sSeq (sIf (tOr2 (tNot1 (tV (eFn m_law_room_right (aCons (eFn m_least_room (aCons (eVar 2) (aNil)) []) (aCons (eVar 1) (aNil))) []))) (tNot1 (tV (eFn m_law_room_right (aCons (eFnK m_least_room aNil (aCons (eVar 2) (aNil)) (@kw1)) (aCons (eVar 1) (aNil))) [])))) (sRet (eC (.bl false))) (sNil)) (sSeq (sIf (tV (e2 kLt (eCall kLen (aCons (eVar 1) (aNil))) (eC (.int 6)))) (sSeq (sAsg (eCall kMinL (aCons (eComp (iSeqU (eFn m_law_orders (aCons (eCall kLen (aCons (eVar 1) (aNil))) (aNil)) [])) (.nm 6) (tYesD) (eFn m_law_walked (aCons (eVar 1) (aCons (eVar 6) (aNil))) []) [6]) (aNil))) (gPt (.nm 5))) (sIf (tV (e2 kNe (e2 kIx (eFn m_least_room (aCons (eVar 2) (aNil)) []) (eC (.int 0))) (eVar 5))) (sRet (eC (.bl false))) (sNil))) (sNil)) (sRet (e2 kEq (eCall kRepr (aCons (eVar 2) (aNil))) (eVar 3)))))))
def m_law_told_right : FF := run0 true b_law_told_right 7
theorem ok_law_told_right (T : Txt w K mg) (sm : SmB base) {fd : FuncData} (F : FunD K "_law_told_right" "_law_told_right" (defArgs s_law_told_right) (defBody s_law_told_right) (defScope s_law_told_right) [] [] (He.ga K "_law_told_right") fd) : FnG P w K mg base 6 (He.ga K "_law_told_right") fd ["_law_purse_here", "_law_calls"] (SpD K (["_law_purse_here", "_law_calls"] : List Str).length m_law_told_right) := by
  obtain ⟨fd_law_number, F_law_number⟩ := T.F_law_number
  have G_law_number := ok_law_number (P := P) (w := w) (base := base) T sm F_law_number
  obtain ⟨fd_law_orders, F_law_orders⟩ := T.F_law_orders
  have G_law_orders := ok_law_orders (P := P) (w := w) (base := base) T sm F_law_orders
  obtain ⟨fd_law_room_right, F_law_room_right⟩ := T.F_law_room_right
  have G_law_room_right := ok_law_room_right (P := P) (w := w) (base := base) T sm F_law_room_right
  obtain ⟨fd_law_take, F_law_take⟩ := T.F_law_take
  have G_law_take := ok_law_take (P := P) (w := w) (base := base) T sm F_law_take
  obtain ⟨fd_law_walked, F_law_walked⟩ := T.F_law_walked
  have G_law_walked := ok_law_walked (P := P) (w := w) (base := base) T sm F_law_walked
  obtain ⟨fd_least_room, F_least_room⟩ := T.F_least_room
  have G_least_room := ok_least_room (P := P) (w := w) (base := base) T sm F_least_room
  obtain ⟨fd_need, F_need⟩ := T.F_need
  have G_need := ok_need (P := P) (w := w) (base := base) T sm F_need
  refine fn_D (b := true) F sc_law_told_right (fun cdv A outer s H E hr gs tk hp => ?_)
  have hu := hr.units
  have hv := room65 hr
  exact dss_cons (ds_asg (d_ix (d_lst (da_cons (d_var (pe_var (i := 1) rfl (Or.inr (Or.inl (by kernel_rfl))) (by kernel_rfl) (by kernel_rfl))) (da_cons (d_callT call_tuple_of fit_tuple (gl (by kernel_rfl)) T.b_tuple (by kernel_rfl) (da_cons (d_var (pe_var (i := 1) rfl (Or.inr (Or.inl (by kernel_rfl))) (by kernel_rfl) (by kernel_rfl))) (da_nil)) (by decide) (by kernel_rfl)) (da_nil)))) (d_fn G_law_take (hr.mono (by decide)) gs tk (gl (by kernel_rfl)) T.g_law_take F_law_take.kp (L2.FunD.bindsN F_law_take (ps := ["_law_purse_here", "_law_many"]) (fun _ _ _ _ _ _ us hl => match us, hl with | [_, _], _ => rfl)) .nil (fun _ _ => reps_nil) rfl (al_cons (al_cons (al_nil))) (da_cons (d_var (pe_var (i := 0) rfl (Or.inl (by kernel_rfl)) (by kernel_rfl) (by kernel_rfl))) (da_cons (d_int) (da_nil))) (by kernel_rfl)) (fun _ _ => rfl)) (dg_pt (pt_nm sc_law_told_right.nd rfl (Or.inl (by kernel_rfl)) (Or.inl rfl))) (by kernel_rfl)) (dss_cons (ds_asg (d_callB (cr_repr gs hu sm) fit_repr (gl (by kernel_rfl)) T.b_repr (by kernel_rfl) (da_cons (d_var (pe_var (i := 2) rfl (Or.inl (by kernel_rfl)) (by kernel_rfl) (by kernel_rfl))) (da_nil)) (by decide) (by kernel_rfl)) (dg_pt (pt_nm sc_law_told_right.nd rfl (Or.inl (by kernel_rfl)) (Or.inl rfl))) (by kernel_rfl)) (dss_cons (ds_for hp rfl (di_seqU (d_lst (da_cons (d_fn G_need (hr.mono (by decide)) gs tk (gl (by kernel_rfl)) T.g_need F_need.kp (L2.FunD.bindsN F_need (ps := ["stops"]) (fun _ _ _ _ _ _ us hl => match us, hl with | [_], _ => rfl)) .nil (fun _ _ => reps_nil) rfl (al_cons (al_nil)) (da_cons (d_var (pe_var (i := 2) rfl (Or.inl (by kernel_rfl)) (by kernel_rfl) (by kernel_rfl))) (da_nil)) (by kernel_rfl)) (da_cons (d_fnK0 (t := @kw0) mix_kw0 rfl G_need (hr.mono (by decide)) gs tk (gl (by kernel_rfl)) T.g_need F_need.kp (kb_kw0 F_need) al_n1 (dk_cons (d_var (pe_var (i := 2) rfl (Or.inl (by kernel_rfl)) (by kernel_rfl) (by kernel_rfl))) (dk_nil)) (by kernel_rfl) (by kernel_rfl) (by kernel_rfl)) (da_nil))))) (pt_nm sc_law_told_right.nd rfl (Or.inl (by kernel_rfl)) (Or.inl rfl)) (dss_one (ds_if (t_w (dw_or (t_not (t_val (d_fn G_law_number (hr.mono (by decide)) gs tk (gl (by kernel_rfl)) T.g_law_number F_law_number.kp (L2.FunD.bindsN F_law_number (ps := ["_law_thing"]) (fun _ _ _ _ _ _ us hl => match us, hl with | [_], _ => rfl)) .nil (fun _ _ => reps_nil) rfl (al_cons (al_nil)) (da_cons (d_var (pe_var (i := 4) rfl (Or.inl (by kernel_rfl)) (by kernel_rfl) (by kernel_rfl))) (da_nil)) (by kernel_rfl)))) (dw_or1 (t_ne hu (d_var (pe_var (i := 4) rfl (Or.inl (by kernel_rfl)) (by kernel_rfl) (by kernel_rfl))) (d_fn G_law_walked (hr.mono (by decide)) gs tk (gl (by kernel_rfl)) T.g_law_walked F_law_walked.kp (L2.FunD.bindsN F_law_walked (ps := ["_law_calls", "_law_order"]) (fun _ _ _ _ _ _ us hl => match us, hl with | [_, _], _ => rfl)) .nil (fun _ _ => reps_nil) rfl (al_cons (al_cons (al_nil))) (da_cons (d_var (pe_var (i := 1) rfl (Or.inr (Or.inl (by kernel_rfl))) (by kernel_rfl) (by kernel_rfl))) (da_cons (d_listR1 rfl (gl (by kernel_rfl)) T.b_list (gl (by kernel_rfl)) T.b_range (d_callB call_len fit_len (gl (by kernel_rfl)) T.b_len (by kernel_rfl) (da_cons (d_var (pe_var (i := 1) rfl (Or.inr (Or.inl (by kernel_rfl))) (by kernel_rfl) (by kernel_rfl))) (da_nil)) (by decide) (by kernel_rfl))) (da_nil))) (by kernel_rfl)))))) (dss_one (ds_ret (d_bl))) (dss_nil)))) (dss_cons (ds_if (t_w (dw_or (t_not (t_val (d_fn G_law_room_right (hr.mono (by decide)) gs tk (gl (by kernel_rfl)) T.g_law_room_right F_law_room_right.kp (L2.FunD.bindsN F_law_room_right (ps := ["_law_told", "_law_calls"]) (fun _ _ _ _ _ _ us hl => match us, hl with | [_, _], _ => rfl)) .nil (fun _ _ => reps_nil) rfl (al_cons (al_cons (al_nil))) (da_cons (d_fn G_least_room (hr.mono (by decide)) gs tk (gl (by kernel_rfl)) T.g_least_room F_least_room.kp (L2.FunD.bindsN F_least_room (ps := ["stops"]) (fun _ _ _ _ _ _ us hl => match us, hl with | [_], _ => rfl)) .nil (fun _ _ => reps_nil) rfl (al_cons (al_nil)) (da_cons (d_var (pe_var (i := 2) rfl (Or.inl (by kernel_rfl)) (by kernel_rfl) (by kernel_rfl))) (da_nil)) (by kernel_rfl)) (da_cons (d_var (pe_var (i := 1) rfl (Or.inr (Or.inl (by kernel_rfl))) (by kernel_rfl) (by kernel_rfl))) (da_nil))) (by kernel_rfl)))) (dw_or1 (t_not (t_val (d_fn G_law_room_right (hr.mono (by decide)) gs tk (gl (by kernel_rfl)) T.g_law_room_right F_law_room_right.kp (L2.FunD.bindsN F_law_room_right (ps := ["_law_told", "_law_calls"]) (fun _ _ _ _ _ _ us hl => match us, hl with | [_, _], _ => rfl)) .nil (fun _ _ => reps_nil) rfl (al_cons (al_cons (al_nil))) (da_cons (d_fnK0 (t := @kw1) mix_kw1 rfl G_least_room (hr.mono (by decide)) gs tk (gl (by kernel_rfl)) T.g_least_room F_least_room.kp (kb_kw1 F_least_room) al_n1 (dk_cons (d_var (pe_var (i := 2) rfl (Or.inl (by kernel_rfl)) (by kernel_rfl) (by kernel_rfl))) (dk_nil)) (by kernel_rfl) (by kernel_rfl) (by kernel_rfl)) (da_cons (d_var (pe_var (i := 1) rfl (Or.inr (Or.inl (by kernel_rfl))) (by kernel_rfl) (by kernel_rfl))) (da_nil))) (by kernel_rfl))))))) (dss_one (ds_ret (d_bl))) (dss_nil)) (dss_cons (ds_if (t_lt hu (d_callB call_len fit_len (gl (by kernel_rfl)) T.b_len (by kernel_rfl) (da_cons (d_var (pe_var (i := 1) rfl (Or.inr (Or.inl (by kernel_rfl))) (by kernel_rfl) (by kernel_rfl))) (da_nil)) (by decide) (by kernel_rfl)) (d_int)) (dss_cons (ds_asg (d_callB (cr_min rfl) fit_minL (gl (by kernel_rfl)) T.b_min (by kernel_rfl) (da_cons (d_comp (own := [("_law_order", 6)]) rfl sc_law_told_right.nd (di_seqU (d_fn G_law_orders (hr.mono (by decide)) gs tk (gl (by kernel_rfl)) T.g_law_orders F_law_orders.kp (L2.FunD.bindsN F_law_orders (ps := ["_law_many"]) (fun _ _ _ _ _ _ us hl => match us, hl with | [_], _ => rfl)) .nil (fun _ _ => reps_nil) rfl (al_cons (al_nil)) (da_cons (d_callB call_len fit_len (gl (by kernel_rfl)) T.b_len (by kernel_rfl) (da_cons (d_var (pe_var (i := 1) rfl (Or.inr (Or.inl (by kernel_rfl))) (by kernel_rfl) (by kernel_rfl))) (da_nil)) (by decide) (by kernel_rfl)) (da_nil)) (by kernel_rfl))) (blkOk_by (by kernel_rfl)) (by simp [slotsP, slotsPs]) (fun _ _ _ _ _ => pt_nm sc_law_told_right.nd rfl (Or.inl (by kernel_rfl)) (Or.inr (by kernel_rfl))) (fun _ _ _ _ _ => dts_nil) (fun _ _ _ _ _ => d_fn G_law_walked (hr.mono (by decide)) gs tk0 (gl (by kernel_rfl)) T.g_law_walked F_law_walked.kp (L2.FunD.bindsN F_law_walked (ps := ["_law_calls", "_law_order"]) (fun _ _ _ _ _ _ us hl => match us, hl with | [_, _], _ => rfl)) .nil (fun _ _ => reps_nil) rfl (al_cons (al_cons (al_nil))) (da_cons (d_var (pe_var (i := 1) rfl (Or.inr (Or.inl (by kernel_rfl))) (by kernel_rfl) (by kernel_rfl))) (da_cons (d_var (pe_var (i := 6) rfl (Or.inl (by kernel_rfl)) (by kernel_rfl) (by kernel_rfl))) (da_nil))) (by kernel_rfl))) (da_nil)) (by decide) (by kernel_rfl)) (dg_pt (pt_nm sc_law_told_right.nd rfl (Or.inl (by kernel_rfl)) (Or.inl rfl))) (by kernel_rfl)) (dss_one (ds_if (t_ne hu (d_ix (d_fn G_least_room (hr.mono (by decide)) gs tk (gl (by kernel_rfl)) T.g_least_room F_least_room.kp (L2.FunD.bindsN F_least_room (ps := ["stops"]) (fun _ _ _ _ _ _ us hl => match us, hl with | [_], _ => rfl)) .nil (fun _ _ => reps_nil) rfl (al_cons (al_nil)) (da_cons (d_var (pe_var (i := 2) rfl (Or.inl (by kernel_rfl)) (by kernel_rfl) (by kernel_rfl))) (da_nil)) (by kernel_rfl)) (d_int) (fun _ _ => rfl)) (d_var (pe_var (i := 5) rfl (Or.inl (by kernel_rfl)) (by kernel_rfl) (by kernel_rfl)))) (dss_one (ds_ret (d_bl))) (dss_nil)))) (dss_nil)) (dss_one (ds_ret (d_eq hu (d_callB (cr_repr gs hu sm) fit_repr (gl (by kernel_rfl)) T.b_repr (by kernel_rfl) (da_cons (d_var (pe_var (i := 2) rfl (Or.inl (by kernel_rfl)) (by kernel_rfl) (by kernel_rfl))) (da_nil)) (by decide) (by kernel_rfl)) (d_var (pe_var (i := 3) rfl (Or.inl (by kernel_rfl)) (by kernel_rfl) (by kernel_rfl))))))))))
theorem sc_law_odd_stop : FnScope ["_law_purse_here", "_law_stop", "_law_part", "_law_some"] ["_law_purse_here", "_law_stop"] (defScope s_law_odd_stop) := ⟨by kernel_rfl, by kernel_rfl, by kernel_rfl, by decide +kernel, rfl, by decide +kernel, by decide +kernel⟩
def b_law_odd_stop : FS := sSeq (sAsg (e2 kIx (eLst (aCons (e2 kSub (eC (.int 0)) (eC (.int 1))) (aCons (eC (.int 1000)) (aCons (eC (.bl true)) (aCons (eC (.bl false)) (aCons (eC .non) (aCons (eC (.str "5")) (aCons (eLst (aCons (eC (.int 5)) (aNil))) (aCons (eTup (aCons (eC (.int 5)) (aNil))) (aCons (eD0) (aCons (e2 kPow (eC (.int 10)) (eC (.int 30))) (aCons (eTup (aCons (eLst (aNil)) (aNil))) (aNil))))))))))))) (eFn m_law_take (aCons (eVar 0) (aCons (eC (.int 11)) (aNil))) [])) (gPt (.nm 2))) (sSeq (sAsg (eLst (aCons (eTup (aCons (eVar 2) (aCons (e2 kIx (eVar 1) (eC (.int 1))) (aNil)))) (aCons (eTup (aCons (e2 kIx (eVar 1) (eC (.int 0))) (aCons (eVar 2) (aNil)))) (aCons (eSlU (eVar 1) (oNone) (oSome (eC (.int 1)))) (aCons (e2 kAdd (eVar 1) (eTup (aCons (eC (.int 0)) (aNil)))) (aCons (eCall kList (aCons (eVar 1) (aNil))) (aCons (eTup (aNil)) (aCons (eC .non) (aCons (eC (.int 5)) (aCons (eC (.str "55")) (aCons (eD0) (aCons (eTup (aCons (eVar 1) (aNil))) (aCons (eLst (aNil)) (aNil)))))))))))))) (gPt (.nm 3))) (sRet (e2 kIx (eVar 3) (e2 kIx (eLst (aCons (eC (.int 0)) (aCons (eC (.int 1)) (aCons (eFn m_law_take (aCons (eVar 0) (aCons (eC (.int 12)) (aNil))) []) (aNil))))) (eFn m_law_take (aCons (eVar 0) (aCons (eC (.int 3)) (aNil))) [])))))
def m_law_odd_stop : FF := run0 true b_law_odd_stop 4
theorem ok_law_odd_stop (T : Txt w K mg) (sm : SmB base) {fd : FuncData} (F : FunD K "_law_odd_stop" "_law_odd_stop" (defArgs s_law_odd_stop) (defBody s_law_odd_stop) (defScope s_law_odd_stop) [] [] (He.ga K "_law_odd_stop") fd) : FnG P w K mg base 2 (He.ga K "_law_odd_stop") fd ["_law_purse_here", "_law_stop"] (SpD K (["_law_purse_here", "_law_stop"] : List Str).length m_law_odd_stop) := by
  obtain ⟨fd_law_take, F_law_take⟩ := T.F_law_take
  have G_law_take := ok_law_take (P := P) (w := w) (base := base) T sm F_law_take
  refine fn_D (b := true) F sc_law_odd_stop (fun cdv A outer s H E hr gs tk hp => ?_)
  have hu := hr.units
  have hv := room65 hr
  exact dss_cons (ds_asg (d_ix (d_lst (da_cons (d_sub (d_int) (d_int)) (da_cons (d_int) (da_cons (d_bl) (da_cons (d_bl) (da_cons (d_non) (da_cons (d_str) (da_cons (d_lst (da_cons (d_int) (da_nil))) (da_cons (d_tup (da_cons (d_int) (da_nil))) (da_cons (d_d0) (da_cons (d_pow (d_int) (d_int)) (da_cons (d_tup (da_cons (d_lst (da_nil)) (da_nil))) (da_nil))))))))))))) (d_fn G_law_take (hr.mono (by decide)) gs tk (gl (by kernel_rfl)) T.g_law_take F_law_take.kp (L2.FunD.bindsN F_law_take (ps := ["_law_purse_here", "_law_many"]) (fun _ _ _ _ _ _ us hl => match us, hl with | [_, _], _ => rfl)) .nil (fun _ _ => reps_nil) rfl (al_cons (al_cons (al_nil))) (da_cons (d_var (pe_var (i := 0) rfl (Or.inl (by kernel_rfl)) (by kernel_rfl) (by kernel_rfl))) (da_cons (d_int) (da_nil))) (by kernel_rfl)) (fun _ _ => rfl)) (dg_pt (pt_nm sc_law_odd_stop.nd rfl (Or.inl (by kernel_rfl)) (Or.inl rfl))) (by kernel_rfl)) (dss_cons (ds_asg (d_lst (da_cons (d_tup (da_cons (d_var (pe_var (i := 2) rfl (Or.inl (by kernel_rfl)) (by kernel_rfl) (by kernel_rfl))) (da_cons (d_ix (d_var (pe_var (i := 1) rfl (Or.inl (by kernel_rfl)) (by kernel_rfl) (by kernel_rfl))) (d_int) (fun _ _ => rfl)) (da_nil)))) (da_cons (d_tup (da_cons (d_ix (d_var (pe_var (i := 1) rfl (Or.inl (by kernel_rfl)) (by kernel_rfl) (by kernel_rfl))) (d_int) (fun _ _ => rfl)) (da_cons (d_var (pe_var (i := 2) rfl (Or.inl (by kernel_rfl)) (by kernel_rfl) (by kernel_rfl))) (da_nil)))) (da_cons (d_slU (d_var (pe_var (i := 1) rfl (Or.inl (by kernel_rfl)) (by kernel_rfl) (by kernel_rfl))) (do_none) (do_some (d_int))) (da_cons (d_add (d_var (pe_var (i := 1) rfl (Or.inl (by kernel_rfl)) (by kernel_rfl) (by kernel_rfl))) (d_tup (da_cons (d_int) (da_nil)))) (da_cons (d_callT call_list_of fit_list (gl (by kernel_rfl)) T.b_list (by kernel_rfl) (da_cons (d_var (pe_var (i := 1) rfl (Or.inl (by kernel_rfl)) (by kernel_rfl) (by kernel_rfl))) (da_nil)) (by decide) (by kernel_rfl)) (da_cons (d_tup (da_nil)) (da_cons (d_non) (da_cons (d_int) (da_cons (d_str) (da_cons (d_d0) (da_cons (d_tup (da_cons (d_var (pe_var (i := 1) rfl (Or.inl (by kernel_rfl)) (by kernel_rfl) (by kernel_rfl))) (da_nil))) (da_cons (d_lst (da_nil)) (da_nil)))))))))))))) (dg_pt (pt_nm sc_law_odd_stop.nd rfl (Or.inl (by kernel_rfl)) (Or.inl rfl))) (by kernel_rfl)) (dss_one (ds_ret (d_ix (d_var (pe_var (i := 3) rfl (Or.inl (by kernel_rfl)) (by kernel_rfl) (by kernel_rfl))) (d_ix (d_lst (da_cons (d_int) (da_cons (d_int) (da_cons (d_fn G_law_take (hr.mono (by decide)) gs tk (gl (by kernel_rfl)) T.g_law_take F_law_take.kp (L2.FunD.bindsN F_law_take (ps := ["_law_purse_here", "_law_many"]) (fun _ _ _ _ _ _ us hl => match us, hl with | [_, _], _ => rfl)) .nil (fun _ _ => reps_nil) rfl (al_cons (al_cons (al_nil))) (da_cons (d_var (pe_var (i := 0) rfl (Or.inl (by kernel_rfl)) (by kernel_rfl) (by kernel_rfl))) (da_cons (d_int) (da_nil))) (by kernel_rfl)) (da_nil))))) (d_fn G_law_take (hr.mono (by decide)) gs tk (gl (by kernel_rfl)) T.g_law_take F_law_take.kp (L2.FunD.bindsN F_law_take (ps := ["_law_purse_here", "_law_many"]) (fun _ _ _ _ _ _ us hl => match us, hl with | [_, _], _ => rfl)) .nil (fun _ _ => reps_nil) rfl (al_cons (al_cons (al_nil))) (da_cons (d_var (pe_var (i := 0) rfl (Or.inl (by kernel_rfl)) (by kernel_rfl) (by kernel_rfl))) (da_cons (d_int) (da_nil))) (by kernel_rfl)) (fun _ _ => rfl)) (fun _ _ => rfl)))))
theorem sc_law_sort : FnScope ["_law_e", "_law_odd"] ["_law_e"] (defScope s_law_sort) := ⟨by kernel_rfl, by kernel_rfl, by kernel_rfl, by decide +kernel, rfl, by decide +kernel, by decide +kernel⟩
def b_law_sort : FS := sSeq (sAsg (eCall (kIsO ktb xls ils) (aCons (eVar 0) (aCons (eTup (aCons (eC (.glo "NoAmount")) (aCons (eC (.glo "NoBack")) (aCons (eC (.glo "NoBacks")) (aCons (eC (.glo "NoDay")) (aCons (eC (.glo "NoDealing")) (aCons (eC (.glo "NoDebts")) (aCons (eC (.glo "NoDeed")) (aCons (eC (.glo "NoForm")) (aCons (eC (.glo "NoLoad")) (aCons (eC (.glo "NoMany")) (aNil)))))))))))) (aNil)))) (gPt (.nm 1))) (sSeq (sAsg (bOr (eVar 1) (eCall (kIsO ktb xls ils) (aCons (eVar 0) (aCons (eTup (aCons (eC (.glo "NoName")) (aCons (eC (.glo "NoOuts")) (aCons (eC (.glo "NoPlace")) (aCons (eC (.glo "NoRow")) (aCons (eC (.glo "NoRule")) (aCons (eC (.glo "NoRules")) (aCons (eC (.glo "NoStakes")) (aCons (eC (.glo "NoText")) (aCons (eC (.glo "LackError")) (aNil))))))))))) (aNil))))) (gPt (.nm 1))) (sSeq (sAsg (bOr (eVar 1) (eCall (kIsO ktb xls ils) (aCons (eVar 0) (aCons (eTup (aCons (eC (.glo "Empty")) (aCons (eC (.glo "FullError")) (aCons (eC (.glo "Lacks")) (aCons (eC (.glo "LacksAt")) (aCons (eC (.glo "LacksOn")) (aCons (eC (.glo "NotOut")) (aCons (eC (.glo "Short")) (aCons (eC (.glo "Taken")) (aCons (eC (.glo "TooMany")) (aNil))))))))))) (aNil))))) (gPt (.nm 1))) (sRet (bAnd (eCall (kIsO ktb xls ils) (aCons (eVar 0) (aCons (eC (.ty "ValueError")) (aNil)))) (bAnd (eCall (kIsO ktb xls ils) (aCons (eVar 0) (aCons (eC (.glo "StakeError")) (aNil)))) (bNot (eVar 1)))))))
def m_law_sort : FF := run0 true b_law_sort 2
theorem ok_law_sort (T : Txt w K mg) (sm : SmB base) {fd : FuncData} (F : FunD K "_law_sort" "_law_sort" (defArgs s_law_sort) (defBody s_law_sort) (defScope s_law_sort) [] [] (He.ga K "_law_sort") fd) : FnQ P w K mg base 1 (He.ga K "_law_sort") fd ["_law_e"] (SpD K (["_law_e"] : List Str).length m_law_sort) := by
  refine fn_DQ (b := true) F sc_law_sort (fun cdv A outer s H E hr gs tk hp => ?_)
  have hu := unitsH hr
  have hv := room65H hr
  exact dss_cons (ds_asg (d_callB (cr_isO T.is.f) (fit_isO T.is) (gl (by kernel_rfl)) T.b_isinstance (by kernel_rfl) (da_cons (d_var (pe_var (i := 0) rfl (Or.inl (by kernel_rfl)) (by kernel_rfl) (by kernel_rfl))) (da_cons (d_tup (da_cons (d_glo (gl (by kernel_rfl)) T.c_NoAmount) (da_cons (d_glo (gl (by kernel_rfl)) T.c_NoBack) (da_cons (d_glo (gl (by kernel_rfl)) T.c_NoBacks) (da_cons (d_glo (gl (by kernel_rfl)) T.c_NoDay) (da_cons (d_glo (gl (by kernel_rfl)) T.c_NoDealing) (da_cons (d_glo (gl (by kernel_rfl)) T.c_NoDebts) (da_cons (d_glo (gl (by kernel_rfl)) T.c_NoDeed) (da_cons (d_glo (gl (by kernel_rfl)) T.c_NoForm) (da_cons (d_glo (gl (by kernel_rfl)) T.c_NoLoad) (da_cons (d_glo (gl (by kernel_rfl)) T.c_NoMany) (da_nil)))))))))))) (da_nil))) (by decide) (by kernel_rfl)) (dg_pt (pt_nm sc_law_sort.nd rfl (Or.inl (by kernel_rfl)) (Or.inl rfl))) (by kernel_rfl)) (dss_cons (ds_asg (d_or (d_var (pe_var (i := 1) rfl (Or.inl (by kernel_rfl)) (by kernel_rfl) (by kernel_rfl))) (d_one (d_callB (cr_isO T.is.f) (fit_isO T.is) (gl (by kernel_rfl)) T.b_isinstance (by kernel_rfl) (da_cons (d_var (pe_var (i := 0) rfl (Or.inl (by kernel_rfl)) (by kernel_rfl) (by kernel_rfl))) (da_cons (d_tup (da_cons (d_glo (gl (by kernel_rfl)) T.c_NoName) (da_cons (d_glo (gl (by kernel_rfl)) T.c_NoOuts) (da_cons (d_glo (gl (by kernel_rfl)) T.c_NoPlace) (da_cons (d_glo (gl (by kernel_rfl)) T.c_NoRow) (da_cons (d_glo (gl (by kernel_rfl)) T.c_NoRule) (da_cons (d_glo (gl (by kernel_rfl)) T.c_NoRules) (da_cons (d_glo (gl (by kernel_rfl)) T.c_NoStakes) (da_cons (d_glo (gl (by kernel_rfl)) T.c_NoText) (da_cons (d_glo (gl (by kernel_rfl)) T.c_LackError) (da_nil))))))))))) (da_nil))) (by decide) (by kernel_rfl)))) (dg_pt (pt_nm sc_law_sort.nd rfl (Or.inl (by kernel_rfl)) (Or.inl rfl))) (by kernel_rfl)) (dss_cons (ds_asg (d_or (d_var (pe_var (i := 1) rfl (Or.inl (by kernel_rfl)) (by kernel_rfl) (by kernel_rfl))) (d_one (d_callB (cr_isO T.is.f) (fit_isO T.is) (gl (by kernel_rfl)) T.b_isinstance (by kernel_rfl) (da_cons (d_var (pe_var (i := 0) rfl (Or.inl (by kernel_rfl)) (by kernel_rfl) (by kernel_rfl))) (da_cons (d_tup (da_cons (d_glo (gl (by kernel_rfl)) T.c_Empty) (da_cons (d_glo (gl (by kernel_rfl)) T.c_FullError) (da_cons (d_glo (gl (by kernel_rfl)) T.c_Lacks) (da_cons (d_glo (gl (by kernel_rfl)) T.c_LacksAt) (da_cons (d_glo (gl (by kernel_rfl)) T.c_LacksOn) (da_cons (d_glo (gl (by kernel_rfl)) T.c_NotOut) (da_cons (d_glo (gl (by kernel_rfl)) T.c_Short) (da_cons (d_glo (gl (by kernel_rfl)) T.c_Taken) (da_cons (d_glo (gl (by kernel_rfl)) T.c_TooMany) (da_nil))))))))))) (da_nil))) (by decide) (by kernel_rfl)))) (dg_pt (pt_nm sc_law_sort.nd rfl (Or.inl (by kernel_rfl)) (Or.inl rfl))) (by kernel_rfl)) (dss_one (ds_ret (d_and (d_callB (cr_isO T.is.f) (fit_isO T.is) (gl (by kernel_rfl)) T.b_isinstance (by kernel_rfl) (da_cons (d_var (pe_var (i := 0) rfl (Or.inl (by kernel_rfl)) (by kernel_rfl) (by kernel_rfl))) (da_cons (d_ty (T := "ValueError") (gl (by kernel_rfl)) T.b_ValueError (by kernel_rfl)) (da_nil))) (by decide) (by kernel_rfl)) (d_and (d_callB (cr_isO T.is.f) (fit_isO T.is) (gl (by kernel_rfl)) T.b_isinstance (by kernel_rfl) (da_cons (d_var (pe_var (i := 0) rfl (Or.inl (by kernel_rfl)) (by kernel_rfl) (by kernel_rfl))) (da_cons (d_glo (gl (by kernel_rfl)) T.c_StakeError) (da_nil))) (by decide) (by kernel_rfl)) (d_one (d_not (d_var (pe_var (i := 1) rfl (Or.inl (by kernel_rfl)) (by kernel_rfl) (by kernel_rfl)))))))))))
theorem sc_law_seen : FnScope ["_law_thing", "_law_door", "_law_told", "_law_e"] ["_law_thing", "_law_door"] (defScope s_law_seen) := ⟨by kernel_rfl, by kernel_rfl, by kernel_rfl, by decide +kernel, rfl, by decide +kernel, by decide +kernel⟩
def b_law_seen : FS := sSeq (sAsg (eC (.str "told")) (gPt (.nm 2))) (sSeq (sTry xtab (sIf (tV (e2 kEq (eVar 1) (eC (.int 0)))) (sExpr (eFn m_need (aCons (eVar 0) (aNil)) [])) (sExpr (eFn m_least_room (aCons (eVar 0) (aNil)) []))) [(["NoRows"], some 3, sAsg (e2 kIx (eLst (aCons (eC (.str "odd")) (aCons (eCall kRepr (aCons (eFld xl_number il_number "number" (eVar 3)) (aNil))) (aNil)))) (eCall kInt (aCons (eFn m_law_sort (aCons (eVar 3) (aNil)) []) (aNil)))) (gPt (.nm 2)))]) (sRet (eVar 2)))
def m_law_seen : FF := run0 true b_law_seen 4
theorem ok_law_seen (T : Txt w K mg) (sm : SmB base) {fd : FuncData} (F : FunD K "_law_seen" "_law_seen" (defArgs s_law_seen) (defBody s_law_seen) (defScope s_law_seen) [] [] (He.ga K "_law_seen") fd) : FnG P w K mg base 6 (He.ga K "_law_seen") fd ["_law_thing", "_law_door"] (SpD K (["_law_thing", "_law_door"] : List Str).length m_law_seen) := by
  obtain ⟨fd_law_sort, F_law_sort⟩ := T.F_law_sort
  have GQ_law_sort := ok_law_sort (P := P) (w := w) (base := base) T sm F_law_sort
  have G_law_sort := GQ_law_sort.toG
  obtain ⟨fd_least_room, F_least_room⟩ := T.F_least_room
  have G_least_room := ok_least_room (P := P) (w := w) (base := base) T sm F_least_room
  obtain ⟨fd_need, F_need⟩ := T.F_need
  have G_need := ok_need (P := P) (w := w) (base := base) T sm F_need
  refine fn_D (b := true) F sc_law_seen (fun cdv A outer s H E hr gs tk hp => ?_)
  have hu := hr.units
  have hv := room65 hr
  exact dss_cons (ds_asg (d_str) (dg_pt (pt_nm sc_law_seen.nd rfl (Or.inl (by kernel_rfl)) (Or.inl rfl))) (by kernel_rfl)) (dss_cons (ds_try T.ext rfl rfl rfl tk (fun WT pnT xeT tk hp => dss_one (ds_if (t_eq hu (d_var (pe_var (i := 1) rfl (Or.inl (by kernel_rfl)) (by kernel_rfl) (by kernel_rfl))) (d_int)) (dss_one (ds_expr (d_fn G_need (hr.mono (by decide)) gs tk (gl (by kernel_rfl)) T.g_need F_need.kp (L2.FunD.bindsN F_need (ps := ["stops"]) (fun _ _ _ _ _ _ us hl => match us, hl with | [_], _ => rfl)) .nil (fun _ _ => reps_nil) rfl (al_cons (al_nil)) (da_cons (d_var (pe_var (i := 0) rfl (Or.inl (by kernel_rfl)) (by kernel_rfl) (by kernel_rfl))) (da_nil)) (by kernel_rfl)))) (dss_one (ds_expr (d_fn G_least_room (hr.mono (by decide)) gs tk (gl (by kernel_rfl)) T.g_least_room F_least_room.kp (L2.FunD.bindsN F_least_room (ps := ["stops"]) (fun _ _ _ _ _ _ us hl => match us, hl with | [_], _ => rfl)) .nil (fun _ _ => reps_nil) rfl (al_cons (al_nil)) (da_cons (d_var (pe_var (i := 0) rfl (Or.inl (by kernel_rfl)) (by kernel_rfl) (by kernel_rfl))) (da_nil)) (by kernel_rfl)))))) (HcOk.named (xs := ["NoRows"]) (i := 3) sc_law_seen.nd rfl (by kernel_rfl) (test_1 (⟨gl (by kernel_rfl), by decide, .inl T.c_NoRows⟩)) (by decide) (fun aS pnS => by
    have hrS := rq hr (some (.ref aS))
    exact (dss_one (ds_asg (d_ix (d_lst (da_cons (d_str) (da_cons (d_callB (cr_repr gs hu sm) fit_repr (gl (by kernel_rfl)) T.b_repr (by kernel_rfl) (da_cons (d_fld T.fx_number T.fi_number (d_var (pe_var (i := 3) rfl (Or.inl (by kernel_rfl)) (by kernel_rfl) (by kernel_rfl)))) (da_nil)) (by decide) (by kernel_rfl)) (da_nil)))) (d_callT call_int1 fit_int (gl (by kernel_rfl)) T.b_int (by kernel_rfl) (da_cons (d_fnQ GQ_law_sort (hrS.mono (by decide)) gs tk0 (gl (by kernel_rfl)) T.g_law_sort F_law_sort.kp (L2.FunD.bindsN F_law_sort (ps := ["_law_e"]) (fun _ _ _ _ _ _ us hl => match us, hl with | [_], _ => rfl)) .nil (fun _ _ => reps_nil) rfl (al_cons (al_nil)) (da_cons (d_var (pe_var (i := 3) rfl (Or.inl (by kernel_rfl)) (by kernel_rfl) (by kernel_rfl))) (da_nil)) (by kernel_rfl)) (da_nil)) (by decide) (by kernel_rfl)) (fun _ _ => rfl)) (dg_pt (pt_nm sc_law_seen.nd rfl (Or.inl (by kernel_rfl)) (Or.inl rfl))) (by kernel_rfl)))) (HcOk.nil))) (dss_one (ds_ret (d_var (pe_var (i := 2) rfl (Or.inl (by kernel_rfl)) (by kernel_rfl) (by kernel_rfl))))))
theorem sc_law_refused_right : FnScope ["_law_purse_here", "_law_calls", "_law_no_stops", "_law_thing", "_law_far", "_law_handed", "_law_spots", "_law_spot", "_law_text", "_law_k", "_law_door"] ["_law_purse_here", "_law_calls"] (defScope s_law_refused_right) := ⟨by kernel_rfl, by kernel_rfl, by kernel_rfl, by decide +kernel, rfl, by decide +kernel, by decide +kernel⟩
def b_law_refused_right : FS := sSeq (sAsg (eLst (aCons (eC .non) (aCons (eC (.int 5)) (aCons (eC (.bl true)) (aCons (eC (.str "")) (aCons (eC (.str "ab")) (aCons (eD0) (aCons (eDC [(.inl 1)] [.int 2]) (aCons (e2 kPow (eC (.int 10)) (eC (.int 30))) (aCons (eC (.str "()")) (aNil))))))))))) (gPt (.nm 2))) (sSeq (sAsg (e2 kIx (eVar 2) (eFn m_law_take (aCons (eVar 0) (aCons (eC (.int 9)) (aNil))) [])) (gPt (.nm 3))) (sSeq (sIf (tV (e2 kNe (eComp (iRange1 (eC (.int 2))) (.nm 10) (tYesD) (eFn m_law_seen (aCons (eVar 3) (aCons (eVar 10) (aNil))) []) [10]) (eLst (aCons (eC (.str "None")) (aCons (eC (.str "None")) (aNil)))))) (sRet (eC (.bl false))) (sNil)) (sSeq (sFor (iSeqU (eLst (aCons (eTup (aCons (eC (.int 1000)) (aCons (eC (.int 0)) (aNil)))) (aCons (eTup (aCons (eC (.int 0)) (aCons (eC (.int 1000)) (aNil)))) (aCons (eTup (aCons (e2 kSub (eC (.int 0)) (eC (.int 1))) (aCons (eC (.int 5)) (aNil)))) (aCons (eTup (aCons (eC (.bl true)) (aCons (eC (.int 1)) (aNil)))) (aNil))))))) (.nm 4) (sIf (tV (e2 kNe (eComp (iRange1 (eC (.int 2))) (.nm 10) (tYesD) (eFn m_law_seen (aCons (eLst (aCons (eTup (aCons (eC (.int 999)) (aCons (eC (.int 999)) (aNil)))) (aCons (eVar 4) (aNil)))) (aCons (eVar 10) (aNil))) []) [10]) (eLst (aCons (eC (.str "1")) (aCons (eC (.str "1")) (aNil)))))) (sRet (eC (.bl false))) (sNil))) (sSeq (sAsg (e2 kAddM (eVar 1) (eLst (aCons (eTup (aCons (eC (.int 3)) (aCons (eC (.int 4)) (aNil)))) (aNil)))) (gPt (.nm 5))) (sSeq (sAsg (eCompG true (iRange1 (e2 kAdd (eC (.int 1)) (eFn m_law_take (aCons (eVar 0) (aCons (eC (.int 2)) (aNil))) []))) (.nm 9) (tYesD) (eFn m_law_take (aCons (eVar 0) (aCons (eCall kLen (aCons (eVar 5) (aNil))) (aNil))) []) [9]) (gPt (.nm 6))) (sSeq (sFor (iSeqU (eVar 6)) (.nm 7) (sAsg (eFn m_law_odd_stop (aCons (eVar 0) (aCons (eTup (aCons (eC (.int 1)) (aCons (eC (.int 2)) (aNil)))) (aNil))) []) (gSet (eVar 5) (eVar 7)))) (sSeq (sAsg (fz (e2 kIx (eLst (aCons (eVar 5) (aCons (eCall kTuple (aCons (eVar 5) (aNil))) (aNil)))) (eFn m_law_take (aCons (eVar 0) (aCons (eC (.int 2)) (aNil))) []))) (gPt (.nm 5))) (sSeq (sAsg (eCall kRepr (aCons (eVar 5) (aNil))) (gPt (.nm 8))) (sRet (bAnd (e2 kEq (eComp (iRange1 (eC (.int 2))) (.nm 10) (tYesD) (eFn m_law_seen (aCons (eVar 5) (aCons (eVar 10) (aNil))) []) [10]) (e2 kMul (eLst (aCons (eCall kStr1 (aCons (eCall kMinL (aCons (eVar 6) (aNil))) (aNil))) (aNil))) (eC (.int 2)))) (e2 kEq (eCall kRepr (aCons (eVar 5) (aNil))) (eVar 8))))))))))))
def m_law_refused_right : FF := run0 true b_law_refused_right 11
theorem ok_law_refused_right (T : Txt w K mg) (sm : SmB base) {fd : FuncData} (F : FunD K "_law_refused_right" "_law_refused_right" (defArgs s_law_refused_right) (defBody s_law_refused_right) (defScope s_law_refused_right) [] [] (He.ga K "_law_refused_right") fd) : FnG P w K mg base 7 (He.ga K "_law_refused_right") fd ["_law_purse_here", "_law_calls"] (SpD K (["_law_purse_here", "_law_calls"] : List Str).length m_law_refused_right) := by
  obtain ⟨fd_law_odd_stop, F_law_odd_stop⟩ := T.F_law_odd_stop
  have G_law_odd_stop := ok_law_odd_stop (P := P) (w := w) (base := base) T sm F_law_odd_stop
  obtain ⟨fd_law_seen, F_law_seen⟩ := T.F_law_seen
  have G_law_seen := ok_law_seen (P := P) (w := w) (base := base) T sm F_law_seen
  obtain ⟨fd_law_take, F_law_take⟩ := T.F_law_take
  have G_law_take := ok_law_take (P := P) (w := w) (base := base) T sm F_law_take
  refine fn_D (b := true) F sc_law_refused_right (fun cdv A outer s H E hr gs tk hp => ?_)
  have hu := hr.units
  have hv := room65 hr
  exact dss_cons (ds_asg (d_lst (da_cons (d_non) (da_cons (d_int) (da_cons (d_bl) (da_cons (d_str) (da_cons (d_str) (da_cons (d_d0) (da_cons (d_dC (kvs := [((.inl 1), .int 2)]) (pps_cons pe_int pe_int (pps_nil)) (fun _ _ => reps_cons rep_int (reps_nil)) rfl (by decide +kernel) (by decide) rfl rfl (by simp) (by decide)) (da_cons (d_pow (d_int) (d_int)) (da_cons (d_str) (da_nil))))))))))) (dg_pt (pt_nm sc_law_refused_right.nd rfl (Or.inl (by kernel_rfl)) (Or.inl rfl))) (by kernel_rfl)) (dss_cons (ds_asg (d_ix (d_var (pe_var (i := 2) rfl (Or.inl (by kernel_rfl)) (by kernel_rfl) (by kernel_rfl))) (d_fn G_law_take (hr.mono (by decide)) gs tk (gl (by kernel_rfl)) T.g_law_take F_law_take.kp (L2.FunD.bindsN F_law_take (ps := ["_law_purse_here", "_law_many"]) (fun _ _ _ _ _ _ us hl => match us, hl with | [_, _], _ => rfl)) .nil (fun _ _ => reps_nil) rfl (al_cons (al_cons (al_nil))) (da_cons (d_var (pe_var (i := 0) rfl (Or.inr (Or.inl (by kernel_rfl))) (by kernel_rfl) (by kernel_rfl))) (da_cons (d_int) (da_nil))) (by kernel_rfl)) (fun _ _ => rfl)) (dg_pt (pt_nm sc_law_refused_right.nd rfl (Or.inr (by kernel_rfl)) (Or.inl rfl))) (by kernel_rfl)) (dss_cons (ds_if (t_ne hu (d_comp (own := [("_law_door", 10)]) rfl sc_law_refused_right.nd (di_range1 (gl (by kernel_rfl)) T.b_range (d_int)) (blkOk_by (by kernel_rfl)) (by simp [slotsP, slotsPs]) (fun _ _ _ _ _ => pt_nm sc_law_refused_right.nd rfl (Or.inl (by kernel_rfl)) (Or.inr (by kernel_rfl))) (fun _ _ _ _ _ => dts_nil) (fun _ _ _ _ _ => d_fn G_law_seen (hr.mono (by decide)) gs tk0 (gl (by kernel_rfl)) T.g_law_seen F_law_seen.kp (L2.FunD.bindsN F_law_seen (ps := ["_law_thing", "_law_door"]) (fun _ _ _ _ _ _ us hl => match us, hl with | [_, _], _ => rfl)) .nil (fun _ _ => reps_nil) rfl (al_cons (al_cons (al_nil))) (da_cons (d_var (pe_var (i := 3) rfl (Or.inr (Or.inl (by kernel_rfl))) (by kernel_rfl) (by kernel_rfl))) (da_cons (d_var (pe_var (i := 10) rfl (Or.inl (by kernel_rfl)) (by kernel_rfl) (by kernel_rfl))) (da_nil))) (by kernel_rfl))) (d_lst (da_cons (d_str) (da_cons (d_str) (da_nil))))) (dss_one (ds_ret (d_bl))) (dss_nil)) (dss_cons (ds_for hp rfl (di_seqU (d_lst (da_cons (d_tup (da_cons (d_int) (da_cons (d_int) (da_nil)))) (da_cons (d_tup (da_cons (d_int) (da_cons (d_int) (da_nil)))) (da_cons (d_tup (da_cons (d_sub (d_int) (d_int)) (da_cons (d_int) (da_nil)))) (da_cons (d_tup (da_cons (d_bl) (da_cons (d_int) (da_nil)))) (da_nil))))))) (pt_nm sc_law_refused_right.nd rfl (Or.inr (by kernel_rfl)) (Or.inl rfl)) (dss_one (ds_if (t_ne hu (d_comp (own := [("_law_door", 10)]) rfl sc_law_refused_right.nd (di_range1 (gl (by kernel_rfl)) T.b_range (d_int)) (blkOk_by (by kernel_rfl)) (by simp [slotsP, slotsPs]) (fun _ _ _ _ _ => pt_nm sc_law_refused_right.nd rfl (Or.inl (by kernel_rfl)) (Or.inr (by kernel_rfl))) (fun _ _ _ _ _ => dts_nil) (fun _ _ _ _ _ => d_fn G_law_seen (hr.mono (by decide)) gs tk0 (gl (by kernel_rfl)) T.g_law_seen F_law_seen.kp (L2.FunD.bindsN F_law_seen (ps := ["_law_thing", "_law_door"]) (fun _ _ _ _ _ _ us hl => match us, hl with | [_, _], _ => rfl)) .nil (fun _ _ => reps_nil) rfl (al_cons (al_cons (al_nil))) (da_cons (d_lst (da_cons (d_tup (da_cons (d_int) (da_cons (d_int) (da_nil)))) (da_cons (d_var (pe_var (i := 4) rfl (Or.inr (Or.inl (by kernel_rfl))) (by kernel_rfl) (by kernel_rfl))) (da_nil)))) (da_cons (d_var (pe_var (i := 10) rfl (Or.inl (by kernel_rfl)) (by kernel_rfl) (by kernel_rfl))) (da_nil))) (by kernel_rfl))) (d_lst (da_cons (d_str) (da_cons (d_str) (da_nil))))) (dss_one (ds_ret (d_bl))) (dss_nil)))) (dss_cons (ds_asg (d_addM (d_var (pe_var (i := 1) rfl (Or.inl (by kernel_rfl)) (by kernel_rfl) (by kernel_rfl))) (d_lst (da_cons (d_tup (da_cons (d_int) (da_cons (d_int) (da_nil)))) (da_nil)))) (dg_pt (pt_nm sc_law_refused_right.nd rfl (Or.inr (by kernel_rfl)) (Or.inl rfl))) (by kernel_rfl)) (dss_cons (ds_setC true (i := 6) (own := [("_law_k", 9)]) rfl sc_law_refused_right.nd rfl (by kernel_rfl) (by kernel_rfl) (by kernel_rfl) (by kernel_rfl) (di_range1 (gl (by kernel_rfl)) T.b_range (d_add (d_int) (d_fn G_law_take (hr.mono (by decide)) gs tk (gl (by kernel_rfl)) T.g_law_take F_law_take.kp (L2.FunD.bindsN F_law_take (ps := ["_law_purse_here", "_law_many"]) (fun _ _ _ _ _ _ us hl => match us, hl with | [_, _], _ => rfl)) .nil (fun _ _ => reps_nil) rfl (al_cons (al_cons (al_nil))) (da_cons (d_var (pe_var (i := 0) rfl (Or.inr (Or.inl (by kernel_rfl))) (by kernel_rfl) (by kernel_rfl))) (da_cons (d_int) (da_nil))) (by kernel_rfl)))) (blkOk_by (by kernel_rfl)) (by simp [slotsP, slotsPs]) (fun _ _ _ _ _ => pt_nm sc_law_refused_right.nd rfl (Or.inl (by kernel_rfl)) (Or.inr (by kernel_rfl))) (fun _ _ _ _ _ => dts_nil) (fun _ _ _ _ _ => d_fn G_law_take (hr.mono (by decide)) gs tk0 (gl (by kernel_rfl)) T.g_law_take F_law_take.kp (L2.FunD.bindsN F_law_take (ps := ["_law_purse_here", "_law_many"]) (fun _ _ _ _ _ _ us hl => match us, hl with | [_, _], _ => rfl)) .nil (fun _ _ => reps_nil) rfl (al_cons (al_cons (al_nil))) (da_cons (d_var (pe_var (i := 0) rfl (Or.inr (Or.inl (by kernel_rfl))) (by kernel_rfl) (by kernel_rfl))) (da_cons (d_callB call_len fit_len (gl (by kernel_rfl)) T.b_len (by kernel_rfl) (da_cons (d_var (pe_var (i := 5) rfl (Or.inr (Or.inl (by kernel_rfl))) (by kernel_rfl) (by kernel_rfl))) (da_nil)) (by decide) (by kernel_rfl)) (da_nil))) (by kernel_rfl))) (dss_cons (ds_for hp rfl (di_seqU (d_var (pe_var (i := 6) rfl (Or.inl (by kernel_rfl)) (by kernel_rfl) (by kernel_rfl)))) (pt_nm sc_law_refused_right.nd rfl (Or.inl (by kernel_rfl)) (Or.inl rfl)) (dss_one (ds_asg (d_fn G_law_odd_stop (hr.mono (by decide)) gs tk (gl (by kernel_rfl)) T.g_law_odd_stop F_law_odd_stop.kp (L2.FunD.bindsN F_law_odd_stop (ps := ["_law_purse_here", "_law_stop"]) (fun _ _ _ _ _ _ us hl => match us, hl with | [_, _], _ => rfl)) .nil (fun _ _ => reps_nil) rfl (al_cons (al_cons (al_nil))) (da_cons (d_var (pe_var (i := 0) rfl (Or.inr (Or.inl (by kernel_rfl))) (by kernel_rfl) (by kernel_rfl))) (da_cons (d_tup (da_cons (d_int) (da_cons (d_int) (da_nil)))) (da_nil))) (by kernel_rfl)) (dg_set (d_var (pe_var (i := 5) rfl (Or.inr (Or.inl (by kernel_rfl))) (by kernel_rfl) (by kernel_rfl))) (d_var (pe_var (i := 7) rfl (Or.inl (by kernel_rfl)) (by kernel_rfl) (by kernel_rfl))))))) (dss_cons (ds_asg (d_fz (d_ix (d_lst (da_cons (d_var (pe_var (i := 5) rfl (Or.inr (Or.inl (by kernel_rfl))) (by kernel_rfl) (by kernel_rfl))) (da_cons (d_callT call_tuple_of fit_tuple (gl (by kernel_rfl)) T.b_tuple (by kernel_rfl) (da_cons (d_var (pe_var (i := 5) rfl (Or.inr (Or.inl (by kernel_rfl))) (by kernel_rfl) (by kernel_rfl))) (da_nil)) (by decide) (by kernel_rfl)) (da_nil)))) (d_fn G_law_take (hr.mono (by decide)) gs tk (gl (by kernel_rfl)) T.g_law_take F_law_take.kp (L2.FunD.bindsN F_law_take (ps := ["_law_purse_here", "_law_many"]) (fun _ _ _ _ _ _ us hl => match us, hl with | [_, _], _ => rfl)) .nil (fun _ _ => reps_nil) rfl (al_cons (al_cons (al_nil))) (da_cons (d_var (pe_var (i := 0) rfl (Or.inr (Or.inl (by kernel_rfl))) (by kernel_rfl) (by kernel_rfl))) (da_cons (d_int) (da_nil))) (by kernel_rfl)) (fun _ _ => rfl))) (dg_pt (pt_nm sc_law_refused_right.nd rfl (Or.inr (by kernel_rfl)) (Or.inl rfl))) (by kernel_rfl)) (dss_cons (ds_asg (d_callB (cr_repr gs hu sm) fit_repr (gl (by kernel_rfl)) T.b_repr (by kernel_rfl) (da_cons (d_var (pe_var (i := 5) rfl (Or.inr (Or.inl (by kernel_rfl))) (by kernel_rfl) (by kernel_rfl))) (da_nil)) (by decide) (by kernel_rfl)) (dg_pt (pt_nm sc_law_refused_right.nd rfl (Or.inl (by kernel_rfl)) (Or.inl rfl))) (by kernel_rfl)) (dss_one (ds_ret (d_and (d_eq hu (d_comp (own := [("_law_door", 10)]) rfl sc_law_refused_right.nd (di_range1 (gl (by kernel_rfl)) T.b_range (d_int)) (blkOk_by (by kernel_rfl)) (by simp [slotsP, slotsPs]) (fun _ _ _ _ _ => pt_nm sc_law_refused_right.nd rfl (Or.inl (by kernel_rfl)) (Or.inr (by kernel_rfl))) (fun _ _ _ _ _ => dts_nil) (fun _ _ _ _ _ => d_fn G_law_seen (hr.mono (by decide)) gs tk0 (gl (by kernel_rfl)) T.g_law_seen F_law_seen.kp (L2.FunD.bindsN F_law_seen (ps := ["_law_thing", "_law_door"]) (fun _ _ _ _ _ _ us hl => match us, hl with | [_, _], _ => rfl)) .nil (fun _ _ => reps_nil) rfl (al_cons (al_cons (al_nil))) (da_cons (d_var (pe_var (i := 5) rfl (Or.inr (Or.inl (by kernel_rfl))) (by kernel_rfl) (by kernel_rfl))) (da_cons (d_var (pe_var (i := 10) rfl (Or.inl (by kernel_rfl)) (by kernel_rfl) (by kernel_rfl))) (da_nil))) (by kernel_rfl))) (d_mul (d_lst (da_cons (d_callT (CallR.or call_str_int SkE.call_str_str) fit_str1 (gl (by kernel_rfl)) T.b_str (by kernel_rfl) (da_cons (d_callB (cr_min rfl) fit_minL (gl (by kernel_rfl)) T.b_min (by kernel_rfl) (da_cons (d_var (pe_var (i := 6) rfl (Or.inl (by kernel_rfl)) (by kernel_rfl) (by kernel_rfl))) (da_nil)) (by decide) (by kernel_rfl)) (da_nil)) (by decide) (by kernel_rfl)) (da_nil))) (d_int))) (d_one (d_eq hu (d_callB (cr_repr gs hu sm) fit_repr (gl (by kernel_rfl)) T.b_repr (by kernel_rfl) (da_cons (d_var (pe_var (i := 5) rfl (Or.inr (Or.inl (by kernel_rfl))) (by kernel_rfl) (by kernel_rfl))) (da_nil)) (by decide) (by kernel_rfl)) (d_var (pe_var (i := 8) rfl (Or.inl (by kernel_rfl)) (by kernel_rfl) (by kernel_rfl))))))))))))))))
theorem sc_law_right : FnScope ["_law_purse_here", "_law_many", "_law_calls"] ["_law_purse_here"] (defScope s_law_right) := ⟨by kernel_rfl, by kernel_rfl, by kernel_rfl, by decide +kernel, rfl, by decide +kernel, by decide +kernel⟩
def b_law_right : FS := sSeq (sAsg (e2 kIx (eLst (aCons (eFn m_law_take (aCons (eVar 0) (aCons (eC (.int 6)) (aNil))) []) (aCons (e2 kAdd (eC (.int 6)) (eFn m_law_take (aCons (eVar 0) (aCons (eC (.int 35)) (aNil))) [])) (aNil)))) (eCall kInt (aCons (e2 kEq (eFn m_law_take (aCons (eVar 0) (aCons (eC (.int 4)) (aNil))) []) (eC (.int 1))) (aNil)))) (gPt (.nm 1))) (sSeq (sAsg (eFn m_law_stops (aCons (eVar 0) (aCons (eVar 1) (aNil))) []) (gPt (.nm 2))) (sSeq (sIf (tOr2 (tNot1 (tV (eFn m_law_told_right (aCons (eVar 0) (aCons (eVar 2) (aNil))) []))) (tNot1 (tV (eFn m_law_refused_right (aCons (eVar 0) (aCons (eSlU (eVar 2) (oNone) (oSome (eC (.int 6)))) (aNil))) [])))) (sRet (eC (.bl false))) (sNil)) (sRet (eFn m_law_told_right (aCons (eVar 0) (aCons (eVar 2) (aNil))) []))))
def m_law_right : FF := run0 true b_law_right 3
theorem ok_law_right (T : Txt w K mg) (sm : SmB base) {fd : FuncData} (F : FunD K "_law_right" "_law_right" (defArgs s_law_right) (defBody s_law_right) (defScope s_law_right) [] [] (He.ga K "_law_right") fd) : FnG P w K mg base 8 (He.ga K "_law_right") fd ["_law_purse_here"] (SpD K (["_law_purse_here"] : List Str).length m_law_right) := by
  obtain ⟨fd_law_refused_right, F_law_refused_right⟩ := T.F_law_refused_right
  have G_law_refused_right := ok_law_refused_right (P := P) (w := w) (base := base) T sm F_law_refused_right
  obtain ⟨fd_law_stops, F_law_stops⟩ := T.F_law_stops
  have G_law_stops := ok_law_stops (P := P) (w := w) (base := base) T sm F_law_stops
  obtain ⟨fd_law_take, F_law_take⟩ := T.F_law_take
  have G_law_take := ok_law_take (P := P) (w := w) (base := base) T sm F_law_take
  obtain ⟨fd_law_told_right, F_law_told_right⟩ := T.F_law_told_right
  have G_law_told_right := ok_law_told_right (P := P) (w := w) (base := base) T sm F_law_told_right
  refine fn_D (b := true) F sc_law_right (fun cdv A outer s H E hr gs tk hp => ?_)
  have hu := hr.units
  have hv := room65 hr
  exact dss_cons (ds_asg (d_ix (d_lst (da_cons (d_fn G_law_take (hr.mono (by decide)) gs tk (gl (by kernel_rfl)) T.g_law_take F_law_take.kp (L2.FunD.bindsN F_law_take (ps := ["_law_purse_here", "_law_many"]) (fun _ _ _ _ _ _ us hl => match us, hl with | [_, _], _ => rfl)) .nil (fun _ _ => reps_nil) rfl (al_cons (al_cons (al_nil))) (da_cons (d_var (pe_var (i := 0) rfl (Or.inl (by kernel_rfl)) (by kernel_rfl) (by kernel_rfl))) (da_cons (d_int) (da_nil))) (by kernel_rfl)) (da_cons (d_add (d_int) (d_fn G_law_take (hr.mono (by decide)) gs tk (gl (by kernel_rfl)) T.g_law_take F_law_take.kp (L2.FunD.bindsN F_law_take (ps := ["_law_purse_here", "_law_many"]) (fun _ _ _ _ _ _ us hl => match us, hl with | [_, _], _ => rfl)) .nil (fun _ _ => reps_nil) rfl (al_cons (al_cons (al_nil))) (da_cons (d_var (pe_var (i := 0) rfl (Or.inl (by kernel_rfl)) (by kernel_rfl) (by kernel_rfl))) (da_cons (d_int) (da_nil))) (by kernel_rfl))) (da_nil)))) (d_callT call_int1 fit_int (gl (by kernel_rfl)) T.b_int (by kernel_rfl) (da_cons (d_eq hu (d_fn G_law_take (hr.mono (by decide)) gs tk (gl (by kernel_rfl)) T.g_law_take F_law_take.kp (L2.FunD.bindsN F_law_take (ps := ["_law_purse_here", "_law_many"]) (fun _ _ _ _ _ _ us hl => match us, hl with | [_, _], _ => rfl)) .nil (fun _ _ => reps_nil) rfl (al_cons (al_cons (al_nil))) (da_cons (d_var (pe_var (i := 0) rfl (Or.inl (by kernel_rfl)) (by kernel_rfl) (by kernel_rfl))) (da_cons (d_int) (da_nil))) (by kernel_rfl)) (d_int)) (da_nil)) (by decide) (by kernel_rfl)) (fun _ _ => rfl)) (dg_pt (pt_nm sc_law_right.nd rfl (Or.inl (by kernel_rfl)) (Or.inl rfl))) (by kernel_rfl)) (dss_cons (ds_asg (d_fn G_law_stops (hr.mono (by decide)) gs tk (gl (by kernel_rfl)) T.g_law_stops F_law_stops.kp (L2.FunD.bindsN F_law_stops (ps := ["_law_purse_here", "_law_many"]) (fun _ _ _ _ _ _ us hl => match us, hl with | [_, _], _ => rfl)) .nil (fun _ _ => reps_nil) rfl (al_cons (al_cons (al_nil))) (da_cons (d_var (pe_var (i := 0) rfl (Or.inl (by kernel_rfl)) (by kernel_rfl) (by kernel_rfl))) (da_cons (d_var (pe_var (i := 1) rfl (Or.inl (by kernel_rfl)) (by kernel_rfl) (by kernel_rfl))) (da_nil))) (by kernel_rfl)) (dg_pt (pt_nm sc_law_right.nd rfl (Or.inl (by kernel_rfl)) (Or.inl rfl))) (by kernel_rfl)) (dss_cons (ds_if (t_w (dw_or (t_not (t_val (d_fn G_law_told_right (hr.mono (by decide)) gs tk (gl (by kernel_rfl)) T.g_law_told_right F_law_told_right.kp (L2.FunD.bindsN F_law_told_right (ps := ["_law_purse_here", "_law_calls"]) (fun _ _ _ _ _ _ us hl => match us, hl with | [_, _], _ => rfl)) .nil (fun _ _ => reps_nil) rfl (al_cons (al_cons (al_nil))) (da_cons (d_var (pe_var (i := 0) rfl (Or.inl (by kernel_rfl)) (by kernel_rfl) (by kernel_rfl))) (da_cons (d_var (pe_var (i := 2) rfl (Or.inl (by kernel_rfl)) (by kernel_rfl) (by kernel_rfl))) (da_nil))) (by kernel_rfl)))) (dw_or1 (t_not (t_val (d_fn G_law_refused_right (hr.mono (by decide)) gs tk (gl (by kernel_rfl)) T.g_law_refused_right F_law_refused_right.kp (L2.FunD.bindsN F_law_refused_right (ps := ["_law_purse_here", "_law_calls"]) (fun _ _ _ _ _ _ us hl => match us, hl with | [_, _], _ => rfl)) .nil (fun _ _ => reps_nil) rfl (al_cons (al_cons (al_nil))) (da_cons (d_var (pe_var (i := 0) rfl (Or.inl (by kernel_rfl)) (by kernel_rfl) (by kernel_rfl))) (da_cons (d_slU (d_var (pe_var (i := 2) rfl (Or.inl (by kernel_rfl)) (by kernel_rfl) (by kernel_rfl))) (do_none) (do_some (d_int))) (da_nil))) (by kernel_rfl))))))) (dss_one (ds_ret (d_bl))) (dss_nil)) (dss_one (ds_ret (d_fn G_law_told_right (hr.mono (by decide)) gs tk (gl (by kernel_rfl)) T.g_law_told_right F_law_told_right.kp (L2.FunD.bindsN F_law_told_right (ps := ["_law_purse_here", "_law_calls"]) (fun _ _ _ _ _ _ us hl => match us, hl with | [_, _], _ => rfl)) .nil (fun _ _ => reps_nil) rfl (al_cons (al_cons (al_nil))) (da_cons (d_var (pe_var (i := 0) rfl (Or.inl (by kernel_rfl)) (by kernel_rfl) (by kernel_rfl))) (da_cons (d_var (pe_var (i := 2) rfl (Or.inl (by kernel_rfl)) (by kernel_rfl) (by kernel_rfl))) (da_nil))) (by kernel_rfl))))))
theorem sc_law_purse : FnScope ["_law_cell_here", "_law_digits"] ["_law_cell_here"] (defScope s_law_purse) := ⟨by kernel_rfl, by kernel_rfl, by kernel_rfl, by decide +kernel, rfl, by decide +kernel, by decide +kernel⟩
def b_law_purse : FS := sSeq (sAsg (eC (.int 0)) (gPt (.nm 1))) (sSeq (sIf (tOr2 (tV (e2 kLt (eVar 0) (eC (.int 0)))) (tV (e2 kGe (eVar 0) (e2 kPow (eC (.int 10)) (eC (.int 18)))))) (sAsg (eCall kAbs (aCons (eVar 0) (aNil))) (gPt (.nm 1))) (sNil)) (sRet (eLstM (aCons (e2 kMod (eVar 0) (eC (.int 2147483423))) (aCons (eVar 1) (aCons (eC (.int 0)) (aNil)))))))
def m_law_purse : FF := run0 false b_law_purse 2
theorem ok_law_purse (T : Txt w K mg) (sm : SmB base) {fd : FuncData} (F : FunD K "_law_purse" "_law_purse" (defArgs s_law_purse) (defBody s_law_purse) (defScope s_law_purse) [] [] (He.ga K "_law_purse") fd) : FnG P w K mg base 1 (He.ga K "_law_purse") fd ["_law_cell_here"] (SpD K (["_law_cell_here"] : List Str).length m_law_purse) := by
  refine fn_D (b := false) F sc_law_purse (fun cdv A outer s H E hr gs tk hp => ?_)
  have hu := hr.units
  have hv := room65 hr
  exact dss_cons (ds_asg (d_int) (dg_pt (pt_nm sc_law_purse.nd rfl (Or.inl (by kernel_rfl)) (Or.inl rfl))) (by kernel_rfl)) (dss_cons (ds_if (t_w (dw_or (t_lt hu (d_var (pe_var (i := 0) rfl (Or.inl (by kernel_rfl)) (by kernel_rfl) (by kernel_rfl))) (d_int)) (dw_or1 (t_ge hu (d_var (pe_var (i := 0) rfl (Or.inl (by kernel_rfl)) (by kernel_rfl) (by kernel_rfl))) (d_pow (d_int) (d_int)))))) (dss_one (ds_asg (d_callB call_abs fit_abs (gl (by kernel_rfl)) T.b_abs (by kernel_rfl) (da_cons (d_var (pe_var (i := 0) rfl (Or.inl (by kernel_rfl)) (by kernel_rfl) (by kernel_rfl))) (da_nil)) (by decide) (by kernel_rfl)) (dg_pt (pt_nm sc_law_purse.nd rfl (Or.inl (by kernel_rfl)) (Or.inl rfl))) (by kernel_rfl))) (dss_nil)) (dss_one (ds_ret (d_lstM (da_cons (d_mod (d_var (pe_var (i := 0) rfl (Or.inl (by kernel_rfl)) (by kernel_rfl) (by kernel_rfl))) (d_int)) (da_cons (d_var (pe_var (i := 1) rfl (Or.inl (by kernel_rfl)) (by kernel_rfl) (by kernel_rfl))) (da_cons (d_int) (da_nil))))))))
theorem sc_law_cell : FnScope ["_law_script", "_law_k"] ["_law_script", "_law_k"] (defScope s_law_cell) := ⟨by kernel_rfl, by kernel_rfl, by kernel_rfl, by decide +kernel, rfl, by decide +kernel, by decide +kernel⟩
def b_law_cell : FS := sSeq (sIf (tV (e2 kLt (eVar 1) (eCall kLen (aCons (eVar 0) (aNil))))) (sRet (e2 kIx (eVar 0) (eVar 1))) (sNil)) (sRet (e2 kAdd (e2 kAdd (e2 kMul (eCall kSum (aCons (eSlU (eVar 0) (oNone) (oSome (eC (.int 3)))) (aNil))) (eC (.int 7013))) (e2 kMul (eC (.int 120011)) (e2 kAdd (eVar 1) (eC (.int 1))))) (eC (.int 17))))
def m_law_cell : FF := run0 true b_law_cell 2
theorem ok_law_cell (T : Txt w K mg) (sm : SmB base) {fd : FuncData} (F : FunD K "_law_cell" "_law_cell" (defArgs s_law_cell) (defBody s_law_cell) (defScope s_law_cell) [] [] (He.ga K "_law_cell") fd) : FnG P w K mg base 1 (He.ga K "_law_cell") fd ["_law_script", "_law_k"] (SpD K (["_law_script", "_law_k"] : List Str).length m_law_cell) := by
  refine fn_D (b := true) F sc_law_cell (fun cdv A outer s H E hr gs tk hp => ?_)
  have hu := hr.units
  have hv := room65 hr
  exact dss_cons (ds_if (t_lt hu (d_var (pe_var (i := 1) rfl (Or.inl (by kernel_rfl)) (by kernel_rfl) (by kernel_rfl))) (d_callB call_len fit_len (gl (by kernel_rfl)) T.b_len (by kernel_rfl) (da_cons (d_var (pe_var (i := 0) rfl (Or.inl (by kernel_rfl)) (by kernel_rfl) (by kernel_rfl))) (da_nil)) (by decide) (by kernel_rfl))) (dss_one (ds_ret (d_ix (d_var (pe_var (i := 0) rfl (Or.inl (by kernel_rfl)) (by kernel_rfl) (by kernel_rfl))) (d_var (pe_var (i := 1) rfl (Or.inl (by kernel_rfl)) (by kernel_rfl) (by kernel_rfl))) (fun _ _ => rfl)))) (dss_nil)) (dss_one (ds_ret (d_add (d_add (d_mul (d_callB (cr_sum rfl) fit_sum (gl (by kernel_rfl)) T.b_sum (by kernel_rfl) (da_cons (d_slU (d_var (pe_var (i := 0) rfl (Or.inl (by kernel_rfl)) (by kernel_rfl) (by kernel_rfl))) (do_none) (do_some (d_int))) (da_nil)) (by decide) (by kernel_rfl)) (d_int)) (d_mul (d_int) (d_add (d_var (pe_var (i := 1) rfl (Or.inl (by kernel_rfl)) (by kernel_rfl) (by kernel_rfl))) (d_int)))) (d_int))))
theorem sc_law_cells : FnScope ["_law_script", "_law_few", "_law_upto", "_law_k"] ["_law_script", "_law_few", "_law_upto"] (defScope s_law_cells) := ⟨by kernel_rfl, by kernel_rfl, by kernel_rfl, by decide +kernel, rfl, by decide +kernel, by decide +kernel⟩
def b_law_cells : FS := sRet (eComp (iRange1 (eCall kMax2 (aCons (eVar 1) (aCons (eCall kMin2 (aCons (eVar 2) (aCons (eCall kLen (aCons (eVar 0) (aNil))) (aNil)))) (aNil))))) (.nm 3) (tYesD) (eFn m_law_cell (aCons (eVar 0) (aCons (eVar 3) (aNil))) []) [3])
def m_law_cells : FF := run0 true b_law_cells 4
theorem ok_law_cells (T : Txt w K mg) (sm : SmB base) {fd : FuncData} (F : FunD K "_law_cells" "_law_cells" (defArgs s_law_cells) (defBody s_law_cells) (defScope s_law_cells) [] [] (He.ga K "_law_cells") fd) : FnG P w K mg base 2 (He.ga K "_law_cells") fd ["_law_script", "_law_few", "_law_upto"] (SpD K (["_law_script", "_law_few", "_law_upto"] : List Str).length m_law_cells) := by
  obtain ⟨fd_law_cell, F_law_cell⟩ := T.F_law_cell
  have G_law_cell := ok_law_cell (P := P) (w := w) (base := base) T sm F_law_cell
  refine fn_D (b := true) F sc_law_cells (fun cdv A outer s H E hr gs tk hp => ?_)
  have hu := hr.units
  have hv := room65 hr
  exact dss_one (ds_ret (d_comp (own := [("_law_k", 3)]) rfl sc_law_cells.nd (di_range1 (gl (by kernel_rfl)) T.b_range (d_callB (call_max2 rfl) fit_max2 (gl (by kernel_rfl)) T.b_max (by kernel_rfl) (da_cons (d_var (pe_var (i := 1) rfl (Or.inl (by kernel_rfl)) (by kernel_rfl) (by kernel_rfl))) (da_cons (d_callB (call_min2 rfl) fit_min2 (gl (by kernel_rfl)) T.b_min (by kernel_rfl) (da_cons (d_var (pe_var (i := 2) rfl (Or.inl (by kernel_rfl)) (by kernel_rfl) (by kernel_rfl))) (da_cons (d_callB call_len fit_len (gl (by kernel_rfl)) T.b_len (by kernel_rfl) (da_cons (d_var (pe_var (i := 0) rfl (Or.inr (Or.inl (by kernel_rfl))) (by kernel_rfl) (by kernel_rfl))) (da_nil)) (by decide) (by kernel_rfl)) (da_nil))) (by decide) (by kernel_rfl)) (da_nil))) (by decide) (by kernel_rfl))) (blkOk_by (by kernel_rfl)) (by simp [slotsP, slotsPs]) (fun _ _ _ _ _ => pt_nm sc_law_cells.nd rfl (Or.inl (by kernel_rfl)) (Or.inr (by kernel_rfl))) (fun _ _ _ _ _ => dts_nil) (fun _ _ _ _ _ => d_fn G_law_cell (hr.mono (by decide)) gs tk0 (gl (by kernel_rfl)) T.g_law_cell F_law_cell.kp (L2.FunD.bindsN F_law_cell (ps := ["_law_script", "_law_k"]) (fun _ _ _ _ _ _ us hl => match us, hl with | [_, _], _ => rfl)) .nil (fun _ _ => reps_nil) rfl (al_cons (al_cons (al_nil))) (da_cons (d_var (pe_var (i := 0) rfl (Or.inr (Or.inl (by kernel_rfl))) (by kernel_rfl) (by kernel_rfl))) (da_cons (d_var (pe_var (i := 3) rfl (Or.inl (by kernel_rfl)) (by kernel_rfl) (by kernel_rfl))) (da_nil))) (by kernel_rfl))))
theorem sc_law : FnScope ["_law_script", "_law_cell_here"] ["_law_script"] (defScope s_law) := ⟨by kernel_rfl, by kernel_rfl, by kernel_rfl, by decide +kernel, rfl, by decide +kernel, by decide +kernel⟩
def b_law : FS := sRet (eCall kAll (aCons (eComp (iSeqU (eFn m_law_cells (aCons (eVar 0) (aCons (eC (.int 3)) (aCons (eC (.int 6)) (aNil)))) [])) (.nm 1) (tYesD) (eFn m_law_right (aCons (eFn m_law_purse (aCons (eVar 1) (aNil)) []) (aNil)) []) [1]) (aNil)))
def m_law : FF := run0 true b_law 2
theorem ok_law (T : Txt w K mg) (sm : SmB base) {fd : FuncData} (F : FunD K "law" "law" (defArgs s_law) (defBody s_law) (defScope s_law) [] [] (He.ga K "law") fd) : FnG P w K mg base 9 (He.ga K "law") fd ["_law_script"] (SpD K (["_law_script"] : List Str).length m_law) := by
  obtain ⟨fd_law_cells, F_law_cells⟩ := T.F_law_cells
  have G_law_cells := ok_law_cells (P := P) (w := w) (base := base) T sm F_law_cells
  obtain ⟨fd_law_purse, F_law_purse⟩ := T.F_law_purse
  have G_law_purse := ok_law_purse (P := P) (w := w) (base := base) T sm F_law_purse
  obtain ⟨fd_law_right, F_law_right⟩ := T.F_law_right
  have G_law_right := ok_law_right (P := P) (w := w) (base := base) T sm F_law_right
  refine fn_D (b := true) F sc_law (fun cdv A outer s H E hr gs tk hp => ?_)
  have hu := hr.units
  have hv := room65 hr
  exact dss_one (ds_ret (d_callB (cr_all rfl) fit_all (gl (by kernel_rfl)) T.b_all (by kernel_rfl) (da_cons (d_comp (own := [("_law_cell_here", 1)]) rfl sc_law.nd (di_seqU (d_fn G_law_cells (hr.mono (by decide)) gs tk (gl (by kernel_rfl)) T.g_law_cells F_law_cells.kp (L2.FunD.bindsN F_law_cells (ps := ["_law_script", "_law_few", "_law_upto"]) (fun _ _ _ _ _ _ us hl => match us, hl with | [_, _, _], _ => rfl)) .nil (fun _ _ => reps_nil) rfl (al_cons (al_cons (al_cons (al_nil)))) (da_cons (d_var (pe_var (i := 0) rfl (Or.inl (by kernel_rfl)) (by kernel_rfl) (by kernel_rfl))) (da_cons (d_int) (da_cons (d_int) (da_nil)))) (by kernel_rfl))) (blkOk_by (by kernel_rfl)) (by simp [slotsP, slotsPs]) (fun _ _ _ _ _ => pt_nm sc_law.nd rfl (Or.inl (by kernel_rfl)) (Or.inr (by kernel_rfl))) (fun _ _ _ _ _ => dts_nil) (fun _ _ _ _ _ => d_fn G_law_right (hr.mono (by decide)) gs tk0 (gl (by kernel_rfl)) T.g_law_right F_law_right.kp (L2.FunD.bindsN F_law_right (ps := ["_law_purse_here"]) (fun _ _ _ _ _ _ us hl => match us, hl with | [_], _ => rfl)) .nil (fun _ _ => reps_nil) rfl (al_cons (al_nil)) (da_cons (d_fn G_law_purse (hr.mono (by decide)) gs tk0 (gl (by kernel_rfl)) T.g_law_purse F_law_purse.kp (L2.FunD.bindsN F_law_purse (ps := ["_law_cell_here"]) (fun _ _ _ _ _ _ us hl => match us, hl with | [_], _ => rfl)) .nil (fun _ _ => reps_nil) rfl (al_cons (al_nil)) (da_cons (d_var (pe_var (i := 1) rfl (Or.inl (by kernel_rfl)) (by kernel_rfl) (by kernel_rfl))) (da_nil)) (by kernel_rfl)) (da_nil)) (by kernel_rfl))) (da_nil)) (by decide) (by kernel_rfl)))
end
end K38

namespace K38
open PySem L2 Qd

def Pu (S : Sto) (k : Nat) : Prop := ∃ a b c : Int, S.m[k]? = some (some (.lst [.int a, .int b, .int c]))
/-- of what stood, only the purse is changed -/
structure Fr (S S' : Sto) (k : Nat) : Prop where
  len : S.m.length ≤ S'.m.length
  at_ : ∀ j, j < S.m.length → j ≠ k → S'.m[j]? = S.m[j]?
  pu : Pu S' k
theorem Fr.refl {S : Sto} {k : Nat} (h : Pu S k) : Fr S S k := ⟨Nat.le_refl _, fun _ _ _ => rfl, h⟩
theorem Fr.trans {S S' S'' : Sto} {k : Nat} (h : Fr S S' k) (h' : Fr S' S'' k) : Fr S S'' k := ⟨Nat.le_trans h.len h'.len, fun j l e => (h'.at_ j (Nat.lt_of_lt_of_le l h.len) e).trans (h.at_ j l e), h'.pu⟩
theorem Pu.lt {S : Sto} {k : Nat} (h : Pu S k) : k < S.m.length := by
  obtain ⟨a, b, c, e⟩ := h
  exact (List.getElem?_eq_some_iff.mp e).1
theorem Pu.put {S : Sto} {k : Nat} (h : Pu S k) (a b c : Int) : Fr S (S.put k (.lst [.int a, .int b, .int c])) k :=
  ⟨by simp [put_m], fun j l e => by rw [put_m, List.getElem?_set_ne (Ne.symm e)], ⟨a, b, c, by rw [put_m, List.getElem?_set_self h.lt]⟩⟩
theorem Fr.back {S S' : Sto} {k : Nat} (h : Fr S S' k) (hk : k < S.m.length) : Fr S (S'.back S.m.length) k := by
  have e : ∀ j, j < S.m.length → (S'.back S.m.length).m[j]? = S'.m[j]? := fun j l => by rw [back_m, List.getElem?_take_of_lt l]
  refine ⟨by rw [back_m, List.length_take]; have := h.len; omega, fun j l q => by rw [e j l]; exact h.at_ j l q, ?_⟩
  obtain ⟨a, b, c, z⟩ := h.pu
  exact ⟨a, b, c, by rw [e k hk]; exact z⟩
theorem Fr.push {S S' : Sto} {k : Nat} (h : Fr S S' k) (d : D) : Fr S (S'.push d) k := by
  have e : ∀ j, j < S'.m.length → (S'.push d).m[j]? = S'.m[j]? := fun j l => by
    rw [push_m, List.append_assoc, List.getElem?_append_left l]
  refine ⟨by rw [push_m]; simp; have := h.len; omega, fun j l q => by rw [e j (Nat.lt_of_lt_of_le l h.len)]; exact h.at_ j l q, ?_⟩
  obtain ⟨a, b, c, z⟩ := h.pu
  exact ⟨a, b, c, by rw [e k h.pu.lt]; exact z⟩
theorem push_at {S : Sto} {d : D} : (S.push d).m[S.next]? = some (some d) := by
  have : S.next = (S.m ++ List.replicate S.g none).length := by simp [Sto.next]
  rw [push_m, this, List.getElem?_append_right (Nat.le_refl _)]; simp
theorem push_old {S : Sto} {d : D} {j : Nat} (l : j < S.m.length) : (S.push d).m[j]? = S.m[j]? := by
  rw [push_m, List.append_assoc, List.getElem?_append_left l]
theorem Fr.putO {S S' : Sto} {k j : Nat} (h : Fr S S' k) (hj : S.m.length ≤ j) (hk : k < S.m.length) (d : D) : Fr S (S'.put j d) k := by
  have e : ∀ i, i ≠ j → (S'.put j d).m[i]? = S'.m[i]? := fun i q => by rw [put_m, List.getElem?_set_ne (Ne.symm q)]
  refine ⟨by rw [put_m, List.length_set]; exact h.len, fun i l q => by rw [e i (by omega)]; exact h.at_ i l q, ?_⟩
  obtain ⟨a, b, c, z⟩ := h.pu
  exact ⟨a, b, c, by rw [e k (by omega)]; exact z⟩
theorem Fr.dropO {S S' : Sto} {k j : Nat} (h : Fr S S' k) (hj : S.m.length ≤ j) (hk : k < S.m.length) : Fr S (S'.drop j) k := by
  have e : ∀ i, i ≠ j → (S'.drop j).m[i]? = S'.m[i]? := fun i q => by rw [drop_m, List.getElem?_set_ne (Ne.symm q)]
  refine ⟨by rw [drop_m, List.length_set]; exact h.len, fun i l q => by rw [e i (by omega)]; exact h.at_ i l q, ?_⟩
  obtain ⟨a, b, c, z⟩ := h.pu
  exact ⟨a, b, c, by rw [e k (by omega)]; exact z⟩
theorem Fr.keep {S S' : Sto} {k j : Nat} {d : D} (h : Fr S S' k) (hj : S.m[j]? = some (some d)) (hk : j ≠ k) : S'.m[j]? = some (some d) := by
  rw [h.at_ j (List.getElem?_eq_some_iff.mp hj).1 hk]; exact hj
theorem mulOk_r {i j : Int} (h : -1000000000000000000 < j) (h2 : j < 1000000000000000000) : mulOk i j = true := by
  unfold mulOk
  simp only [Bool.or_eq_true, Bool.and_eq_true, decide_eq_true_eq]
  right
  constructor <;> omega
theorem mulOk_l {i j : Int} (h : -1000000000000000000 < i) (h2 : i < 1000000000000000000) : mulOk i j = true := by
  unfold mulOk
  simp only [Bool.or_eq_true, Bool.and_eq_true, decide_eq_true_eq]
  left
  constructor <;> omega
theorem take_W {S : Sto} {k : Nat} {n : Int} {Q : D → Sto → Prop} (h : Pu S k) (hn : 0 < n) (hn2 : n < 1073741824) (q : ∀ r S', 0 ≤ r → r < n → Fr S S' k → Q (.int r) S') : W (m_law_take [.obj k, .int n] S) Q := by
  have hl := h.lt
  obtain ⟨a, b, c, e⟩ := id h
  unfold m_law_take
  rw [W_run]
  unfold b_law_take
  simp only [W_fz, W_ixO, ixN_30, ixN_31, ixN_32, W_seq, W_asg, W_expr, W_ret, W_sif, W_par, W_never, W_nil, W_c, W_e2, W_call, W_anil, W_acons, W_tup, W_lst, W_lstM, W_tV, W_and, W_or, W_not, W_bAnd, W_bOr, W_bNot, W_eif, W_isN, W_notN, W_fn, W_fnK, W_pt, W_for, W_iseq, W_ienum, W_izip, W_comp, W_compG, W_compM, W_kI, W_yes, W_addI, W_addL, W_addT, W_mulI, W_ltI, W_ixL, W_ixT, W_ixS, atI_0, atI_1, atI_2, atI_3, atI_4, W_len_L, W_len_T, W_len_S, W_sum, W_all, W_any, W_min2, W_max2, W_abs, W_intI, W_intB, W_tupT, W_tupL, W_listT, W_listL, W_sl, W_oN, W_oS, W_slT, W_slL, W_slS, W_r1, W_app, W_set, W_gm, W_g0, W_g1, W_isiI, W_isiT, W_isiL, W_e3, Ws_nx, Ws_rt, W_ok, true_and, and_true, if_true, if_false, List.append_nil, frOf, bindP, bindPs, List.map_cons, List.map_nil, decide_eq_true_eq, Bool.false_eq_true, Bool.not_true, Bool.not_false, Bool.and_eq_true, W_var, List.getElem?_cons_zero, List.getElem?_cons_succ, List.set_cons_zero, List.set_cons_succ, rho0, List.length_cons, List.length_nil, List.replicate_succ, List.replicate_zero, List.cons_append, List.nil_append, List.append_eq, Nat.reduceAdd, Nat.reduceSub, wipeD, List.map_cons, List.map_nil, e, put_m, List.getElem?_set_self hl, List.length_set, List.set_set]
  have p1 := Int.emod_nonneg a (show (45013 : Int) ≠ 0 by decide)
  have p2 := Int.emod_lt_of_pos a (show (0 : Int) < 45013 by decide)
  refine ⟨by decide, mulOk_r (by omega) (by omega), mulOk_l (by decide) (by decide), by decide, ?_⟩
  split
  · refine ⟨hn, ⟨hn, hn2⟩, q _ _ (Int.emod_nonneg _ (by omega)) (Int.emod_lt_of_pos _ hn) (Fr.back ?_ hl)⟩
    exact ((h.put _ _ _).trans ((h.put _ _ _).pu.put _ _ _)).trans (((h.put _ _ _).trans ((h.put _ _ _).pu.put _ _ _)).pu.put _ _ _)
  · refine ⟨⟨by decide, by decide⟩, hn, q _ _ (Int.emod_nonneg _ (by omega)) (Int.emod_lt_of_pos _ hn) (Fr.back ?_ hl)⟩
    exact (h.put _ _ _).trans ((h.put _ _ _).pu.put _ _ _)
theorem purse_W {S : Sto} {v : Int} {Q : D → Sto → Prop} (q : ∀ S', S.m.length ≤ S'.m.length → (∀ j, j < S.m.length → S'.m[j]? = S.m[j]?) → Pu S' S.next → Q (.obj S.next) S') : W (m_law_purse [.int v] S) Q := by
  unfold m_law_purse
  rw [W_run]
  unfold b_law_purse
  simp only [W_fz, W_ixO, ixN_30, ixN_31, ixN_32, W_seq, W_asg, W_expr, W_ret, W_sif, W_par, W_never, W_nil, W_c, W_e2, W_call, W_anil, W_acons, W_tup, W_lst, W_lstM, W_tV, W_and, W_or, W_not, W_bAnd, W_bOr, W_bNot, W_eif, W_isN, W_notN, W_fn, W_fnK, W_pt, W_for, W_iseq, W_ienum, W_izip, W_comp, W_compG, W_compM, W_kI, W_yes, W_addI, W_addL, W_addT, W_mulI, W_ltI, W_ixL, W_ixT, W_ixS, atI_0, atI_1, atI_2, atI_3, atI_4, W_len_L, W_len_T, W_len_S, W_sum, W_all, W_any, W_min2, W_max2, W_abs, W_intI, W_intB, W_tupT, W_tupL, W_listT, W_listL, W_sl, W_oN, W_oS, W_slT, W_slL, W_slS, W_r1, W_app, W_set, W_gm, W_g0, W_g1, W_isiI, W_isiT, W_isiL, W_e3, Ws_nx, Ws_rt, W_ok, true_and, and_true, if_true, if_false, List.append_nil, frOf, bindP, bindPs, List.map_cons, List.map_nil, decide_eq_true_eq, Bool.false_eq_true, Bool.not_true, Bool.not_false, Bool.and_eq_true, W_var, List.getElem?_cons_zero, List.getElem?_cons_succ, List.set_cons_zero, List.set_cons_succ, rho0, List.length_cons, List.length_nil, List.replicate_succ, List.replicate_zero, List.cons_append, List.nil_append, List.append_eq, Nat.reduceAdd, Nat.reduceSub, wipeD, List.map_cons, List.map_nil]
  have fin : ∀ a b c : Int, Q (.obj S.next) (S.push (.lst [.int a, .int b, .int c])) := fun a b c =>
    q _ (by rw [push_m]; simp) (fun j l => push_old l) ⟨a, b, c, push_at⟩
  split
  · exact ⟨by decide, by decide, fin _ _ _⟩
  · refine ⟨⟨⟨by decide, by decide⟩, by decide⟩, ?_⟩
    split
    · exact ⟨by decide, by decide, fin _ _ _⟩
    · exact ⟨by decide, by decide, fin _ _ _⟩
theorem cell_W {S : Sto} {ns : List Int} {k : Int} {Q : D → Sto → Prop} (hk : 0 ≤ k) (hk2 : k < 1000) (q : ∀ v, Q (.int v) S) : W (m_law_cell [.scr (ns.map .int), .int k] S) Q := by
  unfold m_law_cell
  rw [W_run]
  unfold b_law_cell
  obtain ⟨ms, hm⟩ := cut_int ns none (some 3)
  simp only [W_fz, W_ixO, ixN_30, ixN_31, ixN_32, W_seq, W_asg, W_expr, W_ret, W_sif, W_par, W_never, W_nil, W_c, W_e2, W_call, W_anil, W_acons, W_tup, W_lst, W_lstM, W_tV, W_and, W_or, W_not, W_bAnd, W_bOr, W_bNot, W_eif, W_isN, W_notN, W_fn, W_fnK, W_pt, W_for, W_iseq, W_ienum, W_izip, W_comp, W_compG, W_compM, W_kI, W_yes, W_addI, W_addL, W_addT, W_mulI, W_ltI, W_ixL, W_ixT, W_ixS, atI_0, atI_1, atI_2, atI_3, atI_4, W_len_L, W_len_T, W_len_S, W_sum, W_all, W_any, W_min2, W_max2, W_abs, W_intI, W_intB, W_tupT, W_tupL, W_listT, W_listL, W_sl, W_oN, W_oS, W_slT, W_slL, W_slS, W_r1, W_app, W_set, W_gm, W_g0, W_g1, W_isiI, W_isiT, W_isiL, W_e3, Ws_nx, Ws_rt, W_ok, true_and, and_true, if_true, if_false, List.append_nil, frOf_l, frOf_t, frOf_s, kn_t, kn_i, kn_b, kn_l, kn_s, kn_d, isa_tt, isa_ii, isa_ib, isa_ll, isa_lt, isa_tl, W_isiL2, W_isiT2, W_allT, W_sumI, W_allM, W_sumM, cut2, W_ltT2, W_neI, W_eqI, bindP, bindPs, List.map_cons, List.map_nil, decide_eq_true_eq, Bool.false_eq_true, Bool.not_true, Bool.not_false, Bool.and_eq_true, W_var, List.getElem?_cons_zero, List.getElem?_cons_succ, List.set_cons_zero, List.set_cons_succ, rho0, List.length_cons, List.length_nil, List.replicate_succ, List.replicate_zero, List.cons_append, List.nil_append, List.append_eq, Nat.reduceAdd, Nat.reduceSub, wipeD, List.map_cons, List.map_nil, W_slU, W_iseqU, W_zipS, W_gget1, W_dC, W_inT, W_inD, W_ginT, W_upper, W_eqT0, W_len_U, back_same, hm]
  split
  · rename_i h
    obtain ⟨x, _, e⟩ := pick (f := D.int) hk (show k < ns.length by simpa using h)
    rw [e]
    exact q _
  · exact ⟨mulOk_r (by decide) (by decide), mulOk_l (by decide) (by decide), q _⟩

/-! ### what is sent -/
end K38


namespace K38
open PySem L2 Qd

mutual
/-- plain data, its texts short -/
def okD : D → Bool
  | .tup ds => okDs ds
  | .lst ds => okDs ds
  | .non => true
  | .bl _ => true
  | .int _ => true
  | .str w => decide (w.length ≤ 40)
  | .dk _ _ => true
  | _ => false
def okDs : List D → Bool
  | [] => true
  | d :: ds => okD d && okDs ds
end
theorem okDs_iff {ds : List D} : okDs ds = true ↔ ∀ d ∈ ds, okD d = true := by
  induction ds with
  | nil => simp [okDs]
  | cons d ds ih => simp [okDs, ih]
mutual
theorem ok_dt : ∀ d : D, okD d = true → dtD d = true
  | .tup ds, q => by
    simp only [okD] at q
    simp only [dtD]
    exact oks_dt ds q
  | .non, _ => rfl
  | .bl _, _ => rfl
  | .int _, _ => rfl
  | .str w, q => rfl
  | .lst _, _ => rfl
  | .dk _ _, _ => rfl
  | .scr _, q => by cases q
  | .dt _ _, q => by cases q
  | .ins _ _ _, q => by cases q
  | .obj _, q => by cases q
  | .glo _, q => by cases q
  | .ty _, q => by cases q
theorem oks_dt : ∀ ds : List D, okDs ds = true → dtDs ds = true
  | [], _ => rfl
  | d :: ds, q => by
    simp only [okDs, Bool.and_eq_true] at q
    simp only [dtDs, Bool.and_eq_true]
    exact ⟨ok_dt d q.1, oks_dt ds q.2⟩
end
theorem ok_tup {ds : List D} : okD (.tup ds) = true ↔ ∀ d ∈ ds, okD d = true := by
  simp only [okD, okDs_iff]
theorem ok_lst {ds : List D} : okD (.lst ds) = true ↔ ∀ d ∈ ds, okD d = true := by
  simp only [okD, okDs_iff]
theorem ok_str {w : Str} (h : okD (.str w) = true) : w.length ≤ line := by
  simp only [okD, decide_eq_true_eq] at h
  unfold line; omega
section
variable {S : Sto} {Q : D → Sto → Prop}
theorem whole_D {d : D} (h : dtD d = true) : m_is_whole [d] S = .ok (.bl (isInt d)) S := of_W (by
  unfold m_is_whole
  rw [W_run]
  unfold b_is_whole
  simp only [W_fz, W_ixO, ixN_30, ixN_31, ixN_32, W_seq, W_asg, W_expr, W_ret, W_sif, W_par, W_never, W_nil, W_c, W_e2, W_call, W_anil, W_acons, W_tup, W_lst, W_lstM, W_tV, W_and, W_or, W_not, W_bAnd, W_bOr, W_bNot, W_eif, W_isN, W_notN, W_fn, W_fnK, W_pt, W_for, W_iseq, W_ienum, W_izip, W_comp, W_compG, W_compM, W_kI, W_yes, W_addI, W_addL, W_addT, W_mulI, W_ltI, W_ixL, W_ixT, W_ixS, atI_0, atI_1, atI_2, atI_3, atI_4, W_len_L, W_len_T, W_len_S, W_sum, W_all, W_any, W_min2, W_max2, W_abs, W_intI, W_intB, W_tupT, W_tupL, W_listT, W_listL, W_sl, W_oN, W_oS, W_slT, W_slL, W_slS, W_r1, W_app, W_set, W_gm, W_g0, W_g1, W_isiI, W_isiT, W_isiL, W_e3, Ws_nx, Ws_rt, W_ok, true_and, and_true, if_true, if_false, List.append_nil, frOf_l, frOf_t, frOf_s, kn_t, kn_i, kn_b, kn_l, kn_s, kn_d, isa_tt, isa_ii, isa_ib, isa_ll, isa_lt, isa_tl, W_isiL2, W_isiT2, W_allT, W_sumI, W_allM, W_sumM, cut2, W_ltT2, W_neI, W_eqI, bindP, bindPs, List.map_cons, List.map_nil, decide_eq_true_eq, Bool.false_eq_true, Bool.not_true, Bool.not_false, Bool.and_eq_true, W_var, List.getElem?_cons_zero, List.getElem?_cons_succ, List.set_cons_zero, List.set_cons_succ, rho0, List.length_cons, List.length_nil, List.replicate_succ, List.replicate_zero, List.cons_append, List.nil_append, List.append_eq, Nat.reduceAdd, Nat.reduceSub, wipeD, List.map_cons, List.map_nil, W_slU, W_iseqU, W_zipS, W_gget1, W_dC, W_inT, W_inD, W_ginT, W_upper, W_eqT0, W_len_U, W_aug, W_addSI, W_subSI, W_listR1, W_fldX, W_isiD h, back_same]
  rw [← isa_int h]
  cases isaB (tyS d) "int" <;> simp)
theorem within_D {d : D} {lo hi : Int} (h : dtD d = true) : m_is_within [d, .int lo, .int hi] S = .ok (.bl (inB d lo hi)) S := of_W (by
  unfold m_is_within
  rw [W_run]
  unfold b_is_within
  simp only [W_fz, W_ixO, ixN_30, ixN_31, ixN_32, W_seq, W_asg, W_expr, W_ret, W_sif, W_par, W_never, W_nil, W_c, W_e2, W_call, W_anil, W_acons, W_tup, W_lst, W_lstM, W_tV, W_and, W_or, W_not, W_bAnd, W_bOr, W_bNot, W_eif, W_isN, W_notN, W_fn, W_fnK, W_pt, W_for, W_iseq, W_ienum, W_izip, W_comp, W_compG, W_compM, W_kI, W_yes, W_addI, W_addL, W_addT, W_mulI, W_ltI, W_ixL, W_ixT, W_ixS, atI_0, atI_1, atI_2, atI_3, atI_4, W_len_L, W_len_T, W_len_S, W_sum, W_all, W_any, W_min2, W_max2, W_abs, W_intI, W_intB, W_tupT, W_tupL, W_listT, W_listL, W_sl, W_oN, W_oS, W_slT, W_slL, W_slS, W_r1, W_app, W_set, W_gm, W_g0, W_g1, W_isiI, W_isiT, W_isiL, W_e3, Ws_nx, Ws_rt, W_ok, true_and, and_true, if_true, if_false, List.append_nil, frOf_l, frOf_t, frOf_s, kn_t, kn_i, kn_b, kn_l, kn_s, kn_d, isa_tt, isa_ii, isa_ib, isa_ll, isa_lt, isa_tl, W_isiL2, W_isiT2, W_allT, W_sumI, W_allM, W_sumM, cut2, W_ltT2, W_neI, W_eqI, bindP, bindPs, List.map_cons, List.map_nil, decide_eq_true_eq, Bool.false_eq_true, Bool.not_true, Bool.not_false, Bool.and_eq_true, W_var, List.getElem?_cons_zero, List.getElem?_cons_succ, List.set_cons_zero, List.set_cons_succ, rho0, List.length_cons, List.length_nil, List.replicate_succ, List.replicate_zero, List.cons_append, List.nil_append, List.append_eq, Nat.reduceAdd, Nat.reduceSub, wipeD, List.map_cons, List.map_nil, W_slU, W_iseqU, W_zipS, W_gget1, W_dC, W_inT, W_inD, W_ginT, W_upper, W_eqT0, W_len_U, W_aug, W_addSI, W_subSI, W_listR1, W_fldX, whole_D h, back_same]
  cases d with
  | int i =>
    simp only [isInt, inB, if_true, W_fz, W_ixO, ixN_30, ixN_31, ixN_32, W_seq, W_asg, W_expr, W_ret, W_sif, W_par, W_never, W_nil, W_c, W_e2, W_call, W_anil, W_acons, W_tup, W_lst, W_lstM, W_tV, W_and, W_or, W_not, W_bAnd, W_bOr, W_bNot, W_eif, W_isN, W_notN, W_fn, W_fnK, W_pt, W_for, W_iseq, W_ienum, W_izip, W_comp, W_compG, W_compM, W_kI, W_yes, W_addI, W_addL, W_addT, W_mulI, W_ltI, W_ixL, W_ixT, W_ixS, atI_0, atI_1, atI_2, atI_3, atI_4, W_len_L, W_len_T, W_len_S, W_sum, W_all, W_any, W_min2, W_max2, W_abs, W_intI, W_intB, W_tupT, W_tupL, W_listT, W_listL, W_sl, W_oN, W_oS, W_slT, W_slL, W_slS, W_r1, W_app, W_set, W_gm, W_g0, W_g1, W_isiI, W_isiT, W_isiL, W_e3, Ws_nx, Ws_rt, W_ok, true_and, and_true, if_true, if_false, List.append_nil, frOf_l, frOf_t, frOf_s, kn_t, kn_i, kn_b, kn_l, kn_s, kn_d, isa_tt, isa_ii, isa_ib, isa_ll, isa_lt, isa_tl, W_isiL2, W_isiT2, W_allT, W_sumI, W_allM, W_sumM, cut2, W_ltT2, W_neI, W_eqI, bindP, bindPs, List.map_cons, List.map_nil, decide_eq_true_eq, Bool.false_eq_true, Bool.not_true, Bool.not_false, Bool.and_eq_true, W_var, List.getElem?_cons_zero, List.getElem?_cons_succ, List.set_cons_zero, List.set_cons_succ, rho0, List.length_cons, List.length_nil, List.replicate_succ, List.replicate_zero, List.cons_append, List.nil_append, List.append_eq, Nat.reduceAdd, Nat.reduceSub, wipeD, List.map_cons, List.map_nil, W_slU, W_iseqU, W_zipS, W_gget1, W_dC, W_inT, W_inD, W_ginT, W_upper, W_eqT0, W_len_U, W_aug, W_addSI, W_subSI, W_listR1, W_fldX]
    cases z : decide (lo ≤ i) <;> simp [z, back_same]
  | _ => simp [isInt, inB, back_same])
/-- a stop -/
def stopB (d : D) : Bool := match d with
  | .tup [a, b] => inB a 0 999 && inB b 0 999
  | _ => false
def isLT (d : D) : Bool := match d with
  | .tup _ => true
  | .lst _ => true
  | _ => false
theorem W_isiLT {d : D} (h : dtD d = true) : W (kIsi [d, .tup [.ty "list", .ty "tuple"]] S) Q = Q (.bl (isLT d)) S := by
  show W (match (D.tup [.ty "list", .ty "tuple"]), tyOf S d with
    | .ty T, some a => chk (knownTy T) (.ok (.bl (isaB a T)) S)
    | .tup cs, some a => (match tysD cs with
      | some Ts => chk (Ts.all knownTy) (.ok (.bl (Ts.any (isaB a))) S)
      | none => .no)
    | _, _ => .no) Q = _
  rw [ty_dt h]
  show W (chk _ _) Q = _
  rw [W_chk]
  have e : (["list", "tuple"] : List String).any (isaB (tyS d)) = isLT d := by
    cases d <;> first
      | (simp only [tyS, isLT]; decide)
      | (simp [dtD] at h)
  rw [e]
  simp [W]
  intro _ ; decide
theorem stop_D {d : D} (h : dtD d = true) : m_is_stop [d] S = .ok (.bl (stopB d)) S := of_W (by
  unfold m_is_stop
  rw [W_run]
  unfold b_is_stop
  simp only [W_fz, W_ixO, ixN_30, ixN_31, ixN_32, W_seq, W_asg, W_expr, W_ret, W_sif, W_par, W_never, W_nil, W_c, W_e2, W_call, W_anil, W_acons, W_tup, W_lst, W_lstM, W_tV, W_and, W_or, W_not, W_bAnd, W_bOr, W_bNot, W_eif, W_isN, W_notN, W_fn, W_fnK, W_pt, W_for, W_iseq, W_ienum, W_izip, W_comp, W_compG, W_compM, W_kI, W_yes, W_addI, W_addL, W_addT, W_mulI, W_ltI, W_ixL, W_ixT, W_ixS, atI_0, atI_1, atI_2, atI_3, atI_4, W_len_L, W_len_T, W_len_S, W_sum, W_all, W_any, W_min2, W_max2, W_abs, W_intI, W_intB, W_tupT, W_tupL, W_listT, W_listL, W_sl, W_oN, W_oS, W_slT, W_slL, W_slS, W_r1, W_app, W_set, W_gm, W_g0, W_g1, W_isiI, W_isiT, W_isiL, W_e3, Ws_nx, Ws_rt, W_ok, true_and, and_true, if_true, if_false, List.append_nil, frOf_l, frOf_t, frOf_s, kn_t, kn_i, kn_b, kn_l, kn_s, kn_d, isa_tt, isa_ii, isa_ib, isa_ll, isa_lt, isa_tl, W_isiL2, W_isiT2, W_allT, W_sumI, W_allM, W_sumM, cut2, W_ltT2, W_neI, W_eqI, bindP, bindPs, List.map_cons, List.map_nil, decide_eq_true_eq, Bool.false_eq_true, Bool.not_true, Bool.not_false, Bool.and_eq_true, W_var, List.getElem?_cons_zero, List.getElem?_cons_succ, List.set_cons_zero, List.set_cons_succ, rho0, List.length_cons, List.length_nil, List.replicate_succ, List.replicate_zero, List.cons_append, List.nil_append, List.append_eq, Nat.reduceAdd, Nat.reduceSub, wipeD, List.map_cons, List.map_nil, W_slU, W_iseqU, W_zipS, W_gget1, W_dC, W_inT, W_inD, W_ginT, W_upper, W_eqT0, W_len_U, W_aug, W_addSI, W_subSI, W_listR1, W_fldX, W_isiD h, isa_tup h]
  cases d with
  | tup ds =>
    simp only [isTup, W_fz, W_ixO, ixN_30, ixN_31, ixN_32, W_seq, W_asg, W_expr, W_ret, W_sif, W_par, W_never, W_nil, W_c, W_e2, W_call, W_anil, W_acons, W_tup, W_lst, W_lstM, W_tV, W_and, W_or, W_not, W_bAnd, W_bOr, W_bNot, W_eif, W_isN, W_notN, W_fn, W_fnK, W_pt, W_for, W_iseq, W_ienum, W_izip, W_comp, W_compG, W_compM, W_kI, W_yes, W_addI, W_addL, W_addT, W_mulI, W_ltI, W_ixL, W_ixT, W_ixS, atI_0, atI_1, atI_2, atI_3, atI_4, W_len_L, W_len_T, W_len_S, W_sum, W_all, W_any, W_min2, W_max2, W_abs, W_intI, W_intB, W_tupT, W_tupL, W_listT, W_listL, W_sl, W_oN, W_oS, W_slT, W_slL, W_slS, W_r1, W_app, W_set, W_gm, W_g0, W_g1, W_isiI, W_isiT, W_isiL, W_e3, Ws_nx, Ws_rt, W_ok, true_and, and_true, if_true, if_false, List.append_nil, frOf_l, frOf_t, frOf_s, kn_t, kn_i, kn_b, kn_l, kn_s, kn_d, isa_tt, isa_ii, isa_ib, isa_ll, isa_lt, isa_tl, W_isiL2, W_isiT2, W_allT, W_sumI, W_allM, W_sumM, cut2, W_ltT2, W_neI, W_eqI, bindP, bindPs, List.map_cons, List.map_nil, decide_eq_true_eq, Bool.false_eq_true, Bool.not_true, Bool.not_false, Bool.and_eq_true, W_var, List.getElem?_cons_zero, List.getElem?_cons_succ, List.set_cons_zero, List.set_cons_succ, rho0, List.length_cons, List.length_nil, List.replicate_succ, List.replicate_zero, List.cons_append, List.nil_append, List.append_eq, Nat.reduceAdd, Nat.reduceSub, wipeD, List.map_cons, List.map_nil, W_slU, W_iseqU, W_zipS, W_gget1, W_dC, W_inT, W_inD, W_ginT, W_upper, W_eqT0, W_len_U, W_aug, W_addSI, W_subSI, W_listR1, W_fldX]
    by_cases hl : ds.length = 2
    · obtain ⟨x, y, rfl⟩ := len2 hl
      have hx : ∀ z ∈ [x, y], dtD z = true := by simpa [dtD, dtDs] using h
      simp only [W_fz, W_ixO, ixN_30, ixN_31, ixN_32, W_seq, W_asg, W_expr, W_ret, W_sif, W_par, W_never, W_nil, W_c, W_e2, W_call, W_anil, W_acons, W_tup, W_lst, W_lstM, W_tV, W_and, W_or, W_not, W_bAnd, W_bOr, W_bNot, W_eif, W_isN, W_notN, W_fn, W_fnK, W_pt, W_for, W_iseq, W_ienum, W_izip, W_comp, W_compG, W_compM, W_kI, W_yes, W_addI, W_addL, W_addT, W_mulI, W_ltI, W_ixL, W_ixT, W_ixS, atI_0, atI_1, atI_2, atI_3, atI_4, W_len_L, W_len_T, W_len_S, W_sum, W_all, W_any, W_min2, W_max2, W_abs, W_intI, W_intB, W_tupT, W_tupL, W_listT, W_listL, W_sl, W_oN, W_oS, W_slT, W_slL, W_slS, W_r1, W_app, W_set, W_gm, W_g0, W_g1, W_isiI, W_isiT, W_isiL, W_e3, Ws_nx, Ws_rt, W_ok, true_and, and_true, if_true, if_false, List.append_nil, frOf_l, frOf_t, frOf_s, kn_t, kn_i, kn_b, kn_l, kn_s, kn_d, isa_tt, isa_ii, isa_ib, isa_ll, isa_lt, isa_tl, W_isiL2, W_isiT2, W_allT, W_sumI, W_allM, W_sumM, cut2, W_ltT2, W_neI, W_eqI, bindP, bindPs, List.map_cons, List.map_nil, decide_eq_true_eq, Bool.false_eq_true, Bool.not_true, Bool.not_false, Bool.and_eq_true, W_var, List.getElem?_cons_zero, List.getElem?_cons_succ, List.set_cons_zero, List.set_cons_succ, rho0, List.length_cons, List.length_nil, List.replicate_succ, List.replicate_zero, List.cons_append, List.nil_append, List.append_eq, Nat.reduceAdd, Nat.reduceSub, wipeD, List.map_cons, List.map_nil, W_slU, W_iseqU, W_zipS, W_gget1, W_dC, W_inT, W_inD, W_ginT, W_upper, W_eqT0, W_len_U, W_aug, W_addSI, W_subSI, W_listR1, W_fldX]
      refine ⟨by decide, W_eq (comp_mapD (fun _ => true) (fun z => .bl (inB z 0 999)) [x, y] [] fun z hz => ⟨_, rfl, rfl, fun _ => of_W ?_⟩) ?_⟩
      · simp only [W_fz, W_ixO, ixN_30, ixN_31, ixN_32, W_seq, W_asg, W_expr, W_ret, W_sif, W_par, W_never, W_nil, W_c, W_e2, W_call, W_anil, W_acons, W_tup, W_lst, W_lstM, W_tV, W_and, W_or, W_not, W_bAnd, W_bOr, W_bNot, W_eif, W_isN, W_notN, W_fn, W_fnK, W_pt, W_for, W_iseq, W_ienum, W_izip, W_comp, W_compG, W_compM, W_kI, W_yes, W_addI, W_addL, W_addT, W_mulI, W_ltI, W_ixL, W_ixT, W_ixS, atI_0, atI_1, atI_2, atI_3, atI_4, W_len_L, W_len_T, W_len_S, W_sum, W_all, W_any, W_min2, W_max2, W_abs, W_intI, W_intB, W_tupT, W_tupL, W_listT, W_listL, W_sl, W_oN, W_oS, W_slT, W_slL, W_slS, W_r1, W_app, W_set, W_gm, W_g0, W_g1, W_isiI, W_isiT, W_isiL, W_e3, Ws_nx, Ws_rt, W_ok, true_and, and_true, if_true, if_false, List.append_nil, frOf_l, frOf_t, frOf_s, kn_t, kn_i, kn_b, kn_l, kn_s, kn_d, isa_tt, isa_ii, isa_ib, isa_ll, isa_lt, isa_tl, W_isiL2, W_isiT2, W_allT, W_sumI, W_allM, W_sumM, cut2, W_ltT2, W_neI, W_eqI, bindP, bindPs, List.map_cons, List.map_nil, decide_eq_true_eq, Bool.false_eq_true, Bool.not_true, Bool.not_false, Bool.and_eq_true, W_var, List.getElem?_cons_zero, List.getElem?_cons_succ, List.set_cons_zero, List.set_cons_succ, rho0, List.length_cons, List.length_nil, List.replicate_succ, List.replicate_zero, List.cons_append, List.nil_append, List.append_eq, Nat.reduceAdd, Nat.reduceSub, wipeD, List.map_cons, List.map_nil, W_slU, W_iseqU, W_zipS, W_gget1, W_dC, W_inT, W_inD, W_ginT, W_upper, W_eqT0, W_len_U, W_aug, W_addSI, W_subSI, W_listR1, W_fldX, within_D (hx z hz)]
      · show W (kAll [.lst ([] ++ ([x, y].filter fun _ => true).map fun z => .bl (inB z 0 999))] S) _
        rw [filter_all, W_allP]
        simp [stopB, back_same]
    · have : ¬ ((ds.length : Int) = 2) := by omega
      simp only [this, decide_false, Bool.not_false, if_true, back_same, and_true]
      match ds, hl with
      | [], _ => rfl
      | [_], _ => rfl
      | _ :: _ :: _ :: _, _ => rfl
  | _ => simp [isTup, stopB, back_same, W_fz, W_ixO, ixN_30, ixN_31, ixN_32, W_seq, W_asg, W_expr, W_ret, W_sif, W_par, W_never, W_nil, W_c, W_e2, W_call, W_anil, W_acons, W_tup, W_lst, W_lstM, W_tV, W_and, W_or, W_not, W_bAnd, W_bOr, W_bNot, W_eif, W_isN, W_notN, W_fn, W_fnK, W_pt, W_for, W_iseq, W_ienum, W_izip, W_comp, W_compG, W_compM, W_kI, W_yes, W_addI, W_addL, W_addT, W_mulI, W_ltI, W_ixL, W_ixT, W_ixS, atI_0, atI_1, atI_2, atI_3, atI_4, W_len_L, W_len_T, W_len_S, W_sum, W_all, W_any, W_min2, W_max2, W_abs, W_intI, W_intB, W_tupT, W_tupL, W_listT, W_listL, W_sl, W_oN, W_oS, W_slT, W_slL, W_slS, W_r1, W_app, W_set, W_gm, W_g0, W_g1, W_isiI, W_isiT, W_isiL, W_e3, Ws_nx, Ws_rt, W_ok, true_and, and_true, if_true, if_false, List.append_nil, frOf_l, frOf_t, frOf_s, kn_t, kn_i, kn_b, kn_l, kn_s, kn_d, isa_tt, isa_ii, isa_ib, isa_ll, isa_lt, isa_tl, W_isiL2, W_isiT2, W_allT, W_sumI, W_allM, W_sumM, cut2, W_ltT2, W_neI, W_eqI, bindP, bindPs, List.map_cons, List.map_nil, decide_eq_true_eq, Bool.false_eq_true, Bool.not_true, Bool.not_false, Bool.and_eq_true, W_var, List.getElem?_cons_zero, List.getElem?_cons_succ, List.set_cons_zero, List.set_cons_succ, rho0, List.length_cons, List.length_nil, List.replicate_succ, List.replicate_zero, List.cons_append, List.nil_append, List.append_eq, Nat.reduceAdd, Nat.reduceSub, wipeD, List.map_cons, List.map_nil, W_slU, W_iseqU, W_zipS, W_gget1, W_dC, W_inT, W_inD, W_ginT, W_upper, W_eqT0, W_len_U, W_aug, W_addSI, W_subSI, W_listR1, W_fldX])
/-- the number of the first that is none -/
def badF : Nat → List D → Option D
  | _, [] => none
  | n, d :: r => if stopB d then badF (n + 1) r else some (.int n)
def badD (d : D) : Option D := match d with
  | .tup ds => badF 0 ds
  | .lst ds => badF 0 ds
  | _ => some .non
def tellB (d : D) (S : Sto) : R D := match badD d with
  | none => .ok .non S
  | some e => .er "NoRows" ["number"] [e] S
theorem check_D {d : D} (ho : okD d = true) : m_check_stops [d] S = tellB d S := of_Wx (by
  have h := ok_dt _ ho
  unfold m_check_stops
  rw [Wx_run]
  unfold b_check_stops
  rw [Wsx_seq, Wsx_if]
  refine Wx_of ?_
  simp only [W_fz, W_ixO, ixN_30, ixN_31, ixN_32, W_seq, W_asg, W_expr, W_ret, W_sif, W_par, W_never, W_nil, W_c, W_e2, W_call, W_anil, W_acons, W_tup, W_lst, W_lstM, W_tV, W_and, W_or, W_not, W_bAnd, W_bOr, W_bNot, W_eif, W_isN, W_notN, W_fn, W_fnK, W_pt, W_for, W_iseq, W_ienum, W_izip, W_comp, W_compG, W_compM, W_kI, W_yes, W_addI, W_addL, W_addT, W_mulI, W_ltI, W_ixL, W_ixT, W_ixS, atI_0, atI_1, atI_2, atI_3, atI_4, W_len_L, W_len_T, W_len_S, W_sum, W_all, W_any, W_min2, W_max2, W_abs, W_intI, W_intB, W_tupT, W_tupL, W_listT, W_listL, W_sl, W_oN, W_oS, W_slT, W_slL, W_slS, W_r1, W_app, W_set, W_gm, W_g0, W_g1, W_isiI, W_isiT, W_isiL, W_e3, Ws_nx, Ws_rt, W_ok, true_and, and_true, if_true, if_false, List.append_nil, frOf_l, frOf_t, frOf_s, kn_t, kn_i, kn_b, kn_l, kn_s, kn_d, isa_tt, isa_ii, isa_ib, isa_ll, isa_lt, isa_tl, W_isiL2, W_isiT2, W_allT, W_sumI, W_allM, W_sumM, cut2, W_ltT2, W_neI, W_eqI, bindP, bindPs, List.map_cons, List.map_nil, decide_eq_true_eq, Bool.false_eq_true, Bool.not_true, Bool.not_false, Bool.and_eq_true, W_var, List.getElem?_cons_zero, List.getElem?_cons_succ, List.set_cons_zero, List.set_cons_succ, rho0, List.length_cons, List.length_nil, List.replicate_succ, List.replicate_zero, List.cons_append, List.nil_append, List.append_eq, Nat.reduceAdd, Nat.reduceSub, wipeD, List.map_cons, List.map_nil, W_slU, W_iseqU, W_zipS, W_gget1, W_dC, W_inT, W_inD, W_ginT, W_upper, W_eqT0, W_len_U, W_aug, W_addSI, W_subSI, W_listR1, W_fldX, W_isiLT h]
  have run : ∀ ds : List D, (∀ x ∈ ds, dtD x = true) → (d = .tup ds ∨ d = .lst ds) → Wsx (loop (.tp [.nm 1, .nm 2]) (sIf (tNot1 (tV (eFn m_is_stop (aCons (eVar 2) aNil) []))) (sRaise "NoRows" ["number"] (aCons (eVar 1) aNil)) sNil) (enumD 0 ds) [some d, none, none] S)
      (fun _ S' => tellB d S = .ok .non (S'.back S.m.length)) (fun d' S' => tellB d S = .ok d' (S'.back S.m.length)) (fun _ C ns vs S' => tellB d S = .er C ns vs (S'.back S.m.length)) := fun ds hds hd => by
    have hb : badD d = badF 0 ds := by rcases hd with rfl | rfl <;> rfl
    refine Wsx_loop (fun rest ρ S' => ∃ (n : Nat) (es : List D) (x1 x2 : Option D), rest = enumD n es ∧ ρ = [some d, x1, x2] ∧ S' = S ∧ badF n es = badF 0 ds ∧ ∀ x ∈ es, dtD x = true) ⟨0, ds, none, none, rfl, rfl, rfl, rfl, hds⟩ ?_ ?_
    · rintro e r ρ S' ⟨n, es, x1, x2, he, rfl, rfl, hf, hdt⟩
      match es, he with
      | [], he => cases he
      | z :: es, he =>
        obtain ⟨rfl, rfl⟩ := List.cons_eq_cons.mp he
        refine ⟨_, rfl, ?_⟩
        rw [Wsx_if]
        refine Wx_of ?_
        simp only [W_fz, W_ixO, ixN_30, ixN_31, ixN_32, W_seq, W_asg, W_expr, W_ret, W_sif, W_par, W_never, W_nil, W_c, W_e2, W_call, W_anil, W_acons, W_tup, W_lst, W_lstM, W_tV, W_and, W_or, W_not, W_bAnd, W_bOr, W_bNot, W_eif, W_isN, W_notN, W_fn, W_fnK, W_pt, W_for, W_iseq, W_ienum, W_izip, W_comp, W_compG, W_compM, W_kI, W_yes, W_addI, W_addL, W_addT, W_mulI, W_ltI, W_ixL, W_ixT, W_ixS, atI_0, atI_1, atI_2, atI_3, atI_4, W_len_L, W_len_T, W_len_S, W_sum, W_all, W_any, W_min2, W_max2, W_abs, W_intI, W_intB, W_tupT, W_tupL, W_listT, W_listL, W_sl, W_oN, W_oS, W_slT, W_slL, W_slS, W_r1, W_app, W_set, W_gm, W_g0, W_g1, W_isiI, W_isiT, W_isiL, W_e3, Ws_nx, Ws_rt, W_ok, true_and, and_true, if_true, if_false, List.append_nil, frOf_l, frOf_t, frOf_s, kn_t, kn_i, kn_b, kn_l, kn_s, kn_d, isa_tt, isa_ii, isa_ib, isa_ll, isa_lt, isa_tl, W_isiL2, W_isiT2, W_allT, W_sumI, W_allM, W_sumM, cut2, W_ltT2, W_neI, W_eqI, bindP, bindPs, List.map_cons, List.map_nil, decide_eq_true_eq, Bool.false_eq_true, Bool.not_true, Bool.not_false, Bool.and_eq_true, W_var, List.getElem?_cons_zero, List.getElem?_cons_succ, List.set_cons_zero, List.set_cons_succ, rho0, List.length_cons, List.length_nil, List.replicate_succ, List.replicate_zero, List.cons_append, List.nil_append, List.append_eq, Nat.reduceAdd, Nat.reduceSub, wipeD, List.map_cons, List.map_nil, W_slU, W_iseqU, W_zipS, W_gget1, W_dC, W_inT, W_inD, W_ginT, W_upper, W_eqT0, W_len_U, W_aug, W_addSI, W_subSI, W_listR1, W_fldX, stop_D (hdt z List.mem_cons_self)]
        cases hz : stopB z with
        | true =>
          simp only [Bool.not_true, Bool.false_eq_true, if_false]
          exact ⟨n + 1, es, _, _, rfl, rfl, rfl, by rw [← hf, badF, hz]; rfl, fun x hx => hdt x (List.mem_cons_of_mem _ hx)⟩
        | false =>
          simp only [Bool.not_false, if_true]
          have : badD d = some (.int n) := by rw [hb, ← hf, badF, hz]; rfl
          show tellB d S' = _
          unfold tellB
          rw [this]
          simp [back_same]
    · rintro ρ S' ⟨n, es, x1, x2, he, rfl, rfl, hf, hdt⟩
      match es, he with
      | [], _ =>
        have : badD d = none := by rw [hb, ← hf]; rfl
        unfold tellB
        rw [this, back_same]
      | _ :: _, he => cases he
  cases d with
  | tup ds =>
    simp only [isLT, Bool.not_true, Bool.false_eq_true, if_false]
    refine ⟨by decide, ?_⟩
    show Wsx (sFor _ _ _ _ _) _ _ _
    rw [Wsx_for]
    refine Wx_of ?_
    simp only [W_fz, W_ixO, ixN_30, ixN_31, ixN_32, W_seq, W_asg, W_expr, W_ret, W_sif, W_par, W_never, W_nil, W_c, W_e2, W_call, W_anil, W_acons, W_tup, W_lst, W_lstM, W_tV, W_and, W_or, W_not, W_bAnd, W_bOr, W_bNot, W_eif, W_isN, W_notN, W_fn, W_fnK, W_pt, W_for, W_iseq, W_ienum, W_izip, W_comp, W_compG, W_compM, W_kI, W_yes, W_addI, W_addL, W_addT, W_mulI, W_ltI, W_ixL, W_ixT, W_ixS, atI_0, atI_1, atI_2, atI_3, atI_4, W_len_L, W_len_T, W_len_S, W_sum, W_all, W_any, W_min2, W_max2, W_abs, W_intI, W_intB, W_tupT, W_tupL, W_listT, W_listL, W_sl, W_oN, W_oS, W_slT, W_slL, W_slS, W_r1, W_app, W_set, W_gm, W_g0, W_g1, W_isiI, W_isiT, W_isiL, W_e3, Ws_nx, Ws_rt, W_ok, true_and, and_true, if_true, if_false, List.append_nil, frOf_l, frOf_t, frOf_s, kn_t, kn_i, kn_b, kn_l, kn_s, kn_d, isa_tt, isa_ii, isa_ib, isa_ll, isa_lt, isa_tl, W_isiL2, W_isiT2, W_allT, W_sumI, W_allM, W_sumM, cut2, W_ltT2, W_neI, W_eqI, bindP, bindPs, List.map_cons, List.map_nil, decide_eq_true_eq, Bool.false_eq_true, Bool.not_true, Bool.not_false, Bool.and_eq_true, W_var, List.getElem?_cons_zero, List.getElem?_cons_succ, List.set_cons_zero, List.set_cons_succ, rho0, List.length_cons, List.length_nil, List.replicate_succ, List.replicate_zero, List.cons_append, List.nil_append, List.append_eq, Nat.reduceAdd, Nat.reduceSub, wipeD, List.map_cons, List.map_nil, W_slU, W_iseqU, W_zipS, W_gget1, W_dC, W_inT, W_inD, W_ginT, W_upper, W_eqT0, W_len_U, W_aug, W_addSI, W_subSI, W_listR1, W_fldX]
    exact run ds (fun x hx => ok_dt _ (ok_tup.mp ho x hx)) (.inl rfl)
  | lst ds =>
    simp only [isLT, Bool.not_true, Bool.false_eq_true, if_false]
    refine ⟨by decide, ?_⟩
    show Wsx (sFor _ _ _ _ _) _ _ _
    rw [Wsx_for]
    refine Wx_of ?_
    simp only [W_fz, W_ixO, ixN_30, ixN_31, ixN_32, W_seq, W_asg, W_expr, W_ret, W_sif, W_par, W_never, W_nil, W_c, W_e2, W_call, W_anil, W_acons, W_tup, W_lst, W_lstM, W_tV, W_and, W_or, W_not, W_bAnd, W_bOr, W_bNot, W_eif, W_isN, W_notN, W_fn, W_fnK, W_pt, W_for, W_iseq, W_ienum, W_izip, W_comp, W_compG, W_compM, W_kI, W_yes, W_addI, W_addL, W_addT, W_mulI, W_ltI, W_ixL, W_ixT, W_ixS, atI_0, atI_1, atI_2, atI_3, atI_4, W_len_L, W_len_T, W_len_S, W_sum, W_all, W_any, W_min2, W_max2, W_abs, W_intI, W_intB, W_tupT, W_tupL, W_listT, W_listL, W_sl, W_oN, W_oS, W_slT, W_slL, W_slS, W_r1, W_app, W_set, W_gm, W_g0, W_g1, W_isiI, W_isiT, W_isiL, W_e3, Ws_nx, Ws_rt, W_ok, true_and, and_true, if_true, if_false, List.append_nil, frOf_l, frOf_t, frOf_s, kn_t, kn_i, kn_b, kn_l, kn_s, kn_d, isa_tt, isa_ii, isa_ib, isa_ll, isa_lt, isa_tl, W_isiL2, W_isiT2, W_allT, W_sumI, W_allM, W_sumM, cut2, W_ltT2, W_neI, W_eqI, bindP, bindPs, List.map_cons, List.map_nil, decide_eq_true_eq, Bool.false_eq_true, Bool.not_true, Bool.not_false, Bool.and_eq_true, W_var, List.getElem?_cons_zero, List.getElem?_cons_succ, List.set_cons_zero, List.set_cons_succ, rho0, List.length_cons, List.length_nil, List.replicate_succ, List.replicate_zero, List.cons_append, List.nil_append, List.append_eq, Nat.reduceAdd, Nat.reduceSub, wipeD, List.map_cons, List.map_nil, W_slU, W_iseqU, W_zipS, W_gget1, W_dC, W_inT, W_inD, W_ginT, W_upper, W_eqT0, W_len_U, W_aug, W_addSI, W_subSI, W_listR1, W_fldX]
    exact run ds (fun x hx => ok_dt _ (ok_lst.mp ho x hx)) (.inr rfl)
  | _ =>
    simp only [isLT, Bool.not_false, if_true]
    refine ⟨by decide, ?_⟩
    show tellB _ S = _
    simp [tellB, badD, back_same])
end
end K38


namespace K38
open PySem L2 Qd

abbrev St2 := Int × Int
def encP (p : St2) : D := .tup [.int p.1, .int p.2]
/-- a list or tuple of stops -/
def Rw (d : D) (ps : List St2) : Prop := d = .lst (ps.map encP) ∨ d = .tup (ps.map encP)
def okP (p : St2) : Prop := 0 ≤ p.1 ∧ p.1 ≤ 999 ∧ 0 ≤ p.2 ∧ p.2 ≤ 999
def stepP (s : St2) (p : St2) : St2 := (s.1 + (p.2 - p.1), if s.1 + (p.2 - p.1) > s.2 then s.1 + (p.2 - p.1) else s.2)
def sumD (ps : List St2) : Int := (ps.map (·.1)).sum
def sumT (ps : List St2) : Int := (ps.map (·.2)).sum
def needV (ps : List St2) : Int := (ps.foldl stepP (sumD ps, sumD ps)).2
section
variable {S : Sto} {Q : D → Sto → Prop} {ps : List St2} {d : D}
theorem fr_rw (h : Rw d ps) : frOf d = some (ps.map encP) := by rcases h with rfl | rfl <;> rfl
theorem stop_enc {p : St2} (h : okP p) : stopB (encP p) = true := by
  obtain ⟨a, b, c, e⟩ := h
  simp [stopB, encP, inB, a, b, c, e]
theorem bad_enc : ∀ (n : Nat) (ps : List St2), (∀ p ∈ ps, okP p) → badF n (ps.map encP) = none
  | _, [], _ => rfl
  | n, p :: ps, h => by
    rw [List.map_cons, badF, stop_enc (h p List.mem_cons_self)]
    exact bad_enc (n + 1) ps fun q hq => h q (List.mem_cons_of_mem _ hq)
theorem rw_bad (h : Rw d ps) (hp : ∀ p ∈ ps, okP p) : badD d = none := by
  rcases h with rfl | rfl <;> exact bad_enc 0 ps hp
theorem rw_ok (h : Rw d ps) : okD d = true := by
  have : ∀ x ∈ ps.map encP, okD x = true := fun x hx => by
    obtain ⟨p, _, rfl⟩ := List.mem_map.mp hx
    rfl
  rcases h with rfl | rfl
  · exact ok_lst.mpr this
  · exact ok_tup.mpr this
theorem needof_D (h : Rw d ps) (hl : ps.length ≤ 5000) : m_need_of [d] S = .ok (.int (needV ps)) S := of_W (by
  unfold m_need_of
  rw [W_run]
  unfold b_need_of
  simp only [W_fz, W_ixO, ixN_30, ixN_31, ixN_32, W_seq, W_asg, W_expr, W_ret, W_sif, W_par, W_never, W_nil, W_c, W_e2, W_call, W_anil, W_acons, W_tup, W_lst, W_lstM, W_tV, W_and, W_or, W_not, W_bAnd, W_bOr, W_bNot, W_eif, W_isN, W_notN, W_fn, W_fnK, W_pt, W_for, W_iseq, W_ienum, W_izip, W_comp, W_compG, W_compM, W_kI, W_yes, W_addI, W_addL, W_addT, W_mulI, W_ltI, W_ixL, W_ixT, W_ixS, atI_0, atI_1, atI_2, atI_3, atI_4, W_len_L, W_len_T, W_len_S, W_sum, W_all, W_any, W_min2, W_max2, W_abs, W_intI, W_intB, W_tupT, W_tupL, W_listT, W_listL, W_sl, W_oN, W_oS, W_slT, W_slL, W_slS, W_r1, W_app, W_set, W_gm, W_g0, W_g1, W_isiI, W_isiT, W_isiL, W_e3, Ws_nx, Ws_rt, W_ok, true_and, and_true, if_true, if_false, List.append_nil, frOf_l, frOf_t, frOf_s, kn_t, kn_i, kn_b, kn_l, kn_s, kn_d, isa_tt, isa_ii, isa_ib, isa_ll, isa_lt, isa_tl, W_isiL2, W_isiT2, W_allT, W_sumI, W_allM, W_sumM, cut2, W_ltT2, W_neI, W_eqI, bindP, bindPs, List.map_cons, List.map_nil, decide_eq_true_eq, Bool.false_eq_true, Bool.not_true, Bool.not_false, Bool.and_eq_true, W_var, List.getElem?_cons_zero, List.getElem?_cons_succ, List.set_cons_zero, List.set_cons_succ, rho0, List.length_cons, List.length_nil, List.replicate_succ, List.replicate_zero, List.cons_append, List.nil_append, List.append_eq, Nat.reduceAdd, Nat.reduceSub, wipeD, List.map_cons, List.map_nil, W_slU, W_iseqU, W_zipS, W_gget1, W_dC, W_inT, W_inD, W_ginT, W_upper, W_eqT0, W_len_U, W_aug, W_addSI, W_subSI, W_listR1, W_fldX]
  have hd : (match d with | .str x => x.length ≤ line ∧ True | d => True) := by rcases h with rfl | rfl <;> trivial
  rcases h with rfl | rfl
  all_goals
    simp only [W_fz, W_ixO, ixN_30, ixN_31, ixN_32, W_seq, W_asg, W_expr, W_ret, W_sif, W_par, W_never, W_nil, W_c, W_e2, W_call, W_anil, W_acons, W_tup, W_lst, W_lstM, W_tV, W_and, W_or, W_not, W_bAnd, W_bOr, W_bNot, W_eif, W_isN, W_notN, W_fn, W_fnK, W_pt, W_for, W_iseq, W_ienum, W_izip, W_comp, W_compG, W_compM, W_kI, W_yes, W_addI, W_addL, W_addT, W_mulI, W_ltI, W_ixL, W_ixT, W_ixS, atI_0, atI_1, atI_2, atI_3, atI_4, W_len_L, W_len_T, W_len_S, W_sum, W_all, W_any, W_min2, W_max2, W_abs, W_intI, W_intB, W_tupT, W_tupL, W_listT, W_listL, W_sl, W_oN, W_oS, W_slT, W_slL, W_slS, W_r1, W_app, W_set, W_gm, W_g0, W_g1, W_isiI, W_isiT, W_isiL, W_e3, Ws_nx, Ws_rt, W_ok, true_and, and_true, if_true, if_false, List.append_nil, frOf_l, frOf_t, frOf_s, kn_t, kn_i, kn_b, kn_l, kn_s, kn_d, isa_tt, isa_ii, isa_ib, isa_ll, isa_lt, isa_tl, W_isiL2, W_isiT2, W_allT, W_sumI, W_allM, W_sumM, cut2, W_ltT2, W_neI, W_eqI, bindP, bindPs, List.map_cons, List.map_nil, decide_eq_true_eq, Bool.false_eq_true, Bool.not_true, Bool.not_false, Bool.and_eq_true, W_var, List.getElem?_cons_zero, List.getElem?_cons_succ, List.set_cons_zero, List.set_cons_succ, rho0, List.length_cons, List.length_nil, List.replicate_succ, List.replicate_zero, List.cons_append, List.nil_append, List.append_eq, Nat.reduceAdd, Nat.reduceSub, wipeD, List.map_cons, List.map_nil, W_slU, W_iseqU, W_zipS, W_gget1, W_dC, W_inT, W_inD, W_ginT, W_upper, W_eqT0, W_len_U, W_aug, W_addSI, W_subSI, W_listR1, W_fldX, List.length_map]
    refine ⟨by unfold line; omega, W_eq (comp_mapW encP (fun _ => true) (fun p => .int p.1) ps [] fun p hp => ⟨_, rfl, ⟨rfl, rfl⟩, fun _ => ⟨rfl, rfl⟩⟩) ?_⟩
    rw [W_sumI, filter_all]
    refine W_loop (fun rest ρ S' => ∃ (done todo : List St2) (x0 x3 x4 : Option D), ps = done ++ todo ∧ rest = todo.map encP ∧ S' = S ∧ ρ = [x0, some (.int (done.foldl stepP (sumD ps, sumD ps)).1), some (.int (done.foldl stepP (sumD ps, sumD ps)).2), x3, x4])
      ⟨[], ps, _, none, none, rfl, rfl, rfl, rfl⟩ ?_ ?_
    · rintro e r ρ S' ⟨done, todo, x0, x3, x4, he, hr, rfl, rfl⟩
      match todo, hr with
      | [], hr => cases hr
      | p :: todo, hr =>
        simp only [List.map_cons, List.cons.injEq] at hr
        obtain ⟨rfl, rfl⟩ := hr
        refine ⟨_, rfl, ?_⟩
        simp only [W_fz, W_ixO, ixN_30, ixN_31, ixN_32, W_seq, W_asg, W_expr, W_ret, W_sif, W_par, W_never, W_nil, W_c, W_e2, W_call, W_anil, W_acons, W_tup, W_lst, W_lstM, W_tV, W_and, W_or, W_not, W_bAnd, W_bOr, W_bNot, W_eif, W_isN, W_notN, W_fn, W_fnK, W_pt, W_for, W_iseq, W_ienum, W_izip, W_comp, W_compG, W_compM, W_kI, W_yes, W_addI, W_addL, W_addT, W_mulI, W_ltI, W_ixL, W_ixT, W_ixS, atI_0, atI_1, atI_2, atI_3, atI_4, W_len_L, W_len_T, W_len_S, W_sum, W_all, W_any, W_min2, W_max2, W_abs, W_intI, W_intB, W_tupT, W_tupL, W_listT, W_listL, W_sl, W_oN, W_oS, W_slT, W_slL, W_slS, W_r1, W_app, W_set, W_gm, W_g0, W_g1, W_isiI, W_isiT, W_isiL, W_e3, Ws_nx, Ws_rt, W_ok, true_and, and_true, if_true, if_false, List.append_nil, frOf_l, frOf_t, frOf_s, kn_t, kn_i, kn_b, kn_l, kn_s, kn_d, isa_tt, isa_ii, isa_ib, isa_ll, isa_lt, isa_tl, W_isiL2, W_isiT2, W_allT, W_sumI, W_allM, W_sumM, cut2, W_ltT2, W_neI, W_eqI, bindP, bindPs, List.map_cons, List.map_nil, decide_eq_true_eq, Bool.false_eq_true, Bool.not_true, Bool.not_false, Bool.and_eq_true, W_var, List.getElem?_cons_zero, List.getElem?_cons_succ, List.set_cons_zero, List.set_cons_succ, rho0, List.length_cons, List.length_nil, List.replicate_succ, List.replicate_zero, List.cons_append, List.nil_append, List.append_eq, Nat.reduceAdd, Nat.reduceSub, wipeD, List.map_cons, List.map_nil, W_slU, W_iseqU, W_zipS, W_gget1, W_dC, W_inT, W_inD, W_ginT, W_upper, W_eqT0, W_len_U, W_aug, W_addSI, W_subSI, W_listR1, W_fldX]
        exact ⟨done ++ [p], todo, x0, some (.int p.1), some (.int p.2), by rw [he]; simp, rfl, by rw [List.foldl_append]; rfl⟩
    · rintro ρ S' ⟨done, todo, x0, x3, x4, he, hr, rfl, rfl⟩
      match todo, hr with
      | [], _ =>
        have e2 : ps = done := by rw [he]; simp
        simp only [W_fz, W_ixO, ixN_30, ixN_31, ixN_32, W_seq, W_asg, W_expr, W_ret, W_sif, W_par, W_never, W_nil, W_c, W_e2, W_call, W_anil, W_acons, W_tup, W_lst, W_lstM, W_tV, W_and, W_or, W_not, W_bAnd, W_bOr, W_bNot, W_eif, W_isN, W_notN, W_fn, W_fnK, W_pt, W_for, W_iseq, W_ienum, W_izip, W_comp, W_compG, W_compM, W_kI, W_yes, W_addI, W_addL, W_addT, W_mulI, W_ltI, W_ixL, W_ixT, W_ixS, atI_0, atI_1, atI_2, atI_3, atI_4, W_len_L, W_len_T, W_len_S, W_sum, W_all, W_any, W_min2, W_max2, W_abs, W_intI, W_intB, W_tupT, W_tupL, W_listT, W_listL, W_sl, W_oN, W_oS, W_slT, W_slL, W_slS, W_r1, W_app, W_set, W_gm, W_g0, W_g1, W_isiI, W_isiT, W_isiL, W_e3, Ws_nx, Ws_rt, W_ok, true_and, and_true, if_true, if_false, List.append_nil, frOf_l, frOf_t, frOf_s, kn_t, kn_i, kn_b, kn_l, kn_s, kn_d, isa_tt, isa_ii, isa_ib, isa_ll, isa_lt, isa_tl, W_isiL2, W_isiT2, W_allT, W_sumI, W_allM, W_sumM, cut2, W_ltT2, W_neI, W_eqI, bindP, bindPs, List.map_cons, List.map_nil, decide_eq_true_eq, Bool.false_eq_true, Bool.not_true, Bool.not_false, Bool.and_eq_true, W_var, List.getElem?_cons_zero, List.getElem?_cons_succ, List.set_cons_zero, List.set_cons_succ, rho0, List.length_cons, List.length_nil, List.replicate_succ, List.replicate_zero, List.cons_append, List.nil_append, List.append_eq, Nat.reduceAdd, Nat.reduceSub, wipeD, List.map_cons, List.map_nil, W_slU, W_iseqU, W_zipS, W_gget1, W_dC, W_inT, W_inD, W_ginT, W_upper, W_eqT0, W_len_U, W_aug, W_addSI, W_subSI, W_listR1, W_fldX, back_same]
        rw [needV, ← e2]
        try exact ⟨rfl, rfl⟩
      | _ :: _, hr => cases hr)
end
end K38


namespace K38
open PySem L2 Qd

theorem W_leI {S : Sto} {Q : D → Sto → Prop} {i j : Int} : W (kLe (.int i) (.int j) S) Q = Q (.bl (decide (i ≤ j))) S := rfl
theorem W_gtI {S : Sto} {Q : D → Sto → Prop} {i j : Int} : W (kGt (.int i) (.int j) S) Q = Q (.bl (decide (i > j))) S := rfl
def getP (ps : List St2) (k : Nat) : St2 := ps.getD k (0, 0)
section
variable {S : Sto} {Q : D → Sto → Prop} {ps : List St2} {d : D}
theorem need_good (h : Rw d ps) (hp : ∀ p ∈ ps, okP p) (hl : ps.length ≤ 5000) : m_need [d] S = .ok (.int (needV ps)) S := of_W (by
  unfold m_need
  rw [W_run]
  unfold b_need
  simp only [W_fz, W_ixO, ixN_30, ixN_31, ixN_32, W_seq, W_asg, W_expr, W_ret, W_sif, W_par, W_never, W_nil, W_c, W_e2, W_call, W_anil, W_acons, W_tup, W_lst, W_lstM, W_tV, W_and, W_or, W_not, W_bAnd, W_bOr, W_bNot, W_eif, W_isN, W_notN, W_fn, W_fnK, W_pt, W_for, W_iseq, W_ienum, W_izip, W_comp, W_compG, W_compM, W_kI, W_yes, W_addI, W_addL, W_addT, W_mulI, W_ltI, W_ixL, W_ixT, W_ixS, atI_0, atI_1, atI_2, atI_3, atI_4, W_len_L, W_len_T, W_len_S, W_sum, W_all, W_any, W_min2, W_max2, W_abs, W_intI, W_intB, W_tupT, W_tupL, W_listT, W_listL, W_sl, W_oN, W_oS, W_slT, W_slL, W_slS, W_r1, W_app, W_set, W_gm, W_g0, W_g1, W_isiI, W_isiT, W_isiL, W_e3, Ws_nx, Ws_rt, W_ok, true_and, and_true, if_true, if_false, List.append_nil, frOf_l, frOf_t, frOf_s, kn_t, kn_i, kn_b, kn_l, kn_s, kn_d, isa_tt, isa_ii, isa_ib, isa_ll, isa_lt, isa_tl, W_isiL2, W_isiT2, W_allT, W_sumI, W_allM, W_sumM, cut2, W_ltT2, W_neI, W_eqI, bindP, bindPs, List.map_cons, List.map_nil, decide_eq_true_eq, Bool.false_eq_true, Bool.not_true, Bool.not_false, Bool.and_eq_true, W_var, List.getElem?_cons_zero, List.getElem?_cons_succ, List.set_cons_zero, List.set_cons_succ, rho0, List.length_cons, List.length_nil, List.replicate_succ, List.replicate_zero, List.cons_append, List.nil_append, List.append_eq, Nat.reduceAdd, Nat.reduceSub, wipeD, List.map_cons, List.map_nil, W_slU, W_iseqU, W_zipS, W_gget1, W_dC, W_inT, W_inD, W_ginT, W_upper, W_eqT0, W_len_U, W_aug, W_addSI, W_subSI, W_listR1, W_fldX, check_D (rw_ok h), tellB, rw_bad h hp, needof_D h hl, back_same]
  try exact ⟨rfl, rfl⟩)
theorem need_bad {e : D} (ho : okD d = true) (hb : badD d = some e) : m_need [d] S = .er "NoRows" ["number"] [e] S := of_Wx (by
  unfold m_need
  rw [Wx_run]
  unfold b_need
  rw [Wsx_seq, Wsx_expr, Wx_fn]
  refine Wx_of ?_
  simp only [W_fz, W_ixO, ixN_30, ixN_31, ixN_32, W_seq, W_asg, W_expr, W_ret, W_sif, W_par, W_never, W_nil, W_c, W_e2, W_call, W_anil, W_acons, W_tup, W_lst, W_lstM, W_tV, W_and, W_or, W_not, W_bAnd, W_bOr, W_bNot, W_eif, W_isN, W_notN, W_fn, W_fnK, W_pt, W_for, W_iseq, W_ienum, W_izip, W_comp, W_compG, W_compM, W_kI, W_yes, W_addI, W_addL, W_addT, W_mulI, W_ltI, W_ixL, W_ixT, W_ixS, atI_0, atI_1, atI_2, atI_3, atI_4, W_len_L, W_len_T, W_len_S, W_sum, W_all, W_any, W_min2, W_max2, W_abs, W_intI, W_intB, W_tupT, W_tupL, W_listT, W_listL, W_sl, W_oN, W_oS, W_slT, W_slL, W_slS, W_r1, W_app, W_set, W_gm, W_g0, W_g1, W_isiI, W_isiT, W_isiL, W_e3, Ws_nx, Ws_rt, W_ok, true_and, and_true, if_true, if_false, List.append_nil, frOf_l, frOf_t, frOf_s, kn_t, kn_i, kn_b, kn_l, kn_s, kn_d, isa_tt, isa_ii, isa_ib, isa_ll, isa_lt, isa_tl, W_isiL2, W_isiT2, W_allT, W_sumI, W_allM, W_sumM, cut2, W_ltT2, W_neI, W_eqI, bindP, bindPs, List.map_cons, List.map_nil, decide_eq_true_eq, Bool.false_eq_true, Bool.not_true, Bool.not_false, Bool.and_eq_true, W_var, List.getElem?_cons_zero, List.getElem?_cons_succ, List.set_cons_zero, List.set_cons_succ, rho0, List.length_cons, List.length_nil, List.replicate_succ, List.replicate_zero, List.cons_append, List.nil_append, List.append_eq, Nat.reduceAdd, Nat.reduceSub, wipeD, List.map_cons, List.map_nil, W_slU, W_iseqU, W_zipS, W_gget1, W_dC, W_inT, W_inD, W_ginT, W_upper, W_eqT0, W_len_U, W_aug, W_addSI, W_subSI, W_listR1, W_fldX, check_D ho, tellB, hb]
  simp [Wx, back_same])
theorem room_bad {e : D} (ho : okD d = true) (hb : badD d = some e) : m_least_room [d] S = .er "NoRows" ["number"] [e] S := of_Wx (by
  unfold m_least_room
  rw [Wx_run]
  unfold b_least_room
  rw [Wsx_seq, Wsx_expr, Wx_fn]
  refine Wx_of ?_
  simp only [W_fz, W_ixO, ixN_30, ixN_31, ixN_32, W_seq, W_asg, W_expr, W_ret, W_sif, W_par, W_never, W_nil, W_c, W_e2, W_call, W_anil, W_acons, W_tup, W_lst, W_lstM, W_tV, W_and, W_or, W_not, W_bAnd, W_bOr, W_bNot, W_eif, W_isN, W_notN, W_fn, W_fnK, W_pt, W_for, W_iseq, W_ienum, W_izip, W_comp, W_compG, W_compM, W_kI, W_yes, W_addI, W_addL, W_addT, W_mulI, W_ltI, W_ixL, W_ixT, W_ixS, atI_0, atI_1, atI_2, atI_3, atI_4, W_len_L, W_len_T, W_len_S, W_sum, W_all, W_any, W_min2, W_max2, W_abs, W_intI, W_intB, W_tupT, W_tupL, W_listT, W_listL, W_sl, W_oN, W_oS, W_slT, W_slL, W_slS, W_r1, W_app, W_set, W_gm, W_g0, W_g1, W_isiI, W_isiT, W_isiL, W_e3, Ws_nx, Ws_rt, W_ok, true_and, and_true, if_true, if_false, List.append_nil, frOf_l, frOf_t, frOf_s, kn_t, kn_i, kn_b, kn_l, kn_s, kn_d, isa_tt, isa_ii, isa_ib, isa_ll, isa_lt, isa_tl, W_isiL2, W_isiT2, W_allT, W_sumI, W_allM, W_sumM, cut2, W_ltT2, W_neI, W_eqI, bindP, bindPs, List.map_cons, List.map_nil, decide_eq_true_eq, Bool.false_eq_true, Bool.not_true, Bool.not_false, Bool.and_eq_true, W_var, List.getElem?_cons_zero, List.getElem?_cons_succ, List.set_cons_zero, List.set_cons_succ, rho0, List.length_cons, List.length_nil, List.replicate_succ, List.replicate_zero, List.cons_append, List.nil_append, List.append_eq, Nat.reduceAdd, Nat.reduceSub, wipeD, List.map_cons, List.map_nil, W_slU, W_iseqU, W_zipS, W_gget1, W_dC, W_inT, W_inD, W_ginT, W_upper, W_eqT0, W_len_U, W_aug, W_addSI, W_subSI, W_listR1, W_fldX, check_D ho, tellB, hb]
  simp [Wx, back_same])
theorem ix_rw {k : Nat} (h : Rw d ps) (hk : k < ps.length) (q : Q (encP (getP ps k)) S) : W (kIx d (.int (k : Int)) S) Q := by
  rcases h with rfl | rfl
  · rw [W_ixL, atI_get (0, 0) hk]; exact q
  · rw [W_ixT, atI_get (0, 0) hk]; exact q
theorem len_rw (h : Rw d ps) : W (kLen [d] S) Q = Q (.int ps.length) S := by
  rcases h with rfl | rfl
  · rw [W_len_L, List.length_map]
  · rw [W_len_T, List.length_map]
def fallL (ps : List St2) : List Nat := (List.range ps.length).filter fun k => decide ((getP ps k).2 ≤ (getP ps k).1)
def riseL (ps : List St2) : List Nat := (List.range ps.length).filter fun k => decide ((getP ps k).2 > (getP ps k).1)
def orderL (ps : List St2) : List Nat := fallL ps ++ riseL ps
def encN (k : Nat) : D := .int (k : Int)
theorem room_good (h : Rw d ps) (hp : ∀ p ∈ ps, okP p) (hl : ps.length ≤ 2000) : m_least_room [d] S = .ok (.tup [.int (needV ((orderL ps).map (getP ps))), .tup ((orderL ps).map encN)]) S := of_W (by
  unfold m_least_room
  rw [W_run]
  unfold b_least_room
  simp only [W_fz, W_ixO, ixN_30, ixN_31, ixN_32, W_seq, W_asg, W_expr, W_ret, W_sif, W_par, W_never, W_nil, W_c, W_e2, W_call, W_anil, W_acons, W_tup, W_lst, W_lstM, W_tV, W_and, W_or, W_not, W_bAnd, W_bOr, W_bNot, W_eif, W_isN, W_notN, W_fn, W_fnK, W_pt, W_for, W_iseq, W_ienum, W_izip, W_comp, W_compG, W_compM, W_kI, W_yes, W_addI, W_addL, W_addT, W_mulI, W_ltI, W_ixL, W_ixT, W_ixS, atI_0, atI_1, atI_2, atI_3, atI_4, W_len_L, W_len_T, W_len_S, W_sum, W_all, W_any, W_min2, W_max2, W_abs, W_intI, W_intB, W_tupT, W_tupL, W_listT, W_listL, W_sl, W_oN, W_oS, W_slT, W_slL, W_slS, W_r1, W_app, W_set, W_gm, W_g0, W_g1, W_isiI, W_isiT, W_isiL, W_e3, Ws_nx, Ws_rt, W_ok, true_and, and_true, if_true, if_false, List.append_nil, frOf_l, frOf_t, frOf_s, kn_t, kn_i, kn_b, kn_l, kn_s, kn_d, isa_tt, isa_ii, isa_ib, isa_ll, isa_lt, isa_tl, W_isiL2, W_isiT2, W_allT, W_sumI, W_allM, W_sumM, cut2, W_ltT2, W_neI, W_eqI, bindP, bindPs, List.map_cons, List.map_nil, decide_eq_true_eq, Bool.false_eq_true, Bool.not_true, Bool.not_false, Bool.and_eq_true, W_var, List.getElem?_cons_zero, List.getElem?_cons_succ, List.set_cons_zero, List.set_cons_succ, rho0, List.length_cons, List.length_nil, List.replicate_succ, List.replicate_zero, List.cons_append, List.nil_append, List.append_eq, Nat.reduceAdd, Nat.reduceSub, wipeD, List.map_cons, List.map_nil, W_slU, W_iseqU, W_zipS, W_gget1, W_dC, W_inT, W_inD, W_ginT, W_upper, W_eqT0, W_len_U, W_aug, W_addSI, W_subSI, W_listR1, W_fldX, check_D (rw_ok h), tellB, rw_bad h hp, len_rw h]
  have lr : ∀ k ∈ List.range ps.length, k < ps.length := fun k hk => List.mem_range.mp hk
  refine ⟨small62_of (by omega) (by omega), by rw [rangeD_0]; simp; unfold line; omega, ?_⟩
  rw [rangeD_0]
  refine W_eq (comp_mapW encN (fun k => decide ((getP ps k).2 ≤ (getP ps k).1)) encN (List.range ps.length) [] fun k hk => ⟨_, rfl, ?_, fun _ => ⟨rfl, rfl⟩⟩) ?_
  · show W (tV (e2 kLe (e2 kIx (e2 kIx (eVar 0) (eVar 4)) (eC (D.int 1))) (e2 kIx (e2 kIx (eVar 0) (eVar 4)) (eC (D.int 0)))) [some d, none, none, none, some (.int (k : Int))] S) _
    simp only [W_fz, W_ixO, ixN_30, ixN_31, ixN_32, W_seq, W_asg, W_expr, W_ret, W_sif, W_par, W_never, W_nil, W_c, W_e2, W_call, W_anil, W_acons, W_tup, W_lst, W_lstM, W_tV, W_and, W_or, W_not, W_bAnd, W_bOr, W_bNot, W_eif, W_isN, W_notN, W_fn, W_fnK, W_pt, W_for, W_iseq, W_ienum, W_izip, W_comp, W_compG, W_compM, W_kI, W_yes, W_addI, W_addL, W_addT, W_mulI, W_ltI, W_ixL, W_ixT, W_ixS, atI_0, atI_1, atI_2, atI_3, atI_4, W_len_L, W_len_T, W_len_S, W_sum, W_all, W_any, W_min2, W_max2, W_abs, W_intI, W_intB, W_tupT, W_tupL, W_listT, W_listL, W_sl, W_oN, W_oS, W_slT, W_slL, W_slS, W_r1, W_app, W_set, W_gm, W_g0, W_g1, W_isiI, W_isiT, W_isiL, W_e3, Ws_nx, Ws_rt, W_ok, true_and, and_true, if_true, if_false, List.append_nil, frOf_l, frOf_t, frOf_s, kn_t, kn_i, kn_b, kn_l, kn_s, kn_d, isa_tt, isa_ii, isa_ib, isa_ll, isa_lt, isa_tl, W_isiL2, W_isiT2, W_allT, W_sumI, W_allM, W_sumM, cut2, W_ltT2, W_neI, W_eqI, bindP, bindPs, List.map_cons, List.map_nil, decide_eq_true_eq, Bool.false_eq_true, Bool.not_true, Bool.not_false, Bool.and_eq_true, W_var, List.getElem?_cons_zero, List.getElem?_cons_succ, List.set_cons_zero, List.set_cons_succ, rho0, List.length_cons, List.length_nil, List.replicate_succ, List.replicate_zero, List.cons_append, List.nil_append, List.append_eq, Nat.reduceAdd, Nat.reduceSub, wipeD, List.map_cons, List.map_nil, W_slU, W_iseqU, W_zipS, W_gget1, W_dC, W_inT, W_inD, W_ginT, W_upper, W_eqT0, W_len_U, W_aug, W_addSI, W_subSI, W_listR1, W_fldX]
    refine ix_rw h (lr k hk) ?_
    simp only [encP, W_fz, W_ixO, ixN_30, ixN_31, ixN_32, W_seq, W_asg, W_expr, W_ret, W_sif, W_par, W_never, W_nil, W_c, W_e2, W_call, W_anil, W_acons, W_tup, W_lst, W_lstM, W_tV, W_and, W_or, W_not, W_bAnd, W_bOr, W_bNot, W_eif, W_isN, W_notN, W_fn, W_fnK, W_pt, W_for, W_iseq, W_ienum, W_izip, W_comp, W_compG, W_compM, W_kI, W_yes, W_addI, W_addL, W_addT, W_mulI, W_ltI, W_ixL, W_ixT, W_ixS, atI_0, atI_1, atI_2, atI_3, atI_4, W_len_L, W_len_T, W_len_S, W_sum, W_all, W_any, W_min2, W_max2, W_abs, W_intI, W_intB, W_tupT, W_tupL, W_listT, W_listL, W_sl, W_oN, W_oS, W_slT, W_slL, W_slS, W_r1, W_app, W_set, W_gm, W_g0, W_g1, W_isiI, W_isiT, W_isiL, W_e3, Ws_nx, Ws_rt, W_ok, true_and, and_true, if_true, if_false, List.append_nil, frOf_l, frOf_t, frOf_s, kn_t, kn_i, kn_b, kn_l, kn_s, kn_d, isa_tt, isa_ii, isa_ib, isa_ll, isa_lt, isa_tl, W_isiL2, W_isiT2, W_allT, W_sumI, W_allM, W_sumM, cut2, W_ltT2, W_neI, W_eqI, bindP, bindPs, List.map_cons, List.map_nil, decide_eq_true_eq, Bool.false_eq_true, Bool.not_true, Bool.not_false, Bool.and_eq_true, W_var, List.getElem?_cons_zero, List.getElem?_cons_succ, List.set_cons_zero, List.set_cons_succ, rho0, List.length_cons, List.length_nil, List.replicate_succ, List.replicate_zero, List.cons_append, List.nil_append, List.append_eq, Nat.reduceAdd, Nat.reduceSub, wipeD, List.map_cons, List.map_nil, W_slU, W_iseqU, W_zipS, W_gget1, W_dC, W_inT, W_inD, W_ginT, W_upper, W_eqT0, W_len_U, W_aug, W_addSI, W_subSI, W_listR1, W_fldX]
    refine ix_rw h (lr k hk) ?_
    simp only [encP, W_fz, W_ixO, ixN_30, ixN_31, ixN_32, W_seq, W_asg, W_expr, W_ret, W_sif, W_par, W_never, W_nil, W_c, W_e2, W_call, W_anil, W_acons, W_tup, W_lst, W_lstM, W_tV, W_and, W_or, W_not, W_bAnd, W_bOr, W_bNot, W_eif, W_isN, W_notN, W_fn, W_fnK, W_pt, W_for, W_iseq, W_ienum, W_izip, W_comp, W_compG, W_compM, W_kI, W_yes, W_addI, W_addL, W_addT, W_mulI, W_ltI, W_ixL, W_ixT, W_ixS, atI_0, atI_1, atI_2, atI_3, atI_4, W_len_L, W_len_T, W_len_S, W_sum, W_all, W_any, W_min2, W_max2, W_abs, W_intI, W_intB, W_tupT, W_tupL, W_listT, W_listL, W_sl, W_oN, W_oS, W_slT, W_slL, W_slS, W_r1, W_app, W_set, W_gm, W_g0, W_g1, W_isiI, W_isiT, W_isiL, W_e3, Ws_nx, Ws_rt, W_ok, true_and, and_true, if_true, if_false, List.append_nil, frOf_l, frOf_t, frOf_s, kn_t, kn_i, kn_b, kn_l, kn_s, kn_d, isa_tt, isa_ii, isa_ib, isa_ll, isa_lt, isa_tl, W_isiL2, W_isiT2, W_allT, W_sumI, W_allM, W_sumM, cut2, W_ltT2, W_neI, W_eqI, bindP, bindPs, List.map_cons, List.map_nil, decide_eq_true_eq, Bool.false_eq_true, Bool.not_true, Bool.not_false, Bool.and_eq_true, W_var, List.getElem?_cons_zero, List.getElem?_cons_succ, List.set_cons_zero, List.set_cons_succ, rho0, List.length_cons, List.length_nil, List.replicate_succ, List.replicate_zero, List.cons_append, List.nil_append, List.append_eq, Nat.reduceAdd, Nat.reduceSub, wipeD, List.map_cons, List.map_nil, W_slU, W_iseqU, W_zipS, W_gget1, W_dC, W_inT, W_inD, W_ginT, W_upper, W_eqT0, W_len_U, W_aug, W_addSI, W_subSI, W_listR1, W_fldX, W_leI]
    first | done | exact ⟨rfl, rfl⟩
  refine ⟨small62_of (by omega) (by omega), by simp; unfold line; omega, ?_⟩
  refine W_eq (comp_mapW encN (fun k => decide ((getP ps k).2 > (getP ps k).1)) encN (List.range ps.length) [] fun k hk => ⟨_, rfl, ?_, fun _ => ⟨rfl, rfl⟩⟩) ?_
  · show W (tV (e2 kGt (e2 kIx (e2 kIx (eVar 0) (eVar 4)) (eC (D.int 1))) (e2 kIx (e2 kIx (eVar 0) (eVar 4)) (eC (D.int 0)))) [some d, _, none, none, some (.int (k : Int))] S) _
    simp only [W_fz, W_ixO, ixN_30, ixN_31, ixN_32, W_seq, W_asg, W_expr, W_ret, W_sif, W_par, W_never, W_nil, W_c, W_e2, W_call, W_anil, W_acons, W_tup, W_lst, W_lstM, W_tV, W_and, W_or, W_not, W_bAnd, W_bOr, W_bNot, W_eif, W_isN, W_notN, W_fn, W_fnK, W_pt, W_for, W_iseq, W_ienum, W_izip, W_comp, W_compG, W_compM, W_kI, W_yes, W_addI, W_addL, W_addT, W_mulI, W_ltI, W_ixL, W_ixT, W_ixS, atI_0, atI_1, atI_2, atI_3, atI_4, W_len_L, W_len_T, W_len_S, W_sum, W_all, W_any, W_min2, W_max2, W_abs, W_intI, W_intB, W_tupT, W_tupL, W_listT, W_listL, W_sl, W_oN, W_oS, W_slT, W_slL, W_slS, W_r1, W_app, W_set, W_gm, W_g0, W_g1, W_isiI, W_isiT, W_isiL, W_e3, Ws_nx, Ws_rt, W_ok, true_and, and_true, if_true, if_false, List.append_nil, frOf_l, frOf_t, frOf_s, kn_t, kn_i, kn_b, kn_l, kn_s, kn_d, isa_tt, isa_ii, isa_ib, isa_ll, isa_lt, isa_tl, W_isiL2, W_isiT2, W_allT, W_sumI, W_allM, W_sumM, cut2, W_ltT2, W_neI, W_eqI, bindP, bindPs, List.map_cons, List.map_nil, decide_eq_true_eq, Bool.false_eq_true, Bool.not_true, Bool.not_false, Bool.and_eq_true, W_var, List.getElem?_cons_zero, List.getElem?_cons_succ, List.set_cons_zero, List.set_cons_succ, rho0, List.length_cons, List.length_nil, List.replicate_succ, List.replicate_zero, List.cons_append, List.nil_append, List.append_eq, Nat.reduceAdd, Nat.reduceSub, wipeD, List.map_cons, List.map_nil, W_slU, W_iseqU, W_zipS, W_gget1, W_dC, W_inT, W_inD, W_ginT, W_upper, W_eqT0, W_len_U, W_aug, W_addSI, W_subSI, W_listR1, W_fldX]
    refine ix_rw h (lr k hk) ?_
    simp only [encP, W_fz, W_ixO, ixN_30, ixN_31, ixN_32, W_seq, W_asg, W_expr, W_ret, W_sif, W_par, W_never, W_nil, W_c, W_e2, W_call, W_anil, W_acons, W_tup, W_lst, W_lstM, W_tV, W_and, W_or, W_not, W_bAnd, W_bOr, W_bNot, W_eif, W_isN, W_notN, W_fn, W_fnK, W_pt, W_for, W_iseq, W_ienum, W_izip, W_comp, W_compG, W_compM, W_kI, W_yes, W_addI, W_addL, W_addT, W_mulI, W_ltI, W_ixL, W_ixT, W_ixS, atI_0, atI_1, atI_2, atI_3, atI_4, W_len_L, W_len_T, W_len_S, W_sum, W_all, W_any, W_min2, W_max2, W_abs, W_intI, W_intB, W_tupT, W_tupL, W_listT, W_listL, W_sl, W_oN, W_oS, W_slT, W_slL, W_slS, W_r1, W_app, W_set, W_gm, W_g0, W_g1, W_isiI, W_isiT, W_isiL, W_e3, Ws_nx, Ws_rt, W_ok, true_and, and_true, if_true, if_false, List.append_nil, frOf_l, frOf_t, frOf_s, kn_t, kn_i, kn_b, kn_l, kn_s, kn_d, isa_tt, isa_ii, isa_ib, isa_ll, isa_lt, isa_tl, W_isiL2, W_isiT2, W_allT, W_sumI, W_allM, W_sumM, cut2, W_ltT2, W_neI, W_eqI, bindP, bindPs, List.map_cons, List.map_nil, decide_eq_true_eq, Bool.false_eq_true, Bool.not_true, Bool.not_false, Bool.and_eq_true, W_var, List.getElem?_cons_zero, List.getElem?_cons_succ, List.set_cons_zero, List.set_cons_succ, rho0, List.length_cons, List.length_nil, List.replicate_succ, List.replicate_zero, List.cons_append, List.nil_append, List.append_eq, Nat.reduceAdd, Nat.reduceSub, wipeD, List.map_cons, List.map_nil, W_slU, W_iseqU, W_zipS, W_gget1, W_dC, W_inT, W_inD, W_ginT, W_upper, W_eqT0, W_len_U, W_aug, W_addSI, W_subSI, W_listR1, W_fldX]
    refine ix_rw h (lr k hk) ?_
    simp only [encP, W_fz, W_ixO, ixN_30, ixN_31, ixN_32, W_seq, W_asg, W_expr, W_ret, W_sif, W_par, W_never, W_nil, W_c, W_e2, W_call, W_anil, W_acons, W_tup, W_lst, W_lstM, W_tV, W_and, W_or, W_not, W_bAnd, W_bOr, W_bNot, W_eif, W_isN, W_notN, W_fn, W_fnK, W_pt, W_for, W_iseq, W_ienum, W_izip, W_comp, W_compG, W_compM, W_kI, W_yes, W_addI, W_addL, W_addT, W_mulI, W_ltI, W_ixL, W_ixT, W_ixS, atI_0, atI_1, atI_2, atI_3, atI_4, W_len_L, W_len_T, W_len_S, W_sum, W_all, W_any, W_min2, W_max2, W_abs, W_intI, W_intB, W_tupT, W_tupL, W_listT, W_listL, W_sl, W_oN, W_oS, W_slT, W_slL, W_slS, W_r1, W_app, W_set, W_gm, W_g0, W_g1, W_isiI, W_isiT, W_isiL, W_e3, Ws_nx, Ws_rt, W_ok, true_and, and_true, if_true, if_false, List.append_nil, frOf_l, frOf_t, frOf_s, kn_t, kn_i, kn_b, kn_l, kn_s, kn_d, isa_tt, isa_ii, isa_ib, isa_ll, isa_lt, isa_tl, W_isiL2, W_isiT2, W_allT, W_sumI, W_allM, W_sumM, cut2, W_ltT2, W_neI, W_eqI, bindP, bindPs, List.map_cons, List.map_nil, decide_eq_true_eq, Bool.false_eq_true, Bool.not_true, Bool.not_false, Bool.and_eq_true, W_var, List.getElem?_cons_zero, List.getElem?_cons_succ, List.set_cons_zero, List.set_cons_succ, rho0, List.length_cons, List.length_nil, List.replicate_succ, List.replicate_zero, List.cons_append, List.nil_append, List.append_eq, Nat.reduceAdd, Nat.reduceSub, wipeD, List.map_cons, List.map_nil, W_slU, W_iseqU, W_zipS, W_gget1, W_dC, W_inT, W_inD, W_ginT, W_upper, W_eqT0, W_len_U, W_aug, W_addSI, W_subSI, W_listR1, W_fldX, W_gtI]
    first | done | exact ⟨rfl, rfl⟩
  have el : ([] ++ List.map encN (List.filter (fun k => decide ((getP ps k).2 ≤ (getP ps k).1)) (List.range ps.length))) ++ ([] ++ List.map encN (List.filter (fun k => decide ((getP ps k).2 > (getP ps k).1)) (List.range ps.length))) = (orderL ps).map encN := by
    unfold orderL fallL riseL; simp
  have l1 : (fallL ps).length ≤ ps.length := by unfold fallL; exact Nat.le_trans (List.length_filter_le _ _) (by simp)
  have l2 : (riseL ps).length ≤ ps.length := by unfold riseL; exact Nat.le_trans (List.length_filter_le _ _) (by simp)
  have lo : (orderL ps).length ≤ 5000 := by unfold orderL; rw [List.length_append]; omega
  rw [el]
  have mem : ∀ k ∈ orderL ps, k < ps.length := fun k hk => by
    unfold orderL fallL riseL at hk
    rcases List.mem_append.mp hk with hk | hk <;> exact lr k (List.mem_filter.mp hk).1
  refine ⟨?_, by rw [List.length_map]; unfold line; omega, ?_⟩
  · simp only [List.nil_append, List.length_map]
    have a : (List.filter (fun k => decide ((getP ps k).2 ≤ (getP ps k).1)) (List.range ps.length)).length = (fallL ps).length := rfl
    have b : (List.filter (fun k => decide ((getP ps k).2 > (getP ps k).1)) (List.range ps.length)).length = (riseL ps).length := rfl
    rw [a, b]; unfold line; omega
  refine W_eq (comp_mapW encN (fun _ => true) (fun k => encP (getP ps k)) (orderL ps) [] fun k hk => ⟨_, rfl, ⟨rfl, rfl⟩, fun _ => ?_⟩) ?_
  · show W (e2 kIx (eVar 0) (eVar 4) [some d, _, _, _, some (.int (k : Int))] S) _
    simp only [W_fz, W_ixO, ixN_30, ixN_31, ixN_32, W_seq, W_asg, W_expr, W_ret, W_sif, W_par, W_never, W_nil, W_c, W_e2, W_call, W_anil, W_acons, W_tup, W_lst, W_lstM, W_tV, W_and, W_or, W_not, W_bAnd, W_bOr, W_bNot, W_eif, W_isN, W_notN, W_fn, W_fnK, W_pt, W_for, W_iseq, W_ienum, W_izip, W_comp, W_compG, W_compM, W_kI, W_yes, W_addI, W_addL, W_addT, W_mulI, W_ltI, W_ixL, W_ixT, W_ixS, atI_0, atI_1, atI_2, atI_3, atI_4, W_len_L, W_len_T, W_len_S, W_sum, W_all, W_any, W_min2, W_max2, W_abs, W_intI, W_intB, W_tupT, W_tupL, W_listT, W_listL, W_sl, W_oN, W_oS, W_slT, W_slL, W_slS, W_r1, W_app, W_set, W_gm, W_g0, W_g1, W_isiI, W_isiT, W_isiL, W_e3, Ws_nx, Ws_rt, W_ok, true_and, and_true, if_true, if_false, List.append_nil, frOf_l, frOf_t, frOf_s, kn_t, kn_i, kn_b, kn_l, kn_s, kn_d, isa_tt, isa_ii, isa_ib, isa_ll, isa_lt, isa_tl, W_isiL2, W_isiT2, W_allT, W_sumI, W_allM, W_sumM, cut2, W_ltT2, W_neI, W_eqI, bindP, bindPs, List.map_cons, List.map_nil, decide_eq_true_eq, Bool.false_eq_true, Bool.not_true, Bool.not_false, Bool.and_eq_true, W_var, List.getElem?_cons_zero, List.getElem?_cons_succ, List.set_cons_zero, List.set_cons_succ, rho0, List.length_cons, List.length_nil, List.replicate_succ, List.replicate_zero, List.cons_append, List.nil_append, List.append_eq, Nat.reduceAdd, Nat.reduceSub, wipeD, List.map_cons, List.map_nil, W_slU, W_iseqU, W_zipS, W_gget1, W_dC, W_inT, W_inD, W_ginT, W_upper, W_eqT0, W_len_U, W_aug, W_addSI, W_subSI, W_listR1, W_fldX]
    exact ix_rw h (mem k hk) ⟨rfl, rfl⟩
  rw [filter_all, List.nil_append]
  have e3 : (orderL ps).map (fun k => encP (getP ps k)) = ((orderL ps).map (getP ps)).map encP := by rw [List.map_map]; rfl
  rw [e3, needof_D (.inl rfl) (by rw [List.length_map]; omega)]
  exact ⟨by decide, rfl, back_same⟩)
end
end K38


namespace K38
open PySem L2 Qd

section
variable {S : Sto} {Q : D → Sto → Prop} {ps : List St2} {d : D}
theorem sort_D {e : D} : m_law_sort [.exc "NoRows" ["number"] [e]] S = .ok (.bl true) (S.back S.m.length) := by kernel_rfl
def txtE (e : D) : Str := match e with
  | .int i => Str.ofString (toString i)
  | _ => "None"
def Num (e : D) : Prop := e = .non ∨ ∃ n : Nat, e = .int (n : Int) ∧ n < 100000
theorem repr_N {e : D} (h : Num e) : kRepr [e] S = .ok (.str (txtE e)) S := by
  rcases h with rfl | ⟨n, rfl, hn⟩
  · kernel_rfl
  · obtain ⟨e, h1, h2, h3, h4⟩ := shw_int (i := (n : Int)) (by show n < 100000000000000000000000000000000000000000; omega)
    have e1 : e = .int (n : Int) := by
      have : px (.int (n : Int)) = some (.int (n : Int)) := rfl
      rw [this] at h1; cases h1; rfl
    subst e1
    show (match pxOf S (.int (n : Int)) with
      | some e => chk (shOk e) (.ok (D.str e.shown) S)
      | none => .no) = _
    rw [show pxOf S (.int (n : Int)) = some (.int (n : Int)) from rfl]
    simp only
    unfold chk shOk
    rw [if_pos]
    · rfl
    simp only [Bool.and_eq_true, decide_eq_true_eq]
    exact ⟨h2, by unfold line; omega, by omega⟩
theorem seen_D {e : D} {i : Int} (ho : okD d = true) (hb : badD d = some e) (hn : Num e) : m_law_seen [d, .int i] S = .ok (.str (txtE e)) S := of_W (by
  refine W_of_Wx ?_
  unfold m_law_seen
  rw [Wx_run]
  unfold b_law_seen
  rw [Wsx_seq, Wsx_asg]
  refine Wx_of ?_
  simp only [W_fz, W_ixO, ixN_30, ixN_31, ixN_32, W_seq, W_asg, W_expr, W_ret, W_sif, W_par, W_never, W_nil, W_c, W_e2, W_call, W_anil, W_acons, W_tup, W_lst, W_lstM, W_tV, W_and, W_or, W_not, W_bAnd, W_bOr, W_bNot, W_eif, W_isN, W_notN, W_fn, W_fnK, W_pt, W_for, W_iseq, W_ienum, W_izip, W_comp, W_compG, W_compM, W_kI, W_yes, W_addI, W_addL, W_addT, W_mulI, W_ltI, W_ixL, W_ixT, W_ixS, atI_0, atI_1, atI_2, atI_3, atI_4, W_len_L, W_len_T, W_len_S, W_sum, W_all, W_any, W_min2, W_max2, W_abs, W_intI, W_intB, W_tupT, W_tupL, W_listT, W_listL, W_sl, W_oN, W_oS, W_slT, W_slL, W_slS, W_r1, W_app, W_set, W_gm, W_g0, W_g1, W_isiI, W_isiT, W_isiL, W_e3, Ws_nx, Ws_rt, W_ok, true_and, and_true, if_true, if_false, List.append_nil, frOf_l, frOf_t, frOf_s, kn_t, kn_i, kn_b, kn_l, kn_s, kn_d, isa_tt, isa_ii, isa_ib, isa_ll, isa_lt, isa_tl, W_isiL2, W_isiT2, W_allT, W_sumI, W_allM, W_sumM, cut2, W_ltT2, W_neI, W_eqI, bindP, bindPs, List.map_cons, List.map_nil, decide_eq_true_eq, Bool.false_eq_true, Bool.not_true, Bool.not_false, Bool.and_eq_true, W_var, List.getElem?_cons_zero, List.getElem?_cons_succ, List.set_cons_zero, List.set_cons_succ, rho0, List.length_cons, List.length_nil, List.replicate_succ, List.replicate_zero, List.cons_append, List.nil_append, List.append_eq, Nat.reduceAdd, Nat.reduceSub, wipeD, List.map_cons, List.map_nil, W_slU, W_iseqU, W_zipS, W_gget1, W_dC, W_inT, W_inD, W_ginT, W_upper, W_eqT0, W_len_U, W_aug, W_addSI, W_subSI, W_listR1, W_fldX]
  rw [Wsx_seq, Wsx_try, Wsx_if]
  refine Wx_of ?_
  simp only [W_fz, W_ixO, ixN_30, ixN_31, ixN_32, W_seq, W_asg, W_expr, W_ret, W_sif, W_par, W_never, W_nil, W_c, W_e2, W_call, W_anil, W_acons, W_tup, W_lst, W_lstM, W_tV, W_and, W_or, W_not, W_bAnd, W_bOr, W_bNot, W_eif, W_isN, W_notN, W_fn, W_fnK, W_pt, W_for, W_iseq, W_ienum, W_izip, W_comp, W_compG, W_compM, W_kI, W_yes, W_addI, W_addL, W_addT, W_mulI, W_ltI, W_ixL, W_ixT, W_ixS, atI_0, atI_1, atI_2, atI_3, atI_4, W_len_L, W_len_T, W_len_S, W_sum, W_all, W_any, W_min2, W_max2, W_abs, W_intI, W_intB, W_tupT, W_tupL, W_listT, W_listL, W_sl, W_oN, W_oS, W_slT, W_slL, W_slS, W_r1, W_app, W_set, W_gm, W_g0, W_g1, W_isiI, W_isiT, W_isiL, W_e3, Ws_nx, Ws_rt, W_ok, true_and, and_true, if_true, if_false, List.append_nil, frOf_l, frOf_t, frOf_s, kn_t, kn_i, kn_b, kn_l, kn_s, kn_d, isa_tt, isa_ii, isa_ib, isa_ll, isa_lt, isa_tl, W_isiL2, W_isiT2, W_allT, W_sumI, W_allM, W_sumM, cut2, W_ltT2, W_neI, W_eqI, bindP, bindPs, List.map_cons, List.map_nil, decide_eq_true_eq, Bool.false_eq_true, Bool.not_true, Bool.not_false, Bool.and_eq_true, W_var, List.getElem?_cons_zero, List.getElem?_cons_succ, List.set_cons_zero, List.set_cons_succ, rho0, List.length_cons, List.length_nil, List.replicate_succ, List.replicate_zero, List.cons_append, List.nil_append, List.append_eq, Nat.reduceAdd, Nat.reduceSub, wipeD, List.map_cons, List.map_nil, W_slU, W_iseqU, W_zipS, W_gget1, W_dC, W_inT, W_inD, W_ginT, W_upper, W_eqT0, W_len_U, W_aug, W_addSI, W_subSI, W_listR1, W_fldX, W_eqI]
  have key : ∀ S1 : Sto, S1.back S.m.length = S → S1.m.length = S.m.length → Wsx (hnd xtab [([("NoRows" : Str)], some 3, sAsg (e2 kIx (eLst (aCons (eC (D.str (Str.ofString "odd"))) (aCons (eCall kRepr (aCons (eFld xl_number il_number (Str.ofString "number") (eVar 3)) aNil)) aNil))) (eCall kInt (aCons (eFn m_law_sort (aCons (eVar 3) aNil) []) aNil))) (gPt (Pt.nm 2)))]
      [some d, some (D.int i), some (D.str (Str.ofString "told")), none] "NoRows" ["number"] [e] S1)
      (fun ρ S_1 => Wsx (sRet (eVar 2) ρ S_1) (fun x S' => D.non = D.str (txtE e) ∧ S'.back S.m.length = S) (fun d S' => d = D.str (txtE e) ∧ S'.back S.m.length = S) fun x C ns vs S' => False)
      (fun d S' => d = D.str (txtE e) ∧ S'.back S.m.length = S) (fun x C ns vs S' => False) := fun S1 h1 h2 => by
    refine Wsx_hnd (anc := ["NoRows", "StakeError"]) (by decide +kernel) rfl (by decide +kernel) ?_
    simp only [W_fz, W_ixO, ixN_30, ixN_31, ixN_32, W_seq, W_asg, W_expr, W_ret, W_sif, W_par, W_never, W_nil, W_c, W_e2, W_call, W_anil, W_acons, W_tup, W_lst, W_lstM, W_tV, W_and, W_or, W_not, W_bAnd, W_bOr, W_bNot, W_eif, W_isN, W_notN, W_fn, W_fnK, W_pt, W_for, W_iseq, W_ienum, W_izip, W_comp, W_compG, W_compM, W_kI, W_yes, W_addI, W_addL, W_addT, W_mulI, W_ltI, W_ixL, W_ixT, W_ixS, atI_0, atI_1, atI_2, atI_3, atI_4, W_len_L, W_len_T, W_len_S, W_sum, W_all, W_any, W_min2, W_max2, W_abs, W_intI, W_intB, W_tupT, W_tupL, W_listT, W_listL, W_sl, W_oN, W_oS, W_slT, W_slL, W_slS, W_r1, W_app, W_set, W_gm, W_g0, W_g1, W_isiI, W_isiT, W_isiL, W_e3, Ws_nx, Ws_rt, W_ok, true_and, and_true, if_true, if_false, List.append_nil, frOf_l, frOf_t, frOf_s, kn_t, kn_i, kn_b, kn_l, kn_s, kn_d, isa_tt, isa_ii, isa_ib, isa_ll, isa_lt, isa_tl, W_isiL2, W_isiT2, W_allT, W_sumI, W_allM, W_sumM, cut2, W_ltT2, W_neI, W_eqI, bindP, bindPs, List.map_cons, List.map_nil, decide_eq_true_eq, Bool.false_eq_true, Bool.not_true, Bool.not_false, Bool.and_eq_true, W_var, List.getElem?_cons_zero, List.getElem?_cons_succ, List.set_cons_zero, List.set_cons_succ, rho0, List.length_cons, List.length_nil, List.replicate_succ, List.replicate_zero, List.cons_append, List.nil_append, List.append_eq, Nat.reduceAdd, Nat.reduceSub, wipeD, List.map_cons, List.map_nil, W_slU, W_iseqU, W_zipS, W_gget1, W_dC, W_inT, W_inD, W_ginT, W_upper, W_eqT0, W_len_U, W_aug, W_addSI, W_subSI, W_listR1, W_fldX]
    have hf : fieldsOf S1 xl_number il_number (.exc "NoRows" ["number"] [e]) = some ([("number" : Str)], [e]) := by kernel_rfl
    rw [hf]
    simp only
    rw [show (List.zip [("number" : Str)] [e]).lookup (Str.ofString "number") = some e by kernel_rfl]
    simp only [repr_N hn, W_fz, W_ixO, ixN_30, ixN_31, ixN_32, W_seq, W_asg, W_expr, W_ret, W_sif, W_par, W_never, W_nil, W_c, W_e2, W_call, W_anil, W_acons, W_tup, W_lst, W_lstM, W_tV, W_and, W_or, W_not, W_bAnd, W_bOr, W_bNot, W_eif, W_isN, W_notN, W_fn, W_fnK, W_pt, W_for, W_iseq, W_ienum, W_izip, W_comp, W_compG, W_compM, W_kI, W_yes, W_addI, W_addL, W_addT, W_mulI, W_ltI, W_ixL, W_ixT, W_ixS, atI_0, atI_1, atI_2, atI_3, atI_4, W_len_L, W_len_T, W_len_S, W_sum, W_all, W_any, W_min2, W_max2, W_abs, W_intI, W_intB, W_tupT, W_tupL, W_listT, W_listL, W_sl, W_oN, W_oS, W_slT, W_slL, W_slS, W_r1, W_app, W_set, W_gm, W_g0, W_g1, W_isiI, W_isiT, W_isiL, W_e3, Ws_nx, Ws_rt, W_ok, true_and, and_true, if_true, if_false, List.append_nil, frOf_l, frOf_t, frOf_s, kn_t, kn_i, kn_b, kn_l, kn_s, kn_d, isa_tt, isa_ii, isa_ib, isa_ll, isa_lt, isa_tl, W_isiL2, W_isiT2, W_allT, W_sumI, W_allM, W_sumM, cut2, W_ltT2, W_neI, W_eqI, bindP, bindPs, List.map_cons, List.map_nil, decide_eq_true_eq, Bool.false_eq_true, Bool.not_true, Bool.not_false, Bool.and_eq_true, W_var, List.getElem?_cons_zero, List.getElem?_cons_succ, List.set_cons_zero, List.set_cons_succ, rho0, List.length_cons, List.length_nil, List.replicate_succ, List.replicate_zero, List.cons_append, List.nil_append, List.append_eq, Nat.reduceAdd, Nat.reduceSub, wipeD, List.map_cons, List.map_nil, W_slU, W_iseqU, W_zipS, W_gget1, W_dC, W_inT, W_inD, W_ginT, W_upper, W_eqT0, W_len_U, W_aug, W_addSI, W_subSI, W_listR1, W_fldX, sort_D]
    refine ⟨by decide, ?_⟩
    rw [back_same, Wsx_ret]
    refine Wx_of ?_
    simp only [W_fz, W_ixO, ixN_30, ixN_31, ixN_32, W_seq, W_asg, W_expr, W_ret, W_sif, W_par, W_never, W_nil, W_c, W_e2, W_call, W_anil, W_acons, W_tup, W_lst, W_lstM, W_tV, W_and, W_or, W_not, W_bAnd, W_bOr, W_bNot, W_eif, W_isN, W_notN, W_fn, W_fnK, W_pt, W_for, W_iseq, W_ienum, W_izip, W_comp, W_compG, W_compM, W_kI, W_yes, W_addI, W_addL, W_addT, W_mulI, W_ltI, W_ixL, W_ixT, W_ixS, atI_0, atI_1, atI_2, atI_3, atI_4, W_len_L, W_len_T, W_len_S, W_sum, W_all, W_any, W_min2, W_max2, W_abs, W_intI, W_intB, W_tupT, W_tupL, W_listT, W_listL, W_sl, W_oN, W_oS, W_slT, W_slL, W_slS, W_r1, W_app, W_set, W_gm, W_g0, W_g1, W_isiI, W_isiT, W_isiL, W_e3, Ws_nx, Ws_rt, W_ok, true_and, and_true, if_true, if_false, List.append_nil, frOf_l, frOf_t, frOf_s, kn_t, kn_i, kn_b, kn_l, kn_s, kn_d, isa_tt, isa_ii, isa_ib, isa_ll, isa_lt, isa_tl, W_isiL2, W_isiT2, W_allT, W_sumI, W_allM, W_sumM, cut2, W_ltT2, W_neI, W_eqI, bindP, bindPs, List.map_cons, List.map_nil, decide_eq_true_eq, Bool.false_eq_true, Bool.not_true, Bool.not_false, Bool.and_eq_true, W_var, List.getElem?_cons_zero, List.getElem?_cons_succ, List.set_cons_zero, List.set_cons_succ, rho0, List.length_cons, List.length_nil, List.replicate_succ, List.replicate_zero, List.cons_append, List.nil_append, List.append_eq, Nat.reduceAdd, Nat.reduceSub, wipeD, List.map_cons, List.map_nil, W_slU, W_iseqU, W_zipS, W_gget1, W_dC, W_inT, W_inD, W_ginT, W_upper, W_eqT0, W_len_U, W_aug, W_addSI, W_subSI, W_listR1, W_fldX]
    exact h1
  split
  · rw [Wsx_expr, Wx_fn]
    refine Wx_of ?_
    simp only [W_fz, W_ixO, ixN_30, ixN_31, ixN_32, W_seq, W_asg, W_expr, W_ret, W_sif, W_par, W_never, W_nil, W_c, W_e2, W_call, W_anil, W_acons, W_tup, W_lst, W_lstM, W_tV, W_and, W_or, W_not, W_bAnd, W_bOr, W_bNot, W_eif, W_isN, W_notN, W_fn, W_fnK, W_pt, W_for, W_iseq, W_ienum, W_izip, W_comp, W_compG, W_compM, W_kI, W_yes, W_addI, W_addL, W_addT, W_mulI, W_ltI, W_ixL, W_ixT, W_ixS, atI_0, atI_1, atI_2, atI_3, atI_4, W_len_L, W_len_T, W_len_S, W_sum, W_all, W_any, W_min2, W_max2, W_abs, W_intI, W_intB, W_tupT, W_tupL, W_listT, W_listL, W_sl, W_oN, W_oS, W_slT, W_slL, W_slS, W_r1, W_app, W_set, W_gm, W_g0, W_g1, W_isiI, W_isiT, W_isiL, W_e3, Ws_nx, Ws_rt, W_ok, true_and, and_true, if_true, if_false, List.append_nil, frOf_l, frOf_t, frOf_s, kn_t, kn_i, kn_b, kn_l, kn_s, kn_d, isa_tt, isa_ii, isa_ib, isa_ll, isa_lt, isa_tl, W_isiL2, W_isiT2, W_allT, W_sumI, W_allM, W_sumM, cut2, W_ltT2, W_neI, W_eqI, bindP, bindPs, List.map_cons, List.map_nil, decide_eq_true_eq, Bool.false_eq_true, Bool.not_true, Bool.not_false, Bool.and_eq_true, W_var, List.getElem?_cons_zero, List.getElem?_cons_succ, List.set_cons_zero, List.set_cons_succ, rho0, List.length_cons, List.length_nil, List.replicate_succ, List.replicate_zero, List.cons_append, List.nil_append, List.append_eq, Nat.reduceAdd, Nat.reduceSub, wipeD, List.map_cons, List.map_nil, W_slU, W_iseqU, W_zipS, W_gget1, W_dC, W_inT, W_inD, W_ginT, W_upper, W_eqT0, W_len_U, W_aug, W_addSI, W_subSI, W_listR1, W_fldX, need_bad ho hb, Wx_er]
    exact key S back_same rfl
  · rw [Wsx_expr, Wx_fn]
    refine Wx_of ?_
    simp only [W_fz, W_ixO, ixN_30, ixN_31, ixN_32, W_seq, W_asg, W_expr, W_ret, W_sif, W_par, W_never, W_nil, W_c, W_e2, W_call, W_anil, W_acons, W_tup, W_lst, W_lstM, W_tV, W_and, W_or, W_not, W_bAnd, W_bOr, W_bNot, W_eif, W_isN, W_notN, W_fn, W_fnK, W_pt, W_for, W_iseq, W_ienum, W_izip, W_comp, W_compG, W_compM, W_kI, W_yes, W_addI, W_addL, W_addT, W_mulI, W_ltI, W_ixL, W_ixT, W_ixS, atI_0, atI_1, atI_2, atI_3, atI_4, W_len_L, W_len_T, W_len_S, W_sum, W_all, W_any, W_min2, W_max2, W_abs, W_intI, W_intB, W_tupT, W_tupL, W_listT, W_listL, W_sl, W_oN, W_oS, W_slT, W_slL, W_slS, W_r1, W_app, W_set, W_gm, W_g0, W_g1, W_isiI, W_isiT, W_isiL, W_e3, Ws_nx, Ws_rt, W_ok, true_and, and_true, if_true, if_false, List.append_nil, frOf_l, frOf_t, frOf_s, kn_t, kn_i, kn_b, kn_l, kn_s, kn_d, isa_tt, isa_ii, isa_ib, isa_ll, isa_lt, isa_tl, W_isiL2, W_isiT2, W_allT, W_sumI, W_allM, W_sumM, cut2, W_ltT2, W_neI, W_eqI, bindP, bindPs, List.map_cons, List.map_nil, decide_eq_true_eq, Bool.false_eq_true, Bool.not_true, Bool.not_false, Bool.and_eq_true, W_var, List.getElem?_cons_zero, List.getElem?_cons_succ, List.set_cons_zero, List.set_cons_succ, rho0, List.length_cons, List.length_nil, List.replicate_succ, List.replicate_zero, List.cons_append, List.nil_append, List.append_eq, Nat.reduceAdd, Nat.reduceSub, wipeD, List.map_cons, List.map_nil, W_slU, W_iseqU, W_zipS, W_gget1, W_dC, W_inT, W_inD, W_ginT, W_upper, W_eqT0, W_len_U, W_aug, W_addSI, W_subSI, W_listR1, W_fldX, room_bad ho hb, Wx_er]
    exact key S back_same rfl)
end
end K38


namespace K38
open PySem L2 Qd
/-! plain: what rounds need -/
theorem sum_cons2 (p : St2) (l : List St2) : sumD (p :: l) = p.1 + sumD l ∧ sumT (p :: l) = p.2 + sumT l := ⟨by simp [sumD], by simp [sumT]⟩
theorem F1 : ∀ (l : List St2) (s : St2), (l.foldl stepP s).1 = s.1 + sumT l - sumD l
  | [], s => by simp [sumD, sumT]
  | p :: l, s => by
    obtain ⟨a, b⟩ := sum_cons2 p l
    rw [List.foldl_cons, F1 l, a, b]
    simp only [stepP]
    omega
theorem step_ge (s p : St2) : s.2 ≤ (stepP s p).2 ∧ (stepP s p).1 ≤ (stepP s p).2 := by
  simp only [stepP]
  split <;> omega
theorem F2 : ∀ (l : List St2) (s : St2), s.2 ≤ (l.foldl stepP s).2
  | [], s => Int.le_refl _
  | p :: l, s => Int.le_trans (step_ge s p).1 (F2 l (stepP s p))
theorem F3 : ∀ (l : List St2) (s : St2), s.1 ≤ s.2 → (l.foldl stepP s).1 ≤ (l.foldl stepP s).2
  | [], s, h => h
  | p :: l, s, _ => F3 l (stepP s p) (step_ge s p).2
theorem F4 : ∀ (l : List St2) (s : St2), (∀ p ∈ l, p.2 ≤ p.1) → s.1 ≤ s.2 → (l.foldl stepP s).2 = s.2
  | [], s, _, _ => rfl
  | p :: l, s, h, hs => by
    have hp := h p List.mem_cons_self
    have e : (stepP s p).2 = s.2 := by
      simp only [stepP]
      rw [if_neg (by omega)]
    rw [List.foldl_cons, F4 l (stepP s p) (fun q hq => h q (List.mem_cons_of_mem _ hq)) (step_ge s p).2, e]
theorem F5 : ∀ (l : List St2) (s : St2), (∀ p ∈ l, p.1 ≤ p.2) → s.1 ≤ s.2 → (l.foldl stepP s).2 = max s.2 (l.foldl stepP s).1
  | [], s, _, h => by simp only [List.foldl_nil]; omega
  | p :: l, s, h, hs => by
    have hp := h p List.mem_cons_self
    rw [List.foldl_cons, F5 l (stepP s p) (fun q hq => h q (List.mem_cons_of_mem _ hq)) (step_ge s p).2, F1]
    have hd : sumD l ≤ sumT l := by
      have : ∀ l : List St2, (∀ p ∈ l, p.1 ≤ p.2) → sumD l ≤ sumT l := fun l => by
        induction l with
        | nil => intro _; simp [sumD, sumT]
        | cons q l ih =>
          intro h
          obtain ⟨a, b⟩ := sum_cons2 q l
          have := ih fun r hr => h r (List.mem_cons_of_mem _ hr)
          have := h q List.mem_cons_self
          omega
      exact this l fun q hq => h q (List.mem_cons_of_mem _ hq)
    simp only [stepP]
    split <;> omega
/-- walked in an order -/
def walkV (ps : List St2) (ks : List Nat) : Int := (ks.foldl (fun s k => stepP s (getP ps k)) (sumD ps, sumD ps)).2
theorem walk_map (ps : List St2) (ks : List Nat) : walkV ps ks = ((ks.map (getP ps)).foldl stepP (sumD ps, sumD ps)).2 := by
  unfold walkV
  rw [List.foldl_map]
theorem get_range (ps : List St2) : (List.range ps.length).map (getP ps) = ps := by
  apply List.ext_getElem
  · simp
  · intro i h1 h2
    simp only [List.getElem_map, List.getElem_range, getP]
    exact getD_get _ (by simpa using h2)
theorem walk_told (ps : List St2) : walkV ps (List.range ps.length) = needV ps := by
  rw [walk_map, get_range]; rfl
theorem permSum {a b : List Int} (h : a.Perm b) : a.sum = b.sum := by
  induction h with
  | nil => rfl
  | cons x _ ih => simp [ih]
  | swap x y l => simp only [List.sum_cons]; omega
  | trans _ _ h1 h2 => exact h1.trans h2
theorem perm_sums {ps : List St2} {ks : List Nat} (h : ks.Perm (List.range ps.length)) : sumD (ks.map (getP ps)) = sumD ps ∧ sumT (ks.map (getP ps)) = sumT ps := by
  have p := h.map (getP ps)
  rw [get_range] at p
  exact ⟨permSum (p.map _), permSum (p.map _)⟩
theorem walk_ge {ps : List St2} {ks : List Nat} (h : ks.Perm (List.range ps.length)) : max (sumD ps) (sumT ps) ≤ walkV ps ks := by
  rw [walk_map]
  obtain ⟨a, b⟩ := perm_sums h
  have h1 := F2 (ks.map (getP ps)) (sumD ps, sumD ps)
  have h2 := F3 (ks.map (getP ps)) (sumD ps, sumD ps) (Int.le_refl _)
  rw [F1, a, b] at h2
  simp only at h1 h2
  omega
theorem order_perm (ps : List St2) : (orderL ps).Perm (List.range ps.length) := by
  unfold orderL fallL riseL
  have e : (fun k => decide ((getP ps k).2 > (getP ps k).1)) = fun k => !(decide ((getP ps k).2 ≤ (getP ps k).1)) := by
    funext k
    by_cases h : (getP ps k).2 ≤ (getP ps k).1
    · rw [decide_eq_true h, decide_eq_false (by omega)]; rfl
    · rw [decide_eq_false h, decide_eq_true (by omega)]; rfl
  rw [e]
  exact List.filter_append_perm _ _
theorem order_best (ps : List St2) : walkV ps (orderL ps) = max (sumD ps) (sumT ps) := by
  obtain ⟨a, b⟩ := perm_sums (order_perm ps)
  have hp := F1 ((orderL ps).map (getP ps)) (sumD ps, sumD ps)
  rw [a, b] at hp
  rw [walk_map]
  unfold orderL at hp ⊢
  rw [List.map_append, List.foldl_append] at hp ⊢
  have hf : ∀ p ∈ (fallL ps).map (getP ps), p.2 ≤ p.1 := fun p hp => by
    obtain ⟨k, hk, rfl⟩ := List.mem_map.mp hp
    unfold fallL at hk
    simpa using (List.mem_filter.mp hk).2
  have hr : ∀ p ∈ (riseL ps).map (getP ps), p.1 ≤ p.2 := fun p hp => by
    obtain ⟨k, hk, rfl⟩ := List.mem_map.mp hp
    unfold riseL at hk
    have := (List.mem_filter.mp hk).2
    simp at this
    omega
  rw [F5 _ _ hr (F3 _ _ (Int.le_refl _)), F4 _ _ hf (Int.le_refl _), hp]
  simp only
  omega
theorem order_need (ps : List St2) : needV ((orderL ps).map (getP ps)) = max (sumD ps) (sumT ps) := by
  rw [← order_best, walk_map]
  unfold needV
  rw [(perm_sums (order_perm ps)).1]
/-! ### all orders -/
def insAll (k : Nat) (one : List Nat) : List (List Nat) := (List.range (one.length + 1)).map fun a => one.take a ++ [k] ++ one.drop a
def ordersL : Nat → List (List Nat)
  | 0 => [[]]
  | n + 1 => (ordersL n).flatMap (insAll n)
theorem orders_perm : ∀ (n : Nat) (l : List Nat), l ∈ ordersL n → l.Perm (List.range n)
  | 0, l, h => by
    simp [ordersL] at h
    subst h; exact .refl _
  | n + 1, l, h => by
    obtain ⟨one, h1, h2⟩ := List.mem_flatMap.mp h
    obtain ⟨a, _, rfl⟩ := List.mem_map.mp h2
    have p := orders_perm n one h1
    rw [List.range_succ]
    have : (one.take a ++ [n] ++ one.drop a).Perm (one ++ [n]) := by
      have h3 : (one.take a ++ [n] ++ one.drop a).Perm (one.take a ++ one.drop a ++ [n]) := by
        rw [List.append_assoc, List.append_assoc]
        exact List.Perm.append_left _ List.perm_append_comm
      rwa [List.take_append_drop] at h3
    exact this.trans (List.Perm.append_right [n] p)
theorem perm_orders : ∀ (n : Nat) (l : List Nat), l.Perm (List.range n) → l ∈ ordersL n
  | 0, l, h => by
    have : l = [] := by simpa using h.length_eq
    subst this; simp [ordersL]
  | n + 1, l, h => by
    have hm : n ∈ l := h.mem_iff.mpr (by simp)
    obtain ⟨s, t, rfl⟩ := List.append_of_mem hm
    have h2 : (s ++ t).Perm (List.range n) := by
      rw [List.range_succ] at h
      have h3 : (n :: (s ++ t)).Perm (n :: List.range n) := (List.perm_middle.symm.trans h).trans (List.perm_append_singleton _ _)
      exact h3.cons_inv
    refine List.mem_flatMap.mpr ⟨s ++ t, perm_orders n _ h2, List.mem_map.mpr ⟨s.length, by simp; omega, ?_⟩⟩
    simp
end K38


namespace K38
open PySem L2 Qd

section
variable {S : Sto} {Q : D → Sto → Prop} {ps : List St2} {d : D}
theorem walk_loop {x0 : Option D} {ks : List Nat} {N : Rho → Sto → Prop} {T : D → Sto → Prop} (hk : ∀ k ∈ ks, k < ps.length) (hN : ∀ x1 x4 x5 h, N [some (.lst (ps.map encP)), x1, some (.int h), some (.int (walkV ps ks)), x4, x5] S) :
    Ws (loop (.nm 4) (sSeq (sAsg (e2 kAdd (e2 kSub (eVar 2) (e2 kIx (e2 kIx (eVar 0) (eVar 4)) (eC (.int 0)))) (e2 kIx (e2 kIx (eVar 0) (eVar 4)) (eC (.int 1)))) (gPt (.nm 2))) (sAsg (eCall kMax2 (aCons (eVar 3) (aCons (eVar 2) (aNil)))) (gPt (.nm 3)))) (ks.map encN)
      [some (.lst (ps.map encP)), x0, some (.int (sumD ps)), some (.int (sumD ps)), none, none] S) N T := by
  refine W_loop (fun rest ρ S' => ∃ (done todo : List Nat) (x1 x4 x5 : Option D), ks = done ++ todo ∧ rest = todo.map encN ∧ S' = S ∧ ρ = [some (.lst (ps.map encP)), x1, some (.int (done.foldl (fun s k => stepP s (getP ps k)) (sumD ps, sumD ps)).1), some (.int (done.foldl (fun s k => stepP s (getP ps k)) (sumD ps, sumD ps)).2), x4, x5])
    ⟨[], ks, x0, none, none, rfl, rfl, rfl, rfl⟩ ?_ ?_
  · rintro e r ρ S' ⟨done, todo, x1, x4, x5, he, hr, rfl, rfl⟩
    match todo, hr with
    | [], hr => cases hr
    | k :: todo, hr =>
      simp only [List.map_cons, List.cons.injEq] at hr
      obtain ⟨rfl, rfl⟩ := hr
      have hkk : k < ps.length := hk k (by rw [he]; simp)
      refine ⟨_, rfl, ?_⟩
      have e1 : atI (List.map encP ps) ((k : Nat) : Int) = some (.tup [.int (getP ps k).1, .int (getP ps k).2]) := atI_get (0, 0) hkk
      simp only [W_fz, W_ixO, ixN_30, ixN_31, ixN_32, W_seq, W_asg, W_expr, W_ret, W_sif, W_par, W_never, W_nil, W_c, W_e2, W_call, W_anil, W_acons, W_tup, W_lst, W_lstM, W_tV, W_and, W_or, W_not, W_bAnd, W_bOr, W_bNot, W_eif, W_isN, W_notN, W_fn, W_fnK, W_pt, W_for, W_iseq, W_ienum, W_izip, W_comp, W_compG, W_compM, W_kI, W_yes, W_addI, W_addL, W_addT, W_mulI, W_ltI, W_ixL, W_ixT, W_ixS, atI_0, atI_1, atI_2, atI_3, atI_4, W_len_L, W_len_T, W_len_S, W_sum, W_all, W_any, W_min2, W_max2, W_abs, W_intI, W_intB, W_tupT, W_tupL, W_listT, W_listL, W_sl, W_oN, W_oS, W_slT, W_slL, W_slS, W_r1, W_app, W_set, W_gm, W_g0, W_g1, W_isiI, W_isiT, W_isiL, W_e3, Ws_nx, Ws_rt, W_ok, true_and, and_true, if_true, if_false, List.append_nil, frOf_l, frOf_t, frOf_s, kn_t, kn_i, kn_b, kn_l, kn_s, kn_d, isa_tt, isa_ii, isa_ib, isa_ll, isa_lt, isa_tl, W_isiL2, W_isiT2, W_allT, W_sumI, W_allM, W_sumM, cut2, W_ltT2, W_neI, W_eqI, bindP, bindPs, List.map_cons, List.map_nil, decide_eq_true_eq, Bool.false_eq_true, Bool.not_true, Bool.not_false, Bool.and_eq_true, W_var, List.getElem?_cons_zero, List.getElem?_cons_succ, List.set_cons_zero, List.set_cons_succ, rho0, List.length_cons, List.length_nil, List.replicate_succ, List.replicate_zero, List.cons_append, List.nil_append, List.append_eq, Nat.reduceAdd, Nat.reduceSub, wipeD, List.map_cons, List.map_nil, W_slU, W_iseqU, W_zipS, W_gget1, W_dC, W_inT, W_inD, W_ginT, W_upper, W_eqT0, W_len_U, W_aug, W_addSI, W_subSI, W_listR1, W_fldX, encN, e1]
      refine ⟨done ++ [k], todo, x1, some (encN k), x5, by rw [he]; simp, rfl, ?_⟩
      have key : ∀ s : St2, (stepP s (getP ps k)).1 = s.1 - (getP ps k).1 + (getP ps k).2 ∧ (stepP s (getP ps k)).2 = if s.1 - (getP ps k).1 + (getP ps k).2 > s.2 then s.1 - (getP ps k).1 + (getP ps k).2 else s.2 := fun s => by
        simp only [stepP]
        rw [show s.1 + ((getP ps k).2 - (getP ps k).1) = s.1 - (getP ps k).1 + (getP ps k).2 by omega]
        exact ⟨rfl, rfl⟩
      rw [List.foldl_append, List.foldl_cons, List.foldl_nil, (key _).1, (key _).2]
      rfl
  · rintro ρ S' ⟨done, todo, x1, x4, x5, he, hr, rfl, rfl⟩
    match todo, hr with
    | [], _ =>
      have e2 : ks = done := by rw [he]; simp
      have := hN x1 x4 x5 (done.foldl (fun s k => stepP s (getP ps k)) (sumD ps, sumD ps)).1
      rw [walkV, e2] at this
      exact this
    | _ :: _, hr => cases hr
theorem walked_D {e : D} {ks : List Nat} (he : e = .lst (ks.map encN) ∨ e = .tup (ks.map encN)) (hk : ∀ k ∈ ks, k < ps.length) (hl : ps.length ≤ 5000) : m_law_walked [.lst (ps.map encP), e] S = .ok (.int (walkV ps ks)) S := of_W (by
  unfold m_law_walked
  rw [W_run]
  unfold b_law_walked
  simp only [W_fz, W_ixO, ixN_30, ixN_31, ixN_32, W_seq, W_asg, W_expr, W_ret, W_sif, W_par, W_never, W_nil, W_c, W_e2, W_call, W_anil, W_acons, W_tup, W_lst, W_lstM, W_tV, W_and, W_or, W_not, W_bAnd, W_bOr, W_bNot, W_eif, W_isN, W_notN, W_fn, W_fnK, W_pt, W_for, W_iseq, W_ienum, W_izip, W_comp, W_compG, W_compM, W_kI, W_yes, W_addI, W_addL, W_addT, W_mulI, W_ltI, W_ixL, W_ixT, W_ixS, atI_0, atI_1, atI_2, atI_3, atI_4, W_len_L, W_len_T, W_len_S, W_sum, W_all, W_any, W_min2, W_max2, W_abs, W_intI, W_intB, W_tupT, W_tupL, W_listT, W_listL, W_sl, W_oN, W_oS, W_slT, W_slL, W_slS, W_r1, W_app, W_set, W_gm, W_g0, W_g1, W_isiI, W_isiT, W_isiL, W_e3, Ws_nx, Ws_rt, W_ok, true_and, and_true, if_true, if_false, List.append_nil, frOf_l, frOf_t, frOf_s, kn_t, kn_i, kn_b, kn_l, kn_s, kn_d, isa_tt, isa_ii, isa_ib, isa_ll, isa_lt, isa_tl, W_isiL2, W_isiT2, W_allT, W_sumI, W_allM, W_sumM, cut2, W_ltT2, W_neI, W_eqI, bindP, bindPs, List.map_cons, List.map_nil, decide_eq_true_eq, Bool.false_eq_true, Bool.not_true, Bool.not_false, Bool.and_eq_true, W_var, List.getElem?_cons_zero, List.getElem?_cons_succ, List.set_cons_zero, List.set_cons_succ, rho0, List.length_cons, List.length_nil, List.replicate_succ, List.replicate_zero, List.cons_append, List.nil_append, List.append_eq, Nat.reduceAdd, Nat.reduceSub, wipeD, List.map_cons, List.map_nil, W_slU, W_iseqU, W_zipS, W_gget1, W_dC, W_inT, W_inD, W_ginT, W_upper, W_eqT0, W_len_U, W_aug, W_addSI, W_subSI, W_listR1, W_fldX, List.length_map]
  refine ⟨by unfold line; omega, W_eq (comp_mapW encP (fun _ => true) (fun p => .int p.1) ps [] fun p hp => ⟨_, rfl, ⟨rfl, rfl⟩, fun _ => ?_⟩) ?_⟩
  · show W (e2 kIx (eVar 5) (eC (D.int 0)) [_, _, _, _, _, some (.tup [.int p.1, .int p.2])] S) _
    simp only [W_fz, W_ixO, ixN_30, ixN_31, ixN_32, W_seq, W_asg, W_expr, W_ret, W_sif, W_par, W_never, W_nil, W_c, W_e2, W_call, W_anil, W_acons, W_tup, W_lst, W_lstM, W_tV, W_and, W_or, W_not, W_bAnd, W_bOr, W_bNot, W_eif, W_isN, W_notN, W_fn, W_fnK, W_pt, W_for, W_iseq, W_ienum, W_izip, W_comp, W_compG, W_compM, W_kI, W_yes, W_addI, W_addL, W_addT, W_mulI, W_ltI, W_ixL, W_ixT, W_ixS, atI_0, atI_1, atI_2, atI_3, atI_4, W_len_L, W_len_T, W_len_S, W_sum, W_all, W_any, W_min2, W_max2, W_abs, W_intI, W_intB, W_tupT, W_tupL, W_listT, W_listL, W_sl, W_oN, W_oS, W_slT, W_slL, W_slS, W_r1, W_app, W_set, W_gm, W_g0, W_g1, W_isiI, W_isiT, W_isiL, W_e3, Ws_nx, Ws_rt, W_ok, true_and, and_true, if_true, if_false, List.append_nil, frOf_l, frOf_t, frOf_s, kn_t, kn_i, kn_b, kn_l, kn_s, kn_d, isa_tt, isa_ii, isa_ib, isa_ll, isa_lt, isa_tl, W_isiL2, W_isiT2, W_allT, W_sumI, W_allM, W_sumM, cut2, W_ltT2, W_neI, W_eqI, bindP, bindPs, List.map_cons, List.map_nil, decide_eq_true_eq, Bool.false_eq_true, Bool.not_true, Bool.not_false, Bool.and_eq_true, W_var, List.getElem?_cons_zero, List.getElem?_cons_succ, List.set_cons_zero, List.set_cons_succ, rho0, List.length_cons, List.length_nil, List.replicate_succ, List.replicate_zero, List.cons_append, List.nil_append, List.append_eq, Nat.reduceAdd, Nat.reduceSub, wipeD, List.map_cons, List.map_nil, W_slU, W_iseqU, W_zipS, W_gget1, W_dC, W_inT, W_inD, W_ginT, W_upper, W_eqT0, W_len_U, W_aug, W_addSI, W_subSI, W_listR1, W_fldX]
    first | done | exact ⟨rfl, rfl⟩
  rw [W_sumI, filter_all]
  rcases he with rfl | rfl
  · simp only [W_fz, W_ixO, ixN_30, ixN_31, ixN_32, W_seq, W_asg, W_expr, W_ret, W_sif, W_par, W_never, W_nil, W_c, W_e2, W_call, W_anil, W_acons, W_tup, W_lst, W_lstM, W_tV, W_and, W_or, W_not, W_bAnd, W_bOr, W_bNot, W_eif, W_isN, W_notN, W_fn, W_fnK, W_pt, W_for, W_iseq, W_ienum, W_izip, W_comp, W_compG, W_compM, W_kI, W_yes, W_addI, W_addL, W_addT, W_mulI, W_ltI, W_ixL, W_ixT, W_ixS, atI_0, atI_1, atI_2, atI_3, atI_4, W_len_L, W_len_T, W_len_S, W_sum, W_all, W_any, W_min2, W_max2, W_abs, W_intI, W_intB, W_tupT, W_tupL, W_listT, W_listL, W_sl, W_oN, W_oS, W_slT, W_slL, W_slS, W_r1, W_app, W_set, W_gm, W_g0, W_g1, W_isiI, W_isiT, W_isiL, W_e3, Ws_nx, Ws_rt, W_ok, true_and, and_true, if_true, if_false, List.append_nil, frOf_l, frOf_t, frOf_s, kn_t, kn_i, kn_b, kn_l, kn_s, kn_d, isa_tt, isa_ii, isa_ib, isa_ll, isa_lt, isa_tl, W_isiL2, W_isiT2, W_allT, W_sumI, W_allM, W_sumM, cut2, W_ltT2, W_neI, W_eqI, bindP, bindPs, List.map_cons, List.map_nil, decide_eq_true_eq, Bool.false_eq_true, Bool.not_true, Bool.not_false, Bool.and_eq_true, W_var, List.getElem?_cons_zero, List.getElem?_cons_succ, List.set_cons_zero, List.set_cons_succ, rho0, List.length_cons, List.length_nil, List.replicate_succ, List.replicate_zero, List.cons_append, List.nil_append, List.append_eq, Nat.reduceAdd, Nat.reduceSub, wipeD, List.map_cons, List.map_nil, W_slU, W_iseqU, W_zipS, W_gget1, W_dC, W_inT, W_inD, W_ginT, W_upper, W_eqT0, W_len_U, W_aug, W_addSI, W_subSI, W_listR1, W_fldX]
    refine walk_loop hk fun x1 x4 x5 h => ?_
    simp only [W_fz, W_ixO, ixN_30, ixN_31, ixN_32, W_seq, W_asg, W_expr, W_ret, W_sif, W_par, W_never, W_nil, W_c, W_e2, W_call, W_anil, W_acons, W_tup, W_lst, W_lstM, W_tV, W_and, W_or, W_not, W_bAnd, W_bOr, W_bNot, W_eif, W_isN, W_notN, W_fn, W_fnK, W_pt, W_for, W_iseq, W_ienum, W_izip, W_comp, W_compG, W_compM, W_kI, W_yes, W_addI, W_addL, W_addT, W_mulI, W_ltI, W_ixL, W_ixT, W_ixS, atI_0, atI_1, atI_2, atI_3, atI_4, W_len_L, W_len_T, W_len_S, W_sum, W_all, W_any, W_min2, W_max2, W_abs, W_intI, W_intB, W_tupT, W_tupL, W_listT, W_listL, W_sl, W_oN, W_oS, W_slT, W_slL, W_slS, W_r1, W_app, W_set, W_gm, W_g0, W_g1, W_isiI, W_isiT, W_isiL, W_e3, Ws_nx, Ws_rt, W_ok, true_and, and_true, if_true, if_false, List.append_nil, frOf_l, frOf_t, frOf_s, kn_t, kn_i, kn_b, kn_l, kn_s, kn_d, isa_tt, isa_ii, isa_ib, isa_ll, isa_lt, isa_tl, W_isiL2, W_isiT2, W_allT, W_sumI, W_allM, W_sumM, cut2, W_ltT2, W_neI, W_eqI, bindP, bindPs, List.map_cons, List.map_nil, decide_eq_true_eq, Bool.false_eq_true, Bool.not_true, Bool.not_false, Bool.and_eq_true, W_var, List.getElem?_cons_zero, List.getElem?_cons_succ, List.set_cons_zero, List.set_cons_succ, rho0, List.length_cons, List.length_nil, List.replicate_succ, List.replicate_zero, List.cons_append, List.nil_append, List.append_eq, Nat.reduceAdd, Nat.reduceSub, wipeD, List.map_cons, List.map_nil, W_slU, W_iseqU, W_zipS, W_gget1, W_dC, W_inT, W_inD, W_ginT, W_upper, W_eqT0, W_len_U, W_aug, W_addSI, W_subSI, W_listR1, W_fldX, back_same]
    first | done | exact ⟨rfl, rfl⟩
  · simp only [W_fz, W_ixO, ixN_30, ixN_31, ixN_32, W_seq, W_asg, W_expr, W_ret, W_sif, W_par, W_never, W_nil, W_c, W_e2, W_call, W_anil, W_acons, W_tup, W_lst, W_lstM, W_tV, W_and, W_or, W_not, W_bAnd, W_bOr, W_bNot, W_eif, W_isN, W_notN, W_fn, W_fnK, W_pt, W_for, W_iseq, W_ienum, W_izip, W_comp, W_compG, W_compM, W_kI, W_yes, W_addI, W_addL, W_addT, W_mulI, W_ltI, W_ixL, W_ixT, W_ixS, atI_0, atI_1, atI_2, atI_3, atI_4, W_len_L, W_len_T, W_len_S, W_sum, W_all, W_any, W_min2, W_max2, W_abs, W_intI, W_intB, W_tupT, W_tupL, W_listT, W_listL, W_sl, W_oN, W_oS, W_slT, W_slL, W_slS, W_r1, W_app, W_set, W_gm, W_g0, W_g1, W_isiI, W_isiT, W_isiL, W_e3, Ws_nx, Ws_rt, W_ok, true_and, and_true, if_true, if_false, List.append_nil, frOf_l, frOf_t, frOf_s, kn_t, kn_i, kn_b, kn_l, kn_s, kn_d, isa_tt, isa_ii, isa_ib, isa_ll, isa_lt, isa_tl, W_isiL2, W_isiT2, W_allT, W_sumI, W_allM, W_sumM, cut2, W_ltT2, W_neI, W_eqI, bindP, bindPs, List.map_cons, List.map_nil, decide_eq_true_eq, Bool.false_eq_true, Bool.not_true, Bool.not_false, Bool.and_eq_true, W_var, List.getElem?_cons_zero, List.getElem?_cons_succ, List.set_cons_zero, List.set_cons_succ, rho0, List.length_cons, List.length_nil, List.replicate_succ, List.replicate_zero, List.cons_append, List.nil_append, List.append_eq, Nat.reduceAdd, Nat.reduceSub, wipeD, List.map_cons, List.map_nil, W_slU, W_iseqU, W_zipS, W_gget1, W_dC, W_inT, W_inD, W_ginT, W_upper, W_eqT0, W_len_U, W_aug, W_addSI, W_subSI, W_listR1, W_fldX]
    refine walk_loop hk fun x1 x4 x5 h => ?_
    simp only [W_fz, W_ixO, ixN_30, ixN_31, ixN_32, W_seq, W_asg, W_expr, W_ret, W_sif, W_par, W_never, W_nil, W_c, W_e2, W_call, W_anil, W_acons, W_tup, W_lst, W_lstM, W_tV, W_and, W_or, W_not, W_bAnd, W_bOr, W_bNot, W_eif, W_isN, W_notN, W_fn, W_fnK, W_pt, W_for, W_iseq, W_ienum, W_izip, W_comp, W_compG, W_compM, W_kI, W_yes, W_addI, W_addL, W_addT, W_mulI, W_ltI, W_ixL, W_ixT, W_ixS, atI_0, atI_1, atI_2, atI_3, atI_4, W_len_L, W_len_T, W_len_S, W_sum, W_all, W_any, W_min2, W_max2, W_abs, W_intI, W_intB, W_tupT, W_tupL, W_listT, W_listL, W_sl, W_oN, W_oS, W_slT, W_slL, W_slS, W_r1, W_app, W_set, W_gm, W_g0, W_g1, W_isiI, W_isiT, W_isiL, W_e3, Ws_nx, Ws_rt, W_ok, true_and, and_true, if_true, if_false, List.append_nil, frOf_l, frOf_t, frOf_s, kn_t, kn_i, kn_b, kn_l, kn_s, kn_d, isa_tt, isa_ii, isa_ib, isa_ll, isa_lt, isa_tl, W_isiL2, W_isiT2, W_allT, W_sumI, W_allM, W_sumM, cut2, W_ltT2, W_neI, W_eqI, bindP, bindPs, List.map_cons, List.map_nil, decide_eq_true_eq, Bool.false_eq_true, Bool.not_true, Bool.not_false, Bool.and_eq_true, W_var, List.getElem?_cons_zero, List.getElem?_cons_succ, List.set_cons_zero, List.set_cons_succ, rho0, List.length_cons, List.length_nil, List.replicate_succ, List.replicate_zero, List.cons_append, List.nil_append, List.append_eq, Nat.reduceAdd, Nat.reduceSub, wipeD, List.map_cons, List.map_nil, W_slU, W_iseqU, W_zipS, W_gget1, W_dC, W_inT, W_inD, W_ginT, W_upper, W_eqT0, W_len_U, W_aug, W_addSI, W_subSI, W_listR1, W_fldX, back_same]
    first | done | exact ⟨rfl, rfl⟩)
end
end K38


namespace K38
open PySem L2 Qd

section
variable {S : Sto} {Q : D → Sto → Prop} {ps : List St2} {d : D}
theorem number_int {i : Int} : m_law_number [.int i] S = .ok (.bl true) S := of_W (by
  unfold m_law_number
  rw [W_run]
  unfold b_law_number
  simp only [W_fz, W_ixO, ixN_30, ixN_31, ixN_32, W_seq, W_asg, W_expr, W_ret, W_sif, W_par, W_never, W_nil, W_c, W_e2, W_call, W_anil, W_acons, W_tup, W_lst, W_lstM, W_tV, W_and, W_or, W_not, W_bAnd, W_bOr, W_bNot, W_eif, W_isN, W_notN, W_fn, W_fnK, W_pt, W_for, W_iseq, W_ienum, W_izip, W_comp, W_compG, W_compM, W_kI, W_yes, W_addI, W_addL, W_addT, W_mulI, W_ltI, W_ixL, W_ixT, W_ixS, atI_0, atI_1, atI_2, atI_3, atI_4, W_len_L, W_len_T, W_len_S, W_sum, W_all, W_any, W_min2, W_max2, W_abs, W_intI, W_intB, W_tupT, W_tupL, W_listT, W_listL, W_sl, W_oN, W_oS, W_slT, W_slL, W_slS, W_r1, W_app, W_set, W_gm, W_g0, W_g1, W_isiI, W_isiT, W_isiL, W_e3, Ws_nx, Ws_rt, W_ok, true_and, and_true, if_true, if_false, List.append_nil, frOf_l, frOf_t, frOf_s, kn_t, kn_i, kn_b, kn_l, kn_s, kn_d, isa_tt, isa_ii, isa_ib, isa_ll, isa_lt, isa_tl, W_isiL2, W_isiT2, W_allT, W_sumI, W_allM, W_sumM, cut2, W_ltT2, W_neI, W_eqI, bindP, bindPs, List.map_cons, List.map_nil, decide_eq_true_eq, Bool.false_eq_true, Bool.not_true, Bool.not_false, Bool.and_eq_true, W_var, List.getElem?_cons_zero, List.getElem?_cons_succ, List.set_cons_zero, List.set_cons_succ, rho0, List.length_cons, List.length_nil, List.replicate_succ, List.replicate_zero, List.cons_append, List.nil_append, List.append_eq, Nat.reduceAdd, Nat.reduceSub, wipeD, List.map_cons, List.map_nil, W_slU, W_iseqU, W_zipS, W_gget1, W_dC, W_inT, W_inD, W_ginT, W_upper, W_eqT0, W_len_U, W_aug, W_addSI, W_subSI, W_listR1, W_fldX, back_same]
  try exact ⟨rfl, rfl⟩)
theorem roomr_D {v : Int} {ks : List Nat} (hk : ks.Perm (List.range ps.length)) (hl : ps.length ≤ 2000) (h1 : v = walkV ps ks) (h2 : v = max (sumD ps) (sumT ps)) : m_law_room_right [.tup [.int v, .tup (ks.map encN)], .lst (ps.map encP)] S = .ok (.bl true) S := of_W (by
  have hkl : ks.length = ps.length := by simpa using hk.length_eq
  have hk2 : ∀ k ∈ ks, k < ps.length := fun k h => by simpa using hk.mem_iff.mp h
  unfold m_law_room_right
  rw [W_run]
  unfold b_law_room_right
  simp only [W_fz, W_ixO, ixN_30, ixN_31, ixN_32, W_seq, W_asg, W_expr, W_ret, W_sif, W_par, W_never, W_nil, W_c, W_e2, W_call, W_anil, W_acons, W_tup, W_lst, W_lstM, W_tV, W_and, W_or, W_not, W_bAnd, W_bOr, W_bNot, W_eif, W_isN, W_notN, W_fn, W_fnK, W_pt, W_for, W_iseq, W_ienum, W_izip, W_comp, W_compG, W_compM, W_kI, W_yes, W_addI, W_addL, W_addT, W_mulI, W_ltI, W_ixL, W_ixT, W_ixS, atI_0, atI_1, atI_2, atI_3, atI_4, W_len_L, W_len_T, W_len_S, W_sum, W_all, W_any, W_min2, W_max2, W_abs, W_intI, W_intB, W_tupT, W_tupL, W_listT, W_listL, W_sl, W_oN, W_oS, W_slT, W_slL, W_slS, W_r1, W_app, W_set, W_gm, W_g0, W_g1, W_isiI, W_isiT, W_isiL, W_e3, Ws_nx, Ws_rt, W_ok, true_and, and_true, if_true, if_false, List.append_nil, frOf_l, frOf_t, frOf_s, kn_t, kn_i, kn_b, kn_l, kn_s, kn_d, isa_tt, isa_ii, isa_ib, isa_ll, isa_lt, isa_tl, W_isiL2, W_isiT2, W_allT, W_sumI, W_allM, W_sumM, cut2, W_ltT2, W_neI, W_eqI, bindP, bindPs, List.map_cons, List.map_nil, decide_eq_true_eq, Bool.false_eq_true, Bool.not_true, Bool.not_false, Bool.and_eq_true, W_var, List.getElem?_cons_zero, List.getElem?_cons_succ, List.set_cons_zero, List.set_cons_succ, rho0, List.length_cons, List.length_nil, List.replicate_succ, List.replicate_zero, List.cons_append, List.nil_append, List.append_eq, Nat.reduceAdd, Nat.reduceSub, wipeD, List.map_cons, List.map_nil, W_slU, W_iseqU, W_zipS, W_gget1, W_dC, W_inT, W_inD, W_ginT, W_upper, W_eqT0, W_len_U, W_aug, W_addSI, W_subSI, W_listR1, W_fldX, number_int]
  have e5 : (ks.map encN : List D) = (ks.map fun k : Nat => (k : Int)).map .int := by rw [List.map_map]; rfl
  have e6 : rangeD 0 ((ps.length : Int)).toNat = ((List.range ps.length).map fun k : Nat => (k : Int)).map .int := by rw [rangeD_0, List.map_map]; rfl
  have es : srtI (ks.map fun k : Nat => (k : Int)) = (List.range ps.length).map fun k : Nat => (k : Int) := by
    have p : (srtI (ks.map fun k : Nat => (k : Int))).Perm ((List.range ps.length).map fun k : Nat => (k : Int)) := (List.mergeSort_perm _ _).trans (hk.map _)
    have s1 : (srtI (ks.map fun k : Nat => (k : Int))).Pairwise (· ≤ ·) := (List.pairwise_mergeSort (le := fun a b : Int => decide (a ≤ b)) (fun a b c h1 h2 => by simp at *; omega) (fun a b => by simp; omega) _).imp fun q => by simpa using q
    have s2 : ((List.range ps.length).map fun k : Nat => (k : Int)).Pairwise (· ≤ ·) := by
      rw [List.pairwise_map]
      exact List.pairwise_lt_range.imp fun h => by omega
    exact p.eq_of_pairwise (fun a b _ _ h1 h2 => Int.le_antisymm h1 h2) s1 s2
  simp only [show (!decide (((2 : Nat) : Int) = 2)) = false from rfl, Bool.false_eq_true, if_false]
  refine ⟨by rw [List.length_map, hkl]; unfold line; omega, ?_⟩
  refine W_eq (comp_mapW encN (fun _ => true) (fun _ => .bl true) ks [] fun k hkm => ⟨_, rfl, ⟨rfl, rfl⟩, fun _ => ?_⟩) ?_
  · show W (eFn m_law_number (aCons (eVar 4) aNil) [] [_, _, _, _, some (.int (k : Int)), _] S) _
    simp only [W_fz, W_ixO, ixN_30, ixN_31, ixN_32, W_seq, W_asg, W_expr, W_ret, W_sif, W_par, W_never, W_nil, W_c, W_e2, W_call, W_anil, W_acons, W_tup, W_lst, W_lstM, W_tV, W_and, W_or, W_not, W_bAnd, W_bOr, W_bNot, W_eif, W_isN, W_notN, W_fn, W_fnK, W_pt, W_for, W_iseq, W_ienum, W_izip, W_comp, W_compG, W_compM, W_kI, W_yes, W_addI, W_addL, W_addT, W_mulI, W_ltI, W_ixL, W_ixT, W_ixS, atI_0, atI_1, atI_2, atI_3, atI_4, W_len_L, W_len_T, W_len_S, W_sum, W_all, W_any, W_min2, W_max2, W_abs, W_intI, W_intB, W_tupT, W_tupL, W_listT, W_listL, W_sl, W_oN, W_oS, W_slT, W_slL, W_slS, W_r1, W_app, W_set, W_gm, W_g0, W_g1, W_isiI, W_isiT, W_isiL, W_e3, Ws_nx, Ws_rt, W_ok, true_and, and_true, if_true, if_false, List.append_nil, frOf_l, frOf_t, frOf_s, kn_t, kn_i, kn_b, kn_l, kn_s, kn_d, isa_tt, isa_ii, isa_ib, isa_ll, isa_lt, isa_tl, W_isiL2, W_isiT2, W_allT, W_sumI, W_allM, W_sumM, cut2, W_ltT2, W_neI, W_eqI, bindP, bindPs, List.map_cons, List.map_nil, decide_eq_true_eq, Bool.false_eq_true, Bool.not_true, Bool.not_false, Bool.and_eq_true, W_var, List.getElem?_cons_zero, List.getElem?_cons_succ, List.set_cons_zero, List.set_cons_succ, rho0, List.length_cons, List.length_nil, List.replicate_succ, List.replicate_zero, List.cons_append, List.nil_append, List.append_eq, Nat.reduceAdd, Nat.reduceSub, wipeD, List.map_cons, List.map_nil, W_slU, W_iseqU, W_zipS, W_gget1, W_dC, W_inT, W_inD, W_ginT, W_upper, W_eqT0, W_len_U, W_aug, W_addSI, W_subSI, W_listR1, W_fldX, number_int]
    first | done | exact ⟨rfl, rfl⟩
  rw [W_allT]
  simp only [Bool.not_true, Bool.false_eq_true, if_false]
  rw [e5, W_sortTI, es, List.length_map]
  refine ⟨?_, ?_⟩
  · unfold rgOkB
    rw [small62_of (by omega) (by omega), small62_of (by omega) (by omega)]
    simp; omega
  rw [e6, W_neIL]
  simp only [decide_true, Bool.not_true, Bool.false_eq_true, if_false]
  rw [← e5, walked_D (.inr rfl) hk2 (by omega)]
  simp only [W_ok, W_neI, h1, decide_true, Bool.not_true, Bool.false_eq_true, if_false]
  refine ⟨by unfold line; omega, W_eq (comp_mapW encP (fun _ => true) (fun p => .int p.1) ps [] fun p hp => ⟨_, rfl, ⟨rfl, rfl⟩, fun _ => ?_⟩) ?_⟩
  · show W (e2 kIx (eVar 5) (eC (D.int 0)) [_, _, _, _, _, some (.tup [.int p.1, .int p.2])] S) _
    simp only [W_fz, W_ixO, ixN_30, ixN_31, ixN_32, W_seq, W_asg, W_expr, W_ret, W_sif, W_par, W_never, W_nil, W_c, W_e2, W_call, W_anil, W_acons, W_tup, W_lst, W_lstM, W_tV, W_and, W_or, W_not, W_bAnd, W_bOr, W_bNot, W_eif, W_isN, W_notN, W_fn, W_fnK, W_pt, W_for, W_iseq, W_ienum, W_izip, W_comp, W_compG, W_compM, W_kI, W_yes, W_addI, W_addL, W_addT, W_mulI, W_ltI, W_ixL, W_ixT, W_ixS, atI_0, atI_1, atI_2, atI_3, atI_4, W_len_L, W_len_T, W_len_S, W_sum, W_all, W_any, W_min2, W_max2, W_abs, W_intI, W_intB, W_tupT, W_tupL, W_listT, W_listL, W_sl, W_oN, W_oS, W_slT, W_slL, W_slS, W_r1, W_app, W_set, W_gm, W_g0, W_g1, W_isiI, W_isiT, W_isiL, W_e3, Ws_nx, Ws_rt, W_ok, true_and, and_true, if_true, if_false, List.append_nil, frOf_l, frOf_t, frOf_s, kn_t, kn_i, kn_b, kn_l, kn_s, kn_d, isa_tt, isa_ii, isa_ib, isa_ll, isa_lt, isa_tl, W_isiL2, W_isiT2, W_allT, W_sumI, W_allM, W_sumM, cut2, W_ltT2, W_neI, W_eqI, bindP, bindPs, List.map_cons, List.map_nil, decide_eq_true_eq, Bool.false_eq_true, Bool.not_true, Bool.not_false, Bool.and_eq_true, W_var, List.getElem?_cons_zero, List.getElem?_cons_succ, List.set_cons_zero, List.set_cons_succ, rho0, List.length_cons, List.length_nil, List.replicate_succ, List.replicate_zero, List.cons_append, List.nil_append, List.append_eq, Nat.reduceAdd, Nat.reduceSub, wipeD, List.map_cons, List.map_nil, W_slU, W_iseqU, W_zipS, W_gget1, W_dC, W_inT, W_inD, W_ginT, W_upper, W_eqT0, W_len_U, W_aug, W_addSI, W_subSI, W_listR1, W_fldX]
    first | done | exact ⟨rfl, rfl⟩
  rw [W_sumI, filter_all]
  refine ⟨by unfold line; omega, W_eq (comp_mapW encP (fun _ => true) (fun p => .int p.2) ps [] fun p hp => ⟨_, rfl, ⟨rfl, rfl⟩, fun _ => ?_⟩) ?_⟩
  · show W (e2 kIx (eVar 5) (eC (D.int 1)) [_, _, _, _, _, some (.tup [.int p.1, .int p.2])] S) _
    simp only [W_fz, W_ixO, ixN_30, ixN_31, ixN_32, W_seq, W_asg, W_expr, W_ret, W_sif, W_par, W_never, W_nil, W_c, W_e2, W_call, W_anil, W_acons, W_tup, W_lst, W_lstM, W_tV, W_and, W_or, W_not, W_bAnd, W_bOr, W_bNot, W_eif, W_isN, W_notN, W_fn, W_fnK, W_pt, W_for, W_iseq, W_ienum, W_izip, W_comp, W_compG, W_compM, W_kI, W_yes, W_addI, W_addL, W_addT, W_mulI, W_ltI, W_ixL, W_ixT, W_ixS, atI_0, atI_1, atI_2, atI_3, atI_4, W_len_L, W_len_T, W_len_S, W_sum, W_all, W_any, W_min2, W_max2, W_abs, W_intI, W_intB, W_tupT, W_tupL, W_listT, W_listL, W_sl, W_oN, W_oS, W_slT, W_slL, W_slS, W_r1, W_app, W_set, W_gm, W_g0, W_g1, W_isiI, W_isiT, W_isiL, W_e3, Ws_nx, Ws_rt, W_ok, true_and, and_true, if_true, if_false, List.append_nil, frOf_l, frOf_t, frOf_s, kn_t, kn_i, kn_b, kn_l, kn_s, kn_d, isa_tt, isa_ii, isa_ib, isa_ll, isa_lt, isa_tl, W_isiL2, W_isiT2, W_allT, W_sumI, W_allM, W_sumM, cut2, W_ltT2, W_neI, W_eqI, bindP, bindPs, List.map_cons, List.map_nil, decide_eq_true_eq, Bool.false_eq_true, Bool.not_true, Bool.not_false, Bool.and_eq_true, W_var, List.getElem?_cons_zero, List.getElem?_cons_succ, List.set_cons_zero, List.set_cons_succ, rho0, List.length_cons, List.length_nil, List.replicate_succ, List.replicate_zero, List.cons_append, List.nil_append, List.append_eq, Nat.reduceAdd, Nat.reduceSub, wipeD, List.map_cons, List.map_nil, W_slU, W_iseqU, W_zipS, W_gget1, W_dC, W_inT, W_inD, W_ginT, W_upper, W_eqT0, W_len_U, W_aug, W_addSI, W_subSI, W_listR1, W_fldX]
    first | done | exact ⟨rfl, rfl⟩
  rw [W_sumI, filter_all, W_max2, W_eqI, back_same]
  refine ⟨?_, rfl⟩
  congr 1
  rw [decide_eq_true_eq, ← h1, h2]
  show max (sumD ps) (sumT ps) = if sumT ps > sumD ps then sumT ps else sumD ps
  split <;> omega)
/-! ### all orders -/
def encO (l : List Nat) : D := .lst (l.map encN)
def SameM (S S' : Sto) : Prop := S'.m = S.m
theorem orders_len : ∀ (n : Nat), ∀ l ∈ ordersL n, l.length = n := fun n l h => by simpa using (orders_perm n l h).length_eq
def Agr (S S' : Sto) : Prop := S.m.length ≤ S'.m.length ∧ ∀ j, j < S.m.length → S'.m[j]? = S.m[j]?
theorem put_at {S : Sto} {j : Nat} {a b : D} (h : S.m[j]? = some (some a)) : (S.put j b).m[j]? = some (some b) := by
  rw [put_m, List.getElem?_set_self (List.getElem?_eq_some_iff.mp h).1]
theorem rangeD_cons (lo : Int) (n : Nat) : rangeD lo (n + 1) = .int lo :: rangeD (lo + 1) n := by
  unfold rangeD
  rw [List.range_succ_eq_map, List.map_cons, List.map_map]
  refine List.cons_eq_cons.mpr ⟨by simp, List.map_congr_left fun i _ => ?_⟩
  show D.int (lo + ((i + 1 : Nat) : Int)) = .int (lo + 1 + (i : Int))
  congr 1
  omega
theorem Agr.refl (S : Sto) : Agr S S := ⟨Nat.le_refl _, fun _ _ => rfl⟩
theorem Agr.push {S S' : Sto} (h : Agr S S') (d : D) : Agr S (S'.push d) := ⟨by simp [Sto.push]; have := h.1; omega, fun j hj => by rw [push_old (by have := h.1; omega)]; exact h.2 j hj⟩
theorem Agr.put {S S' : Sto} {j : Nat} (h : Agr S S') (hj : S.m.length ≤ j) (d : D) : Agr S (S'.put j d) := ⟨by simp [Sto.put]; exact h.1, fun i hi => by rw [put_m, List.getElem?_set_ne (by omega)]; exact h.2 i hi⟩
theorem Agr.drop {S S' : Sto} {j : Nat} (h : Agr S S') (hj : S.m.length ≤ j) : Agr S (S'.drop j) := ⟨by simp [Sto.drop]; exact h.1, fun i hi => by rw [drop_m, List.getElem?_set_ne (by omega)]; exact h.2 i hi⟩
theorem Agr.back {S S' : Sto} (h : Agr S S') : SameM S (S'.back S.m.length) := by
  show (S'.back S.m.length).m = S.m
  rw [back_m']
  apply List.ext_getElem?
  intro i
  rw [List.getElem?_take]
  split
  · rename_i hi; exact h.2 i hi
  · rename_i hi; rw [List.getElem?_eq_none (by omega)]
theorem cut_drop {α : Type} {f : α → D} (xs : List α) (k : Nat) : cutD (xs.map f) (some (k : Int)) none = (xs.drop k).map f := by
  unfold cutD
  rw [← List.map_drop, ← List.map_take]
  simp only [List.length_map, HT.sIx_none, HT.sIx_nat]
  congr 1
  rw [List.take_of_length_le (by rw [List.length_drop]; omega)]
  by_cases h : k ≤ xs.length
  · rw [Nat.min_eq_left h]
  · rw [Nat.min_eq_right (by omega), List.drop_of_length_le (Nat.le_refl _), List.drop_of_length_le (by omega)]
theorem ext_body {S1 : Sto} {j m : Nat} {l : List Nat} {acc : List (List Nat)} {x0 x1 x5 : Option D} {N : Rho → Sto → Prop} {T : D → Sto → Prop} (hk : S1.m[j]? = some (some (.lst (acc.map encO)))) (hl : l.length ≤ 5) (ha : acc.length ≤ 1000)
    (q : N [x0, x1, some (encN m), some (.obj j), some (encO l), x5] (S1.put j (.lst ((acc ++ insAll m l).map encO)))) :
    Ws (sExpr (eExtend (eVar 3) (eComp (iRange1 (e2 kAdd (eCall kLen (aCons (eVar 4) aNil)) (eC (D.int 1)))) (Pt.nm 5) tYesD (e2 kAdd (e2 kAdd (eSlU (eVar 4) oNone (oSome (eVar 5))) (eLst (aCons (eVar 2) aNil))) (eSlU (eVar 4) (oSome (eVar 5)) oNone)) [5]))
      [x0, x1, some (encN m), some (.obj j), some (encO l), x5] S1) N T := by
  rw [W_expr]
  refine W_ext (k := j) rfl hk ?_
  simp only [W_fz, W_ixO, ixN_30, ixN_31, ixN_32, W_seq, W_asg, W_expr, W_ret, W_sif, W_par, W_never, W_nil, W_c, W_e2, W_call, W_anil, W_acons, W_tup, W_lst, W_lstM, W_tV, W_and, W_or, W_not, W_bAnd, W_bOr, W_bNot, W_eif, W_isN, W_notN, W_fn, W_fnK, W_pt, W_for, W_iseq, W_ienum, W_izip, W_comp, W_compG, W_compM, W_kI, W_yes, W_addI, W_addL, W_addT, W_mulI, W_ltI, W_ixL, W_ixT, W_ixS, atI_0, atI_1, atI_2, atI_3, atI_4, W_len_L, W_len_T, W_len_S, W_sum, W_all, W_any, W_min2, W_max2, W_abs, W_intI, W_intB, W_tupT, W_tupL, W_listT, W_listL, W_sl, W_oN, W_oS, W_slT, W_slL, W_slS, W_r1, W_app, W_set, W_gm, W_g0, W_g1, W_isiI, W_isiT, W_isiL, W_e3, Ws_nx, Ws_rt, W_ok, true_and, and_true, if_true, if_false, List.append_nil, frOf_l, frOf_t, frOf_s, kn_t, kn_i, kn_b, kn_l, kn_s, kn_d, isa_tt, isa_ii, isa_ib, isa_ll, isa_lt, isa_tl, W_isiL2, W_isiT2, W_allT, W_sumI, W_allM, W_sumM, cut2, W_ltT2, W_neI, W_eqI, bindP, bindPs, List.map_cons, List.map_nil, decide_eq_true_eq, Bool.false_eq_true, Bool.not_true, Bool.not_false, Bool.and_eq_true, W_var, List.getElem?_cons_zero, List.getElem?_cons_succ, List.set_cons_zero, List.set_cons_succ, rho0, List.length_cons, List.length_nil, List.replicate_succ, List.replicate_zero, List.cons_append, List.nil_append, List.append_eq, Nat.reduceAdd, Nat.reduceSub, wipeD, List.map_cons, List.map_nil, W_slU, W_iseqU, W_zipS, W_gget1, W_dC, W_inT, W_inD, W_ginT, W_upper, W_eqT0, W_len_U, W_aug, W_addSI, W_subSI, W_listR1, W_fldX, encO, List.length_map]
  have e0 : ((l.length : Int) + 1).toNat = l.length + 1 := by omega
  refine ⟨small62_of (by omega) (by omega), by rw [rangeD_map]; simp; unfold line; omega, ?_⟩
  rw [rangeD_map, e0]
  refine W_eq (comp_mapW (fun i : Nat => D.int (0 + (i : Int))) (fun _ => true) (fun a => encO (l.take a ++ [m] ++ l.drop a)) (List.range (l.length + 1)) [] fun a ham => ⟨_, rfl, ⟨rfl, rfl⟩, fun _ => ?_⟩) ?_
  · show W (e2 kAdd (e2 kAdd (eSlU (eVar 4) oNone (oSome (eVar 5))) (eLst (aCons (eVar 2) aNil))) (eSlU (eVar 4) (oSome (eVar 5)) oNone) [x0, x1, some (encN m), some (.obj j), some (.lst (l.map encN)), some (.int (0 + (a : Int)))] S1) _
    simp only [W_fz, W_ixO, ixN_30, ixN_31, ixN_32, W_seq, W_asg, W_expr, W_ret, W_sif, W_par, W_never, W_nil, W_c, W_e2, W_call, W_anil, W_acons, W_tup, W_lst, W_lstM, W_tV, W_and, W_or, W_not, W_bAnd, W_bOr, W_bNot, W_eif, W_isN, W_notN, W_fn, W_fnK, W_pt, W_for, W_iseq, W_ienum, W_izip, W_comp, W_compG, W_compM, W_kI, W_yes, W_addI, W_addL, W_addT, W_mulI, W_ltI, W_ixL, W_ixT, W_ixS, atI_0, atI_1, atI_2, atI_3, atI_4, W_len_L, W_len_T, W_len_S, W_sum, W_all, W_any, W_min2, W_max2, W_abs, W_intI, W_intB, W_tupT, W_tupL, W_listT, W_listL, W_sl, W_oN, W_oS, W_slT, W_slL, W_slS, W_r1, W_app, W_set, W_gm, W_g0, W_g1, W_isiI, W_isiT, W_isiL, W_e3, Ws_nx, Ws_rt, W_ok, true_and, and_true, if_true, if_false, List.append_nil, frOf_l, frOf_t, frOf_s, kn_t, kn_i, kn_b, kn_l, kn_s, kn_d, isa_tt, isa_ii, isa_ib, isa_ll, isa_lt, isa_tl, W_isiL2, W_isiT2, W_allT, W_sumI, W_allM, W_sumM, cut2, W_ltT2, W_neI, W_eqI, bindP, bindPs, List.map_cons, List.map_nil, decide_eq_true_eq, Bool.false_eq_true, Bool.not_true, Bool.not_false, Bool.and_eq_true, W_var, List.getElem?_cons_zero, List.getElem?_cons_succ, List.set_cons_zero, List.set_cons_succ, rho0, List.length_cons, List.length_nil, List.replicate_succ, List.replicate_zero, List.cons_append, List.nil_append, List.append_eq, Nat.reduceAdd, Nat.reduceSub, wipeD, List.map_cons, List.map_nil, W_slU, W_iseqU, W_zipS, W_gget1, W_dC, W_inT, W_inD, W_ginT, W_upper, W_eqT0, W_len_U, W_aug, W_addSI, W_subSI, W_listR1, W_fldX, Int.zero_add, cut_take, cut_drop]
    refine ⟨by decide, by simp; unfold line; omega, by simp; unfold line; omega, by simp [encO]⟩
  rw [filter_all, List.nil_append]
  refine ⟨_, _, hk, rfl, ?_, ?_⟩
  · simp; unfold line; omega
  · have : (acc.map encO ++ (List.range (l.length + 1)).map fun a => encO (l.take a ++ [m] ++ l.drop a)) = (acc ++ insAll m l).map encO := by
      unfold insAll
      rw [List.map_append, List.map_map]; rfl
    rw [this]
    exact q
theorem orders_W {n : Nat} (hn : n ≤ 5) (q : ∀ S', SameM S S' → Q (.lst ((ordersL n).map encO)) S') : W (m_law_orders [.int (n : Int)] S) Q := by
  have few : ∀ m, m ≤ 5 → (ordersL m).length ≤ 120 := fun m hm => by
    have : ∀ m ≤ 5, (ordersL m).length ≤ 120 := by decide +kernel
    exact this m hm
  unfold m_law_orders
  rw [W_run]
  unfold b_law_orders
  simp only [W_fz, W_ixO, ixN_30, ixN_31, ixN_32, W_seq, W_asg, W_expr, W_ret, W_sif, W_par, W_never, W_nil, W_c, W_e2, W_call, W_anil, W_acons, W_tup, W_lst, W_lstM, W_tV, W_and, W_or, W_not, W_bAnd, W_bOr, W_bNot, W_eif, W_isN, W_notN, W_fn, W_fnK, W_pt, W_for, W_iseq, W_ienum, W_izip, W_comp, W_compG, W_compM, W_kI, W_yes, W_addI, W_addL, W_addT, W_mulI, W_ltI, W_ixL, W_ixT, W_ixS, atI_0, atI_1, atI_2, atI_3, atI_4, W_len_L, W_len_T, W_len_S, W_sum, W_all, W_any, W_min2, W_max2, W_abs, W_intI, W_intB, W_tupT, W_tupL, W_listT, W_listL, W_sl, W_oN, W_oS, W_slT, W_slL, W_slS, W_r1, W_app, W_set, W_gm, W_g0, W_g1, W_isiI, W_isiT, W_isiL, W_e3, Ws_nx, Ws_rt, W_ok, true_and, and_true, if_true, if_false, List.append_nil, frOf_l, frOf_t, frOf_s, kn_t, kn_i, kn_b, kn_l, kn_s, kn_d, isa_tt, isa_ii, isa_ib, isa_ll, isa_lt, isa_tl, W_isiL2, W_isiT2, W_allT, W_sumI, W_allM, W_sumM, cut2, W_ltT2, W_neI, W_eqI, bindP, bindPs, List.map_cons, List.map_nil, decide_eq_true_eq, Bool.false_eq_true, Bool.not_true, Bool.not_false, Bool.and_eq_true, W_var, List.getElem?_cons_zero, List.getElem?_cons_succ, List.set_cons_zero, List.set_cons_succ, rho0, List.length_cons, List.length_nil, List.replicate_succ, List.replicate_zero, List.cons_append, List.nil_append, List.append_eq, Nat.reduceAdd, Nat.reduceSub, wipeD, List.map_cons, List.map_nil, W_slU, W_iseqU, W_zipS, W_gget1, W_dC, W_inT, W_inD, W_ginT, W_upper, W_eqT0, W_len_U, W_aug, W_addSI, W_subSI, W_listR1, W_fldX]
  refine ⟨Nat.zero_le _, by decide, small62_of (by omega) (by omega), ?_⟩
  refine W_loop (fun rest ρ S' => ∃ (m : Nat) (x2 x3 x4 : Option D), rest = rangeD (m : Int) (n - m) ∧ m ≤ n ∧ ρ = [some (.int (n : Int)), some (.lst ((ordersL m).map encO)), x2, x3, x4, none] ∧ Agr S S') ⟨0, none, none, none, ?_, Nat.zero_le _, rfl, Agr.refl S⟩ ?_ ?_
  · rw [rangeD_map, rangeD_map]; simp
  · rintro d r ρ S1 ⟨m, x2, x3, x4, hr, hm, rfl, hA⟩
    have hmn : m < n := by
      rcases Nat.lt_or_ge m n with h | h
      · exact h
      · rw [show n - m = 0 by omega] at hr; cases hr
    rw [show n - m = (n - (m + 1)) + 1 by omega, rangeD_cons] at hr
    simp only [List.cons.injEq] at hr
    obtain ⟨rfl, rfl⟩ := hr
    refine ⟨_, rfl, ?_⟩
    have hj : S.m.length ≤ S1.next := Nat.le_trans hA.1 (Nat.le_add_right _ _)
    simp only [W_fz, W_ixO, ixN_30, ixN_31, ixN_32, W_seq, W_asg, W_expr, W_ret, W_sif, W_par, W_never, W_nil, W_c, W_e2, W_call, W_anil, W_acons, W_tup, W_lst, W_lstM, W_tV, W_and, W_or, W_not, W_bAnd, W_bOr, W_bNot, W_eif, W_isN, W_notN, W_fn, W_fnK, W_pt, W_for, W_iseq, W_ienum, W_izip, W_comp, W_compG, W_compM, W_kI, W_yes, W_addI, W_addL, W_addT, W_mulI, W_ltI, W_ixL, W_ixT, W_ixS, atI_0, atI_1, atI_2, atI_3, atI_4, W_len_L, W_len_T, W_len_S, W_sum, W_all, W_any, W_min2, W_max2, W_abs, W_intI, W_intB, W_tupT, W_tupL, W_listT, W_listL, W_sl, W_oN, W_oS, W_slT, W_slL, W_slS, W_r1, W_app, W_set, W_gm, W_g0, W_g1, W_isiI, W_isiT, W_isiL, W_e3, Ws_nx, Ws_rt, W_ok, true_and, and_true, if_true, if_false, List.append_nil, frOf_l, frOf_t, frOf_s, kn_t, kn_i, kn_b, kn_l, kn_s, kn_d, isa_tt, isa_ii, isa_ib, isa_ll, isa_lt, isa_tl, W_isiL2, W_isiT2, W_allT, W_sumI, W_allM, W_sumM, cut2, W_ltT2, W_neI, W_eqI, bindP, bindPs, List.map_cons, List.map_nil, decide_eq_true_eq, Bool.false_eq_true, Bool.not_true, Bool.not_false, Bool.and_eq_true, W_var, List.getElem?_cons_zero, List.getElem?_cons_succ, List.set_cons_zero, List.set_cons_succ, rho0, List.length_cons, List.length_nil, List.replicate_succ, List.replicate_zero, List.cons_append, List.nil_append, List.append_eq, Nat.reduceAdd, Nat.reduceSub, wipeD, List.map_cons, List.map_nil, W_slU, W_iseqU, W_zipS, W_gget1, W_dC, W_inT, W_inD, W_ginT, W_upper, W_eqT0, W_len_U, W_aug, W_addSI, W_subSI, W_listR1, W_fldX]
    refine ⟨Nat.zero_le _, ?_⟩
    refine W_loop (fun rest ρ S' => ∃ (done todo : List (List Nat)) (x4 : Option D), ordersL m = done ++ todo ∧ rest = todo.map encO ∧ ρ = [some (.int (n : Int)), some (.lst ((ordersL m).map encO)), some (encN m), some (.obj S1.next), x4, none] ∧ S'.m[S1.next]? = some (some (.lst ((done.flatMap (insAll m)).map encO))) ∧ Agr S S')
      ⟨[], ordersL m, x4, rfl, rfl, rfl, push_at, hA.push _⟩ ?_ ?_
    · rintro e r ρ S2 ⟨done, todo, x4, he, hr, rfl, hat, hA2⟩
      match todo, hr with
      | [], hr => cases hr
      | l :: todo, hr =>
        simp only [List.map_cons, List.cons.injEq] at hr
        obtain ⟨rfl, rfl⟩ := hr
        have hlm : l ∈ ordersL m := by rw [he]; simp
        have hll := orders_len m l hlm
        refine ⟨_, rfl, ext_body hat (by omega) ?_ ⟨done ++ [l], todo, _, by rw [he]; simp, rfl, rfl, ?_, hA2.put hj _⟩⟩
        · have h1 := few (m + 1) (by omega)
          have : (ordersL (m + 1)).length = (done.flatMap (insAll m)).length + ((l :: todo).flatMap (insAll m)).length := by
            show ((ordersL m).flatMap (insAll m)).length = _
            rw [he, List.flatMap_append, List.length_append]
          omega
        · rw [put_at hat, List.flatMap_append]; simp
    · rintro ρ S2 ⟨done, todo, x4, he, hr, rfl, hat, hA2⟩
      match todo, hr with
      | [], _ =>
        have e2 : ordersL m = done := by rw [he]; simp
        simp only [W_fz, W_ixO, ixN_30, ixN_31, ixN_32, W_seq, W_asg, W_expr, W_ret, W_sif, W_par, W_never, W_nil, W_c, W_e2, W_call, W_anil, W_acons, W_tup, W_lst, W_lstM, W_tV, W_and, W_or, W_not, W_bAnd, W_bOr, W_bNot, W_eif, W_isN, W_notN, W_fn, W_fnK, W_pt, W_for, W_iseq, W_ienum, W_izip, W_comp, W_compG, W_compM, W_kI, W_yes, W_addI, W_addL, W_addT, W_mulI, W_ltI, W_ixL, W_ixT, W_ixS, atI_0, atI_1, atI_2, atI_3, atI_4, W_len_L, W_len_T, W_len_S, W_sum, W_all, W_any, W_min2, W_max2, W_abs, W_intI, W_intB, W_tupT, W_tupL, W_listT, W_listL, W_sl, W_oN, W_oS, W_slT, W_slL, W_slS, W_r1, W_app, W_set, W_gm, W_g0, W_g1, W_isiI, W_isiT, W_isiL, W_e3, Ws_nx, Ws_rt, W_ok, true_and, and_true, if_true, if_false, List.append_nil, frOf_l, frOf_t, frOf_s, kn_t, kn_i, kn_b, kn_l, kn_s, kn_d, isa_tt, isa_ii, isa_ib, isa_ll, isa_lt, isa_tl, W_isiL2, W_isiT2, W_allT, W_sumI, W_allM, W_sumM, cut2, W_ltT2, W_neI, W_eqI, bindP, bindPs, List.map_cons, List.map_nil, decide_eq_true_eq, Bool.false_eq_true, Bool.not_true, Bool.not_false, Bool.and_eq_true, W_var, List.getElem?_cons_zero, List.getElem?_cons_succ, List.set_cons_zero, List.set_cons_succ, rho0, List.length_cons, List.length_nil, List.replicate_succ, List.replicate_zero, List.cons_append, List.nil_append, List.append_eq, Nat.reduceAdd, Nat.reduceSub, wipeD, List.map_cons, List.map_nil, W_slU, W_iseqU, W_zipS, W_gget1, W_dC, W_inT, W_inD, W_ginT, W_upper, W_eqT0, W_len_U, W_aug, W_addSI, W_subSI, W_listR1, W_fldX, hat]
        refine ⟨m + 1, some (encN m), some (.obj S1.next), x4, ?_, hmn, ?_, hA2.drop hj⟩
        · simp
        · rw [← e2]; rfl
      | _ :: _, hr => cases hr
  · rintro ρ S1 ⟨m, x2, x3, x4, hr, hm, rfl, hA⟩
    have hmn : m = n := by
      rcases Nat.lt_or_ge m n with h | h
      · rw [show n - m = (n - (m + 1)) + 1 by omega, rangeD_cons] at hr; cases hr
      · omega
    subst hmn
    simp only [W_fz, W_ixO, ixN_30, ixN_31, ixN_32, W_seq, W_asg, W_expr, W_ret, W_sif, W_par, W_never, W_nil, W_c, W_e2, W_call, W_anil, W_acons, W_tup, W_lst, W_lstM, W_tV, W_and, W_or, W_not, W_bAnd, W_bOr, W_bNot, W_eif, W_isN, W_notN, W_fn, W_fnK, W_pt, W_for, W_iseq, W_ienum, W_izip, W_comp, W_compG, W_compM, W_kI, W_yes, W_addI, W_addL, W_addT, W_mulI, W_ltI, W_ixL, W_ixT, W_ixS, atI_0, atI_1, atI_2, atI_3, atI_4, W_len_L, W_len_T, W_len_S, W_sum, W_all, W_any, W_min2, W_max2, W_abs, W_intI, W_intB, W_tupT, W_tupL, W_listT, W_listL, W_sl, W_oN, W_oS, W_slT, W_slL, W_slS, W_r1, W_app, W_set, W_gm, W_g0, W_g1, W_isiI, W_isiT, W_isiL, W_e3, Ws_nx, Ws_rt, W_ok, true_and, and_true, if_true, if_false, List.append_nil, frOf_l, frOf_t, frOf_s, kn_t, kn_i, kn_b, kn_l, kn_s, kn_d, isa_tt, isa_ii, isa_ib, isa_ll, isa_lt, isa_tl, W_isiL2, W_isiT2, W_allT, W_sumI, W_allM, W_sumM, cut2, W_ltT2, W_neI, W_eqI, bindP, bindPs, List.map_cons, List.map_nil, decide_eq_true_eq, Bool.false_eq_true, Bool.not_true, Bool.not_false, Bool.and_eq_true, W_var, List.getElem?_cons_zero, List.getElem?_cons_succ, List.set_cons_zero, List.set_cons_succ, rho0, List.length_cons, List.length_nil, List.replicate_succ, List.replicate_zero, List.cons_append, List.nil_append, List.append_eq, Nat.reduceAdd, Nat.reduceSub, wipeD, List.map_cons, List.map_nil, W_slU, W_iseqU, W_zipS, W_gget1, W_dC, W_inT, W_inD, W_ginT, W_upper, W_eqT0, W_len_U, W_aug, W_addSI, W_subSI, W_listR1, W_fldX]
    exact q _ hA.back
end
end K38


namespace K38
open PySem L2 Qd

theorem minL_W {ns : List Int} {S : Sto} {Q : D → Sto → Prop} {m : Int} (h : m ∈ ns) (hm : ∀ x ∈ ns, m ≤ x) (q : Q (.int m) S) : W (kMinL [.lst (ns.map .int)] S) Q := by
  show W (match (some (ns.map D.int)).bind intsD with
    | some (n :: r) => .ok (.int (minI n r)) S
    | _ => .no) Q
  rw [Option.bind_some, intsD_map]
  cases ns with
  | nil => cases h
  | cons n r =>
    simp only
    have e : minI n r = m := by
      have h1 := minI_mem n r
      have h2 := hm _ h1
      obtain ⟨h3, h4⟩ := minI_le n r
      rcases List.mem_cons.mp h with rfl | h
      · omega
      · have := h4 m h; omega
    rw [e]; exact q
section
variable {S : Sto} {k : Nat} {Q : D → Sto → Prop} {ps : List St2} {d : D}
theorem shw_rw (h : Rw d ps) (hP : ∀ p ∈ ps, okP p) (hl : ps.length ≤ 41) : Shw 10000 2 d := by
  have he : ∀ x ∈ ps.map encP, Shw 100 1 x := fun x hx => by
    obtain ⟨p, hp, rfl⟩ := List.mem_map.mp hx
    obtain ⟨a, b, c, e⟩ := hP p hp
    exact (shw_tup (n := 42) (k := 0) (ds := [.int p.1, .int p.2]) fun y hy => by
      simp only [List.mem_cons, List.not_mem_nil, or_false] at hy
      rcases hy with rfl | rfl <;> exact shw_int (by show _ < 100000000000000000000000000000000000000000; omega)).mono (by show (42 + 2) * 2 + 3 ≤ 100; decide) (Nat.le_refl _)
  rcases h with rfl | rfl
  · exact (shw_lst he).mono (by simp; omega) (Nat.le_refl _)
  · exact (shw_tup he).mono (by simp; omega) (Nat.le_refl _)
theorem rw_noobj (h : Rw d ps) : ∀ j, d ≠ .obj j := by rcases h with rfl | rfl <;> exact fun j z => by cases z
theorem told_W (hp : Pu S k) (hP : ∀ p ∈ ps, okP p) (hl : ps.length ≤ 41) (q : ∀ S', Fr S S' k → Q (.bl true) S') : W (m_law_told_right [.obj k, .lst (ps.map encP)] S) Q := by
  have hlt := hp.lt
  unfold m_law_told_right
  rw [W_run]
  unfold b_law_told_right
  simp only [W_fz, W_ixO, ixN_30, ixN_31, ixN_32, W_seq, W_asg, W_expr, W_ret, W_sif, W_par, W_never, W_nil, W_c, W_e2, W_call, W_anil, W_acons, W_tup, W_lst, W_lstM, W_tV, W_and, W_or, W_not, W_bAnd, W_bOr, W_bNot, W_eif, W_isN, W_notN, W_fn, W_fnK, W_pt, W_for, W_iseq, W_ienum, W_izip, W_comp, W_compG, W_compM, W_kI, W_yes, W_addI, W_addL, W_addT, W_mulI, W_ltI, W_ixL, W_ixT, W_ixS, atI_0, atI_1, atI_2, atI_3, atI_4, W_len_L, W_len_T, W_len_S, W_sum, W_all, W_any, W_min2, W_max2, W_abs, W_intI, W_intB, W_tupT, W_tupL, W_listT, W_listL, W_sl, W_oN, W_oS, W_slT, W_slL, W_slS, W_r1, W_app, W_set, W_gm, W_g0, W_g1, W_isiI, W_isiT, W_isiL, W_e3, Ws_nx, Ws_rt, W_ok, true_and, and_true, if_true, if_false, List.append_nil, frOf_l, frOf_t, frOf_s, kn_t, kn_i, kn_b, kn_l, kn_s, kn_d, isa_tt, isa_ii, isa_ib, isa_ll, isa_lt, isa_tl, W_isiL2, W_isiT2, W_allT, W_sumI, W_allM, W_sumM, cut2, W_ltT2, W_neI, W_eqI, bindP, bindPs, List.map_cons, List.map_nil, decide_eq_true_eq, Bool.false_eq_true, Bool.not_true, Bool.not_false, Bool.and_eq_true, W_var, List.getElem?_cons_zero, List.getElem?_cons_succ, List.set_cons_zero, List.set_cons_succ, rho0, List.length_cons, List.length_nil, List.replicate_succ, List.replicate_zero, List.cons_append, List.nil_append, List.append_eq, Nat.reduceAdd, Nat.reduceSub, wipeD, List.map_cons, List.map_nil, W_slU, W_iseqU, W_zipS, W_gget1, W_dC, W_inT, W_inD, W_ginT, W_upper, W_eqT0, W_len_U, W_aug, W_addSI, W_subSI, W_listR1, W_fldX]
  refine ⟨by decide, take_W hp (by decide) (by decide) fun r1 S1 a1 b1 f1 => ?_⟩
  obtain ⟨d, ed, md⟩ := at_of (ds := [D.lst (ps.map encP), D.tup (ps.map encP)]) a1 (by simpa using b1)
  have hd : Rw d ps := by
    simp only [List.mem_cons, List.not_mem_nil, or_false] at md
    rcases md with rfl | rfl
    · exact .inl rfl
    · exact .inr rfl
  rw [W_ixL, ed]
  simp only
  refine W_repr (shw_rw hd hP hl) (by decide) (by decide) (rw_noobj hd) fun x hx => ?_
  simp only [W_fz, W_ixO, ixN_30, ixN_31, ixN_32, W_seq, W_asg, W_expr, W_ret, W_sif, W_par, W_never, W_nil, W_c, W_e2, W_call, W_anil, W_acons, W_tup, W_lst, W_lstM, W_tV, W_and, W_or, W_not, W_bAnd, W_bOr, W_bNot, W_eif, W_isN, W_notN, W_fn, W_fnK, W_pt, W_for, W_iseq, W_ienum, W_izip, W_comp, W_compG, W_compM, W_kI, W_yes, W_addI, W_addL, W_addT, W_mulI, W_ltI, W_ixL, W_ixT, W_ixS, atI_0, atI_1, atI_2, atI_3, atI_4, W_len_L, W_len_T, W_len_S, W_sum, W_all, W_any, W_min2, W_max2, W_abs, W_intI, W_intB, W_tupT, W_tupL, W_listT, W_listL, W_sl, W_oN, W_oS, W_slT, W_slL, W_slS, W_r1, W_app, W_set, W_gm, W_g0, W_g1, W_isiI, W_isiT, W_isiL, W_e3, Ws_nx, Ws_rt, W_ok, true_and, and_true, if_true, if_false, List.append_nil, frOf_l, frOf_t, frOf_s, kn_t, kn_i, kn_b, kn_l, kn_s, kn_d, isa_tt, isa_ii, isa_ib, isa_ll, isa_lt, isa_tl, W_isiL2, W_isiT2, W_allT, W_sumI, W_allM, W_sumM, cut2, W_ltT2, W_neI, W_eqI, bindP, bindPs, List.map_cons, List.map_nil, decide_eq_true_eq, Bool.false_eq_true, Bool.not_true, Bool.not_false, Bool.and_eq_true, W_var, List.getElem?_cons_zero, List.getElem?_cons_succ, List.set_cons_zero, List.set_cons_succ, rho0, List.length_cons, List.length_nil, List.replicate_succ, List.replicate_zero, List.cons_append, List.nil_append, List.append_eq, Nat.reduceAdd, Nat.reduceSub, wipeD, List.map_cons, List.map_nil, W_slU, W_iseqU, W_zipS, W_gget1, W_dC, W_inT, W_inD, W_ginT, W_upper, W_eqT0, W_len_U, W_aug, W_addSI, W_subSI, W_listR1, W_fldX, need_good hd hP (show ps.length ≤ 5000 by omega)]
  have w0 := walked_D (S := S1) (ps := ps) (ks := List.range ps.length) (e := .lst ((List.range ps.length).map encN)) (.inl rfl) (fun k hk => List.mem_range.mp hk) (by omega)
  have er : rangeD 0 ((ps.length : Int)).toNat = (List.range ps.length).map encN := rangeD_0 _
  have rg : rgOkB 0 (ps.length : Int) = true := by
    unfold rgOkB
    rw [small62_of (by omega) (by omega), small62_of (by omega) (by omega)]
    simp; omega
  have hroom := room_good (S := S1) hd hP (by omega)
  have hrr := roomr_D (S := S1) (ps := ps) (v := needV ((orderL ps).map (getP ps))) (order_perm ps) (by omega) (by rw [order_need, order_best]) (order_need ps)
  rw [show kw0 [] [d] = [d] from rfl, need_good hd hP (show ps.length ≤ 5000 by omega)]
  simp only [W_ok]
  refine ⟨by decide, ?_⟩
  refine W_loop (fun rest ρ S' => ∃ x4 x5 x6 : Option D, S' = S1 ∧ ρ = [some (D.obj k), some (D.lst (List.map encP ps)), some d, some (D.str x), x4, x5, x6] ∧ ∀ y ∈ rest, y = D.int (needV ps)) ⟨none, none, none, rfl, rfl, fun y hy => by simpa using hy⟩ ?_ ?_
  · rintro y r ρ S2 ⟨x4, x5, x6, rfl, rfl, hy⟩
    obtain rfl := hy y List.mem_cons_self
    refine ⟨_, rfl, ?_⟩
    simp only [W_fz, W_ixO, ixN_30, ixN_31, ixN_32, W_seq, W_asg, W_expr, W_ret, W_sif, W_par, W_never, W_nil, W_c, W_e2, W_call, W_anil, W_acons, W_tup, W_lst, W_lstM, W_tV, W_and, W_or, W_not, W_bAnd, W_bOr, W_bNot, W_eif, W_isN, W_notN, W_fn, W_fnK, W_pt, W_for, W_iseq, W_ienum, W_izip, W_comp, W_compG, W_compM, W_kI, W_yes, W_addI, W_addL, W_addT, W_mulI, W_ltI, W_ixL, W_ixT, W_ixS, atI_0, atI_1, atI_2, atI_3, atI_4, W_len_L, W_len_T, W_len_S, W_sum, W_all, W_any, W_min2, W_max2, W_abs, W_intI, W_intB, W_tupT, W_tupL, W_listT, W_listL, W_sl, W_oN, W_oS, W_slT, W_slL, W_slS, W_r1, W_app, W_set, W_gm, W_g0, W_g1, W_isiI, W_isiT, W_isiL, W_e3, Ws_nx, Ws_rt, W_ok, true_and, and_true, if_true, if_false, List.append_nil, frOf_l, frOf_t, frOf_s, kn_t, kn_i, kn_b, kn_l, kn_s, kn_d, isa_tt, isa_ii, isa_ib, isa_ll, isa_lt, isa_tl, W_isiL2, W_isiT2, W_allT, W_sumI, W_allM, W_sumM, cut2, W_ltT2, W_neI, W_eqI, bindP, bindPs, List.map_cons, List.map_nil, decide_eq_true_eq, Bool.false_eq_true, Bool.not_true, Bool.not_false, Bool.and_eq_true, W_var, List.getElem?_cons_zero, List.getElem?_cons_succ, List.set_cons_zero, List.set_cons_succ, rho0, List.length_cons, List.length_nil, List.replicate_succ, List.replicate_zero, List.cons_append, List.nil_append, List.append_eq, Nat.reduceAdd, Nat.reduceSub, wipeD, List.map_cons, List.map_nil, W_slU, W_iseqU, W_zipS, W_gget1, W_dC, W_inT, W_inD, W_ginT, W_upper, W_eqT0, W_len_U, W_aug, W_addSI, W_subSI, W_listR1, W_fldX, number_int, List.length_map, er, w0, walk_told, W_neI]
    refine ⟨rg, ?_⟩
    simp only [decide_true, Bool.not_true, Bool.false_eq_true, if_false]
    exact ⟨_, x5, x6, rfl, fun y hy2 => hy y (List.mem_cons_of_mem _ hy2)⟩
  · rintro ρ S2 ⟨x4, x5, x6, rfl, rfl, hy⟩
    simp only [List.getElem?_cons_zero, List.getElem?_cons_succ]
    rw [hroom]
    simp only [W_ok]
    rw [hrr]
    simp only [W_ok, Bool.not_true, Bool.false_eq_true, if_false]
    rw [show kw1 [] [d] = [d] from rfl, hroom]
    simp only [W_ok]
    rw [hrr]
    simp only [W_ok, Bool.not_true, Bool.false_eq_true, if_false]
    rw [W_len_L, List.length_map, W_ltI]
    simp only [decide_eq_true_eq]
    have fin : ∀ S3 : Sto, Fr S S3 k → W (kRepr [d] S3) fun x_1 S_1 => W (kEq x_1 (D.str x) S_1) fun d S' => Q d (S'.back S.m.length) := fun S3 f3 => by
      rw [repr_same (S' := S3) (rw_noobj hd) hx]
      simp only [W_ok, W_eqS, decide_true]
      exact q _ (f3.back hlt)
    split
    · rename_i hlt6
      rw [W_len_L, List.length_map]
      refine orders_W (n := ps.length) (by omega) fun S3 hS3 => ?_
      have f3 : Fr S S3 k := ⟨by rw [hS3]; exact f1.len, fun j h1 h2 => by rw [hS3]; exact f1.at_ j h1 h2, by obtain ⟨a, b, c, h⟩ := f1.pu; exact ⟨a, b, c, by rw [hS3]; exact h⟩⟩
      simp only [frOf_l, List.set_cons_succ, List.set_cons_zero, List.getElem?_cons_zero, List.getElem?_cons_succ]
      have few : (ordersL ps.length).length ≤ 120 := by
        have : ∀ m ≤ 5, (ordersL m).length ≤ 120 := by decide +kernel
        exact this _ (by omega)
      refine ⟨by rw [List.length_map]; unfold line; omega, ?_⟩
      refine W_eq (comp_mapW encO (fun _ => true) (fun l => .int (walkV ps l)) (ordersL ps.length) [] fun l hlm => ⟨_, rfl, ⟨rfl, rfl⟩, fun _ => ?_⟩) ?_
      · show W (eFn m_law_walked (aCons (eVar 1) (aCons (eVar 6) aNil)) [] [_, some (D.lst (List.map encP ps)), _, _, _, _, some (.lst (l.map encN))] S3) _
        simp only [W_fz, W_ixO, ixN_30, ixN_31, ixN_32, W_seq, W_asg, W_expr, W_ret, W_sif, W_par, W_never, W_nil, W_c, W_e2, W_call, W_anil, W_acons, W_tup, W_lst, W_lstM, W_tV, W_and, W_or, W_not, W_bAnd, W_bOr, W_bNot, W_eif, W_isN, W_notN, W_fn, W_fnK, W_pt, W_for, W_iseq, W_ienum, W_izip, W_comp, W_compG, W_compM, W_kI, W_yes, W_addI, W_addL, W_addT, W_mulI, W_ltI, W_ixL, W_ixT, W_ixS, atI_0, atI_1, atI_2, atI_3, atI_4, W_len_L, W_len_T, W_len_S, W_sum, W_all, W_any, W_min2, W_max2, W_abs, W_intI, W_intB, W_tupT, W_tupL, W_listT, W_listL, W_sl, W_oN, W_oS, W_slT, W_slL, W_slS, W_r1, W_app, W_set, W_gm, W_g0, W_g1, W_isiI, W_isiT, W_isiL, W_e3, Ws_nx, Ws_rt, W_ok, true_and, and_true, if_true, if_false, List.append_nil, frOf_l, frOf_t, frOf_s, kn_t, kn_i, kn_b, kn_l, kn_s, kn_d, isa_tt, isa_ii, isa_ib, isa_ll, isa_lt, isa_tl, W_isiL2, W_isiT2, W_allT, W_sumI, W_allM, W_sumM, cut2, W_ltT2, W_neI, W_eqI, bindP, bindPs, List.map_cons, List.map_nil, decide_eq_true_eq, Bool.false_eq_true, Bool.not_true, Bool.not_false, Bool.and_eq_true, W_var, List.getElem?_cons_zero, List.getElem?_cons_succ, List.set_cons_zero, List.set_cons_succ, rho0, List.length_cons, List.length_nil, List.replicate_succ, List.replicate_zero, List.cons_append, List.nil_append, List.append_eq, Nat.reduceAdd, Nat.reduceSub, wipeD, List.map_cons, List.map_nil, W_slU, W_iseqU, W_zipS, W_gget1, W_dC, W_inT, W_inD, W_ginT, W_upper, W_eqT0, W_len_U, W_aug, W_addSI, W_subSI, W_listR1, W_fldX, walked_D (.inl rfl) (fun k hk => by simpa using (orders_perm _ l hlm).mem_iff.mp hk) (show ps.length ≤ 5000 by omega)]
        first | done | exact ⟨rfl, rfl⟩
      rw [filter_all, List.nil_append, show ((ordersL ps.length).map fun l => D.int (walkV ps l)) = ((ordersL ps.length).map (walkV ps)).map .int by rw [List.map_map]; rfl]
      refine minL_W (m := max (sumD ps) (sumT ps)) (List.mem_map.mpr ⟨orderL ps, perm_orders _ _ (order_perm ps), order_best ps⟩) (fun y hy => ?_) ?_
      · obtain ⟨l, hl1, rfl⟩ := List.mem_map.mp hy
        exact walk_ge (orders_perm _ l hl1)
      · rw [room_good (S := S3) hd hP (by omega)]
        simp only [W_ok, W_fz, W_ixO, ixN_30, ixN_31, ixN_32, W_seq, W_asg, W_expr, W_ret, W_sif, W_par, W_never, W_nil, W_c, W_e2, W_call, W_anil, W_acons, W_tup, W_lst, W_lstM, W_tV, W_and, W_or, W_not, W_bAnd, W_bOr, W_bNot, W_eif, W_isN, W_notN, W_fn, W_fnK, W_pt, W_for, W_iseq, W_ienum, W_izip, W_comp, W_compG, W_compM, W_kI, W_yes, W_addI, W_addL, W_addT, W_mulI, W_ltI, W_ixL, W_ixT, W_ixS, atI_0, atI_1, atI_2, atI_3, atI_4, W_len_L, W_len_T, W_len_S, W_sum, W_all, W_any, W_min2, W_max2, W_abs, W_intI, W_intB, W_tupT, W_tupL, W_listT, W_listL, W_sl, W_oN, W_oS, W_slT, W_slL, W_slS, W_r1, W_app, W_set, W_gm, W_g0, W_g1, W_isiI, W_isiT, W_isiL, W_e3, Ws_nx, Ws_rt, W_ok, true_and, and_true, if_true, if_false, List.append_nil, frOf_l, frOf_t, frOf_s, kn_t, kn_i, kn_b, kn_l, kn_s, kn_d, isa_tt, isa_ii, isa_ib, isa_ll, isa_lt, isa_tl, W_isiL2, W_isiT2, W_allT, W_sumI, W_allM, W_sumM, cut2, W_ltT2, W_neI, W_eqI, bindP, bindPs, List.map_cons, List.map_nil, decide_eq_true_eq, Bool.false_eq_true, Bool.not_true, Bool.not_false, Bool.and_eq_true, W_var, List.getElem?_cons_zero, List.getElem?_cons_succ, List.set_cons_zero, List.set_cons_succ, rho0, List.length_cons, List.length_nil, List.replicate_succ, List.replicate_zero, List.cons_append, List.nil_append, List.append_eq, Nat.reduceAdd, Nat.reduceSub, wipeD, List.map_cons, List.map_nil, W_slU, W_iseqU, W_zipS, W_gget1, W_dC, W_inT, W_inD, W_ginT, W_upper, W_eqT0, W_len_U, W_aug, W_addSI, W_subSI, W_listR1, W_fldX, order_need, decide_true, Bool.not_true, Bool.false_eq_true, if_false]
        exact fin S3 f3
    · exact fin S2 f1
end
end K38


namespace K38
open PySem L2 Qd

theorem pls38 {n : Nat} : ∀ {ds : List D}, (∀ x ∈ ds, plD x = true ∧ dpD x ≤ n) → plDs ds = true ∧ dpDs ds ≤ n
  | [], _ => ⟨rfl, Nat.zero_le _⟩
  | x :: xs, h => by
    obtain ⟨a, b⟩ := pls38 fun y hy => h y (List.mem_cons_of_mem _ hy)
    obtain ⟨c, e⟩ := h x List.mem_cons_self
    constructor
    · simp only [plDs, a, c, Bool.and_self]
    · simp only [dpDs]; omega
theorem cut_last {α : Type} {f : α → D} (xs : List α) : cutD (xs.map f) (some (-1)) none = (xs.drop (xs.length - 1)).map f := by
  unfold cutD
  rw [← List.map_drop, ← List.map_take]
  simp only [List.length_map, HT.sIx_none]
  have e : HT.sIx xs.length 0 (some (-1)) = xs.length - 1 := by
    show (if (-1 : Int) < 0 then ((-1 : Int) + (xs.length : Int)).toNat else min (-1 : Int).toNat xs.length) = _
    rw [if_pos (by decide)]; omega
  rw [e, List.take_of_length_le (by rw [List.length_drop]; omega)]
section
variable {S : Sto} {k : Nat} {Q : D → Sto → Prop}
theorem W_neO0 {j : Nat} {ds : List D} (h : S.m[j]? = some (some (.lst ds))) (hp : plDs ds = true) (hd : dpDs ds ≤ 60) : W (kNe (.obj j) (.lst []) S) Q = Q (.bl (!ds.isEmpty)) S := by
  obtain ⟨ps, e, c, q⟩ := pl_pys ds hp
  unfold kNe
  rw [kEqB_ns fun a z => by cases z]
  have h1 : pyOf S (.obj j) = some (.list ps) := by simp only [pyOf, h, e, Option.map_some]
  have h2 : pyOf S (.lst []) = some (.list []) := rfl
  rw [h1, h2]
  simp only
  have s1 : SeqAt.shaped (.list ps) = true := by unfold SeqAt.shaped; simp only [PyData.canLay0, PyData.depth, c, q]; simp; omega
  have s2 : SeqAt.shaped (.list []) = true := rfl
  rw [W_chk, s1, s2]
  have : PyData.eqv (.list ps) (.list []) = ds.isEmpty := by
    cases ds with
    | nil => simp only [pys, Option.some.injEq] at e; subst e; rfl
    | cons x xs =>
      simp only [pys] at e
      split at e
      · cases e; rfl
      · cases e
  simp only [Bool.and_self, true_and, W_ok, if_true, this]
theorem enc_pl (ps : List St2) : plDs (ps.map encP) = true ∧ dpDs (ps.map encP) ≤ 5 := pls38 fun x hx => by
  obtain ⟨p, _, rfl⟩ := List.mem_map.mp hx
  exact ⟨rfl, by simp [encP, dpD, dpDs]⟩
theorem stops_W {n : Int} (hp : Pu S k) (h0 : 0 ≤ n) (h1 : n ≤ 40) (q : ∀ (ps : List St2) (S' : Sto), (∀ p ∈ ps, okP p) → ps.length ≤ 40 → Fr S S' k → Q (.lst (ps.map encP)) S') : W (m_law_stops [.obj k, .int n] S) Q := by
  have hlt := hp.lt
  unfold m_law_stops
  rw [W_run]
  unfold b_law_stops
  simp only [W_fz, W_ixO, ixN_30, ixN_31, ixN_32, W_seq, W_asg, W_expr, W_ret, W_sif, W_par, W_never, W_nil, W_c, W_e2, W_call, W_anil, W_acons, W_tup, W_lst, W_lstM, W_tV, W_and, W_or, W_not, W_bAnd, W_bOr, W_bNot, W_eif, W_isN, W_notN, W_fn, W_fnK, W_pt, W_for, W_iseq, W_ienum, W_izip, W_comp, W_compG, W_compM, W_kI, W_yes, W_addI, W_addL, W_addT, W_mulI, W_ltI, W_ixL, W_ixT, W_ixS, atI_0, atI_1, atI_2, atI_3, atI_4, W_len_L, W_len_T, W_len_S, W_sum, W_all, W_any, W_min2, W_max2, W_abs, W_intI, W_intB, W_tupT, W_tupL, W_listT, W_listL, W_sl, W_oN, W_oS, W_slT, W_slL, W_slS, W_r1, W_app, W_set, W_gm, W_g0, W_g1, W_isiI, W_isiT, W_isiL, W_e3, Ws_nx, Ws_rt, W_ok, true_and, and_true, if_true, if_false, List.append_nil, frOf_l, frOf_t, frOf_s, kn_t, kn_i, kn_b, kn_l, kn_s, kn_d, isa_tt, isa_ii, isa_ib, isa_ll, isa_lt, isa_tl, W_isiL2, W_isiT2, W_allT, W_sumI, W_allM, W_sumM, cut2, W_ltT2, W_neI, W_eqI, bindP, bindPs, List.map_cons, List.map_nil, decide_eq_true_eq, Bool.false_eq_true, Bool.not_true, Bool.not_false, Bool.and_eq_true, W_var, List.getElem?_cons_zero, List.getElem?_cons_succ, List.set_cons_zero, List.set_cons_succ, rho0, List.length_cons, List.length_nil, List.replicate_succ, List.replicate_zero, List.cons_append, List.nil_append, List.append_eq, Nat.reduceAdd, Nat.reduceSub, wipeD, List.map_cons, List.map_nil, W_slU, W_iseqU, W_zipS, W_gget1, W_dC, W_inT, W_inD, W_ginT, W_upper, W_eqT0, W_len_U, W_aug, W_addSI, W_subSI, W_listR1, W_fldX]
  refine ⟨Nat.zero_le _, small62_of (by omega) (by omega), ?_⟩
  have hj : S.m.length ≤ S.next := Nat.le_add_right _ _
  have hjk : S.next ≠ k := by omega
  refine W_loop (fun ds ρ S' => ∃ (ps : List St2) (x3 x4 x5 x6 x7 : Option D), ρ = [some (.obj k), some (.int n), some (.obj S.next), x3, x4, x5, x6, x7] ∧ ps.length + ds.length = n.toNat ∧ (∀ p ∈ ps, okP p) ∧ S'.m[S.next]? = some (some (.lst (ps.map encP))) ∧ Fr S S' k)
    ⟨[], none, none, none, none, none, rfl, ?_, (fun w h => nomatch h), push_at, (Fr.refl hp).push _⟩ ?_ ?_
  · rw [rangeD_map]; simp
  · rintro d ds ρ S1 ⟨ps, x3, x4, x5, x6, x7, rfl, hl, hP, hat, f1⟩
    simp only [List.length_cons] at hl
    refine ⟨_, rfl, ?_⟩
    simp only [W_fz, W_ixO, ixN_30, ixN_31, ixN_32, W_seq, W_asg, W_expr, W_ret, W_sif, W_par, W_never, W_nil, W_c, W_e2, W_call, W_anil, W_acons, W_tup, W_lst, W_lstM, W_tV, W_and, W_or, W_not, W_bAnd, W_bOr, W_bNot, W_eif, W_isN, W_notN, W_fn, W_fnK, W_pt, W_for, W_iseq, W_ienum, W_izip, W_comp, W_compG, W_compM, W_kI, W_yes, W_addI, W_addL, W_addT, W_mulI, W_ltI, W_ixL, W_ixT, W_ixS, atI_0, atI_1, atI_2, atI_3, atI_4, W_len_L, W_len_T, W_len_S, W_sum, W_all, W_any, W_min2, W_max2, W_abs, W_intI, W_intB, W_tupT, W_tupL, W_listT, W_listL, W_sl, W_oN, W_oS, W_slT, W_slL, W_slS, W_r1, W_app, W_set, W_gm, W_g0, W_g1, W_isiI, W_isiT, W_isiL, W_e3, Ws_nx, Ws_rt, W_ok, true_and, and_true, if_true, if_false, List.append_nil, frOf_l, frOf_t, frOf_s, kn_t, kn_i, kn_b, kn_l, kn_s, kn_d, isa_tt, isa_ii, isa_ib, isa_ll, isa_lt, isa_tl, W_isiL2, W_isiT2, W_allT, W_sumI, W_allM, W_sumM, cut2, W_ltT2, W_neI, W_eqI, bindP, bindPs, List.map_cons, List.map_nil, decide_eq_true_eq, Bool.false_eq_true, Bool.not_true, Bool.not_false, Bool.and_eq_true, W_var, List.getElem?_cons_zero, List.getElem?_cons_succ, List.set_cons_zero, List.set_cons_succ, rho0, List.length_cons, List.length_nil, List.replicate_succ, List.replicate_zero, List.cons_append, List.nil_append, List.append_eq, Nat.reduceAdd, Nat.reduceSub, wipeD, List.map_cons, List.map_nil, W_slU, W_iseqU, W_zipS, W_gget1, W_dC, W_inT, W_inD, W_ginT, W_upper, W_eqT0, W_len_U, W_aug, W_addSI, W_subSI, W_listR1, W_fldX]
    refine ⟨by decide, take_W f1.pu (by decide) (by decide) fun t1 T1 c1 e1 g1 => ?_⟩
    have ht : ∃ top : Int, atI [D.int 10, D.int 1000] t1 = some (.int top) ∧ 0 < top ∧ top ≤ 1000 := by
      obtain ⟨d, e, m⟩ := at_of (ds := [D.int 10, D.int 1000]) c1 (by simpa using e1)
      simp only [List.mem_cons, List.not_mem_nil, or_false] at m
      rcases m with rfl | rfl
      · exact ⟨_, e, by decide, by decide⟩
      · exact ⟨_, e, by decide, by decide⟩
    obtain ⟨top, et, u1, u2⟩ := ht
    rw [W_ixL, et]
    simp only
    refine take_W g1.pu u1 (by omega) fun a T2 c2 e2 g2 => ?_
    refine take_W g2.pu u1 (by omega) fun b T3 c3 e3 g3 => ?_
    have G3 := (g1.trans g2).trans g3
    have hat3 := G3.keep hat hjk
    refine ⟨by decide, by decide, by decide, by decide, by decide, by decide, by rw [hat3], ?_⟩
    rw [W_slO hat3, cut_last, show ([D.tup [.int a, .int b], .tup [.int a, .int b], .tup [.int a, .int a], .tup [.int a, .int 0], .tup [.int 0, .int b]] : List D) = [(a, b), (a, b), (a, a), (a, 0), (0, b)].map encP from rfl, W_addL, ← List.map_append]
    refine ⟨by simp; unfold line; omega, Nat.zero_le _, ?_⟩
    rw [W_neO0 hat3 (enc_pl ps).1 (by have := (enc_pl ps).2; omega)]
    simp only [W_fz, W_ixO, ixN_30, ixN_31, ixN_32, W_seq, W_asg, W_expr, W_ret, W_sif, W_par, W_never, W_nil, W_c, W_e2, W_call, W_anil, W_acons, W_tup, W_lst, W_lstM, W_tV, W_and, W_or, W_not, W_bAnd, W_bOr, W_bNot, W_eif, W_isN, W_notN, W_fn, W_fnK, W_pt, W_for, W_iseq, W_ienum, W_izip, W_comp, W_compG, W_compM, W_kI, W_yes, W_addI, W_addL, W_addT, W_mulI, W_ltI, W_ixL, W_ixT, W_ixS, atI_0, atI_1, atI_2, atI_3, atI_4, W_len_L, W_len_T, W_len_S, W_sum, W_all, W_any, W_min2, W_max2, W_abs, W_intI, W_intB, W_tupT, W_tupL, W_listT, W_listL, W_sl, W_oN, W_oS, W_slT, W_slL, W_slS, W_r1, W_app, W_set, W_gm, W_g0, W_g1, W_isiI, W_isiT, W_isiL, W_e3, Ws_nx, Ws_rt, W_ok, true_and, and_true, if_true, if_false, List.append_nil, frOf_l, frOf_t, frOf_s, kn_t, kn_i, kn_b, kn_l, kn_s, kn_d, isa_tt, isa_ii, isa_ib, isa_ll, isa_lt, isa_tl, W_isiL2, W_isiT2, W_allT, W_sumI, W_allM, W_sumM, cut2, W_ltT2, W_neI, W_eqI, bindP, bindPs, List.map_cons, List.map_nil, decide_eq_true_eq, Bool.false_eq_true, Bool.not_true, Bool.not_false, Bool.and_eq_true, W_var, List.getElem?_cons_zero, List.getElem?_cons_succ, List.set_cons_zero, List.set_cons_succ, rho0, List.length_cons, List.length_nil, List.replicate_succ, List.replicate_zero, List.cons_append, List.nil_append, List.append_eq, Nat.reduceAdd, Nat.reduceSub, wipeD, List.map_cons, List.map_nil, W_slU, W_iseqU, W_zipS, W_gget1, W_dC, W_inT, W_inD, W_ginT, W_upper, W_eqT0, W_len_U, W_aug, W_addSI, W_subSI, W_listR1, W_fldX]
    have hc : ∃ c : Int, (5 : Int) + (if (!(ps.map encP).isEmpty) = true then 1 else 0) = c ∧ 5 ≤ c ∧ c ≤ 6 ∧ c = (([(a, b), (a, b), (a, a), (a, 0), (0, b)] ++ ps.drop (ps.length - 1)).length : Int) := by
      refine ⟨_, rfl, ?_⟩
      cases ps with
      | nil => simp
      | cons p ps => simp
    obtain ⟨c, ec, c5, c6, cl⟩ := hc
    rw [ec]
    refine take_W G3.pu (by omega) (by omega) fun t4 T4 c4 e4 g4 => ?_
    have hat4 := g4.keep hat3 hjk
    obtain ⟨p, hp1, hp2⟩ := pick (f := encP) (xs := [(a, b), (a, b), (a, a), (a, 0), (0, b)] ++ ps.drop (ps.length - 1)) c4 (by omega)
    rw [W_ixL, show atI (encP (a, b) :: encP (a, b) :: encP (a, a) :: encP (a, 0) :: encP (0, b) :: List.map encP (List.drop (ps.length - 1) ps)) t4 = some (encP p) from hp2]
    simp only [hat4]
    have ok : okP p := by
      rcases List.mem_append.mp hp1 with h | h
      · simp only [List.mem_cons, List.not_mem_nil, or_false] at h
        unfold okP
        rcases h with rfl | rfl | rfl | rfl | rfl <;> simp only <;> omega
      · exact hP p (List.mem_of_mem_drop h)
    refine ⟨by simp; unfold line; omega, ps ++ [p], _, _, _, _, _, rfl, by simp; omega, fun x hx => ?_, ?_, ?_⟩
    · rcases List.mem_append.mp hx with hx | hx
      · exact hP x hx
      · rw [List.mem_singleton.mp hx]; exact ok
    · rw [List.map_append]
      exact put_at hat4
    · exact ((f1.trans G3).trans g4).putO hj hlt _
  · rintro ρ S1 ⟨ps, x3, x4, x5, x6, x7, rfl, hl, hP, hat, f1⟩
    simp only [W_fz, W_ixO, ixN_30, ixN_31, ixN_32, W_seq, W_asg, W_expr, W_ret, W_sif, W_par, W_never, W_nil, W_c, W_e2, W_call, W_anil, W_acons, W_tup, W_lst, W_lstM, W_tV, W_and, W_or, W_not, W_bAnd, W_bOr, W_bNot, W_eif, W_isN, W_notN, W_fn, W_fnK, W_pt, W_for, W_iseq, W_ienum, W_izip, W_comp, W_compG, W_compM, W_kI, W_yes, W_addI, W_addL, W_addT, W_mulI, W_ltI, W_ixL, W_ixT, W_ixS, atI_0, atI_1, atI_2, atI_3, atI_4, W_len_L, W_len_T, W_len_S, W_sum, W_all, W_any, W_min2, W_max2, W_abs, W_intI, W_intB, W_tupT, W_tupL, W_listT, W_listL, W_sl, W_oN, W_oS, W_slT, W_slL, W_slS, W_r1, W_app, W_set, W_gm, W_g0, W_g1, W_isiI, W_isiT, W_isiL, W_e3, Ws_nx, Ws_rt, W_ok, true_and, and_true, if_true, if_false, List.append_nil, frOf_l, frOf_t, frOf_s, kn_t, kn_i, kn_b, kn_l, kn_s, kn_d, isa_tt, isa_ii, isa_ib, isa_ll, isa_lt, isa_tl, W_isiL2, W_isiT2, W_allT, W_sumI, W_allM, W_sumM, cut2, W_ltT2, W_neI, W_eqI, bindP, bindPs, List.map_cons, List.map_nil, decide_eq_true_eq, Bool.false_eq_true, Bool.not_true, Bool.not_false, Bool.and_eq_true, W_var, List.getElem?_cons_zero, List.getElem?_cons_succ, List.set_cons_zero, List.set_cons_succ, rho0, List.length_cons, List.length_nil, List.replicate_succ, List.replicate_zero, List.cons_append, List.nil_append, List.append_eq, Nat.reduceAdd, Nat.reduceSub, wipeD, List.map_cons, List.map_nil, W_slU, W_iseqU, W_zipS, W_gget1, W_dC, W_inT, W_inD, W_ginT, W_upper, W_eqT0, W_len_U, W_aug, W_addSI, W_subSI, W_listR1, W_fldX, hat]
    exact q ps _ hP (by simp at hl; omega) ((f1.dropO hj hlt).back hlt)
end
end K38


namespace K38
open PySem L2 Qd

/-- no stop, and plain -/
structure Odd (d : D) : Prop where
  ok : okD d = true
  no : stopB d = false
  sh : Shw 5000 5 d
/-- no part of a stop -/
structure Bad (d : D) : Prop where
  ok : okD d = true
  no : inB d 0 999 = false
  sh : Shw 1000 3 d
def parts : List D := [.int (0 - 1), .int 1000, .bl true, .bl false, .non, .str "5", .lst [.int 5], .tup [.int 5], .dk [] [], .int (10 ^ 30), .tup [.lst []]]
theorem sh5 : ∀ x ∈ [D.int 5], Shw 42 0 x := fun x hx => by
  rw [List.mem_singleton.mp hx]
  exact shw_int (by decide)
theorem parts_bad : ∀ x ∈ parts, Bad x := fun x hx => by
  simp only [parts, List.mem_cons, List.not_mem_nil, or_false] at hx
  rcases hx with rfl | rfl | rfl | rfl | rfl | rfl | rfl | rfl | rfl | rfl | rfl
  · exact ⟨rfl, rfl, (shw_int (by decide)).mono (by decide) (by decide)⟩
  · exact ⟨rfl, rfl, (shw_int (by decide)).mono (by decide) (by decide)⟩
  · exact ⟨rfl, rfl, shw_bl.mono (by decide) (by decide)⟩
  · exact ⟨rfl, rfl, shw_bl.mono (by decide) (by decide)⟩
  · exact ⟨rfl, rfl, shw_non.mono (by decide) (by decide)⟩
  · exact ⟨by decide +kernel, rfl, (shw_txt (by decide +kernel) (by decide +kernel)).mono (by decide) (by decide)⟩
  · exact ⟨rfl, rfl, (shw_lst sh5).mono (by decide) (by decide)⟩
  · exact ⟨rfl, rfl, (shw_tup sh5).mono (by decide) (by decide)⟩
  · exact ⟨rfl, rfl, shw_dk0.mono (by decide) (by decide)⟩
  · exact ⟨rfl, rfl, (shw_int (by decide)).mono (by decide) (by decide)⟩
  · exact ⟨rfl, rfl, (shw_tup (n := 3) (k := 1) fun x hx => by
      rw [List.mem_singleton.mp hx]
      exact (shw_lst (n := 0) (k := 0) (fun x h => absurd h List.not_mem_nil)).mono (by decide) (by decide)).mono (by decide) (by decide)⟩
def odds (p : D) : List D := [.tup [p, .int 2], .tup [.int 1, p], .tup [.int 1], .tup [.int 1, .int 2, .int 0], .lst [.int 1, .int 2], .tup [], .non, .int 5, .str "55", .dk [] [], .tup [.tup [.int 1, .int 2]], .lst []]
theorem shI {i : Int} (h : i.natAbs < 10 ^ 41) : Shw 1000 3 (.int i) := (shw_int h).mono (by decide) (by decide)
theorem sh_all {ds : List D} (h : ∀ x ∈ ds, Shw 1000 3 x) (hl : ds.length ≤ 3) : Shw 5000 5 (.tup ds) ∧ Shw 5000 5 (.lst ds) := ⟨(shw_tup h).mono (by omega) (by decide), (shw_lst h).mono (by omega) (by decide)⟩
theorem odds_odd {p : D} (h : Bad p) : ∀ x ∈ odds p, Odd x := fun x hx => by
  simp only [odds, List.mem_cons, List.not_mem_nil, or_false] at hx
  have two : ∀ a b : D, Shw 1000 3 a → Shw 1000 3 b → ∀ x ∈ [a, b], Shw 1000 3 x := fun a b ha hb x hx => by
    simp only [List.mem_cons, List.not_mem_nil, or_false] at hx
    rcases hx with rfl | rfl <;> assumption
  have one : ∀ a : D, Shw 1000 3 a → ∀ x ∈ [a], Shw 1000 3 x := fun a ha x hx => by
    rw [List.mem_singleton.mp hx]; exact ha
  have i1 : Shw 1000 3 (.int 1) := shI (by decide)
  have i2 : Shw 1000 3 (.int 2) := shI (by decide)
  rcases hx with rfl | rfl | rfl | rfl | rfl | rfl | rfl | rfl | rfl | rfl | rfl | rfl
  · exact ⟨by simp [okD, okDs, h.ok], by simp [stopB, h.no], (sh_all (two _ _ h.sh i2) (by simp)).1⟩
  · exact ⟨by simp [okD, okDs, h.ok], by simp [stopB, h.no], (sh_all (two _ _ i1 h.sh) (by simp)).1⟩
  · exact ⟨rfl, rfl, (sh_all (one _ i1) (by simp)).1⟩
  · exact ⟨rfl, rfl, (sh_all (fun x hx => by
      simp only [List.mem_cons, List.not_mem_nil, or_false] at hx
      rcases hx with rfl | rfl | rfl
      · exact i1
      · exact i2
      · exact shI (by decide)) (by simp)).1⟩
  · exact ⟨rfl, rfl, (sh_all (two _ _ i1 i2) (by simp)).2⟩
  · exact ⟨rfl, rfl, (sh_all (fun x h => absurd h List.not_mem_nil) (by simp)).1⟩
  · exact ⟨rfl, rfl, shw_non.mono (by decide) (by decide)⟩
  · exact ⟨rfl, rfl, (shI (by decide)).mono (by decide) (by decide)⟩
  · exact ⟨by decide +kernel, rfl, (shw_txt (by decide +kernel) (by decide +kernel)).mono (by decide) (by decide)⟩
  · exact ⟨rfl, rfl, shw_dk0.mono (by decide) (by decide)⟩
  · exact ⟨rfl, rfl, (sh_all (one _ ((shw_tup (n := 42) (k := 0) fun x hx => by
      simp only [List.mem_cons, List.not_mem_nil, or_false] at hx
      rcases hx with rfl | rfl <;> exact shw_int (by decide)).mono (by decide) (by decide))) (by simp)).1⟩
  · exact ⟨rfl, rfl, (sh_all (fun x h => absurd h List.not_mem_nil) (by simp)).2⟩
theorem W_pow30 {S : Sto} {Q : D → Sto → Prop} : W (kPow (.int 10) (.int 30) S) Q = Q (.int (10 ^ 30)) S := by
  show W (chk _ _) Q = _
  rw [W_chk]
  simp [W]
section
variable {S : Sto} {k : Nat} {Q : D → Sto → Prop}
theorem W_d0 {ρ : Rho} : W (eD0 ρ S) Q = Q (.dk [] []) S := rfl
theorem odd_W (hp : Pu S k) (q : ∀ d S', Odd d → Fr S S' k → Q d S') : W (m_law_odd_stop [.obj k, .tup [.int 1, .int 2]] S) Q := by
  have hlt := hp.lt
  unfold m_law_odd_stop
  rw [W_run]
  unfold b_law_odd_stop
  simp only [W_fz, W_ixO, ixN_30, ixN_31, ixN_32, W_seq, W_asg, W_expr, W_ret, W_sif, W_par, W_never, W_nil, W_c, W_e2, W_call, W_anil, W_acons, W_tup, W_lst, W_lstM, W_tV, W_and, W_or, W_not, W_bAnd, W_bOr, W_bNot, W_eif, W_isN, W_notN, W_fn, W_fnK, W_pt, W_for, W_iseq, W_ienum, W_izip, W_comp, W_compG, W_compM, W_kI, W_yes, W_addI, W_addL, W_addT, W_mulI, W_ltI, W_ixL, W_ixT, W_ixS, atI_0, atI_1, atI_2, atI_3, atI_4, W_len_L, W_len_T, W_len_S, W_sum, W_all, W_any, W_min2, W_max2, W_abs, W_intI, W_intB, W_tupT, W_tupL, W_listT, W_listL, W_sl, W_oN, W_oS, W_slT, W_slL, W_slS, W_r1, W_app, W_set, W_gm, W_g0, W_g1, W_isiI, W_isiT, W_isiL, W_e3, Ws_nx, Ws_rt, W_ok, true_and, and_true, if_true, if_false, List.append_nil, frOf_l, frOf_t, frOf_s, kn_t, kn_i, kn_b, kn_l, kn_s, kn_d, isa_tt, isa_ii, isa_ib, isa_ll, isa_lt, isa_tl, W_isiL2, W_isiT2, W_allT, W_sumI, W_allM, W_sumM, cut2, W_ltT2, W_neI, W_eqI, bindP, bindPs, List.map_cons, List.map_nil, decide_eq_true_eq, Bool.false_eq_true, Bool.not_true, Bool.not_false, Bool.and_eq_true, W_var, List.getElem?_cons_zero, List.getElem?_cons_succ, List.set_cons_zero, List.set_cons_succ, rho0, List.length_cons, List.length_nil, List.replicate_succ, List.replicate_zero, List.cons_append, List.nil_append, List.append_eq, Nat.reduceAdd, Nat.reduceSub, wipeD, List.map_cons, List.map_nil, W_slU, W_iseqU, W_zipS, W_gget1, W_dC, W_inT, W_inD, W_ginT, W_upper, W_eqT0, W_len_U, W_aug, W_addSI, W_subSI, W_listR1, W_fldX, W_d0, W_pow30]
  refine ⟨by decide, by decide, by decide, by decide, by decide, by decide, ?_⟩
  refine take_W hp (by decide) (by decide) fun r1 S1 a1 b1 f1 => ?_
  obtain ⟨p, ep, mp⟩ := at_of (ds := parts) a1 (by simpa [parts] using b1)
  rw [W_ixL, show atI [D.int (0 - 1), D.int 1000, D.bl true, D.bl false, D.non, D.str (Str.ofString "5"), D.lst [D.int 5], D.tup [D.int 5], D.dk [] [], D.int (10 ^ Int.toNat 30), D.tup [D.lst []]] r1 = some p from ep]
  simp only
  refine ⟨by decide, by decide, by decide, by decide, by decide, by decide, by decide, by decide, ?_⟩
  refine take_W f1.pu (by decide) (by decide) fun r2 S2 a2 b2 f2 => ⟨by decide, ?_⟩
  refine take_W f2.pu (by decide) (by decide) fun r3 S3 a3 b3 f3 => ?_
  refine W_pickI (xs := [0, 1, r2]) (fun x => 0 ≤ x ∧ x < 12) (by simp; omega) a3 (by simpa using b3) fun i hi => ?_
  obtain ⟨x, ex, mx⟩ := at_of (ds := odds p) hi.1 (by simpa [odds] using hi.2)
  rw [W_ixL, show atI [D.tup [p, D.int 2], D.tup [D.int 1, p], D.tup (cutD [D.int 1, D.int 2] none (some 1)), D.tup [D.int 1, D.int 2, D.int 0], D.lst [D.int 1, D.int 2], D.tup [], D.non, D.int 5, D.str (Str.ofString "55"), D.dk [] [], D.tup [D.tup [D.int 1, D.int 2]], D.lst []] i = some x from ex]
  exact q x _ (odds_odd (parts_bad p mp) x mx) (((f1.trans f2).trans f3).back hlt)
end
end K38


namespace K38
open PySem L2 Qd

structure Good (d : D) : Prop where
  ok : okD d = true
  st : stopB d = true
  sh : Shw 5000 5 d
theorem good_enc {p : St2} (h : okP p) : Good (encP p) := by
  refine ⟨rfl, stop_enc h, ?_⟩
  obtain ⟨a, b, c, e⟩ := h
  exact (shw_tup (n := 42) (k := 0) (ds := [.int p.1, .int p.2]) fun y hy => by
    simp only [List.mem_cons, List.not_mem_nil, or_false] at hy
    rcases hy with rfl | rfl <;> exact shw_int (by show _ < 100000000000000000000000000000000000000000; omega)).mono (by show (42 + 2) * 2 + 3 ≤ 5000; decide) (by decide)
/-- spoilt at the spots alone -/
def Spo (spots : List Nat) (L : List D) : Prop := ∀ i (h : i < L.length), if i ∈ spots then Odd L[i] else Good L[i]
theorem spo_set {spots : List Nat} {L : List D} {s : Nat} {d : D} (h : Spo spots L) (hd : Odd d) : Spo (spots ++ [s]) (L.set s d) := fun i hi => by
  have hi2 : i < L.length := by simpa using hi
  rw [List.getElem_set]
  by_cases e : s = i
  · subst e
    rw [if_pos (by simp), if_pos rfl]; exact hd
  · have := h i hi2
    rw [if_neg e]
    by_cases m : i ∈ spots
    · rw [if_pos (List.mem_append_left _ m)]; rw [if_pos m] at this; exact this
    · rw [if_neg (by simp [m]; omega)]; rw [if_neg m] at this; exact this
theorem bad_at : ∀ (L : List D) (n m : Nat) (h : m < L.length), stopB L[m] = false → (∀ i (hi : i < m), stopB (L[i]'(by omega)) = true) → badF n L = some (.int ((n + m : Nat) : Int))
  | [], _, m, h, _, _ => absurd h (by simp)
  | d :: r, n, 0, _, h1, _ => by
    simp only [List.getElem_cons_zero] at h1
    simp only [badF, h1, Bool.false_eq_true, if_false, Nat.add_zero]
  | d :: r, n, m + 1, h, h1, h2 => by
    have h0 := h2 0 (by omega)
    simp only [List.getElem_cons_zero] at h0
    simp only [List.getElem_cons_succ] at h1
    simp only [badF, h0, if_true]
    rw [bad_at r (n + 1) m (by simpa using h) h1 fun i hi => by
      have := h2 (i + 1) (by omega)
      simpa only [List.getElem_cons_succ] using this]
    congr 3; omega
theorem spo_bad {spots : List Nat} {L : List D} {m : Nat} (h : Spo spots L) (hm : m ∈ spots) (hl : m < L.length) (hle : ∀ x ∈ spots, m ≤ x) : badF 0 L = some (.int (m : Int)) := by
  have := bad_at L 0 m hl (by have := h m hl; rw [if_pos hm] at this; exact this.no) fun i hi => by
    have := h i (by omega)
    rw [if_neg (fun z => by have := hle i z; omega)] at this
    exact this.st
  rw [this, Nat.zero_add]
theorem spo_ok {spots : List Nat} {L : List D} (h : Spo spots L) : ∀ x ∈ L, okD x = true ∧ Shw 5000 5 x := fun x hx => by
  obtain ⟨i, hi, rfl⟩ := List.getElem_of_mem hx
  have := h i hi
  split at this
  · exact ⟨this.ok, this.sh⟩
  · exact ⟨this.ok, this.sh⟩
theorem least {spots : List Nat} (h : spots ≠ []) : ∃ m, m ∈ spots ∧ ∀ x ∈ spots, m ≤ x := by
  induction spots with
  | nil => exact absurd rfl h
  | cons n r ih =>
    cases r with
    | nil => exact ⟨n, List.mem_cons_self, fun x hx => by rw [List.mem_singleton.mp hx]; exact Nat.le_refl _⟩
    | cons a r =>
      obtain ⟨m, h1, h2⟩ := ih (by simp)
      by_cases c : n ≤ m
      · exact ⟨n, List.mem_cons_self, fun x hx => by
          rcases List.mem_cons.mp hx with rfl | hx
          · exact Nat.le_refl _
          · exact Nat.le_trans c (h2 x hx)⟩
      · exact ⟨m, List.mem_cons_of_mem _ h1, fun x hx => by
          rcases List.mem_cons.mp hx with rfl | hx
          · omega
          · exact h2 x hx⟩
def things : List D := [.non, .int 5, .bl true, .str "", .str "ab", .dk [] [], .dk [(.inl 1)] [.int 2], .int (10 ^ 30), .str "()"]
theorem things_ok : ∀ x ∈ things, okD x = true ∧ badD x = some .non := fun x hx => by
  simp only [things, List.mem_cons, List.not_mem_nil, or_false] at hx
  rcases hx with rfl | rfl | rfl | rfl | rfl | rfl | rfl | rfl | rfl <;> exact ⟨by decide +kernel, rfl⟩
section
variable {S : Sto} {k : Nat} {Q : D → Sto → Prop}
theorem W_strI {i : Int} (h : i.natAbs < 1000) : W (kStr1 [.int i] S) Q = Q (.str (txtE (.int i))) S := by
  show W (chk _ _) Q = _
  rw [W_chk]
  have : i.natAbs.log2 < 1920 := by
    have := Nat.log2_lt (n := i.natAbs) (k := 10)
    by_cases z : i.natAbs = 0
    · rw [z]; decide
    · have := (this z).mpr (by omega); omega
  simp [this, W, txtE]
theorem W_mulL2 {d : D} : W (kMul (.lst [d]) (.int 2) S) Q = Q (.lst [d, d]) S := rfl
theorem comp_seen {ρ : Rho} {fe : FE} {d e : D} (hρ : ρ.length = 11) (hfe : ∀ i : Int, fe (ρ.set 10 (some (.int i))) S = .ok d S) (ho : okD d = true) (hb : badD d = some e) (hn : Num e) :
    comp (.nm 10) tYesD (eFn m_law_seen (aCons fe (aCons (eVar 10) aNil)) []) ρ (rangeD 0 (Int.toNat 2)) S [] = .ok [.str (txtE e), .str (txtE e)] S := by
  have := comp_mapW (p := .nm 10) (tt := tYesD) (te := eFn m_law_seen (aCons fe (aCons (eVar 10) aNil)) []) (ρ := ρ) (S := S) (fun i : Nat => D.int (0 + (i : Int))) (fun _ => true) (fun _ => .str (txtE e)) (List.range 2) [] fun i hi => ⟨ρ.set 10 (some (.int (0 + (i : Int)))), rfl, ⟨rfl, rfl⟩, fun _ => by
      rw [W_fn, W_acons, hfe]
      simp only [W_ok, W_acons, W_anil]
      rw [W_var, List.getElem?_set_self (by omega)]
      simp only [List.append_nil, seen_D ho hb hn, W_ok, and_self]⟩
  rw [rangeD_map]
  exact this
end
end K38


namespace K38
open PySem L2 Qd

section
variable {S : Sto} {k : Nat} {Q : D → Sto → Prop} {ps : List St2}
theorem refused_W (hp : Pu S k) (hP : ∀ p ∈ ps, okP p) (hl : ps.length ≤ 6) (q : ∀ S', Fr S S' k → Q (.bl true) S') : W (m_law_refused_right [.obj k, .lst (ps.map encP)] S) Q := by
  have hlt := hp.lt
  unfold m_law_refused_right
  rw [W_run]
  unfold b_law_refused_right
  rw [W_seq, W_asg]
  simp only [W_fz, W_ixO, ixN_30, ixN_31, ixN_32, W_seq, W_asg, W_expr, W_ret, W_sif, W_par, W_never, W_nil, W_c, W_e2, W_call, W_anil, W_acons, W_tup, W_lst, W_lstM, W_tV, W_and, W_or, W_not, W_bAnd, W_bOr, W_bNot, W_eif, W_isN, W_notN, W_fn, W_fnK, W_pt, W_for, W_iseq, W_ienum, W_izip, W_comp, W_compG, W_compM, W_kI, W_yes, W_addI, W_addL, W_addT, W_mulI, W_ltI, W_ixL, W_ixT, W_ixS, atI_0, atI_1, atI_2, atI_3, atI_4, W_len_L, W_len_T, W_len_S, W_sum, W_all, W_any, W_min2, W_max2, W_abs, W_intI, W_intB, W_tupT, W_tupL, W_listT, W_listL, W_sl, W_oN, W_oS, W_slT, W_slL, W_slS, W_r1, W_app, W_set, W_gm, W_g0, W_g1, W_isiI, W_isiT, W_isiL, W_e3, Ws_nx, Ws_rt, W_ok, true_and, and_true, if_true, if_false, List.append_nil, frOf_l, frOf_t, frOf_s, kn_t, kn_i, kn_b, kn_l, kn_s, kn_d, isa_tt, isa_ii, isa_ib, isa_ll, isa_lt, isa_tl, W_isiL2, W_isiT2, W_allT, W_sumI, W_allM, W_sumM, cut2, W_ltT2, W_neI, W_eqI, bindP, bindPs, List.map_cons, List.map_nil, decide_eq_true_eq, Bool.false_eq_true, Bool.not_true, Bool.not_false, Bool.and_eq_true, W_var, List.getElem?_cons_zero, List.getElem?_cons_succ, List.set_cons_zero, List.set_cons_succ, rho0, List.length_cons, List.length_nil, List.replicate_succ, List.replicate_zero, List.cons_append, List.nil_append, List.append_eq, Nat.reduceAdd, Nat.reduceSub, wipeD, List.map_cons, List.map_nil, W_slU, W_iseqU, W_zipS, W_gget1, W_dC, W_inT, W_inD, W_ginT, W_upper, W_eqT0, W_len_U, W_aug, W_addSI, W_subSI, W_listR1, W_fldX, W_d0, W_pow30]
  refine ⟨⟨by decide, by decide⟩, by decide, ?_⟩
  refine take_W hp (by decide) (by decide) fun r1 S1 a1 b1 f1 => ?_
  obtain ⟨d, ed, md⟩ := at_of (ds := things) a1 (by simpa [things] using b1)
  rw [W_ixL, show atI [D.non, D.int 5, D.bl true, D.str (Str.ofString ""), D.str (Str.ofString "ab"), D.dk [] [], D.dk [Sum.inl 1] [D.int 2], D.int (10 ^ Int.toNat 30), D.str (Str.ofString "()")] r1 = some d from ed]
  obtain ⟨ok1, bad1⟩ := things_ok d md
  simp only
  refine ⟨small62_of (by decide) (by decide), by decide, ?_⟩
  rw [comp_seen rfl (fun i => rfl) ok1 bad1 (.inl rfl)]
  rw [W_ok]
  refine ⟨by decide, ?_⟩
  rw [show [D.str (txtE D.non), D.str (txtE D.non)] = [D.str (Str.ofString "None"), D.str (Str.ofString "None")] from rfl, W_neSame (by decide +kernel) (by decide)]
  simp only [Bool.false_eq_true, if_false]
  refine ⟨by decide, by decide, by decide, by decide, by decide, ?_⟩
  refine W_loop (fun ds ρ S' => ∃ x4 : Option D, S' = S1 ∧ ρ = [some (.obj k), some (.lst (ps.map encP)), some (.lst things), some d, x4, none, none, none, none, none, none] ∧ ∀ x ∈ ds, okD x = true ∧ stopB x = false) ⟨none, rfl, rfl, fun x hx => ?_⟩ ?_ ?_
  · simp only [List.mem_cons, List.not_mem_nil, or_false] at hx
    rcases hx with rfl | rfl | rfl | rfl <;> exact ⟨rfl, rfl⟩
  · rintro x ds ρ S2 ⟨x4, rfl, rfl, hx⟩
    refine ⟨_, rfl, ?_⟩
    obtain ⟨h1, h2⟩ := hx x List.mem_cons_self
    simp only [W_fz, W_ixO, ixN_30, ixN_31, ixN_32, W_seq, W_asg, W_expr, W_ret, W_sif, W_par, W_never, W_nil, W_c, W_e2, W_call, W_anil, W_acons, W_tup, W_lst, W_lstM, W_tV, W_and, W_or, W_not, W_bAnd, W_bOr, W_bNot, W_eif, W_isN, W_notN, W_fn, W_fnK, W_pt, W_for, W_iseq, W_ienum, W_izip, W_comp, W_compG, W_compM, W_kI, W_yes, W_addI, W_addL, W_addT, W_mulI, W_ltI, W_ixL, W_ixT, W_ixS, atI_0, atI_1, atI_2, atI_3, atI_4, W_len_L, W_len_T, W_len_S, W_sum, W_all, W_any, W_min2, W_max2, W_abs, W_intI, W_intB, W_tupT, W_tupL, W_listT, W_listL, W_sl, W_oN, W_oS, W_slT, W_slL, W_slS, W_r1, W_app, W_set, W_gm, W_g0, W_g1, W_isiI, W_isiT, W_isiL, W_e3, Ws_nx, Ws_rt, W_ok, true_and, and_true, if_true, if_false, List.append_nil, frOf_l, frOf_t, frOf_s, kn_t, kn_i, kn_b, kn_l, kn_s, kn_d, isa_tt, isa_ii, isa_ib, isa_ll, isa_lt, isa_tl, W_isiL2, W_isiT2, W_allT, W_sumI, W_allM, W_sumM, cut2, W_ltT2, W_neI, W_eqI, bindP, bindPs, List.map_cons, List.map_nil, decide_eq_true_eq, Bool.false_eq_true, Bool.not_true, Bool.not_false, Bool.and_eq_true, W_var, List.getElem?_cons_zero, List.getElem?_cons_succ, List.set_cons_zero, List.set_cons_succ, rho0, List.length_cons, List.length_nil, List.replicate_succ, List.replicate_zero, List.cons_append, List.nil_append, List.append_eq, Nat.reduceAdd, Nat.reduceSub, wipeD, List.map_cons, List.map_nil, W_slU, W_iseqU, W_zipS, W_gget1, W_dC, W_inT, W_inD, W_ginT, W_upper, W_eqT0, W_len_U, W_aug, W_addSI, W_subSI, W_listR1, W_fldX]
    refine ⟨small62_of (by decide) (by decide), by decide, ?_⟩
    rw [comp_seen (d := .lst [.tup [.int 999, .int 999], x]) (e := .int 1) rfl (fun i => rfl) (by simp [okD, okDs, h1]) (by
      show badF 0 [_, x] = _
      rw [badF, if_pos (by rfl), badF, h2]; rfl) (.inr ⟨1, rfl, by decide⟩)]
    rw [W_ok]
    refine ⟨by decide, ?_⟩
    rw [show txtE (D.int 1) = Str.ofString "1" from by kernel_rfl, W_neSame (by decide +kernel) (by decide)]
    simp only [Bool.false_eq_true, if_false]
    exact ⟨_, trivial, rfl, fun y hy => hx y (List.mem_cons_of_mem _ hy)⟩
  · rintro ρ S2 ⟨x4, rfl, rfl, -⟩
    simp only [List.getElem?_cons_zero, List.getElem?_cons_succ, List.set_cons_succ, List.set_cons_zero]
    refine ⟨by decide, by decide, ?_⟩
    rw [W_addM]
    refine ⟨by simp; unfold line; omega, ?_⟩
    have hj : S2.m.length ≤ S2.next := Nat.le_add_right _ _
    have hk2 := f1.pu.lt
    have hjk : S2.next ≠ k := by omega
    have L0 : (ps.map encP ++ [D.tup [.int 3, .int 4]]) = (ps ++ [(3, 4)]).map encP := by rw [List.map_append]; rfl
    rw [L0]
    have hat0 : (S2.push (.lst ((ps ++ [(3, 4)]).map encP))).m[S2.next]? = some (some (.lst ((ps ++ [(3, 4)]).map encP))) := push_at
    have F3 : Fr S2 (S2.push (.lst ((ps ++ [(3, 4)]).map encP))) k := (Fr.refl f1.pu).push _
    have hgood : ∀ x ∈ (ps ++ [(3, 4)]).map encP, Good x := fun x hx => by
      obtain ⟨p, hp, rfl⟩ := List.mem_map.mp hx
      rcases List.mem_append.mp hp with h | h
      · exact good_enc (hP p h)
      · rw [List.mem_singleton.mp h]; exact good_enc ⟨by decide, by decide, by decide, by decide⟩
    have hlen : ((ps ++ [(3, 4)]).map encP).length ≤ 7 ∧ 1 ≤ ((ps ++ [(3, 4)]).map encP).length := by simp; omega
    generalize (ps ++ [(3, 4)]).map encP = L at hat0 F3 hgood hlen ⊢
    generalize S2.push (.lst L) = S3 at hat0 F3 ⊢
    refine take_W F3.pu (by decide) (by decide) fun r2 S4 a2 b2 f4 => ?_
    rw [W_addI]
    simp only
    refine ⟨small62_of (by omega) (by omega), by rw [rangeD_map]; simp; omega, ?_⟩
    refine W_compI (fun ds acc S' => ∃ spots : List Nat, acc = spots.map encN ∧ (∀ x ∈ spots, x < L.length) ∧ spots.length + ds.length = (1 + r2).toNat ∧ S'.m[S2.next]? = some (some (.lst L)) ∧ Fr S2 S' k)
      ⟨[], rfl, (fun x h => absurd h List.not_mem_nil), by rw [rangeD_map]; simp, f4.keep hat0 hjk, F3.trans f4⟩ ?_ ?_
    · rintro x ds acc S5 ⟨spots, rfl, h1, h2, hat, F5⟩
      refine ⟨_, rfl, ?_⟩
      show W (eFn m_law_take (aCons (eVar 0) (aCons (eCall kLen (aCons (eVar 5) aNil)) aNil)) [] _ S5) _
      simp only [W_fz, W_ixO, ixN_30, ixN_31, ixN_32, W_seq, W_asg, W_expr, W_ret, W_sif, W_par, W_never, W_nil, W_c, W_e2, W_call, W_anil, W_acons, W_tup, W_lst, W_lstM, W_tV, W_and, W_or, W_not, W_bAnd, W_bOr, W_bNot, W_eif, W_isN, W_notN, W_fn, W_fnK, W_pt, W_for, W_iseq, W_ienum, W_izip, W_comp, W_compG, W_compM, W_kI, W_yes, W_addI, W_addL, W_addT, W_mulI, W_ltI, W_ixL, W_ixT, W_ixS, atI_0, atI_1, atI_2, atI_3, atI_4, W_len_L, W_len_T, W_len_S, W_sum, W_all, W_any, W_min2, W_max2, W_abs, W_intI, W_intB, W_tupT, W_tupL, W_listT, W_listL, W_sl, W_oN, W_oS, W_slT, W_slL, W_slS, W_r1, W_app, W_set, W_gm, W_g0, W_g1, W_isiI, W_isiT, W_isiL, W_e3, Ws_nx, Ws_rt, W_ok, true_and, and_true, if_true, if_false, List.append_nil, frOf_l, frOf_t, frOf_s, kn_t, kn_i, kn_b, kn_l, kn_s, kn_d, isa_tt, isa_ii, isa_ib, isa_ll, isa_lt, isa_tl, W_isiL2, W_isiT2, W_allT, W_sumI, W_allM, W_sumM, cut2, W_ltT2, W_neI, W_eqI, bindP, bindPs, List.map_cons, List.map_nil, decide_eq_true_eq, Bool.false_eq_true, Bool.not_true, Bool.not_false, Bool.and_eq_true, W_var, List.getElem?_cons_zero, List.getElem?_cons_succ, List.set_cons_zero, List.set_cons_succ, rho0, List.length_cons, List.length_nil, List.replicate_succ, List.replicate_zero, List.cons_append, List.nil_append, List.append_eq, Nat.reduceAdd, Nat.reduceSub, wipeD, List.map_cons, List.map_nil, W_slU, W_iseqU, W_zipS, W_gget1, W_dC, W_inT, W_inD, W_ginT, W_upper, W_eqT0, W_len_U, W_aug, W_addSI, W_subSI, W_listR1, W_fldX, W_lenO hat]
      refine take_W F5.pu (by omega) (by omega) fun r3 S6 a3 b3 f6 => ?_
      obtain ⟨m, rfl⟩ := Int.eq_ofNat_of_zero_le a3
      refine ⟨spots ++ [m], by rw [List.map_append]; rfl, fun y hy => ?_, by simp at h2 ⊢; omega, f6.keep hat hjk, F5.trans f6⟩
      rcases List.mem_append.mp hy with hy | hy
      · exact h1 y hy
      · rw [List.mem_singleton.mp hy]; omega
    · rintro acc S5 ⟨spots, rfl, h1, h2, hat, F5⟩
      simp only [List.set_cons_succ, List.set_cons_zero, List.getElem?_cons_zero, List.getElem?_cons_succ, frOf_l]
      have hne : spots ≠ [] := fun z => by subst z; simp at h2; omega
      obtain ⟨m, hm, hmin⟩ := least hne
      refine W_loop (fun ds ρ S' => ∃ (done todo : List Nat) (M : List D) (x4 x7 : Option D), spots = done ++ todo ∧ ds = todo.map encN ∧ ρ = [some (.obj k), some (.lst (ps.map encP)), some (.lst things), some d, x4, some (.obj S2.next), some (.lst (spots.map encN)), x7, none, none, none] ∧ M.length = L.length ∧ Spo done M ∧ S'.m[S2.next]? = some (some (.lst M)) ∧ Fr S2 S' k)
        ⟨[], spots, L, _, none, rfl, rfl, rfl, rfl, fun i hi => by rw [if_neg List.not_mem_nil]; exact hgood _ (List.getElem_mem hi), hat, F5⟩ ?_ ?_
      · rintro x ds ρ S6 ⟨done, todo, M, x4, x7, e1, e2, rfl, e3, e4, hat6, F6⟩
        match todo, e2 with
        | [], e2 => cases e2
        | t :: todo, e2 =>
          rw [List.map_cons] at e2
          obtain ⟨rfl, rfl⟩ := List.cons_eq_cons.mp e2
          refine ⟨_, rfl, ?_⟩
          simp only [W_fz, W_ixO, ixN_30, ixN_31, ixN_32, W_seq, W_asg, W_expr, W_ret, W_sif, W_par, W_never, W_nil, W_c, W_e2, W_call, W_anil, W_acons, W_tup, W_lst, W_lstM, W_tV, W_and, W_or, W_not, W_bAnd, W_bOr, W_bNot, W_eif, W_isN, W_notN, W_fn, W_fnK, W_pt, W_for, W_iseq, W_ienum, W_izip, W_comp, W_compG, W_compM, W_kI, W_yes, W_addI, W_addL, W_addT, W_mulI, W_ltI, W_ixL, W_ixT, W_ixS, atI_0, atI_1, atI_2, atI_3, atI_4, W_len_L, W_len_T, W_len_S, W_sum, W_all, W_any, W_min2, W_max2, W_abs, W_intI, W_intB, W_tupT, W_tupL, W_listT, W_listL, W_sl, W_oN, W_oS, W_slT, W_slL, W_slS, W_r1, W_app, W_set, W_gm, W_g0, W_g1, W_isiI, W_isiT, W_isiL, W_e3, Ws_nx, Ws_rt, W_ok, true_and, and_true, if_true, if_false, List.append_nil, frOf_l, frOf_t, frOf_s, kn_t, kn_i, kn_b, kn_l, kn_s, kn_d, isa_tt, isa_ii, isa_ib, isa_ll, isa_lt, isa_tl, W_isiL2, W_isiT2, W_allT, W_sumI, W_allM, W_sumM, cut2, W_ltT2, W_neI, W_eqI, bindP, bindPs, List.map_cons, List.map_nil, decide_eq_true_eq, Bool.false_eq_true, Bool.not_true, Bool.not_false, Bool.and_eq_true, W_var, List.getElem?_cons_zero, List.getElem?_cons_succ, List.set_cons_zero, List.set_cons_succ, rho0, List.length_cons, List.length_nil, List.replicate_succ, List.replicate_zero, List.cons_append, List.nil_append, List.append_eq, Nat.reduceAdd, Nat.reduceSub, wipeD, List.map_cons, List.map_nil, W_slU, W_iseqU, W_zipS, W_gget1, W_dC, W_inT, W_inD, W_ginT, W_upper, W_eqT0, W_len_U, W_aug, W_addSI, W_subSI, W_listR1, W_fldX]
          refine ⟨by decide, ?_⟩
          refine odd_W F6.pu fun o S7 ho f7 => ?_
          have hat7 := f7.keep hat6 hjk
          have ht : t < M.length := by rw [e3]; exact h1 t (by rw [e1]; simp)
          simp only [hat7, encN]
          rw [ixN_nat ht]
          exact ⟨done ++ [t], todo, M.set t o, _, _, by rw [e1]; simp, rfl, rfl, by rw [List.length_set]; exact e3, spo_set e4 ho, put_at hat7, (F6.trans f7).putO hj hk2 _⟩
      · rintro ρ S6 ⟨done, todo, M, x4, x7, e1, e2, rfl, e3, e4, hat6, F6⟩
        have : todo = [] := by cases todo with | nil => rfl | cons a b => cases e2
        subst this
        rw [List.append_nil] at e1
        subst e1
        simp only [W_fz, W_ixO, ixN_30, ixN_31, ixN_32, W_seq, W_asg, W_expr, W_ret, W_sif, W_par, W_never, W_nil, W_c, W_e2, W_call, W_anil, W_acons, W_tup, W_lst, W_lstM, W_tV, W_and, W_or, W_not, W_bAnd, W_bOr, W_bNot, W_eif, W_isN, W_notN, W_fn, W_fnK, W_pt, W_for, W_iseq, W_ienum, W_izip, W_comp, W_compG, W_compM, W_kI, W_yes, W_addI, W_addL, W_addT, W_mulI, W_ltI, W_ixL, W_ixT, W_ixS, atI_0, atI_1, atI_2, atI_3, atI_4, W_len_L, W_len_T, W_len_S, W_sum, W_all, W_any, W_min2, W_max2, W_abs, W_intI, W_intB, W_tupT, W_tupL, W_listT, W_listL, W_sl, W_oN, W_oS, W_slT, W_slL, W_slS, W_r1, W_app, W_set, W_gm, W_g0, W_g1, W_isiI, W_isiT, W_isiL, W_e3, Ws_nx, Ws_rt, W_ok, true_and, and_true, if_true, if_false, List.append_nil, frOf_l, frOf_t, frOf_s, kn_t, kn_i, kn_b, kn_l, kn_s, kn_d, isa_tt, isa_ii, isa_ib, isa_ll, isa_lt, isa_tl, W_isiL2, W_isiT2, W_allT, W_sumI, W_allM, W_sumM, cut2, W_ltT2, W_neI, W_eqI, bindP, bindPs, List.map_cons, List.map_nil, decide_eq_true_eq, Bool.false_eq_true, Bool.not_true, Bool.not_false, Bool.and_eq_true, W_var, List.getElem?_cons_zero, List.getElem?_cons_succ, List.set_cons_zero, List.set_cons_succ, rho0, List.length_cons, List.length_nil, List.replicate_succ, List.replicate_zero, List.cons_append, List.nil_append, List.append_eq, Nat.reduceAdd, Nat.reduceSub, wipeD, List.map_cons, List.map_nil, W_slU, W_iseqU, W_zipS, W_gget1, W_dC, W_inT, W_inD, W_ginT, W_upper, W_eqT0, W_len_U, W_aug, W_addSI, W_subSI, W_listR1, W_fldX]
        have fin : ∀ (o : D) (S7 : Sto), o = .lst M ∨ o = .tup M → Fr S2 S7 k → W (kRepr [o] S7) fun d_4 S_4 =>
              small62 2 = true ∧
                (rangeD 0 (Int.toNat 2)).length ≤ line ∧
                  W
                    (comp (Pt.nm 10) tYesD (eFn m_law_seen (aCons (eVar 5) (aCons (eVar 10) aNil)) [])
                      [some (D.obj k), some (D.lst (List.map encP ps)), some (D.lst things), some d, x4, some o,
                        some (D.lst (List.map encN spots)), x7, some d_4, none, none]
                      (rangeD 0 (Int.toNat 2)) S_4 [])
                    fun ys S_5 =>
                    W (kMinL [D.lst (List.map encN spots)] S_5) fun d S_6 =>
                      W (kStr1 [d] S_6) fun d S_7 =>
                        1 ≤ line ∧
                          W (kMul (D.lst [d]) (D.int 2) S_7) fun y S_8 =>
                            W (kEq (D.lst ys) y S_8) fun d S_9 =>
                              match d with
                              | D.bl b =>
                                if b = true then
                                  W (kRepr [o] S_9) fun x S_10 =>
                                    W (kEq x d_4 S_10) fun d S' => Q d (S'.back S.m.length)
                                else Q (D.bl false) (S_9.back S.m.length)
                              | x => False := fun o S7 ho F7 => by
          have hno : ∀ j, o ≠ .obj j := by rcases ho with rfl | rfl <;> exact fun j z => by cases z
          have hall := spo_ok e4
          have hsh : Shw 100000 6 o := by
            rcases ho with rfl | rfl
            · exact (shw_lst fun x hx => (hall x hx).2).mono (by omega) (by decide)
            · exact (shw_tup fun x hx => (hall x hx).2).mono (by omega) (by decide)
          have hok : okD o = true := by
            rcases ho with rfl | rfl
            · exact ok_lst.mpr fun x hx => (hall x hx).1
            · exact ok_tup.mpr fun x hx => (hall x hx).1
          have hml : m < M.length := by rw [e3]; exact h1 m hm
          have hb : badD o = some (.int (m : Int)) := by
            rcases ho with rfl | rfl <;> exact spo_bad e4 hm hml hmin
          refine W_repr hsh (by decide) (by decide) hno fun x hx => ?_
          refine ⟨small62_of (by decide) (by decide), by decide, ?_⟩
          rw [comp_seen rfl (fun i => rfl) hok hb (.inr ⟨m, rfl, by omega⟩), W_ok, show spots.map encN = (spots.map fun k : Nat => (k : Int)).map .int by rw [List.map_map]; rfl]
          refine minL_W (m := (m : Int)) (List.mem_map.mpr ⟨m, hm, rfl⟩) (fun y hy => ?_) ?_
          · obtain ⟨z, hz, rfl⟩ := List.mem_map.mp hy
            have := hmin z hz; omega
          rw [W_strI (by omega)]
          refine ⟨by decide, ?_⟩
          rw [W_mulL2, W_eqSame ?_ (by simp [dpD, dpDs])]
          · simp only [if_true]
            rw [hx]
            simp only [W_ok]
            rw [W_eqS, decide_eq_true rfl]
            exact q _ ((f1.trans F7).back hlt)
          · have hd : ∀ i : Fin 7, plD (.lst [.str (txtE (.int (i.val : Int))), .str (txtE (.int (i.val : Int)))]) = true := by decide +kernel
            exact hd ⟨m, by omega⟩
        rw [W_tupO hat6]
        refine ⟨by decide, ?_⟩
        refine take_W F6.pu (by decide) (by decide) fun r3 S7 a3 b3 f7 => ?_
        have hat7 := f7.keep hat6 hjk
        obtain ⟨o, eo, mo⟩ := at_of (ds := [D.obj S2.next, D.tup M]) a3 (by simpa using b3)
        rw [W_ixL, eo]
        simp only [List.mem_cons, List.not_mem_nil, or_false] at mo
        rcases mo with rfl | rfl
        · simp only [hat7]
          exact fin _ _ (.inl rfl) ((F6.trans f7).dropO hj hk2)
        · exact fin _ _ (.inr rfl) (F6.trans f7)
end
end K38


namespace K38
open PySem L2 Qd

section
variable {S : Sto} {k : Nat} {Q : D → Sto → Prop}
theorem right_W (hp : Pu S k) (q : ∀ S', Q (.bl true) S') : W (m_law_right [.obj k] S) Q := by
  unfold m_law_right
  rw [W_run]
  unfold b_law_right
  simp only [W_fz, W_ixO, ixN_30, ixN_31, ixN_32, W_seq, W_asg, W_expr, W_ret, W_sif, W_par, W_never, W_nil, W_c, W_e2, W_call, W_anil, W_acons, W_tup, W_lst, W_lstM, W_tV, W_and, W_or, W_not, W_bAnd, W_bOr, W_bNot, W_eif, W_isN, W_notN, W_fn, W_fnK, W_pt, W_for, W_iseq, W_ienum, W_izip, W_comp, W_compG, W_compM, W_kI, W_yes, W_addI, W_addL, W_addT, W_mulI, W_ltI, W_ixL, W_ixT, W_ixS, atI_0, atI_1, atI_2, atI_3, atI_4, W_len_L, W_len_T, W_len_S, W_sum, W_all, W_any, W_min2, W_max2, W_abs, W_intI, W_intB, W_tupT, W_tupL, W_listT, W_listL, W_sl, W_oN, W_oS, W_slT, W_slL, W_slS, W_r1, W_app, W_set, W_gm, W_g0, W_g1, W_isiI, W_isiT, W_isiL, W_e3, Ws_nx, Ws_rt, W_ok, true_and, and_true, if_true, if_false, List.append_nil, frOf_l, frOf_t, frOf_s, kn_t, kn_i, kn_b, kn_l, kn_s, kn_d, isa_tt, isa_ii, isa_ib, isa_ll, isa_lt, isa_tl, W_isiL2, W_isiT2, W_allT, W_sumI, W_allM, W_sumM, cut2, W_ltT2, W_neI, W_eqI, bindP, bindPs, List.map_cons, List.map_nil, decide_eq_true_eq, Bool.false_eq_true, Bool.not_true, Bool.not_false, Bool.and_eq_true, W_var, List.getElem?_cons_zero, List.getElem?_cons_succ, List.set_cons_zero, List.set_cons_succ, rho0, List.length_cons, List.length_nil, List.replicate_succ, List.replicate_zero, List.cons_append, List.nil_append, List.append_eq, Nat.reduceAdd, Nat.reduceSub, wipeD, List.map_cons, List.map_nil, W_slU, W_iseqU, W_zipS, W_gget1, W_dC, W_inT, W_inD, W_ginT, W_upper, W_eqT0, W_len_U, W_aug, W_addSI, W_subSI, W_listR1, W_fldX]
  refine take_W hp (by decide) (by decide) fun r1 S1 a1 b1 f1 => ?_
  refine take_W f1.pu (by decide) (by decide) fun r2 S2 a2 b2 f2 => ?_
  simp only [W_fz, W_ixO, ixN_30, ixN_31, ixN_32, W_seq, W_asg, W_expr, W_ret, W_sif, W_par, W_never, W_nil, W_c, W_e2, W_call, W_anil, W_acons, W_tup, W_lst, W_lstM, W_tV, W_and, W_or, W_not, W_bAnd, W_bOr, W_bNot, W_eif, W_isN, W_notN, W_fn, W_fnK, W_pt, W_for, W_iseq, W_ienum, W_izip, W_comp, W_compG, W_compM, W_kI, W_yes, W_addI, W_addL, W_addT, W_mulI, W_ltI, W_ixL, W_ixT, W_ixS, atI_0, atI_1, atI_2, atI_3, atI_4, W_len_L, W_len_T, W_len_S, W_sum, W_all, W_any, W_min2, W_max2, W_abs, W_intI, W_intB, W_tupT, W_tupL, W_listT, W_listL, W_sl, W_oN, W_oS, W_slT, W_slL, W_slS, W_r1, W_app, W_set, W_gm, W_g0, W_g1, W_isiI, W_isiT, W_isiL, W_e3, Ws_nx, Ws_rt, W_ok, true_and, and_true, if_true, if_false, List.append_nil, frOf_l, frOf_t, frOf_s, kn_t, kn_i, kn_b, kn_l, kn_s, kn_d, isa_tt, isa_ii, isa_ib, isa_ll, isa_lt, isa_tl, W_isiL2, W_isiT2, W_allT, W_sumI, W_allM, W_sumM, cut2, W_ltT2, W_neI, W_eqI, bindP, bindPs, List.map_cons, List.map_nil, decide_eq_true_eq, Bool.false_eq_true, Bool.not_true, Bool.not_false, Bool.and_eq_true, W_var, List.getElem?_cons_zero, List.getElem?_cons_succ, List.set_cons_zero, List.set_cons_succ, rho0, List.length_cons, List.length_nil, List.replicate_succ, List.replicate_zero, List.cons_append, List.nil_append, List.append_eq, Nat.reduceAdd, Nat.reduceSub, wipeD, List.map_cons, List.map_nil, W_slU, W_iseqU, W_zipS, W_gget1, W_dC, W_inT, W_inD, W_ginT, W_upper, W_eqT0, W_len_U, W_aug, W_addSI, W_subSI, W_listR1, W_fldX]
  refine ⟨by decide, take_W f2.pu (by decide) (by decide) fun r3 S3 a3 b3 f3 => ?_⟩
  simp only [W_fz, W_ixO, ixN_30, ixN_31, ixN_32, W_seq, W_asg, W_expr, W_ret, W_sif, W_par, W_never, W_nil, W_c, W_e2, W_call, W_anil, W_acons, W_tup, W_lst, W_lstM, W_tV, W_and, W_or, W_not, W_bAnd, W_bOr, W_bNot, W_eif, W_isN, W_notN, W_fn, W_fnK, W_pt, W_for, W_iseq, W_ienum, W_izip, W_comp, W_compG, W_compM, W_kI, W_yes, W_addI, W_addL, W_addT, W_mulI, W_ltI, W_ixL, W_ixT, W_ixS, atI_0, atI_1, atI_2, atI_3, atI_4, W_len_L, W_len_T, W_len_S, W_sum, W_all, W_any, W_min2, W_max2, W_abs, W_intI, W_intB, W_tupT, W_tupL, W_listT, W_listL, W_sl, W_oN, W_oS, W_slT, W_slL, W_slS, W_r1, W_app, W_set, W_gm, W_g0, W_g1, W_isiI, W_isiT, W_isiL, W_e3, Ws_nx, Ws_rt, W_ok, true_and, and_true, if_true, if_false, List.append_nil, frOf_l, frOf_t, frOf_s, kn_t, kn_i, kn_b, kn_l, kn_s, kn_d, isa_tt, isa_ii, isa_ib, isa_ll, isa_lt, isa_tl, W_isiL2, W_isiT2, W_allT, W_sumI, W_allM, W_sumM, cut2, W_ltT2, W_neI, W_eqI, bindP, bindPs, List.map_cons, List.map_nil, decide_eq_true_eq, Bool.false_eq_true, Bool.not_true, Bool.not_false, Bool.and_eq_true, W_var, List.getElem?_cons_zero, List.getElem?_cons_succ, List.set_cons_zero, List.set_cons_succ, rho0, List.length_cons, List.length_nil, List.replicate_succ, List.replicate_zero, List.cons_append, List.nil_append, List.append_eq, Nat.reduceAdd, Nat.reduceSub, wipeD, List.map_cons, List.map_nil, W_slU, W_iseqU, W_zipS, W_gget1, W_dC, W_inT, W_inD, W_ginT, W_upper, W_eqT0, W_len_U, W_aug, W_addSI, W_subSI, W_listR1, W_fldX]
  have hi : ∃ i : Int, (if r3 = 1 then (1 : Int) else 0) = i ∧ 0 ≤ i ∧ i < 2 := ⟨_, rfl, by split <;> omega, by split <;> omega⟩
  obtain ⟨i, ei, i0, i1⟩ := hi
  rw [ei]
  obtain ⟨m, hmm, em⟩ := pick (f := D.int) (xs := [r1, 6 + r2]) i0 (by simpa using i1)
  have hm : 0 ≤ m ∧ m ≤ 40 := by
    simp only [List.mem_cons, List.not_mem_nil, or_false] at hmm
    rcases hmm with rfl | rfl <;> omega
  rw [show atI [D.int r1, D.int (6 + r2)] i = some (.int m) from em]
  simp only
  refine stops_W f3.pu hm.1 hm.2 fun ps S4 hP hl f4 => ?_
  refine told_W f4.pu hP (by omega) fun S5 f5 => ?_
  have e6 : cutD (ps.map encP) none (some 6) = (ps.take 6).map encP := by
    have := cut_take (f := encP) ps 6
    simpa using this
  simp only [W_fz, W_ixO, ixN_30, ixN_31, ixN_32, W_seq, W_asg, W_expr, W_ret, W_sif, W_par, W_never, W_nil, W_c, W_e2, W_call, W_anil, W_acons, W_tup, W_lst, W_lstM, W_tV, W_and, W_or, W_not, W_bAnd, W_bOr, W_bNot, W_eif, W_isN, W_notN, W_fn, W_fnK, W_pt, W_for, W_iseq, W_ienum, W_izip, W_comp, W_compG, W_compM, W_kI, W_yes, W_addI, W_addL, W_addT, W_mulI, W_ltI, W_ixL, W_ixT, W_ixS, atI_0, atI_1, atI_2, atI_3, atI_4, W_len_L, W_len_T, W_len_S, W_sum, W_all, W_any, W_min2, W_max2, W_abs, W_intI, W_intB, W_tupT, W_tupL, W_listT, W_listL, W_sl, W_oN, W_oS, W_slT, W_slL, W_slS, W_r1, W_app, W_set, W_gm, W_g0, W_g1, W_isiI, W_isiT, W_isiL, W_e3, Ws_nx, Ws_rt, W_ok, true_and, and_true, if_true, if_false, List.append_nil, frOf_l, frOf_t, frOf_s, kn_t, kn_i, kn_b, kn_l, kn_s, kn_d, isa_tt, isa_ii, isa_ib, isa_ll, isa_lt, isa_tl, W_isiL2, W_isiT2, W_allT, W_sumI, W_allM, W_sumM, cut2, W_ltT2, W_neI, W_eqI, bindP, bindPs, List.map_cons, List.map_nil, decide_eq_true_eq, Bool.false_eq_true, Bool.not_true, Bool.not_false, Bool.and_eq_true, W_var, List.getElem?_cons_zero, List.getElem?_cons_succ, List.set_cons_zero, List.set_cons_succ, rho0, List.length_cons, List.length_nil, List.replicate_succ, List.replicate_zero, List.cons_append, List.nil_append, List.append_eq, Nat.reduceAdd, Nat.reduceSub, wipeD, List.map_cons, List.map_nil, W_slU, W_iseqU, W_zipS, W_gget1, W_dC, W_inT, W_inD, W_ginT, W_upper, W_eqT0, W_len_U, W_aug, W_addSI, W_subSI, W_listR1, W_fldX, e6]
  refine refused_W f5.pu (fun p hp => hP p (List.mem_of_mem_take hp)) (by simp; omega) fun S6 f6 => ?_
  simp only [W_fz, W_ixO, ixN_30, ixN_31, ixN_32, W_seq, W_asg, W_expr, W_ret, W_sif, W_par, W_never, W_nil, W_c, W_e2, W_call, W_anil, W_acons, W_tup, W_lst, W_lstM, W_tV, W_and, W_or, W_not, W_bAnd, W_bOr, W_bNot, W_eif, W_isN, W_notN, W_fn, W_fnK, W_pt, W_for, W_iseq, W_ienum, W_izip, W_comp, W_compG, W_compM, W_kI, W_yes, W_addI, W_addL, W_addT, W_mulI, W_ltI, W_ixL, W_ixT, W_ixS, atI_0, atI_1, atI_2, atI_3, atI_4, W_len_L, W_len_T, W_len_S, W_sum, W_all, W_any, W_min2, W_max2, W_abs, W_intI, W_intB, W_tupT, W_tupL, W_listT, W_listL, W_sl, W_oN, W_oS, W_slT, W_slL, W_slS, W_r1, W_app, W_set, W_gm, W_g0, W_g1, W_isiI, W_isiT, W_isiL, W_e3, Ws_nx, Ws_rt, W_ok, true_and, and_true, if_true, if_false, List.append_nil, frOf_l, frOf_t, frOf_s, kn_t, kn_i, kn_b, kn_l, kn_s, kn_d, isa_tt, isa_ii, isa_ib, isa_ll, isa_lt, isa_tl, W_isiL2, W_isiT2, W_allT, W_sumI, W_allM, W_sumM, cut2, W_ltT2, W_neI, W_eqI, bindP, bindPs, List.map_cons, List.map_nil, decide_eq_true_eq, Bool.false_eq_true, Bool.not_true, Bool.not_false, Bool.and_eq_true, W_var, List.getElem?_cons_zero, List.getElem?_cons_succ, List.set_cons_zero, List.set_cons_succ, rho0, List.length_cons, List.length_nil, List.replicate_succ, List.replicate_zero, List.cons_append, List.nil_append, List.append_eq, Nat.reduceAdd, Nat.reduceSub, wipeD, List.map_cons, List.map_nil, W_slU, W_iseqU, W_zipS, W_gget1, W_dC, W_inT, W_inD, W_ginT, W_upper, W_eqT0, W_len_U, W_aug, W_addSI, W_subSI, W_listR1, W_fldX]
  exact told_W f6.pu hP (by omega) fun S7 f7 => q _
theorem cells_W {ns : List Int} (h : ns.length ≤ 63) (q : ∀ vs : List Int, vs.length ≤ 6 → Q (.lst (vs.map .int)) S) : W (m_law_cells [.scr (ns.map .int), .int 3, .int 6] S) Q := by
  unfold m_law_cells
  rw [W_run]
  unfold b_law_cells
  simp only [W_fz, W_ixO, ixN_30, ixN_31, ixN_32, W_seq, W_asg, W_expr, W_ret, W_sif, W_par, W_never, W_nil, W_c, W_e2, W_call, W_anil, W_acons, W_tup, W_lst, W_lstM, W_tV, W_and, W_or, W_not, W_bAnd, W_bOr, W_bNot, W_eif, W_isN, W_notN, W_fn, W_fnK, W_pt, W_for, W_iseq, W_ienum, W_izip, W_comp, W_compG, W_compM, W_kI, W_yes, W_addI, W_addL, W_addT, W_mulI, W_ltI, W_ixL, W_ixT, W_ixS, atI_0, atI_1, atI_2, atI_3, atI_4, W_len_L, W_len_T, W_len_S, W_sum, W_all, W_any, W_min2, W_max2, W_abs, W_intI, W_intB, W_tupT, W_tupL, W_listT, W_listL, W_sl, W_oN, W_oS, W_slT, W_slL, W_slS, W_r1, W_app, W_set, W_gm, W_g0, W_g1, W_isiI, W_isiT, W_isiL, W_e3, Ws_nx, Ws_rt, W_ok, true_and, and_true, if_true, if_false, List.append_nil, frOf_l, frOf_t, frOf_s, kn_t, kn_i, kn_b, kn_l, kn_s, kn_d, isa_tt, isa_ii, isa_ib, isa_ll, isa_lt, isa_tl, W_isiL2, W_isiT2, W_allT, W_sumI, W_allM, W_sumM, cut2, W_ltT2, W_neI, W_eqI, bindP, bindPs, List.map_cons, List.map_nil, decide_eq_true_eq, Bool.false_eq_true, Bool.not_true, Bool.not_false, Bool.and_eq_true, W_var, List.getElem?_cons_zero, List.getElem?_cons_succ, List.set_cons_zero, List.set_cons_succ, rho0, List.length_cons, List.length_nil, List.replicate_succ, List.replicate_zero, List.cons_append, List.nil_append, List.append_eq, Nat.reduceAdd, Nat.reduceSub, wipeD, List.map_cons, List.map_nil, W_slU, W_iseqU, W_zipS, W_gget1, W_dC, W_inT, W_inD, W_ginT, W_upper, W_eqT0, W_len_U, W_aug, W_addSI, W_subSI, W_listR1, W_fldX, List.length_map]
  obtain ⟨c, ec, hc1, hc2⟩ : ∃ c : Int, (if (if (ns.length : Int) < 6 then (ns.length : Int) else 6) > 3 then (if (ns.length : Int) < 6 then (ns.length : Int) else 6) else 3) = c ∧ 3 ≤ c ∧ c ≤ 6 := by
    refine ⟨_, rfl, ?_, ?_⟩ <;> split <;> (try split) <;> omega
  rw [ec]
  refine ⟨small62_of (by omega) (by omega), by unfold rangeD line; simp; omega, W_compI (fun ds acc S' => S' = S ∧ (∀ d ∈ ds, ∃ i : Int, d = .int i ∧ 0 ≤ i ∧ i < 1000) ∧ ∃ vs : List Int, acc = vs.map .int ∧ vs.length + ds.length ≤ 6) ⟨rfl, fun d hd => ?_, [], rfl, ?_⟩ ?_ ?_⟩
  · unfold rangeD at hd
    rw [List.mem_map] at hd
    obtain ⟨i, hi, rfl⟩ := hd
    rw [List.mem_range] at hi
    exact ⟨_, rfl, by omega, by omega⟩
  · rw [rangeD_map]; simp; omega
  · rintro d ds acc S' ⟨rfl, hds, vs, rfl, hl⟩
    obtain ⟨i, rfl, h0, h1⟩ := hds d List.mem_cons_self
    refine ⟨_, rfl, ?_⟩
    show W (eFn m_law_cell (aCons (eVar 0) (aCons (eVar 3) aNil)) [] _ S') _
    simp only [W_fz, W_ixO, ixN_30, ixN_31, ixN_32, W_seq, W_asg, W_expr, W_ret, W_sif, W_par, W_never, W_nil, W_c, W_e2, W_call, W_anil, W_acons, W_tup, W_lst, W_lstM, W_tV, W_and, W_or, W_not, W_bAnd, W_bOr, W_bNot, W_eif, W_isN, W_notN, W_fn, W_fnK, W_pt, W_for, W_iseq, W_ienum, W_izip, W_comp, W_compG, W_compM, W_kI, W_yes, W_addI, W_addL, W_addT, W_mulI, W_ltI, W_ixL, W_ixT, W_ixS, atI_0, atI_1, atI_2, atI_3, atI_4, W_len_L, W_len_T, W_len_S, W_sum, W_all, W_any, W_min2, W_max2, W_abs, W_intI, W_intB, W_tupT, W_tupL, W_listT, W_listL, W_sl, W_oN, W_oS, W_slT, W_slL, W_slS, W_r1, W_app, W_set, W_gm, W_g0, W_g1, W_isiI, W_isiT, W_isiL, W_e3, Ws_nx, Ws_rt, W_ok, true_and, and_true, if_true, if_false, List.append_nil, frOf_l, frOf_t, frOf_s, kn_t, kn_i, kn_b, kn_l, kn_s, kn_d, isa_tt, isa_ii, isa_ib, isa_ll, isa_lt, isa_tl, W_isiL2, W_isiT2, W_allT, W_sumI, W_allM, W_sumM, cut2, W_ltT2, W_neI, W_eqI, bindP, bindPs, List.map_cons, List.map_nil, decide_eq_true_eq, Bool.false_eq_true, Bool.not_true, Bool.not_false, Bool.and_eq_true, W_var, List.getElem?_cons_zero, List.getElem?_cons_succ, List.set_cons_zero, List.set_cons_succ, rho0, List.length_cons, List.length_nil, List.replicate_succ, List.replicate_zero, List.cons_append, List.nil_append, List.append_eq, Nat.reduceAdd, Nat.reduceSub, wipeD, List.map_cons, List.map_nil, W_slU, W_iseqU, W_zipS, W_gget1, W_dC, W_inT, W_inD, W_ginT, W_upper, W_eqT0, W_len_U, W_aug, W_addSI, W_subSI, W_listR1, W_fldX]
    refine cell_W h0 h1 fun v => ⟨rfl, fun d hd => hds d (List.mem_cons_of_mem _ hd), vs ++ [v], by rw [List.map_append]; rfl, by simp at hl ⊢; omega⟩
  · rintro acc S' ⟨rfl, _, vs, rfl, hl⟩
    rw [back_same]
    exact q vs (by simpa using hl)
end
theorem plain (ns : List Int) (h : ns.length ≤ 63) : ∃ S', m_law [.scr (ns.map .int)] ⟨[], 0⟩ = .ok (.bl true) S' := by
  have key : W (m_law [.scr (ns.map .int)] ⟨[], 0⟩) fun d _ => d = .bl true := by
    unfold m_law
    rw [W_run]
    unfold b_law
    simp only [W_fz, W_ixO, ixN_30, ixN_31, ixN_32, W_seq, W_asg, W_expr, W_ret, W_sif, W_par, W_never, W_nil, W_c, W_e2, W_call, W_anil, W_acons, W_tup, W_lst, W_lstM, W_tV, W_and, W_or, W_not, W_bAnd, W_bOr, W_bNot, W_eif, W_isN, W_notN, W_fn, W_fnK, W_pt, W_for, W_iseq, W_ienum, W_izip, W_comp, W_compG, W_compM, W_kI, W_yes, W_addI, W_addL, W_addT, W_mulI, W_ltI, W_ixL, W_ixT, W_ixS, atI_0, atI_1, atI_2, atI_3, atI_4, W_len_L, W_len_T, W_len_S, W_sum, W_all, W_any, W_min2, W_max2, W_abs, W_intI, W_intB, W_tupT, W_tupL, W_listT, W_listL, W_sl, W_oN, W_oS, W_slT, W_slL, W_slS, W_r1, W_app, W_set, W_gm, W_g0, W_g1, W_isiI, W_isiT, W_isiL, W_e3, Ws_nx, Ws_rt, W_ok, true_and, and_true, if_true, if_false, List.append_nil, frOf_l, frOf_t, frOf_s, kn_t, kn_i, kn_b, kn_l, kn_s, kn_d, isa_tt, isa_ii, isa_ib, isa_ll, isa_lt, isa_tl, W_isiL2, W_isiT2, W_allT, W_sumI, W_allM, W_sumM, cut2, W_ltT2, W_neI, W_eqI, bindP, bindPs, List.map_cons, List.map_nil, decide_eq_true_eq, Bool.false_eq_true, Bool.not_true, Bool.not_false, Bool.and_eq_true, W_var, List.getElem?_cons_zero, List.getElem?_cons_succ, List.set_cons_zero, List.set_cons_succ, rho0, List.length_cons, List.length_nil, List.replicate_succ, List.replicate_zero, List.cons_append, List.nil_append, List.append_eq, Nat.reduceAdd, Nat.reduceSub, wipeD, List.map_cons, List.map_nil, W_slU, W_iseqU, W_zipS, W_gget1, W_dC, W_inT, W_inD, W_ginT, W_upper, W_eqT0, W_len_U, W_aug, W_addSI, W_subSI, W_listR1, W_fldX]
    refine cells_W h fun vs hvs => ?_
    simp only [frOf_l]
    refine ⟨by simp; unfold line; omega, W_compI (fun ds acc S' => (∀ d ∈ ds, ∃ i : Int, d = .int i) ∧ ∃ n, acc = (List.replicate n true).map .bl) ⟨fun d hd => ?_, 0, rfl⟩ ?_ ?_⟩
    · obtain ⟨v, _, rfl⟩ := List.mem_map.mp hd
      exact ⟨v, rfl⟩
    · rintro d ds acc S' ⟨hds, n, rfl⟩
      obtain ⟨i, rfl⟩ := hds d List.mem_cons_self
      refine ⟨_, rfl, ?_⟩
      show W (eFn m_law_right (aCons (eFn m_law_purse (aCons (eVar 1) aNil) []) aNil) [] _ S') _
      simp only [W_fz, W_ixO, ixN_30, ixN_31, ixN_32, W_seq, W_asg, W_expr, W_ret, W_sif, W_par, W_never, W_nil, W_c, W_e2, W_call, W_anil, W_acons, W_tup, W_lst, W_lstM, W_tV, W_and, W_or, W_not, W_bAnd, W_bOr, W_bNot, W_eif, W_isN, W_notN, W_fn, W_fnK, W_pt, W_for, W_iseq, W_ienum, W_izip, W_comp, W_compG, W_compM, W_kI, W_yes, W_addI, W_addL, W_addT, W_mulI, W_ltI, W_ixL, W_ixT, W_ixS, atI_0, atI_1, atI_2, atI_3, atI_4, W_len_L, W_len_T, W_len_S, W_sum, W_all, W_any, W_min2, W_max2, W_abs, W_intI, W_intB, W_tupT, W_tupL, W_listT, W_listL, W_sl, W_oN, W_oS, W_slT, W_slL, W_slS, W_r1, W_app, W_set, W_gm, W_g0, W_g1, W_isiI, W_isiT, W_isiL, W_e3, Ws_nx, Ws_rt, W_ok, true_and, and_true, if_true, if_false, List.append_nil, frOf_l, frOf_t, frOf_s, kn_t, kn_i, kn_b, kn_l, kn_s, kn_d, isa_tt, isa_ii, isa_ib, isa_ll, isa_lt, isa_tl, W_isiL2, W_isiT2, W_allT, W_sumI, W_allM, W_sumM, cut2, W_ltT2, W_neI, W_eqI, bindP, bindPs, List.map_cons, List.map_nil, decide_eq_true_eq, Bool.false_eq_true, Bool.not_true, Bool.not_false, Bool.and_eq_true, W_var, List.getElem?_cons_zero, List.getElem?_cons_succ, List.set_cons_zero, List.set_cons_succ, rho0, List.length_cons, List.length_nil, List.replicate_succ, List.replicate_zero, List.cons_append, List.nil_append, List.append_eq, Nat.reduceAdd, Nat.reduceSub, wipeD, List.map_cons, List.map_nil, W_slU, W_iseqU, W_zipS, W_gget1, W_dC, W_inT, W_inD, W_ginT, W_upper, W_eqT0, W_len_U, W_aug, W_addSI, W_subSI, W_listR1, W_fldX]
      refine purse_W fun S1 _ _ hp => right_W hp fun S2 => ⟨fun d hd => hds d (List.mem_cons_of_mem _ hd), n + 1, ?_⟩
      rw [List.replicate_succ', List.map_append]; rfl
    · rintro acc S' ⟨_, n, rfl⟩
      rw [W_all]
      congr 1
      simp
  obtain ⟨d, S', e, rfl⟩ := W_ex key
  exact ⟨S', e⟩
end K38


open PySem L2 Qd
namespace K38
def dd_law_take : He.DefD := ⟨("_law_take", none), "_law_take", "_law_take", defArgs s_law_take, defBody s_law_take, defScope s_law_take, [], []⟩
def dd_law_stops : He.DefD := ⟨("_law_stops", none), "_law_stops", "_law_stops", defArgs s_law_stops, defBody s_law_stops, defScope s_law_stops, [], []⟩
def dd_is_whole : He.DefD := ⟨("is_whole", none), "is_whole", "is_whole", defArgs s_is_whole, defBody s_is_whole, defScope s_is_whole, [], []⟩
def dd_is_within : He.DefD := ⟨("is_within", none), "is_within", "is_within", defArgs s_is_within, defBody s_is_within, defScope s_is_within, [], []⟩
def dd_is_stop : He.DefD := ⟨("is_stop", none), "is_stop", "is_stop", defArgs s_is_stop, defBody s_is_stop, defScope s_is_stop, [], []⟩
def dd_check_stops : He.DefD := ⟨("check_stops", none), "check_stops", "check_stops", defArgs s_check_stops, defBody s_check_stops, defScope s_check_stops, [], []⟩
def dd_need_of : He.DefD := ⟨("need_of", none), "need_of", "need_of", defArgs s_need_of, defBody s_need_of, defScope s_need_of, [], []⟩
def dd_need : He.DefD := ⟨("need", none), "need", "need", defArgs s_need, defBody s_need, defScope s_need, [], []⟩
def dd_law_walked : He.DefD := ⟨("_law_walked", none), "_law_walked", "_law_walked", defArgs s_law_walked, defBody s_law_walked, defScope s_law_walked, [], []⟩
def dd_law_number : He.DefD := ⟨("_law_number", none), "_law_number", "_law_number", defArgs s_law_number, defBody s_law_number, defScope s_law_number, [], []⟩
def dd_law_room_right : He.DefD := ⟨("_law_room_right", none), "_law_room_right", "_law_room_right", defArgs s_law_room_right, defBody s_law_room_right, defScope s_law_room_right, [], []⟩
def dd_least_room : He.DefD := ⟨("least_room", none), "least_room", "least_room", defArgs s_least_room, defBody s_least_room, defScope s_least_room, [], []⟩
def dd_law_orders : He.DefD := ⟨("_law_orders", none), "_law_orders", "_law_orders", defArgs s_law_orders, defBody s_law_orders, defScope s_law_orders, [], []⟩
def dd_law_told_right : He.DefD := ⟨("_law_told_right", none), "_law_told_right", "_law_told_right", defArgs s_law_told_right, defBody s_law_told_right, defScope s_law_told_right, [], []⟩
def dd_law_odd_stop : He.DefD := ⟨("_law_odd_stop", none), "_law_odd_stop", "_law_odd_stop", defArgs s_law_odd_stop, defBody s_law_odd_stop, defScope s_law_odd_stop, [], []⟩
def dd_law_sort : He.DefD := ⟨("_law_sort", none), "_law_sort", "_law_sort", defArgs s_law_sort, defBody s_law_sort, defScope s_law_sort, [], []⟩
def dd_law_seen : He.DefD := ⟨("_law_seen", none), "_law_seen", "_law_seen", defArgs s_law_seen, defBody s_law_seen, defScope s_law_seen, [], []⟩
def dd_law_refused_right : He.DefD := ⟨("_law_refused_right", none), "_law_refused_right", "_law_refused_right", defArgs s_law_refused_right, defBody s_law_refused_right, defScope s_law_refused_right, [], []⟩
def dd_law_right : He.DefD := ⟨("_law_right", none), "_law_right", "_law_right", defArgs s_law_right, defBody s_law_right, defScope s_law_right, [], []⟩
def dd_law_purse : He.DefD := ⟨("_law_purse", none), "_law_purse", "_law_purse", defArgs s_law_purse, defBody s_law_purse, defScope s_law_purse, [], []⟩
def dd_law_cell : He.DefD := ⟨("_law_cell", none), "_law_cell", "_law_cell", defArgs s_law_cell, defBody s_law_cell, defScope s_law_cell, [], []⟩
def dd_law_cells : He.DefD := ⟨("_law_cells", none), "_law_cells", "_law_cells", defArgs s_law_cells, defBody s_law_cells, defScope s_law_cells, [], []⟩
def dd_law : He.DefD := ⟨("law", none), "law", "law", defArgs s_law, defBody s_law, defScope s_law, [], []⟩
def dd_NoRows_i : He.DefD := ⟨("NoRows", some "__init__"), "__init__", "NoRows.__init__", defArgs s_NoRows_i, defBody s_NoRows_i, defScope s_NoRows_i, [], []⟩
def hdFn0 : List He.DefD := [dd_law_take, dd_law_stops, dd_is_whole, dd_is_within, dd_is_stop, dd_check_stops, dd_need_of, dd_need, dd_law_walked, dd_law_number, dd_law_room_right, dd_least_room, dd_law_orders, dd_law_told_right, dd_law_odd_stop, dd_law_sort, dd_law_seen, dd_law_refused_right, dd_law_right, dd_law_purse, dd_law_cell, dd_law_cells, dd_law, dd_NoRows_i]
def hdFn : List He.DefD := hdFn0
def hdFa0 : List He.Fa := [.free "ValueError", .free "abs", .free "all", .free "bool", .free "enumerate", .free "int", .free "isinstance", .free "len", .free "list", .free "max", .free "min", .free "range", .free "repr", .free "sorted", .free "str", .free "sum", .free "tuple", .int "MOST_LOAD" 999, .glo "Empty", .glo "FullError", .glo "LackError", .glo "Lacks", .glo "LacksAt", .glo "LacksOn", .glo "NoAmount", .glo "NoBack", .glo "NoBacks", .glo "NoDay", .glo "NoDealing", .glo "NoDebts"]
def hdFa1 : List He.Fa := [.glo "NoDeed", .glo "NoForm", .glo "NoLoad", .glo "NoMany", .glo "NoName", .glo "NoOuts", .glo "NoPlace", .glo "NoRow", .glo "NoRows", .glo "NoRule", .glo "NoRules", .glo "NoStakes", .glo "NoText", .glo "NotOut", .glo "Short", .glo "StakeError", .glo "Taken", .glo "TooMany", .glo "_law_take", .glo "_law_stops", .glo "is_whole", .glo "is_within", .glo "is_stop", .glo "check_stops", .glo "need_of", .glo "need", .glo "_law_walked", .glo "_law_number", .glo "_law_room_right", .glo "least_room"]
def hdFa2 : List He.Fa := [.glo "_law_orders", .glo "_law_told_right", .glo "_law_odd_stop", .glo "_law_sort", .glo "_law_seen", .glo "_law_refused_right", .glo "_law_right", .glo "_law_purse", .glo "_law_cell", .glo "_law_cells", .glo "law"]
def hdFa : List He.Fa := hdFa0 ++ hdFa1 ++ hdFa2
def hdLoose0 : List Str := ["StakeError", "NoName", "NoDay", "NoAmount", "NoMany", "NoRows", "NoOuts", "NoBacks", "NoStakes", "NoLoad", "NoForm", "NoRule", "NoDealing", "NoDebts", "NoRules", "NoDeed", "NoText", "NoRow", "LackError", "Lacks", "LacksOn", "LacksAt", "NotOut", "Short", "NoPlace", "Empty", "NoBack", "FullError", "Taken", "TooMany"]
def hdLoose1 : List Str := ["is_whole", "is_within", "MOST_LOAD", "is_stop", "check_stops", "need_of", "need", "least_room", "_law_cell", "_law_purse", "_law_take", "_law_number", "_law_cells", "_law_stops", "_law_walked", "_law_orders", "_law_room_right", "_law_told_right", "_law_sort", "_law_seen", "_law_odd_stop", "_law_refused_right", "_law_right"]
def hdLoose : List Str := hdLoose0 ++ hdLoose1
def hdTs : List He.Tab := []
def hdEx (K : PySem.W.Frag) : Bool := true && (xiB K "NoRows" "ValueError.__new__" veT ["number"] && (abB K "StakeError" "ValueError.__init__" && (exTabB K xtab xnms && (isB K ktb xls ils && (fxB K xl_number "number" && (fiB K il_number "number"))))))
abbrev hdR : PySem.W.OpenRow := PySem.W.OpenLaw.row PySem.Challenge.rw_stakecrates_k38_rounds_and_their_room
abbrev hdK : PySem.W.Hook := Qd.hookY 4 hdFa hdFn hdTs hdEx
def hdOb (s : PySem.W.SharedT) : Qd.AlY := Qd.obsY 4 hdFa hdFn hdTs hdEx (HandSHeadRun.getT s)
theorem hdOb_eq (s : PySem.W.SharedT) : hdOb s = hdK.obs s.abs := Qd.obsY_eq (HandSHeadRun.getT_eq s)
theorem hdRunF (w : World) : HandSHeadRun.RunEq hdR (PySem.W.view hdR.prog [57]) hdK hdOb 20000 hdLoose (w.withFollow "special-get-raises" false) := by
  intro os
  kernel_rfl
theorem hdRunT (w : World) : HandSHeadRun.RunEq hdR (PySem.W.view hdR.prog [57]) hdK hdOb 20000 hdLoose (w.withFollow "special-get-raises" true) := by
  intro os
  kernel_rfl
theorem hdRun (w : World) : HandSHeadRun.RunEq hdR (PySem.W.view hdR.prog [57]) hdK hdOb 20000 hdLoose w := PySem.W.byRow2 "special-get-raises" (P := fun w => HandSHeadRun.RunEq hdR (PySem.W.view hdR.prog [57]) hdK hdOb 20000 hdLoose w) hdRunF hdRunT w
theorem ex_x_NoRows {K : PySem.W.Frag} (h : hdEx K = true) : xiB K "NoRows" "ValueError.__new__" veT ["number"] = true := by
  unfold hdEx at h
  simp only [Bool.and_eq_true] at h
  exact h.2.1
theorem ex_ab_StakeError {K : PySem.W.Frag} (h : hdEx K = true) : abB K "StakeError" "ValueError.__init__" = true := by
  unfold hdEx at h
  simp only [Bool.and_eq_true] at h
  exact h.2.2.1
theorem ex_ext {K : PySem.W.Frag} (h : hdEx K = true) : exTabB K xtab xnms = true := by
  unfold hdEx at h
  simp only [Bool.and_eq_true] at h
  exact h.2.2.2.1
theorem ex_is {K : PySem.W.Frag} (h : hdEx K = true) : isB K ktb xls ils = true := by
  unfold hdEx at h
  simp only [Bool.and_eq_true] at h
  exact h.2.2.2.2.1
theorem ex_fx_number {K : PySem.W.Frag} (h : hdEx K = true) : fxB K xl_number "number" = true := by
  unfold hdEx at h
  simp only [Bool.and_eq_true] at h
  exact h.2.2.2.2.2.1
theorem ex_fi_number {K : PySem.W.Frag} (h : hdEx K = true) : fiB K il_number "number" = true := by
  unfold hdEx at h
  simp only [Bool.and_eq_true] at h
  exact h.2.2.2.2.2.2
theorem txt_ok {w : World} {K : PySem.W.Frag} {h : Heap} {mg : Str → Option Value} (X : K.In h) (G : h.Ns mainGlobals mg) (cx : Qd.SaysY hdFa hdFn hdTs hdEx w K) (c : He.SaysD hdFa hdFn K) : Txt w K mg where
  b_ValueError := He.free_ok X G (c.fact 0 (f := .free "ValueError") rfl)
  b_abs := He.free_ok X G (c.fact 1 (f := .free "abs") rfl)
  b_all := He.free_ok X G (c.fact 2 (f := .free "all") rfl)
  b_bool := He.free_ok X G (c.fact 3 (f := .free "bool") rfl)
  b_enumerate := He.free_ok X G (c.fact 4 (f := .free "enumerate") rfl)
  b_int := He.free_ok X G (c.fact 5 (f := .free "int") rfl)
  b_isinstance := He.free_ok X G (c.fact 6 (f := .free "isinstance") rfl)
  b_len := He.free_ok X G (c.fact 7 (f := .free "len") rfl)
  b_list := He.free_ok X G (c.fact 8 (f := .free "list") rfl)
  b_max := He.free_ok X G (c.fact 9 (f := .free "max") rfl)
  b_min := He.free_ok X G (c.fact 10 (f := .free "min") rfl)
  b_range := He.free_ok X G (c.fact 11 (f := .free "range") rfl)
  b_repr := He.free_ok X G (c.fact 12 (f := .free "repr") rfl)
  b_sorted := He.free_ok X G (c.fact 13 (f := .free "sorted") rfl)
  b_str := He.free_ok X G (c.fact 14 (f := .free "str") rfl)
  b_sum := He.free_ok X G (c.fact 15 (f := .free "sum") rfl)
  b_tuple := He.free_ok X G (c.fact 16 (f := .free "tuple") rfl)
  i_MOST_LOAD := He.int_ok X G (c.fact 17 (f := .int "MOST_LOAD" 999) rfl)
  c_Empty := He.glo_ok X G (c.fact 18 (f := .glo "Empty") rfl)
  c_FullError := He.glo_ok X G (c.fact 19 (f := .glo "FullError") rfl)
  c_LackError := He.glo_ok X G (c.fact 20 (f := .glo "LackError") rfl)
  c_Lacks := He.glo_ok X G (c.fact 21 (f := .glo "Lacks") rfl)
  c_LacksAt := He.glo_ok X G (c.fact 22 (f := .glo "LacksAt") rfl)
  c_LacksOn := He.glo_ok X G (c.fact 23 (f := .glo "LacksOn") rfl)
  c_NoAmount := He.glo_ok X G (c.fact 24 (f := .glo "NoAmount") rfl)
  c_NoBack := He.glo_ok X G (c.fact 25 (f := .glo "NoBack") rfl)
  c_NoBacks := He.glo_ok X G (c.fact 26 (f := .glo "NoBacks") rfl)
  c_NoDay := He.glo_ok X G (c.fact 27 (f := .glo "NoDay") rfl)
  c_NoDealing := He.glo_ok X G (c.fact 28 (f := .glo "NoDealing") rfl)
  c_NoDebts := He.glo_ok X G (c.fact 29 (f := .glo "NoDebts") rfl)
  c_NoDeed := He.glo_ok X G (c.fact 30 (f := .glo "NoDeed") rfl)
  c_NoForm := He.glo_ok X G (c.fact 31 (f := .glo "NoForm") rfl)
  c_NoLoad := He.glo_ok X G (c.fact 32 (f := .glo "NoLoad") rfl)
  c_NoMany := He.glo_ok X G (c.fact 33 (f := .glo "NoMany") rfl)
  c_NoName := He.glo_ok X G (c.fact 34 (f := .glo "NoName") rfl)
  c_NoOuts := He.glo_ok X G (c.fact 35 (f := .glo "NoOuts") rfl)
  c_NoPlace := He.glo_ok X G (c.fact 36 (f := .glo "NoPlace") rfl)
  c_NoRow := He.glo_ok X G (c.fact 37 (f := .glo "NoRow") rfl)
  c_NoRows := He.glo_ok X G (c.fact 38 (f := .glo "NoRows") rfl)
  c_NoRule := He.glo_ok X G (c.fact 39 (f := .glo "NoRule") rfl)
  c_NoRules := He.glo_ok X G (c.fact 40 (f := .glo "NoRules") rfl)
  c_NoStakes := He.glo_ok X G (c.fact 41 (f := .glo "NoStakes") rfl)
  c_NoText := He.glo_ok X G (c.fact 42 (f := .glo "NoText") rfl)
  c_NotOut := He.glo_ok X G (c.fact 43 (f := .glo "NotOut") rfl)
  c_Short := He.glo_ok X G (c.fact 44 (f := .glo "Short") rfl)
  c_StakeError := He.glo_ok X G (c.fact 45 (f := .glo "StakeError") rfl)
  c_Taken := He.glo_ok X G (c.fact 46 (f := .glo "Taken") rfl)
  c_TooMany := He.glo_ok X G (c.fact 47 (f := .glo "TooMany") rfl)
  x_NoRows := xiB_ok (ex_x_NoRows cx.more)
  FI_NoRows := c.def_ 23 (d := dd_NoRows_i) rfl
  ab_StakeError := abB_ok (ex_ab_StakeError cx.more)
  ext := exTabB_ok (ex_ext cx.more)
  is := isB_ok (ex_is cx.more)
  fx_number := fxB_ok (ex_fx_number cx.more)
  fi_number := fiB_ok (ex_fi_number cx.more)
  g_law_take := He.glo_ok X G (c.fact 48 (f := .glo "_law_take") rfl)
  F_law_take := c.def_ 0 (d := dd_law_take) rfl
  g_law_stops := He.glo_ok X G (c.fact 49 (f := .glo "_law_stops") rfl)
  F_law_stops := c.def_ 1 (d := dd_law_stops) rfl
  g_is_whole := He.glo_ok X G (c.fact 50 (f := .glo "is_whole") rfl)
  F_is_whole := c.def_ 2 (d := dd_is_whole) rfl
  g_is_within := He.glo_ok X G (c.fact 51 (f := .glo "is_within") rfl)
  F_is_within := c.def_ 3 (d := dd_is_within) rfl
  g_is_stop := He.glo_ok X G (c.fact 52 (f := .glo "is_stop") rfl)
  F_is_stop := c.def_ 4 (d := dd_is_stop) rfl
  g_check_stops := He.glo_ok X G (c.fact 53 (f := .glo "check_stops") rfl)
  F_check_stops := c.def_ 5 (d := dd_check_stops) rfl
  g_need_of := He.glo_ok X G (c.fact 54 (f := .glo "need_of") rfl)
  F_need_of := c.def_ 6 (d := dd_need_of) rfl
  g_need := He.glo_ok X G (c.fact 55 (f := .glo "need") rfl)
  F_need := c.def_ 7 (d := dd_need) rfl
  g_law_walked := He.glo_ok X G (c.fact 56 (f := .glo "_law_walked") rfl)
  F_law_walked := c.def_ 8 (d := dd_law_walked) rfl
  g_law_number := He.glo_ok X G (c.fact 57 (f := .glo "_law_number") rfl)
  F_law_number := c.def_ 9 (d := dd_law_number) rfl
  g_law_room_right := He.glo_ok X G (c.fact 58 (f := .glo "_law_room_right") rfl)
  F_law_room_right := c.def_ 10 (d := dd_law_room_right) rfl
  g_least_room := He.glo_ok X G (c.fact 59 (f := .glo "least_room") rfl)
  F_least_room := c.def_ 11 (d := dd_least_room) rfl
  g_law_orders := He.glo_ok X G (c.fact 60 (f := .glo "_law_orders") rfl)
  F_law_orders := c.def_ 12 (d := dd_law_orders) rfl
  g_law_told_right := He.glo_ok X G (c.fact 61 (f := .glo "_law_told_right") rfl)
  F_law_told_right := c.def_ 13 (d := dd_law_told_right) rfl
  g_law_odd_stop := He.glo_ok X G (c.fact 62 (f := .glo "_law_odd_stop") rfl)
  F_law_odd_stop := c.def_ 14 (d := dd_law_odd_stop) rfl
  g_law_sort := He.glo_ok X G (c.fact 63 (f := .glo "_law_sort") rfl)
  F_law_sort := c.def_ 15 (d := dd_law_sort) rfl
  g_law_seen := He.glo_ok X G (c.fact 64 (f := .glo "_law_seen") rfl)
  F_law_seen := c.def_ 16 (d := dd_law_seen) rfl
  g_law_refused_right := He.glo_ok X G (c.fact 65 (f := .glo "_law_refused_right") rfl)
  F_law_refused_right := c.def_ 17 (d := dd_law_refused_right) rfl
  g_law_right := He.glo_ok X G (c.fact 66 (f := .glo "_law_right") rfl)
  F_law_right := c.def_ 18 (d := dd_law_right) rfl
  g_law_purse := He.glo_ok X G (c.fact 67 (f := .glo "_law_purse") rfl)
  F_law_purse := c.def_ 19 (d := dd_law_purse) rfl
  g_law_cell := He.glo_ok X G (c.fact 68 (f := .glo "_law_cell") rfl)
  F_law_cell := c.def_ 20 (d := dd_law_cell) rfl
  g_law_cells := He.glo_ok X G (c.fact 69 (f := .glo "_law_cells") rfl)
  F_law_cells := c.def_ 21 (d := dd_law_cells) rfl
  g_law := He.glo_ok X G (c.fact 70 (f := .glo "law") rfl)
  F_law := c.def_ 22 (d := dd_law) rfl
theorem sp_start {K : PySem.W.Frag} {H : Hp} {a : Addr} {ns : List Int} {g : FF} (hS : SqL K H a (ns.map V.int)) (h : ∃ S', g [.scr (ns.map .int)] ⟨[], 0⟩ = .ok (.bl true) S') : SpD K 1 g [.ref a] H (fun v _ => v = .bl true) fun _ _ _ => False := by
  obtain ⟨S', e⟩ := h
  have r : ∀ ns : List Int, reps K H ⟨[], fun _ => none⟩ (ns.map D.int) (ns.map V.int) := fun ns => by
    induction ns with
    | nil => exact reps_nil
    | cons n ns ih => exact reps_cons rep_int ih
  refine ⟨rfl, H, ⟨[], fun _ => none⟩, ⟨[], 0⟩, [.scr (ns.map .int)], ⟨fun _ _ h => h, rfl, fun k d h => by simp at h, fun a o h => by simp at h, fun j k a e1 e2 h1 h2 => by simp at h1, fun a o h => by simp at h⟩, reps_cons (by simp only [rep]; exact ⟨a, _, rfl, hS, r ns⟩) reps_nil, ?_⟩
  rw [e]
  intro B' tb' H' v x w r
  simp only [rep] at r
  exact r
end K38
open PySem PySem.W PySem.Calls PyProof.Rows
theorem PySem.Challenge.cw_stakecrates_k38_rounds_and_their_room_holds : PySem.Challenge.rw_stakecrates_k38_rounds_and_their_room.Holds := by
  w_on; o_law
  refine HandSHeadRun.head_any (r := OpenLaw.row PySem.Challenge.rw_stakecrates_k38_rounds_and_their_room) (q := view (OpenLaw.row PySem.Challenge.rw_stakecrates_k38_rounds_and_their_room).prog [57]) (H := K38.hdK) (ob := K38.hdOb) (M := 20000) (loose := K38.hdLoose) (d := HandSHeadRun.topDef (OpenLaw.row PySem.Challenge.rw_stakecrates_k38_rounds_and_their_room).prog 57) (kwd := []) K38.hdOb_eq
    (by kernel_rfl) (fun s => by kernel_rfl) K38.hdRun (by kernel_rfl) (by kernel_rfl) (by kernel_rfl) (by rfl) (by first | assumption | decide +kernel) (by decide +kernel) ⟨rfl, rfl, rfl, rfl, rfl, by decide +kernel⟩ ?hw ?hc
  case hw => w_witness2
  case hc =>
    refine Qd.walk_G (l := PySem.Challenge.rw_stakecrates_k38_rounds_and_their_room) (n := 63) (k := 9) (x := "_law_script") rfl (by decide) (by kernel_rfl) ⟨rfl, by decide, by decide⟩ (by kernel_rfl) ?F
    intro w mg fa h Y G hmg0
    obtain ⟨K, KX, c⟩ := Y
    have hmg : mg ("law" : PySem.Str) = some (.ref fa) := by
      have e : (HandSHeadRun.topDef (OpenLaw.row PySem.Challenge.rw_stakecrates_k38_rounds_and_their_room).prog 57).name = ("law" : PySem.Str) := by kernel_rfl
      rw [← e]
      exact hmg0
    have T := K38.txt_ok (w := w) KX G c c.t.d
    have e := hmg.symm.trans T.g_law
    cases e
    obtain ⟨fd, F⟩ := T.F_law
    have b := L2.FunD.bindsA (ps := ["_law_script"]) F fun _ _ _ _ _ _ us hl => match us, hl with | [_], _ => rfl
    exact ⟨K, fd, Qd.SpD K 1 K38.m_law, KX, fun s v => b s [v] rfl, fun H a ns hl _ hS => K38.sp_start hS (K38.plain ns hl), fun base _ _ sm => K38.ok_law T sm F⟩

