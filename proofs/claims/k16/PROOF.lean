import PyProof.Rows.All
import HandS.ForMost
import HandS.ForExc
import HandS.HeadHook2
import HandS.TupAny
import HandS.IsInst
import HandS.Deep
import HandS.Style
import HandS.Walk
import HandS.Defaults
import KE.SortData
import KE.GoesNew
import HandS.Dict
import HandS.Conv
import HandS.TupLen
import KE.DataCmp
import PySem.Challenge.RW_stakecrates_k16_what_dealings_are
import Wide.All
import OpenK.AllK
import Wide.FinOn
import KE.KStateDown
import Lean
import HandS.Head0
import HandS.Head1
import HandS.Head2
import HandS.HeadEnd
import HandS.HeadHook1
set_option Elab.async false
set_option linter.all false
set_option maxRecDepth 100000
set_option maxHeartbeats 4000000
/-! Qd1: pure values over the hand layer: what they stand for, readings of expressions as functions on them. -/
namespace Qd
open PySem L2

/-- a pure value; obj k: the k-th changing object of the store; glo x: what the module's name x holds -/
inductive D where
  | non | bl (b : Bool) | int (i : Int) | str (x : Str)
  | tup (xs : List D) | lst (xs : List D) | scr (xs : List D)
  | dk (ks : List Key) (vs : List D) | dt (ks : List (List Key)) (vs : List D)
  | ins (C : Str) (ns : List Str) (vs : List D)
  | obj (k : Nat) | glo (x : Str) | ty (n : String)
  deriving Inhabited

/-- where the changing objects lie, and a part of the heap that is left alone -/
structure Tb where
  l : List Addr
  F : Hp
/-- a tuple that stands -/
def TpB (K : PySem.W.Frag) (B : Hp) (a : Addr) (xs : List V) : Prop := B a = some (.tup xs)
mutual
def rep (K : PySem.W.Frag) (B : Hp) (tb : Tb) : D → V → Prop
  | .non, v => v = .non
  | .bl b, v => v = .bl b
  | .int i, v => v = .int i
  | .str x, v => v = .str x
  | .tup ds, v => ∃ a vs, v = .ref a ∧ TpB K B a vs ∧ reps K B tb ds vs
  | .lst ds, v => ∃ a vs, v = .ref a ∧ B a = some (.lst vs) ∧ reps K B tb ds vs
  | .scr ds, v => ∃ a vs, v = .ref a ∧ SqL K B a vs ∧ reps K B tb ds vs
  | .dk ks ds, v => ∃ a vs, v = .ref a ∧ B a = some (.dK (ks.zip vs)) ∧ ks.length = vs.length ∧ reps K B tb ds vs
  | .dt ks ds, v => ∃ a vs, v = .ref a ∧ B a = some (.dT (ks.zip vs)) ∧ ks.length = vs.length ∧ reps K B tb ds vs
  | .ins C ns ds, v => ∃ a dx vs, v = .ref a ∧ B a = some (.ins (He.ga K C) dx (ns.zip vs)) ∧ ns.length = vs.length ∧ reps K B tb ds vs
  | .obj k, v => ∃ a, v = .ref a ∧ tb.l[k]? = some a
  | .glo x, v => v = .ref (He.ga K x)
  | .ty n, v => v = .ty n
def reps (K : PySem.W.Frag) (B : Hp) (tb : Tb) : List D → List V → Prop
  | [], vs => vs = []
  | d :: ds, vs => ∃ v r, vs = v :: r ∧ rep K B tb d v ∧ reps K B tb ds r
end

/-- more is known, nothing known changes -/
structure Ex (B : Hp) (tb : Tb) (B' : Hp) (tb' : Tb) : Prop where
  sub : ∀ a o, B a = some o → B' a = some o
  tab : ∃ r, tb'.l = tb.l ++ r
  fr : tb'.F = tb.F
theorem Ex.refl (B : Hp) (tb : Tb) : Ex B tb B tb := ⟨fun _ _ h => h, ⟨[], by simp⟩, rfl⟩
theorem Ex.trans {B B' B'' : Hp} {tb tb' tb'' : Tb} (a : Ex B tb B' tb') (b : Ex B' tb' B'' tb'') : Ex B tb B'' tb'' := by
  obtain ⟨r, e⟩ := a.tab
  obtain ⟨r', e'⟩ := b.tab
  exact ⟨fun x o h => b.sub x o (a.sub x o h), ⟨r ++ r', by rw [e', e, List.append_assoc]⟩, b.fr.trans a.fr⟩
theorem Ex.at_ {B B' : Hp} {tb tb' : Tb} (e : Ex B tb B' tb') {k : Nat} {a : Addr} (h : tb.l[k]? = some a) : tb'.l[k]? = some a := by
  obtain ⟨r, q⟩ := e.tab
  rw [q, List.getElem?_append_left (List.getElem?_eq_some_iff.mp h).1]; exact h
theorem Rd.ex {B B' : Hp} (s : ∀ a o, B a = some o → B' a = some o) {a : Addr} {u : HO} (h : Rd B a u) : Rd B' a u := by
  rcases h with h | ⟨o, h⟩
  · exact .inl (s _ _ h)
  · exact .inr ⟨o, s _ _ h⟩
theorem SqL.ex {K : PySem.W.Frag} {B B' : Hp} (s : ∀ a o, B a = some o → B' a = some o) {a : Addr} {xs : List V} (h : SqL K B a xs) : SqL K B' a xs := h.imp (Rd.ex s) id
theorem TpB.ex {K : PySem.W.Frag} {B B' : Hp} (s : ∀ a o, B a = some o → B' a = some o) {a : Addr} {xs : List V} (h : TpB K B a xs) : TpB K B' a xs := s _ _ h
theorem SqT.ex {K : PySem.W.Frag} {B B' : Hp} (s : ∀ a o, B a = some o → B' a = some o) {a : Addr} {xs : List V} (h : TpB K B a xs) : SqT K B' a xs := .inl (.inl (s _ _ h))

mutual
theorem rep_mono {K : PySem.W.Frag} {B B' : Hp} {tb tb' : Tb} (s : ∀ a o, B a = some o → B' a = some o) (t : ∀ (k : Nat) (a : Addr), tb.l[k]? = some a → tb'.l[k]? = some a) : ∀ (d : D) (v : V), rep K B tb d v → rep K B' tb' d v
  | .non, v, h => by simpa only [rep] using h
  | .bl b, v, h => by simpa only [rep] using h
  | .int i, v, h => by simpa only [rep] using h
  | .str x, v, h => by simpa only [rep] using h
  | .tup ds, v, h => by
    simp only [rep] at h ⊢
    obtain ⟨a, vs, h1, h2, h3⟩ := h
    exact ⟨a, vs, h1, TpB.ex s h2, reps_mono s t ds vs h3⟩
  | .lst ds, v, h => by
    simp only [rep] at h ⊢
    obtain ⟨a, vs, h1, h2, h3⟩ := h
    exact ⟨a, vs, h1, s _ _ h2, reps_mono s t ds vs h3⟩
  | .scr ds, v, h => by
    simp only [rep] at h ⊢
    obtain ⟨a, vs, h1, h2, h3⟩ := h
    exact ⟨a, vs, h1, SqL.ex s h2, reps_mono s t ds vs h3⟩
  | .dk ks ds, v, h => by
    simp only [rep] at h ⊢
    obtain ⟨a, vs, h1, h2, h4, h3⟩ := h
    exact ⟨a, vs, h1, s _ _ h2, h4, reps_mono s t ds vs h3⟩
  | .dt ks ds, v, h => by
    simp only [rep] at h ⊢
    obtain ⟨a, vs, h1, h2, h4, h3⟩ := h
    exact ⟨a, vs, h1, s _ _ h2, h4, reps_mono s t ds vs h3⟩
  | .ins C ns ds, v, h => by
    simp only [rep] at h ⊢
    obtain ⟨a, dx, vs, h1, h2, h4, h3⟩ := h
    exact ⟨a, dx, vs, h1, s _ _ h2, h4, reps_mono s t ds vs h3⟩
  | .obj k, v, h => by
    simp only [rep] at h ⊢
    obtain ⟨a, h1, h2⟩ := h
    exact ⟨a, h1, t _ _ h2⟩
  | .glo x, v, h => by simpa only [rep] using h
  | .ty n, v, h => by simpa only [rep] using h
theorem reps_mono {K : PySem.W.Frag} {B B' : Hp} {tb tb' : Tb} (s : ∀ a o, B a = some o → B' a = some o) (t : ∀ (k : Nat) (a : Addr), tb.l[k]? = some a → tb'.l[k]? = some a) : ∀ (ds : List D) (vs : List V), reps K B tb ds vs → reps K B' tb' ds vs
  | [], vs, h => by simpa only [reps] using h
  | d :: ds, vs, h => by
    simp only [reps] at h ⊢
    obtain ⟨v, r, h1, h2, h3⟩ := h
    exact ⟨v, r, h1, rep_mono s t d v h2, reps_mono s t ds r h3⟩
end

theorem rep_ex {K : PySem.W.Frag} {B B' : Hp} {tb tb' : Tb} (e : Ex B tb B' tb') (d : D) (v : V) (h : rep K B tb d v) : rep K B' tb' d v := rep_mono e.sub (fun _ _ => e.at_) d v h
theorem reps_ex {K : PySem.W.Frag} {B B' : Hp} {tb tb' : Tb} (e : Ex B tb B' tb') (ds : List D) (vs : List V) (h : reps K B tb ds vs) : reps K B' tb' ds vs := reps_mono e.sub (fun _ _ => e.at_) ds vs h
section
variable {K : PySem.W.Frag} {B : Hp} {tb : Tb}
theorem reps_len : ∀ {ds : List D} {vs : List V}, reps K B tb ds vs → vs.length = ds.length
  | [], vs, h => by simp only [reps] at h; subst h; rfl
  | d :: ds, vs, h => by
    simp only [reps] at h
    obtain ⟨v, r, rfl, _, h3⟩ := h
    simp [reps_len h3]
theorem reps_nil : reps K B tb [] [] := by simp only [reps]
theorem reps_cons {d : D} {ds : List D} {v : V} {vs : List V} (h : rep K B tb d v) (t : reps K B tb ds vs) : reps K B tb (d :: ds) (v :: vs) := by
  simp only [reps]; exact ⟨v, vs, rfl, h, t⟩
theorem reps_append : ∀ {ds es : List D} {vs us : List V}, reps K B tb ds vs → reps K B tb es us → reps K B tb (ds ++ es) (vs ++ us)
  | [], es, vs, us, h, t => by simp only [reps] at h; subst h; exact t
  | d :: ds, es, vs, us, h, t => by
    simp only [reps] at h
    obtain ⟨v, r, rfl, h2, h3⟩ := h
    exact reps_cons h2 (reps_append h3 t)
theorem reps_get : ∀ {ds : List D} {vs : List V} {i : Nat} {d : D}, reps K B tb ds vs → ds[i]? = some d → ∃ v, vs[i]? = some v ∧ rep K B tb d v
  | [], vs, i, d, h, e => by simp at e
  | d :: ds, vs, 0, d', h, e => by
    simp only [reps] at h
    obtain ⟨v, r, rfl, h2, h3⟩ := h
    simp at e; subst e
    exact ⟨v, rfl, h2⟩
  | d :: ds, vs, i + 1, d', h, e => by
    simp only [reps] at h
    obtain ⟨v, r, rfl, h2, h3⟩ := h
    simp at e
    obtain ⟨u, e1, e2⟩ := reps_get h3 e
    exact ⟨u, by simpa using e1, e2⟩
theorem reps_get' : ∀ {ds : List D} {vs : List V} {i : Nat} {v : V}, reps K B tb ds vs → vs[i]? = some v → ∃ d, ds[i]? = some d ∧ rep K B tb d v := fun {ds vs i v} h e => by
  have l := reps_len h
  have hi : i < ds.length := by rw [← l]; exact (List.getElem?_eq_some_iff.mp e).1
  obtain ⟨u, e1, e2⟩ := reps_get (i := i) (d := ds[i]) h (by simp [hi])
  rw [e] at e1; cases e1
  exact ⟨ds[i], by simp [hi], e2⟩
theorem reps_set : ∀ {ds : List D} {vs : List V} (i : Nat) {d : D} {v : V}, reps K B tb ds vs → rep K B tb d v → reps K B tb (ds.set i d) (vs.set i v)
  | [], vs, i, d, v, h, t => by simp only [reps] at h; subst h; simp only [List.set, reps]
  | e :: ds, vs, i, d, v, h, t => by
    simp only [reps] at h
    obtain ⟨u, r, rfl, h2, h3⟩ := h
    cases i with
    | zero => exact reps_cons t h3
    | succ i => exact reps_cons h2 (reps_set i h3 t)
theorem reps_take : ∀ {ds : List D} {vs : List V} (n : Nat), reps K B tb ds vs → reps K B tb (ds.take n) (vs.take n)
  | ds, vs, 0, h => by simp only [List.take_zero, reps]
  | [], vs, n + 1, h => by simp only [reps] at h; subst h; simp only [List.take_nil, reps]
  | d :: ds, vs, n + 1, h => by
    simp only [reps] at h
    obtain ⟨v, r, rfl, h2, h3⟩ := h
    exact reps_cons h2 (reps_take n h3)
theorem reps_drop : ∀ {ds : List D} {vs : List V} (n : Nat), reps K B tb ds vs → reps K B tb (ds.drop n) (vs.drop n)
  | ds, vs, 0, h => h
  | [], vs, n + 1, h => by simp only [reps] at h; subst h; simp only [List.drop_nil, reps]
  | d :: ds, vs, n + 1, h => by
    simp only [reps] at h
    obtain ⟨v, r, rfl, h2, h3⟩ := h
    exact reps_drop n h3
theorem reps_reverse : ∀ {ds : List D} {vs : List V}, reps K B tb ds vs → reps K B tb ds.reverse vs.reverse
  | [], vs, h => by simp only [reps] at h; subst h; simp only [List.reverse_nil, reps]
  | d :: ds, vs, h => by
    simp only [reps] at h
    obtain ⟨v, r, rfl, h2, h3⟩ := h
    rw [List.reverse_cons, List.reverse_cons]
    exact reps_append (reps_reverse h3) (reps_cons h2 reps_nil)
theorem reps_rep {ds : List D} {vs : List V} (h : reps K B tb ds vs) : ∀ k : Nat, reps K B tb (List.replicate k ds).flatten (List.replicate k vs).flatten
  | 0 => reps_nil
  | k + 1 => by
    rw [List.replicate_succ, List.replicate_succ, List.flatten_cons, List.flatten_cons]
    exact reps_append h (reps_rep h k)
theorem reps_map {α : Type} (f : α → D) (g : α → V) : ∀ (l : List α), (∀ x ∈ l, rep K B tb (f x) (g x)) → reps K B tb (l.map f) (l.map g)
  | [], _ => reps_nil
  | x :: l, h => reps_cons (h x List.mem_cons_self) (reps_map f g l fun y hy => h y (List.mem_cons_of_mem _ hy))
end

/-! ### the store -/
/-- the changing objects (none: no more known), and how many were told beyond them -/
structure Sto where
  m : List (Option D)
  g : Nat
def orep (K : PySem.W.Frag) (H B : Hp) (tb : Tb) : D → Addr → Prop
  | .lst ds, a => ∃ vs, H a = some (.lst vs) ∧ reps K B tb ds vs
  | .dk ks ds, a => ∃ vs, H a = some (.dK (ks.zip vs)) ∧ ks.length = vs.length ∧ reps K B tb ds vs
  | .dt ks ds, a => ∃ vs, H a = some (.dT (ks.zip vs)) ∧ ks.length = vs.length ∧ reps K B tb ds vs
  | .ins C ns ds, a => ∃ dx vs, H a = some (.ins (He.ga K C) dx (ns.zip vs)) ∧ ns.length = vs.length ∧ reps K B tb ds vs
  | _, _ => False
theorem orep_ex {K : PySem.W.Frag} {H H' B B' : Hp} {tb tb' : Tb} (e : Ex B tb B' tb') {d : D} {a : Addr} (hH : H' a = H a) (h : orep K H B tb d a) : orep K H' B' tb' d a := by
  cases d with
  | lst ds => obtain ⟨vs, h1, h2⟩ := h; exact ⟨vs, by rw [hH]; exact h1, reps_ex e _ _ h2⟩
  | dk ks ds => obtain ⟨vs, h1, l, h2⟩ := h; exact ⟨vs, by rw [hH]; exact h1, l, reps_ex e _ _ h2⟩
  | dt ks ds => obtain ⟨vs, h1, l, h2⟩ := h; exact ⟨vs, by rw [hH]; exact h1, l, reps_ex e _ _ h2⟩
  | ins C ns ds => obtain ⟨dx, vs, h1, l, h2⟩ := h; exact ⟨dx, vs, by rw [hH]; exact h1, l, reps_ex e _ _ h2⟩
  | _ => exact h
theorem orep_some {K : PySem.W.Frag} {H B : Hp} {tb : Tb} {d : D} {a : Addr} (h : orep K H B tb d a) : ∃ o, H a = some o := by
  cases d with
  | lst ds => obtain ⟨vs, h1, _⟩ := h; exact ⟨_, h1⟩
  | dk ks ds => obtain ⟨vs, h1, _⟩ := h; exact ⟨_, h1⟩
  | dt ks ds => obtain ⟨vs, h1, _⟩ := h; exact ⟨_, h1⟩
  | ins C ns ds => obtain ⟨dx, vs, h1, _⟩ := h; exact ⟨_, h1⟩
  | _ => exact h.elim
theorem orep_tab {K : PySem.W.Frag} {H B : Hp} {tb tb' : Tb} (e : tb'.l = tb.l) {d : D} {a : Addr} (h : orep K H B tb d a) : orep K H B tb' d a := by
  have r : ∀ {ds : List D} {vs : List V}, reps K B tb ds vs → reps K B tb' ds vs := fun h => reps_mono (fun _ _ h => h) (fun k a h => by rw [e]; exact h) _ _ h
  cases d with
  | lst ds => obtain ⟨vs, h1, h2⟩ := h; exact ⟨vs, h1, r h2⟩
  | dk ks ds => obtain ⟨vs, h1, l, h2⟩ := h; exact ⟨vs, h1, l, r h2⟩
  | dt ks ds => obtain ⟨vs, h1, l, h2⟩ := h; exact ⟨vs, h1, l, r h2⟩
  | ins C ns ds => obtain ⟨dx, vs, h1, l, h2⟩ := h; exact ⟨dx, vs, h1, l, r h2⟩
  | _ => exact h
structure Wd (K : PySem.W.Frag) (H B : Hp) (tb : Tb) (S : Sto) : Prop where
  sub : ∀ a o, B a = some o → H a = some o
  len : tb.l.length = S.m.length + S.g
  at_ : ∀ (k : Nat) (d : D), S.m[k]? = some (some d) → ∃ a, tb.l[k]? = some a ∧ B a = none ∧ orep K H B tb d a
  fr : ∀ a o, tb.F a = some o → H a = some o ∧ B a = none ∧ ∀ (k : Nat) (d : D), S.m[k]? = some (some d) → tb.l[k]? ≠ some a
  inj : ∀ (j k : Nat) (a : Addr) (d e : D), S.m[j]? = some (some d) → S.m[k]? = some (some e) → tb.l[j]? = some a → tb.l[k]? = some a → j = k
  fl : ∀ a o, tb.F a = some o → ∃ vs, o = .lst vs
section
variable {K : PySem.W.Frag} {H B : Hp} {tb : Tb} {S : Sto}
/-- one more changing object's place -/
def Tb.add (tb : Tb) (p : Addr) : Tb := ⟨tb.l ++ [p], tb.F⟩
/-- another part left alone -/
def Tb.hold (tb : Tb) (p : Addr) (o : HO) : Tb := ⟨tb.l, upd tb.F p o⟩
theorem Wd.none_of (w : Wd K H B tb S) {p : Addr} (hp : H p = none) : B p = none := by
  cases e : B p with
  | none => rfl
  | some u => rw [w.sub _ _ e] at hp; cases hp
theorem Wd.live (w : Wd K H B tb S) {k : Nat} {d : D} {a : Addr} (hk : S.m[k]? = some (some d)) (ha : tb.l[k]? = some a) : B a = none ∧ orep K H B tb d a ∧ ∃ o, H a = some o := by
  obtain ⟨a', h1, h2, h3⟩ := w.at_ k d hk
  rw [ha] at h1; cases h1
  exact ⟨h2, h3, orep_some h3⟩
/-- a new object that never changes -/
theorem Wd.new (w : Wd K H B tb S) {p : Addr} (hp : H p = none) (o : HO) : Wd K (upd H p o) (upd B p o) tb S ∧ Ex B tb (upd B p o) tb := by
  have hB := w.none_of hp
  have ex : Ex B tb (upd B p o) tb := ⟨fun a u h => by rw [upd_ne (ne_of_none h hB)]; exact h, ⟨[], by simp⟩, rfl⟩
  refine ⟨⟨fun a u h => ?_, w.len, fun k d h => ?_, fun a u h => ?_, w.inj, w.fl⟩, ex⟩
  · by_cases e : a = p
    · subst e; rw [upd_same] at h ⊢; exact h
    · rw [upd_ne e] at h ⊢; exact w.sub _ _ h
  · obtain ⟨a, h1, h2, h3⟩ := w.at_ k d h
    obtain ⟨u, hu⟩ := orep_some h3
    have ne : a ≠ p := ne_of_none hu hp
    exact ⟨a, h1, by rw [upd_ne ne]; exact h2, orep_ex ex (upd_ne ne) h3⟩
  · obtain ⟨h1, h2, h3⟩ := w.fr a u h
    have ne : a ≠ p := ne_of_none h1 hp
    exact ⟨by rw [upd_ne ne]; exact h1, by rw [upd_ne ne]; exact h2, h3⟩
/-- the heap grows beside -/
theorem Wd.more (w : Wd K H B tb S) {p : Addr} (hp : H p = none) (o : HO) : Wd K (upd H p o) B tb S := by
  refine ⟨fun a u h => ?_, w.len, fun k d h => ?_, fun a u h => ?_, w.inj, w.fl⟩
  · rw [upd_ne (ne_of_none (w.sub _ _ h) hp)]; exact w.sub _ _ h
  · obtain ⟨a, h1, h2, h3⟩ := w.at_ k d h
    obtain ⟨u, hu⟩ := orep_some h3
    exact ⟨a, h1, h2, orep_ex (Ex.refl _ _) (upd_ne (ne_of_none hu hp)) h3⟩
  · obtain ⟨h1, h2, h3⟩ := w.fr a u h
    exact ⟨by rw [upd_ne (ne_of_none h1 hp)]; exact h1, h2, h3⟩
/-- the next object's number; a new changing object -/
def Sto.next (S : Sto) : Nat := S.m.length + S.g
def Sto.push (S : Sto) (d : D) : Sto := ⟨S.m ++ List.replicate S.g none ++ [some d], 0⟩
theorem push_get {S : Sto} {d : D} {k : Nat} {e : D} (h : (S.push d).m[k]? = some (some e)) : S.m[k]? = some (some e) ∨ (k = S.next ∧ e = d) := by
  unfold Sto.push at h
  simp only [List.append_assoc] at h
  by_cases h1 : k < S.m.length
  · rw [List.getElem?_append_left h1] at h; exact .inl h
  · rw [List.getElem?_append_right (by omega)] at h
    by_cases h2 : k - S.m.length < S.g
    · rw [List.getElem?_append_left (by simpa using h2), List.getElem?_replicate_of_lt h2] at h; cases h
    · rw [List.getElem?_append_right (by simp; omega)] at h
      simp only [List.length_replicate] at h
      have h3 : k - S.m.length - S.g = 0 := by
        cases q : k - S.m.length - S.g with
        | zero => rfl
        | succ n => rw [q] at h; simp at h
      rw [h3] at h
      simp at h
      exact .inr ⟨by unfold Sto.next; omega, h.symm⟩
theorem Wd.push (w : Wd K H B tb S) {p : Addr} (hp : H p = none) {o : HO} {d : D} (h : orep K (upd H p o) B (tb.add p) d p) : Wd K (upd H p o) B (tb.add p) (S.push d) ∧ Ex B tb B (tb.add p) ∧ (tb.add p).l[S.next]? = some p := by
  have ex : Ex B tb B (tb.add p) := ⟨fun _ _ h => h, ⟨[p], rfl⟩, rfl⟩
  have hB := w.none_of hp
  have hn : (tb.add p).l[S.next]? = some p := by
    unfold Sto.next Tb.add
    rw [← w.len]
    simp
  have old : ∀ {i : Nat} {e : D} {b : Addr}, S.m[i]? = some (some e) → (tb.add p).l[i]? = some b → tb.l[i]? = some b ∧ b ≠ p := fun {i e b} q r => by
    obtain ⟨b', q1, _, q3⟩ := w.at_ i e q
    have q4 := ex.at_ q1
    rw [q4] at r; cases r
    obtain ⟨u, hu⟩ := orep_some q3
    exact ⟨q1, ne_of_none hu hp⟩
  refine ⟨⟨fun a u h => ?_, ?_, fun k e h' => ?_, fun a u h' => ?_, fun j k a e1 e2 h1 h2 h3 h4 => ?_, w.fl⟩, ex, hn⟩
  · rw [upd_ne (ne_of_none (w.sub _ _ h) hp)]; exact w.sub _ _ h
  · unfold Sto.push Tb.add; simp [w.len]; omega
  · rcases push_get h' with h' | ⟨rfl, rfl⟩
    · obtain ⟨a, h1, h2, h3⟩ := w.at_ k e h'
      obtain ⟨u, hu⟩ := orep_some h3
      exact ⟨a, ex.at_ h1, h2, orep_ex ex (upd_ne (ne_of_none hu hp)) h3⟩
    · exact ⟨p, hn, hB, h⟩
  · obtain ⟨h1, h2, h3⟩ := w.fr a u h'
    have ne : a ≠ p := ne_of_none h1 hp
    refine ⟨by rw [upd_ne ne]; exact h1, h2, fun k e hk ha => ?_⟩
    rcases push_get hk with hk | ⟨rfl, rfl⟩
    · exact h3 k e hk (old hk ha).1
    · rw [hn] at ha; cases ha; exact ne rfl
  · rcases push_get h1 with q1 | ⟨rfl, rfl⟩
    · rcases push_get h2 with q2 | ⟨rfl, rfl⟩
      · exact w.inj _ _ _ _ _ q1 q2 (old q1 h3).1 (old q2 h4).1
      · rw [hn] at h4; cases h4; exact absurd rfl (old q1 h3).2
    · rcases push_get h2 with q2 | ⟨rfl, rfl⟩
      · rw [hn] at h3; cases h3; exact absurd rfl (old q2 h4).2
      · rfl
/-- an object changes -/
def Sto.put (S : Sto) (k : Nat) (d : D) : Sto := ⟨S.m.set k (some d), S.g⟩
theorem put_get {S : Sto} {k i : Nat} {d d' e : D} (hk : S.m[k]? = some (some d)) (q : (S.put k d').m[i]? = some (some e)) : (i = k ∧ e = d') ∨ (i ≠ k ∧ S.m[i]? = some (some e)) := by
  unfold Sto.put at q
  by_cases hi : i = k
  · subst hi
    have hl : i < S.m.length := (List.getElem?_eq_some_iff.mp hk).1
    simp only [List.getElem?_set_self hl, Option.some.injEq] at q
    exact .inl ⟨rfl, q.symm⟩
  · simp only [List.getElem?_set_ne (Ne.symm hi)] at q
    exact .inr ⟨hi, q⟩
theorem Wd.put (w : Wd K H B tb S) {k : Nat} {d d' : D} {a : Addr} (hk : S.m[k]? = some (some d)) (ha : tb.l[k]? = some a) {o : HO} (h : orep K (upd H a o) B tb d' a) : Wd K (upd H a o) B tb (S.put k d') := by
  obtain ⟨h2, h3, _⟩ := w.live hk ha
  have some_of : ∀ {i : Nat} {e : D}, (S.put k d').m[i]? = some (some e) → ∃ e', S.m[i]? = some (some e') := fun {i e} q => by
    rcases put_get hk q with ⟨rfl, _⟩ | ⟨_, q⟩
    · exact ⟨d, hk⟩
    · exact ⟨e, q⟩
  refine ⟨fun b u q => ?_, by unfold Sto.put; simpa using w.len, fun j e q => ?_, fun b u q => ?_, fun i j b e1 e2 q1 q2 q3 q4 => ?_, w.fl⟩
  · rw [upd_ne (ne_of_none q h2)]; exact w.sub _ _ q
  · rcases put_get hk q with ⟨rfl, rfl⟩ | ⟨hj, q⟩
    · exact ⟨a, ha, h2, h⟩
    · obtain ⟨b, r1, r2, r3⟩ := w.at_ j e q
      have ne : b ≠ a := fun z => hj (w.inj _ _ _ _ _ q hk (z ▸ r1) ha)
      exact ⟨b, r1, r2, orep_ex (Ex.refl _ _) (upd_ne ne) r3⟩
  · obtain ⟨r1, r2, r3⟩ := w.fr b u q
    have ne : b ≠ a := fun z => r3 k d hk (z ▸ ha)
    refine ⟨by rw [upd_ne ne]; exact r1, r2, fun j e hj hb => ?_⟩
    obtain ⟨e', he'⟩ := some_of hj
    exact r3 j e' he' hb
  · obtain ⟨f1, r1⟩ := some_of q1
    obtain ⟨f2, r2⟩ := some_of q2
    exact w.inj _ _ _ _ _ r1 r2 q3 q4
/-- an object is told to change no more -/
def Sto.drop (S : Sto) (k : Nat) : Sto := ⟨S.m.set k none, S.g⟩
theorem drop_get {S : Sto} {k j : Nat} {e : D} (h : (S.drop k).m[j]? = some (some e)) : j ≠ k ∧ S.m[j]? = some (some e) := by
  unfold Sto.drop at h
  by_cases hj : j = k
  · subst hj
    by_cases hl : j < S.m.length
    · simp [List.getElem?_set_self hl] at h
    · rw [List.getElem?_eq_none (by simpa using hl)] at h; cases h
  · simp only [List.getElem?_set_ne (Ne.symm hj)] at h
    exact ⟨hj, h⟩
theorem Wd.drop (w : Wd K H B tb S) {k : Nat} {d : D} {a : Addr} {o : HO} (hk : S.m[k]? = some (some d)) (ha : tb.l[k]? = some a) (ho : H a = some o) : Wd K H (upd B a o) tb (S.drop k) ∧ Ex B tb (upd B a o) tb := by
  obtain ⟨h2, h3, _⟩ := w.live hk ha
  have ex : Ex B tb (upd B a o) tb := ⟨fun b u h => by rw [upd_ne (ne_of_none h h2)]; exact h, ⟨[], by simp⟩, rfl⟩
  refine ⟨⟨fun b u q => ?_, by unfold Sto.drop; simpa using w.len, fun j e q => ?_, fun b u q => ?_, fun i j b e1 e2 q1 q2 q3 q4 => w.inj _ _ _ _ _ (drop_get q1).2 (drop_get q2).2 q3 q4, w.fl⟩, ex⟩
  · by_cases e : b = a
    · subst e; rw [upd_same] at q; cases q; exact ho
    · rw [upd_ne e] at q; exact w.sub _ _ q
  · obtain ⟨hj, q⟩ := drop_get q
    obtain ⟨b, r1, r2, r3⟩ := w.at_ j e q
    have ne : b ≠ a := fun z => hj (w.inj _ _ _ _ _ q hk (z ▸ r1) ha)
    exact ⟨b, r1, by rw [upd_ne ne]; exact r2, orep_ex ex rfl r3⟩
  · obtain ⟨r1, r2, r3⟩ := w.fr b u q
    have ne : b ≠ a := fun z => r3 k d hk (z ▸ ha)
    exact ⟨r1, by rw [upd_ne ne]; exact r2, fun j e hj => r3 j e (drop_get hj).2⟩
/-- behind a call: what was made since is forgotten -/
def Sto.back (S : Sto) (n : Nat) : Sto := ⟨S.m.take n, S.m.length + S.g - (S.m.take n).length⟩
theorem Wd.back (w : Wd K H B tb S) (n : Nat) : Wd K H B tb (S.back n) := by
  have g : ∀ {j : Nat} {e : D}, (S.back n).m[j]? = some (some e) → S.m[j]? = some (some e) := fun {j e} q => by
    unfold Sto.back at q
    rw [List.getElem?_take] at q
    split at q
    · exact q
    · cases q
  refine ⟨w.sub, ?_, fun j e q => w.at_ j e (g q), fun a o h => ?_, fun i j b e1 e2 q1 q2 => w.inj _ _ _ _ _ (g q1) (g q2), w.fl⟩
  · unfold Sto.back
    rw [w.len]
    simp only [List.length_take]
    omega
  · obtain ⟨h1, h2, h3⟩ := w.fr a o h
    exact ⟨h1, h2, fun k d hk => h3 k d (g hk)⟩
/-- an object beside is held: nothing touches it -/
theorem Wd.hold (w : Wd K H B tb S) {p : Addr} {xs : List V} (hp : H p = some (.lst xs)) (hB : B p = none) (hl : ∀ (k : Nat) (d : D), S.m[k]? = some (some d) → tb.l[k]? ≠ some p) : Wd K H B (tb.hold p (.lst xs)) S := by
  refine ⟨w.sub, w.len, fun k d h => ?_, fun a u h => ?_, w.inj, fun a u h => ?_⟩
  · obtain ⟨a, h1, h2, h3⟩ := w.at_ k d h
    exact ⟨a, h1, h2, orep_tab (tb := tb) (tb' := tb.hold p (.lst xs)) (show (tb.hold p (.lst xs)).l = tb.l from rfl) h3⟩
  · by_cases e : a = p
    · subst e
      have h' : upd tb.F a (.lst xs) a = some u := h
      rw [upd_same] at h'; cases h'
      exact ⟨hp, hB, hl⟩
    · have h' : upd tb.F p (.lst xs) a = some u := h
      rw [upd_ne e] at h'
      exact w.fr a u h'
  · by_cases e : a = p
    · subst e
      have h' : upd tb.F a (.lst xs) a = some u := h
      rw [upd_same] at h'; cases h'
      exact ⟨_, rfl⟩
    · have h' : upd tb.F p (.lst xs) a = some u := h
      rw [upd_ne e] at h'
      exact w.fl a u h'
theorem orep_notTup {d : D} {a : Addr} {xs : List V} (h : orep K H B tb d a) (e : H a = some (.tup xs)) : False := by
  cases d with
  | lst ds => obtain ⟨vs, h1, _⟩ := h; rw [e] at h1; cases h1
  | dk ks ds => obtain ⟨vs, h1, _⟩ := h; rw [e] at h1; cases h1
  | dt ks ds => obtain ⟨vs, h1, _⟩ := h; rw [e] at h1; cases h1
  | ins C ns ds => obtain ⟨dx, vs, h1, _⟩ := h; rw [e] at h1; cases h1
  | _ => exact h.elim
/-- a tuple that stands in the heap may be told of -/
theorem Wd.adopt (w : Wd K H B tb S) {p : Addr} {xs : List V} (hp : H p = some (.tup xs)) : ∃ B', Ex B tb B' tb ∧ Wd K H B' tb S ∧ B' p = some (.tup xs) := by
  have ex : Ex B tb (upd B p (.tup xs)) tb := ⟨fun a u h => by
    by_cases e : a = p
    · subst e
      have := w.sub _ _ h
      rw [hp] at this; rw [upd_same]; exact this
    · rw [upd_ne e]; exact h, ⟨[], by simp⟩, rfl⟩
  refine ⟨_, ex, ⟨fun a u h => ?_, w.len, fun k d h => ?_, fun a u h => ?_, w.inj, w.fl⟩, upd_same⟩
  · by_cases e : a = p
    · subst e; rw [upd_same] at h; cases h; exact hp
    · rw [upd_ne e] at h; exact w.sub _ _ h
  · obtain ⟨a, h1, h2, h3⟩ := w.at_ k d h
    have ne : a ≠ p := fun z => orep_notTup h3 (by rw [z]; exact hp)
    exact ⟨a, h1, by rw [upd_ne ne]; exact h2, orep_ex ex rfl h3⟩
  · obtain ⟨h1, h2, h3⟩ := w.fr a u h
    have ne : a ≠ p := fun z => by
      obtain ⟨vs, rfl⟩ := w.fl a u h
      rw [z, hp] at h1; cases h1
    exact ⟨h1, by rw [upd_ne ne]; exact h2, h3⟩
end
theorem rep_tab {K : PySem.W.Frag} {B : Hp} {tb tb' : Tb} (e : tb'.l = tb.l) {d : D} {v : V} (h : rep K B tb d v) : rep K B tb' d v := rep_mono (fun _ _ h => h) (fun k a h => by rw [e]; exact h) d v h
theorem reps_tab {K : PySem.W.Frag} {B : Hp} {tb tb' : Tb} (e : tb'.l = tb.l) {d : List D} {v : List V} (h : reps K B tb d v) : reps K B tb' d v := reps_mono (fun _ _ h => h) (fun k a h => by rw [e]; exact h) d v h
end Qd

namespace Qd
open PySem L2

/-! ### results -/
inductive R (α : Type) where
  | ok (a : α) (S : Sto)
  | er (C : Str) (ns : List Str) (vs : List D) (S : Sto)
  | no
def R.bind {α β : Type} (r : R α) (k : α → Sto → R β) : R β := match r with
  | .ok a S => k a S
  | .er C ns vs S => .er C ns vs S
  | .no => .no
abbrev Rho := List (Option D)
abbrev FE := Rho → Sto → R D
abbrev FT := Rho → Sto → R Bool
abbrev FA := Rho → Sto → R (List D)
@[simp] theorem bind_ok {α β : Type} (a : α) (S : Sto) (k : α → Sto → R β) : (R.ok a S).bind k = k a S := rfl
@[simp] theorem bind_er {α β : Type} (C : Str) (ns : List Str) (vs : List D) (S : Sto) (k : α → Sto → R β) : (R.er C ns vs S : R α).bind k = .er C ns vs S := rfl
@[simp] theorem bind_no {α β : Type} (k : α → Sto → R β) : (R.no : R α).bind k = .no := rfl
theorem bind_assoc {α β γ : Type} (r : R α) (f : α → Sto → R β) (g : β → Sto → R γ) : (r.bind f).bind g = r.bind fun a S => (f a S).bind g := by cases r <;> rfl

def repE (K : PySem.W.Frag) (B : Hp) (tb : Tb) (ρ : Rho) (σ : St) : Prop :=
  ρ.length = σ.length ∧ ∀ (i : Nat) (d : D), ρ[i]? = some (some d) → ∃ v, σ[i]? = some (some v) ∧ rep K B tb d v
theorem repE.ex {K : PySem.W.Frag} {B B' : Hp} {tb tb' : Tb} (e : Ex B tb B' tb') {ρ : Rho} {σ : St} (h : repE K B tb ρ σ) : repE K B' tb' ρ σ :=
  ⟨h.1, fun i d hi => let ⟨v, h1, h2⟩ := h.2 i d hi; ⟨v, h1, rep_ex e d v h2⟩⟩
theorem repE.set {K : PySem.W.Frag} {B : Hp} {tb : Tb} {ρ : Rho} {σ : St} (h : repE K B tb ρ σ) (i : Nat) {d : D} {v : V} (r : rep K B tb d v) : repE K B tb (ρ.set i (some d)) (σ.set i (some v)) := by
  refine ⟨by simpa using h.1, fun j e hj => ?_⟩
  by_cases q : j = i
  · subst q
    by_cases hl : j < ρ.length
    · rw [List.getElem?_set_self hl] at hj; cases hj
      exact ⟨v, by rw [List.getElem?_set_self (by rw [← h.1]; exact hl)], r⟩
    · rw [List.getElem?_eq_none (by simpa using hl)] at hj; cases hj
  · rw [List.getElem?_set_ne (Ne.symm q)] at hj
    obtain ⟨u, h1, h2⟩ := h.2 j e hj
    exact ⟨u, by rw [List.getElem?_set_ne (Ne.symm q)]; exact h1, h2⟩
theorem repE.forget {K : PySem.W.Frag} {B : Hp} {tb : Tb} {ρ : Rho} {σ : St} (h : repE K B tb ρ σ) (i : Nat) (o : Option V) : repE K B tb (ρ.set i none) (σ.set i o) := by
  refine ⟨by simpa using h.1, fun j e hj => ?_⟩
  by_cases q : j = i
  · subst q
    by_cases hl : j < ρ.length
    · rw [List.getElem?_set_self hl] at hj; cases hj
    · rw [List.getElem?_eq_none (by simpa using hl)] at hj; cases hj
  · rw [List.getElem?_set_ne (Ne.symm q)] at hj
    obtain ⟨u, h1, h2⟩ := h.2 j e hj
    exact ⟨u, by rw [List.getElem?_set_ne (Ne.symm q)]; exact h1, h2⟩

/-- what is wanted behind a result -/
def Post (K : PySem.W.Frag) (B : Hp) (tb : Tb) {α : Type} (W : WX) (σ : St) (r : R α) (k : α → Sto → Hp → Tb → Hp → Prop) : Prop := match r with
  | .ok a S => ∀ B' tb' H', Ex B tb B' tb' → Wd K H' B' tb' S → k a S B' tb' H'
  | .er C ns vs S => ∀ B' tb' H', Ex B tb B' tb' → Wd K H' B' tb' S → (ns = [] → W (.ref (He.ga K C)) none σ H') ∧
      ∀ dd xs, H' dd = some (.xd (ns.zip xs)) → ns.length = xs.length → reps K B' tb' vs xs → W (.ref (He.ga K C)) (some dd) σ H'
  | .no => False
section
variable {K : PySem.W.Frag} {B B' : Hp} {tb tb' : Tb} {W : WX} {σ : St}
theorem Post.mono {α : Type} {r : R α} {k : α → Sto → Hp → Tb → Hp → Prop} (e : Ex B tb B' tb') (h : Post K B tb W σ r k) : Post K B' tb' W σ r k := by
  cases r with
  | ok a S => exact fun B2 tb2 H2 e2 w2 => h B2 tb2 H2 (e.trans e2) w2
  | er C ns vs S => exact fun B2 tb2 H2 e2 w2 => h B2 tb2 H2 (e.trans e2) w2
  | no => exact h
theorem Post.ok {α : Type} {a : α} {S : Sto} {k : α → Sto → Hp → Tb → Hp → Prop} {H : Hp} (h : Post K B tb W σ (.ok a S) k) (w : Wd K H B tb S) : k a S B tb H := h B tb H (Ex.refl _ _) w
end
def LE (K : PySem.W.Frag) (W : WX) (f : FE) : TE := fun σ H Q => ∃ B tb ρ S, Wd K H B tb S ∧ repE K B tb ρ σ ∧ Post K B tb W σ (f ρ S) fun d _ B' tb' H' => ∀ v, rep K B' tb' d v → Q v H'
def LT (K : PySem.W.Frag) (W : WX) (f : FT) : TT := fun σ H Q => ∃ B tb ρ S, Wd K H B tb S ∧ repE K B tb ρ σ ∧ Post K B tb W σ (f ρ S) fun b _ B' tb' H' => Q b H'
def LA (K : PySem.W.Frag) (W : WX) (f : FA) : TA := fun σ H Q => ∃ B tb ρ S, Wd K H B tb S ∧ repE K B tb ρ σ ∧ Post K B tb W σ (f ρ S) fun ds _ B' tb' H' => ∀ vs, reps K B' tb' ds vs → Q vs H'
section
variable {K : PySem.W.Frag} {H B : Hp} {tb : Tb} {W : WX} {σ : St} {ρ : Rho} {S : Sto}
/-- the first part of a reading -/
theorem LE.step {β : Type} {f : FE} {g : D → Sto → R β} {k : β → Sto → Hp → Tb → Hp → Prop} (w : Wd K H B tb S) (e : repE K B tb ρ σ) (h : Post K B tb W σ ((f ρ S).bind g) k) {Q : V → Hp → Prop}
    (hq : ∀ d S1 B1 tb1 H1 v, Ex B tb B1 tb1 → Wd K H1 B1 tb1 S1 → repE K B1 tb1 ρ σ → rep K B1 tb1 d v → Post K B1 tb1 W σ (g d S1) k → Q v H1) : LE K W f σ H Q := by
  refine ⟨B, tb, ρ, S, w, e, ?_⟩
  cases q : f ρ S with
  | ok d S1 => rw [q] at h; exact fun B1 tb1 H1 e1 w1 v r => hq d S1 B1 tb1 H1 v e1 w1 (e.ex e1) r (h.mono e1)
  | er C ns vs S1 => rw [q] at h; exact h
  | no => rw [q] at h; exact h
theorem LT.step {β : Type} {f : FT} {g : Bool → Sto → R β} {k : β → Sto → Hp → Tb → Hp → Prop} (w : Wd K H B tb S) (e : repE K B tb ρ σ) (h : Post K B tb W σ ((f ρ S).bind g) k) {Q : Bool → Hp → Prop}
    (hq : ∀ d S1 B1 tb1 H1, Ex B tb B1 tb1 → Wd K H1 B1 tb1 S1 → repE K B1 tb1 ρ σ → Post K B1 tb1 W σ (g d S1) k → Q d H1) : LT K W f σ H Q := by
  refine ⟨B, tb, ρ, S, w, e, ?_⟩
  cases q : f ρ S with
  | ok d S1 => rw [q] at h; exact fun B1 tb1 H1 e1 w1 => hq d S1 B1 tb1 H1 e1 w1 (e.ex e1) (h.mono e1)
  | er C ns vs S1 => rw [q] at h; exact h
  | no => rw [q] at h; exact h
theorem LA.step {β : Type} {f : FA} {g : List D → Sto → R β} {k : β → Sto → Hp → Tb → Hp → Prop} (w : Wd K H B tb S) (e : repE K B tb ρ σ) (h : Post K B tb W σ ((f ρ S).bind g) k) {Q : List V → Hp → Prop}
    (hq : ∀ d S1 B1 tb1 H1 v, Ex B tb B1 tb1 → Wd K H1 B1 tb1 S1 → repE K B1 tb1 ρ σ → reps K B1 tb1 d v → Post K B1 tb1 W σ (g d S1) k → Q v H1) : LA K W f σ H Q := by
  refine ⟨B, tb, ρ, S, w, e, ?_⟩
  cases q : f ρ S with
  | ok d S1 => rw [q] at h; exact fun B1 tb1 H1 e1 w1 v r => hq d S1 B1 tb1 H1 v e1 w1 (e.ex e1) r (h.mono e1)
  | er C ns vs S1 => rw [q] at h; exact h
  | no => rw [q] at h; exact h
/-- the last part: the whole is one reading -/
theorem LE.last {f : FE} {Q : V → Hp → Prop} (w : Wd K H B tb S) (e : repE K B tb ρ σ) (h : Post K B tb W σ (f ρ S) fun d _ B' tb' H' => ∀ v, rep K B' tb' d v → Q v H') : LE K W f σ H Q := ⟨B, tb, ρ, S, w, e, h⟩
end
section
variable {X : Cx}
theorem _root_.L2.PE.imp {e : Expr} {t t' : TE} (h : PE X e t) (i : ∀ σ H Q, t' σ H Q → t σ H Q) : PE X e t' := ⟨fun pins s σ H Q I q => h.run pins s σ H Q I (i σ H Q q)⟩
theorem _root_.L2.PT.imp {e : Expr} {t t' : TT} (h : PT X e t) (i : ∀ σ H Q, t' σ H Q → t σ H Q) : PT X e t' := ⟨fun pins s σ H Q I q => h.run pins s σ H Q I (i σ H Q q)⟩
theorem _root_.L2.PA.imp {e : List Expr} {t t' : TA} (h : PA X e t) (i : ∀ σ H Q, t' σ H Q → t σ H Q) : PA X e t' := ⟨fun po pins s σ H Q I q => h.run po pins s σ H Q I (i σ H Q q)⟩
theorem _root_.L2.PS.imp {e : Stmt} {t t' : TS} (h : PS X e t) (i : ∀ D σ H, t' D σ H → t D σ H) : PS X e t' := ⟨fun pins s σ H D I q => h.run pins s σ H D I (i D σ H q)⟩
theorem _root_.L2.PSs.imp {e : List Stmt} {t t' : TS} (h : PSs X e t) (i : ∀ D σ H, t' D σ H → t D σ H) : PSs X e t' := ⟨fun pins s σ H D I q => h.run pins s σ H D I (i D σ H q)⟩
theorem _root_.L2.PE.or {e : Expr} {t t' : TE} (h : PE X e t) (h' : PE X e t') : PE X e (fun σ H Q => t σ H Q ∨ t' σ H Q) := ⟨fun pins s σ H Q I q => q.elim (h.run pins s σ H Q I) (h'.run pins s σ H Q I)⟩
end

/-! ### names, constants -/
abbrev DE (X : Cx) (W : WX) (e : Expr) (f : FE) : Prop := PE X e (LE X.K W f)
abbrev DT (X : Cx) (W : WX) (e : Expr) (f : FT) : Prop := PT X e (LT X.K W f)
abbrev DA (X : Cx) (W : WX) (e : List Expr) (f : FA) : Prop := PA X e (LA X.K W f)
def eVar (i : Nat) : FE := fun ρ S => match ρ[i]? with
  | some (some d) => .ok d S
  | _ => .no
def eC (d : D) : FE := fun _ S => .ok d S
section
variable {X : Cx} {W : WX}
theorem d_var {e : Expr} {i : Nat} (h : PE X e (tVar i)) : DE X W e (eVar i) := h.imp fun σ H Q ⟨B, tb, ρ, S, w, r, h⟩ => by
  unfold eVar at h
  split at h
  · rename_i d hd
    obtain ⟨v, h1, h2⟩ := r.2 i d hd
    exact ⟨v, h1, h.ok w v h2⟩
  · exact h.elim
theorem d_c {e : Expr} {d : D} {v : V} (h : PE X e (tC v)) (hd : ∀ B tb, rep X.K B tb d v) : DE X W e (eC d) := h.imp fun σ H Q ⟨B, tb, ρ, S, w, r, h⟩ => h.ok w v (hd B tb)
theorem d_int {i : Int} {j : Nat} {pos : Pos} : DE X W (.Constant (.int i) j pos) (eC (.int i)) := d_c pe_int fun _ _ => by simp only [rep]
theorem d_str {x : Str} {j : Nat} {pos : Pos} : DE X W (.Constant (.str x) j pos) (eC (.str x)) := d_c pe_str fun _ _ => by simp only [rep]
theorem d_bl {b : Bool} {j : Nat} {pos : Pos} : DE X W (.Constant (.bool b) j pos) (eC (.bl b)) := d_c pe_bl fun _ _ => by simp only [rep]
theorem d_non {j : Nat} {pos : Pos} : DE X W (.Constant .none j pos) (eC .non) := d_c pe_non fun _ _ => by simp only [rep]

/-! ### operators -/
/-- a function on values and store fits a reading -/
def Fit2 (K : PySem.W.Frag) (r : R2) (k : D → D → Sto → R D) : Prop := ∀ (B : Hp) (tb : Tb) (W : WX) (σ : St) (H : Hp) (S : Sto) (x y : D) (v u : V) (Q : VK), Wd K H B tb S → rep K B tb x v → rep K B tb y u →
  Post K B tb W σ (k x y S) (fun d _ B' tb' H' => ∀ z, rep K B' tb' d z → Q z H') → r v u H Q
def e2 (k : D → D → Sto → R D) (f g : FE) : FE := fun ρ S => (f ρ S).bind fun x S => (g ρ S).bind fun y S => k x y S
theorem fit2_step {K : PySem.W.Frag} {r : R2} {k : D → D → Sto → R D} (ft : Fit2 K r k) {f g : FE} {σ : St} {H : Hp} {Q : VK} (h : LE K W (e2 k f g) σ H Q) : tOp r (LE K W f) (LE K W g) σ H Q := by
  obtain ⟨B, tb, ρ, S, w, e, h⟩ := h
  refine LE.step w e h fun d S1 B1 tb1 H1 v x1 w1 e1 r1 h1 => ?_
  refine LE.step w1 e1 h1 fun d2 S2 B2 tb2 H2 u x2 w2 e2 r2 h2 => ?_
  exact ft B2 tb2 W σ H2 S2 d d2 v u Q w2 (rep_ex x2 _ _ r1) r2 h2
theorem d_op {op : Operator} {a b : Expr} {pos : Pos} {r : R2} {k : D → D → Sto → R D} {f g : FE} (ho : OpR X (binaryOp op) r) (ft : Fit2 X.K r k) (ha : DE X W a f) (hb : DE X W b g) : DE X W (.BinOp a op b pos) (e2 k f g) :=
  (pe_op ho ha hb).imp fun _ _ _ h => fit2_step ft h
theorem d_cmp {op : CmpOp} {a b : Expr} {pos : Pos} {r : R2} {k : D → D → Sto → R D} {f g : FE} (ho : OpR X (compareOp op) r) (ft : Fit2 X.K r k) (ha : DE X W a f) (hb : DE X W b g) (hm : behindInMarks op b = false) : DE X W (.Compare a [op] [b] pos) (e2 k f g) :=
  (pe_cmpR ho ha hb hm).imp fun _ _ _ h => fit2_step ft h
/-- a value that is a bool, as a test -/
def tV (f : FE) : FT := fun ρ S => (f ρ S).bind fun d S => match d with
  | .bl b => .ok b S
  | _ => .no
theorem tV_step {f : FE} {σ : St} {H : Hp} {Q : Bool → Hp → Prop} {K : PySem.W.Frag} (h : LT K W (tV f) σ H Q) : LE K W f σ H fun x H' => ∃ k, x = .bl k ∧ Q k H' := by
  obtain ⟨B, tb, ρ, S, w, e, h⟩ := h
  refine LE.step w e h fun d S1 B1 tb1 H1 v x1 w1 e1 r1 h1 => ?_
  cases d with
  | bl b => simp only [rep] at r1; subst r1; exact ⟨b, rfl, h1.ok w1⟩
  | _ => exact h1.elim
theorem t_cmp {op : CmpOp} {a b : Expr} {pos : Pos} {r : R2} {k : D → D → Sto → R D} {f g : FE} (ho : OpR X (compareOp op) r) (ft : Fit2 X.K r k) (ha : DE X W a f) (hb : DE X W b g) (hm : behindInMarks op b = false) : DT X W (.Compare a [op] [b] pos) (tV (e2 k f g)) :=
  (pt_cmpR ho ha hb hm).imp fun _ _ _ h => by
    have q := tV_step h
    exact fit2_step ft q
theorem t_val {e : Expr} {f : FE} (h : DE X W e f) (he : ∀ whole, isTrue e X.env whole = (do let v ← whole; standAt e.pos; holding [v] (truthy v)) := by intro _; rfl) : DT X W e (tV f) :=
  (pt_val h he).imp fun _ _ _ h => tV_step h
end
end Qd

namespace Qd
open PySem L2

/-! ### what a value reads as -/
def lstOf (S : Sto) : D → Option (List D)
  | .lst ds => some ds
  | .obj k => match S.m[k]? with
    | some (some (.lst ds)) => some ds
    | _ => none
  | _ => none
section
variable {K : PySem.W.Frag} {H B : Hp} {tb : Tb} {S : Sto} {W : WX} {σ : St} {ρ : Rho}
theorem lstOf_ok (w : Wd K H B tb S) {d : D} {ds : List D} {v : V} (e : lstOf S d = some ds) (r : rep K B tb d v) : ∃ a vs, v = .ref a ∧ H a = some (.lst vs) ∧ reps K B tb ds vs := by
  cases d with
  | lst es =>
    cases e
    simp only [rep] at r
    obtain ⟨a, vs, rfl, h1, h2⟩ := r
    exact ⟨a, vs, rfl, w.sub _ _ h1, h2⟩
  | obj k =>
    simp only [lstOf] at e
    simp only [rep] at r
    obtain ⟨a, rfl, ha⟩ := r
    split at e
    · rename_i es hk
      cases e
      obtain ⟨a', h1, _, h2⟩ := w.at_ k _ hk
      rw [ha] at h1; cases h1
      obtain ⟨vs, h3, h4⟩ := h2
      exact ⟨a, vs, rfl, h3, h4⟩
    · cases e
  | _ => cases e
/-- a list or a tuple, to be read -/
def seqOf (S : Sto) : D → Option (List D)
  | .tup ds => some ds
  | .scr ds => some ds
  | d => lstOf S d
theorem seqOf_ok (w : Wd K H B tb S) {d : D} {ds : List D} {v : V} (e : seqOf S d = some ds) (r : rep K B tb d v) : ∃ a vs, v = .ref a ∧ (SqL K H a vs ∨ SqT K H a vs) ∧ reps K B tb ds vs := by
  cases d with
  | tup es =>
    cases e
    simp only [rep] at r
    obtain ⟨a, vs, rfl, h1, h2⟩ := r
    exact ⟨a, vs, rfl, .inr (SqT.ex w.sub h1), h2⟩
  | scr es =>
    cases e
    simp only [rep] at r
    obtain ⟨a, vs, rfl, h1, h2⟩ := r
    exact ⟨a, vs, rfl, .inl (SqL.ex w.sub h1), h2⟩
  | lst es =>
    obtain ⟨a, vs, h1, h2, h3⟩ := lstOf_ok w (d := .lst es) e r
    exact ⟨a, vs, h1, .inl (SqL.of h2), h3⟩
  | obj k =>
    obtain ⟨a, vs, h1, h2, h3⟩ := lstOf_ok w (d := .obj k) e r
    exact ⟨a, vs, h1, .inl (SqL.of h2), h3⟩
  | _ => cases e
/-- a new list, a new tuple that never changes -/
theorem new_lst (w : Wd K H B tb S) {ds : List D} {vs : List V} (r : reps K B tb ds vs) {p : Addr} (hp : H p = none) : ∃ B', Ex B tb B' tb ∧ Wd K (upd H p (.lst vs)) B' tb S ∧ rep K B' tb (.lst ds) (.ref p) := by
  obtain ⟨w', e⟩ := w.new hp (.lst vs)
  refine ⟨_, e, w', ?_⟩
  simp only [rep]
  exact ⟨p, vs, rfl, upd_same, reps_ex e _ _ r⟩
theorem new_tup (w : Wd K H B tb S) {ds : List D} {vs : List V} (r : reps K B tb ds vs) {p : Addr} (hp : H p = none) : ∃ B', Ex B tb B' tb ∧ Wd K (upd H p (.tup vs)) B' tb S ∧ rep K B' tb (.tup ds) (.ref p) := by
  obtain ⟨w', e⟩ := w.new hp (.tup vs)
  refine ⟨_, e, w', ?_⟩
  simp only [rep]
  exact ⟨p, vs, rfl, upd_same, reps_ex e _ _ r⟩
/-- a new list that changes -/
theorem new_obj (w : Wd K H B tb S) {ds : List D} {vs : List V} (r : reps K B tb ds vs) {p : Addr} (hp : H p = none) : ∃ tb', Ex B tb B tb' ∧ Wd K (upd H p (.lst vs)) B tb' (S.push (.lst ds)) ∧ rep K B tb' (.obj S.next) (.ref p) := by
  have e0 : Ex B tb B (tb.add p) := ⟨fun _ _ h => h, ⟨[p], rfl⟩, rfl⟩
  obtain ⟨w', e, n⟩ := w.push hp (o := .lst vs) (d := .lst ds) ⟨vs, upd_same, reps_ex e0 _ _ r⟩
  refine ⟨_, e, w', ?_⟩
  simp only [rep]
  exact ⟨p, rfl, n⟩
end

abbrev line : Nat := 16777216
theorem line_eq : sizeLine = line := sizeLine_eq
def chk {α : Type} (c : Bool) (r : R α) : R α := if c = true then r else .no
theorem chk_ok {K : PySem.W.Frag} {B : Hp} {tb : Tb} {W : WX} {σ : St} {α : Type} {c : Bool} {r : R α} {k : α → Sto → Hp → Tb → Hp → Prop} (h : Post K B tb W σ (chk c r) k) : c = true ∧ Post K B tb W σ r k := by
  unfold chk at h
  split at h
  · rename_i hc; exact ⟨hc, h⟩
  · exact h.elim

/-! ### arithmetic -/
def kAdd (x y : D) (S : Sto) : R D := match x, y with
  | .int i, .int j => .ok (.int (i + j)) S
  | .str a, .str b => chk (decide (a.length + b.length ≤ line)) (.ok (.str (a ++ b)) S)
  | .tup a, .tup b => chk (decide (a.length + b.length ≤ line)) (.ok (.tup (a ++ b)) S)
  | x, y => match lstOf S x, lstOf S y with
    | some a, some b => chk (decide (a.length + b.length ≤ line)) (.ok (.lst (a ++ b)) S)
    | _, _ => .no
def rAdd (K : PySem.W.Frag) : R2 := fun x y H Q => (rI0 (fun i j => .int (i + j)) x y H Q ∨ (∃ i j, x = .str i ∧ y = .str j ∧ i.length + j.length ≤ sizeLine ∧ Q (.str (i ++ j)) H)) ∨
  (rCatT K x y H Q ∨ rCat x y H Q) ∨ (∃ a b, x = .ref a ∧ y = .ref b ∧ SqT K H a [] ∧ False)
theorem fit_add_ {K : PySem.W.Frag} (r : R2) (hI : ∀ x y H Q, rI0 (fun i j => .int (i + j)) x y H Q → r x y H Q)
    (hS : ∀ x y H Q, (∃ i j, x = .str i ∧ y = .str j ∧ i.length + j.length ≤ sizeLine ∧ Q (.str (i ++ j)) H) → r x y H Q)
    (hT : ∀ x y H Q, (∃ a b xs ys, x = .ref a ∧ y = .ref b ∧ SqT K H a xs ∧ SqT K H b ys ∧ xs.length + ys.length ≤ sizeLine ∧ (xs = [] → Q (.ref b) H) ∧ (xs ≠ [] → ys = [] → Q (.ref a) H) ∧ (xs ≠ [] → ys ≠ [] → ∀ p, H p = none → Q (.ref p) (upd H p (.tup (xs ++ ys))))) → r x y H Q)
    (hL : ∀ x y H Q, rCat x y H Q → r x y H Q) : Fit2 K r kAdd := by
  intro B tb W σ H S x y v u Q w rx ry h
  have lists : ∀ {a b : List D}, lstOf S x = some a → lstOf S y = some b → Post K B tb W σ (chk (decide (a.length + b.length ≤ line)) (.ok (.lst (a ++ b)) S)) (fun d _ B' tb' H' => ∀ z, rep K B' tb' d z → Q z H') → r v u H Q := by
    intro a b ea eb h
    obtain ⟨hc, h⟩ := chk_ok h
    obtain ⟨p, vs, rfl, h1, r1⟩ := lstOf_ok w ea rx
    obtain ⟨q, us, rfl, h2, r2⟩ := lstOf_ok w eb ry
    refine hL _ _ _ _ ⟨p, q, vs, us, rfl, rfl, h1, h2, ?_, fun l hl => ?_⟩
    · rw [reps_len r1, reps_len r2, line_eq]; exact of_decide_eq_true hc
    · obtain ⟨B', e', w', r'⟩ := new_lst w (reps_append r1 r2) hl
      exact h B' tb _ e' w' _ r'
  unfold kAdd at h
  split at h
  · rename_i i j
    simp only [rep] at rx ry; subst rx ry
    exact hI _ _ _ _ ⟨i, j, rfl, rfl, h.ok w _ (by simp only [rep])⟩
  · rename_i a b
    obtain ⟨hc, h⟩ := chk_ok h
    simp only [rep] at rx ry; subst rx ry
    exact hS _ _ _ _ ⟨a, b, rfl, rfl, by rw [line_eq]; exact of_decide_eq_true hc, h.ok w _ (by simp only [rep])⟩
  · rename_i a b
    obtain ⟨hc, h⟩ := chk_ok h
    simp only [rep] at rx ry
    obtain ⟨p, vs, rfl, h1, r1⟩ := rx
    obtain ⟨q, us, rfl, h2, r2⟩ := ry
    have l1 := reps_len r1
    have l2 := reps_len r2
    refine hT _ _ _ _ ⟨p, q, vs, us, rfl, rfl, SqT.ex w.sub h1, SqT.ex w.sub h2, by rw [l1, l2, line_eq]; exact of_decide_eq_true hc, fun e => ?_, fun _ e => ?_, fun _ _ l hl => ?_⟩
    · subst e
      have : a = [] := List.length_eq_zero_iff.mp (by rw [← l1]; rfl)
      subst this
      exact h.ok w _ (by simp only [rep]; exact ⟨q, us, rfl, h2, r2⟩)
    · subst e
      have : b = [] := List.length_eq_zero_iff.mp (by rw [← l2]; rfl)
      subst this
      rw [List.append_nil] at h
      exact h.ok w _ (by simp only [rep]; exact ⟨p, vs, rfl, h1, r1⟩)
    · obtain ⟨B', e', w', r'⟩ := new_tup w (reps_append r1 r2) hl
      exact h B' tb _ e' w' _ r'
  · split at h
    · rename_i a b ea eb
      exact lists ea eb h
    · exact h.elim
end Qd

namespace Qd
open PySem L2

section
variable {X : Cx} {W : WX}
theorem opr_add : OpR X (binaryOp .Add) (fun x y H Q => ((rI0 (fun i j => .int (i + j)) x y H Q) ∨ (∃ i j, x = .str i ∧ y = .str j ∧ i.length + j.length ≤ sizeLine ∧ Q (.str (i ++ j)) H)) ∨ (rCatA X.K x y H Q ∨ rCat x y H Q)) :=
  OpR.or (OpR.or op_add op_add_str) (OpR.or op_catA op_cat)
theorem fit_add {K : PySem.W.Frag} : Fit2 K (fun x y H Q => ((rI0 (fun i j => .int (i + j)) x y H Q) ∨ (∃ i j, x = .str i ∧ y = .str j ∧ i.length + j.length ≤ sizeLine ∧ Q (.str (i ++ j)) H)) ∨ (rCatA K x y H Q ∨ rCat x y H Q)) kAdd :=
  fit_add_ _ (fun _ _ _ _ h => .inl (.inl h)) (fun _ _ _ _ h => .inl (.inr h)) (fun _ _ _ _ h => .inr (.inl h)) (fun _ _ _ _ h => .inr (.inr h))
theorem d_add {a b : Expr} {pos : Pos} {f g : FE} (ha : DE X W a f) (hb : DE X W b g) : DE X W (.BinOp a .Add b pos) (e2 kAdd f g) := d_op opr_add fit_add ha hb
end

/-- two ints under a test, to a value -/
def kI (c : Int → Int → Bool) (g : Int → Int → D) (x y : D) (S : Sto) : R D := match x, y with
  | .int i, .int j => chk (c i j) (.ok (g i j) S)
  | _, _ => .no
theorem fit_I {K : PySem.W.Frag} {r : R2} {c : Int → Int → Bool} {g : Int → Int → D} {gv : Int → Int → V} (hg : ∀ i j B tb, rep K B tb (g i j) (gv i j)) (h : ∀ i j H Q, c i j = true → Q (gv i j) H → r (.int i) (.int j) H Q) : Fit2 K r (kI c g) := by
  intro B tb W σ H S x y v u Q w rx ry q
  unfold kI at q
  split at q
  · obtain ⟨hc, q⟩ := chk_ok q
    simp only [rep] at rx ry; subst rx ry
    exact h _ _ _ _ hc (q.ok w _ (hg _ _ _ _))
  · exact q.elim
abbrev yes2 : Int → Int → Bool := fun _ _ => true
def mulOk (i j : Int) : Bool := (decide (-(2 ^ 64) < i) && decide (i < 2 ^ 64)) || (decide (-(2 ^ 64) < j) && decide (j < 2 ^ 64))
abbrev kSub := kI yes2 fun i j => .int (i - j)
abbrev kMulI := kI mulOk fun i j => .int (i * j)
abbrev kDiv := kI (fun _ j => decide (0 < j) && decide (j < 1073741824)) fun i j => .int (i / j)
abbrev kMod := kI (fun _ j => decide (0 < j)) fun i j => .int (i % j)
abbrev kPow := kI (fun i j => decide (0 ≤ j) && decide (j ≤ 1000000) && decide (i.natAbs < 2 ^ 64)) fun i j => .int (i ^ j.toNat)
/-- a list so many times -/
def kMul (x y : D) (S : Sto) : R D := match x, y with
  | .int i, .int j => kMulI (.int i) (.int j) S
  | x, .int k => (match lstOf S x with
    | some ds => chk (decide (-(2 ^ 63) ≤ k) && decide (k < 2 ^ 63) && decide (ds.length * k.toNat ≤ line)) (.ok (.lst (List.replicate k.toNat ds).flatten) S)
    | none => .no)
  | _, _ => .no
section
variable {X : Cx} {W : WX} {a b : Expr} {pos : Pos} {f g : FE}
theorem rep_int {K : PySem.W.Frag} {B : Hp} {tb : Tb} {i : Int} : rep K B tb (.int i) (.int i) := by simp only [rep]
theorem rep_bl {K : PySem.W.Frag} {B : Hp} {tb : Tb} {i : Bool} : rep K B tb (.bl i) (.bl i) := by simp only [rep]
theorem rep_str {K : PySem.W.Frag} {B : Hp} {tb : Tb} {i : Str} : rep K B tb (.str i) (.str i) := by simp only [rep]
theorem rep_non {K : PySem.W.Frag} {B : Hp} {tb : Tb} : rep K B tb .non .non := by simp only [rep]
theorem d_sub (ha : DE X W a f) (hb : DE X W b g) : DE X W (.BinOp a .Sub b pos) (e2 kSub f g) := d_op op_sub (fit_I (gv := fun i j => .int (i - j)) (fun _ _ _ _ => rep_int) fun i j H Q _ q => ⟨i, j, rfl, rfl, q⟩) ha hb
theorem d_div (ha : DE X W a f) (hb : DE X W b g) : DE X W (.BinOp a .FloorDiv b pos) (e2 kDiv f g) := d_op op_fdiv (fit_I (gv := fun i j => .int (i / j)) (fun _ _ _ _ => rep_int) fun i j H Q c q => by
  simp only [Bool.and_eq_true, decide_eq_true_eq] at c; exact ⟨i, j, rfl, rfl, ⟨c.1, c.2⟩, q⟩) ha hb
theorem d_mod (ha : DE X W a f) (hb : DE X W b g) : DE X W (.BinOp a .Mod b pos) (e2 kMod f g) := d_op op_mod (fit_I (gv := fun i j => .int (i % j)) (fun _ _ _ _ => rep_int) fun i j H Q c q => ⟨i, j, rfl, rfl, of_decide_eq_true c, q⟩) ha hb
theorem d_pow (ha : DE X W a f) (hb : DE X W b g) : DE X W (.BinOp a .Pow b pos) (e2 kPow f g) := d_op op_pow (fit_I (gv := fun i j => .int (i ^ j.toNat)) (fun _ _ _ _ => rep_int) fun i j H Q c q => by
  simp only [Bool.and_eq_true, decide_eq_true_eq] at c; exact ⟨i, j, rfl, rfl, ⟨c.1.1, c.1.2, c.2⟩, q⟩) ha hb
theorem fit_mulI {K : PySem.W.Frag} : Fit2 K (rI CMul fun i j => .int (i * j)) kMulI := fit_I (gv := fun i j => .int (i * j)) (fun _ _ _ _ => rep_int) fun i j H Q c q => by
  unfold mulOk at c
  simp only [Bool.or_eq_true, Bool.and_eq_true, decide_eq_true_eq] at c
  exact ⟨i, j, rfl, rfl, c, q⟩
theorem fit_mul {K : PySem.W.Frag} : Fit2 K (fun x y H Q => rI CMul (fun i j => .int (i * j)) x y H Q ∨ rRep x y H Q) kMul := by
  intro B tb W σ H S x y v u Q w rx ry q
  unfold kMul at q
  split at q
  · exact .inl (fit_mulI B tb W σ H S _ _ v u Q w rx ry q)
  · split at q
    · rename_i ds e
      obtain ⟨c, q⟩ := chk_ok q
      simp only [Bool.and_eq_true, decide_eq_true_eq] at c
      obtain ⟨p, vs, rfl, h1, r1⟩ := lstOf_ok w e rx
      simp only [rep] at ry; subst ry
      refine .inr ⟨p, _, vs, rfl, rfl, h1, c.1.1, c.1.2, by rw [reps_len r1, line_eq]; exact c.2, fun l hl => ?_⟩
      obtain ⟨B', e', w', r'⟩ := new_lst w (reps_rep r1 _) hl
      exact q B' tb _ e' w' _ r'
    · exact q.elim
  · exact q.elim
theorem d_mul (ha : DE X W a f) (hb : DE X W b g) : DE X W (.BinOp a .Mult b pos) (e2 kMul f g) := d_op (OpR.or op_mul op_rep) fit_mul ha hb

/-! ### comparisons -/
def intsD : List D → Option (List Int)
  | [] => some []
  | .int i :: r => (intsD r).map (i :: ·)
  | _ => none
theorem intsD_ok {K : PySem.W.Frag} {B : Hp} {tb : Tb} : ∀ {ds : List D} {vs : List V} {ns : List Int}, reps K B tb ds vs → intsD ds = some ns → vs = ns.map V.int
  | [], vs, ns, r, e => by
    simp only [reps] at r; subst r
    simp only [intsD, Option.some.injEq] at e; subst e; rfl
  | d :: ds, vs, ns, r, e => by
    simp only [reps] at r
    obtain ⟨v, t, rfl, h1, h2⟩ := r
    cases d with
    | int i =>
      simp only [intsD] at e
      cases q : intsD ds with
      | none => rw [q] at e; cases e
      | some ms =>
        rw [q] at e; cases e
        simp only [rep] at h1; subst h1
        rw [intsD_ok h2 q]; rfl
    | _ => simp only [intsD] at e; cases e
def kLt (x y : D) (S : Sto) : R D := match x, y with
  | .tup a, .tup b => (match intsD a, intsD b with
    | some ns, some ms => .ok (.bl (HT.lexLt ns ms)) S
    | _, _ => .no)
  | x, y => kI yes2 (fun i j => .bl (decide (i < j))) x y S
abbrev kLe := kI yes2 fun i j => .bl (decide (i ≤ j))
abbrev kGt := kI yes2 fun i j => .bl (decide (j < i))
abbrev kGe := kI yes2 fun i j => .bl (decide (j ≤ i))
abbrev rLtD (K : PySem.W.Frag) : R2 := fun x y H Q => rI0 (fun i j => .bl (decide (i < j))) x y H Q ∨ rLtT K x y H Q
theorem fit_lt {K : PySem.W.Frag} : Fit2 K (rLtD K) kLt := by
  intro B tb W σ H S x y v u Q w rx ry q
  unfold kLt at q
  split at q
  · split at q
    · rename_i ns ms e1 e2
      simp only [rep] at rx ry
      obtain ⟨p, vs, rfl, h1, r1⟩ := rx
      obtain ⟨p', us, rfl, h2, r2⟩ := ry
      have z1 := intsD_ok r1 e1
      have z2 := intsD_ok r2 e2
      subst z1 z2
      exact .inr ⟨p, p', ns, ms, rfl, rfl, SqT.ex w.sub h1, SqT.ex w.sub h2, q.ok w _ rep_bl⟩
    · exact q.elim
  · exact .inl (fit_I (gv := fun i j => .bl (decide (i < j))) (fun _ _ _ _ => rep_bl) (fun i j H Q _ q => ⟨i, j, rfl, rfl, q⟩) B tb W σ H S _ _ v u Q w rx ry q)
theorem opr_lt (hu : X.A.units < cLine) : OpR X (compareOp .Lt) (rLtD X.K) := OpR.or op_lt (op_ltT hu)
theorem fit_le {K : PySem.W.Frag} : Fit2 K (rI0 fun i j => .bl (decide (i ≤ j))) kLe := fit_I (gv := fun i j => .bl (decide (i ≤ j))) (fun _ _ _ _ => rep_bl) fun i j H Q _ q => ⟨i, j, rfl, rfl, q⟩
theorem fit_gt {K : PySem.W.Frag} : Fit2 K (rI0 fun i j => .bl (decide (j < i))) kGt := fit_I (gv := fun i j => .bl (decide (j < i))) (fun _ _ _ _ => rep_bl) fun i j H Q _ q => ⟨i, j, rfl, rfl, q⟩
theorem fit_ge {K : PySem.W.Frag} : Fit2 K (rI0 fun i j => .bl (decide (j ≤ i))) kGe := fit_I (gv := fun i j => .bl (decide (j ≤ i))) (fun _ _ _ _ => rep_bl) fun i j H Q _ q => ⟨i, j, rfl, rfl, q⟩
theorem d_lt (hr : X.A.units + 64 < cLine) (ha : DE X W a f) (hb : DE X W b g) : DE X W (.Compare a [.Lt] [b] pos) (e2 kLt f g) := d_cmp (opr_lt (by omega)) fit_lt ha hb (nomark _)
theorem d_le (hr : X.A.units + 64 < cLine) (ha : DE X W a f) (hb : DE X W b g) : DE X W (.Compare a [.LtE] [b] pos) (e2 kLe f g) := d_cmp op_le fit_le ha hb (nomark _)
theorem d_gt (hr : X.A.units + 64 < cLine) (ha : DE X W a f) (hb : DE X W b g) : DE X W (.Compare a [.Gt] [b] pos) (e2 kGt f g) := d_cmp op_gt fit_gt ha hb (nomark _)
theorem d_ge (hr : X.A.units + 64 < cLine) (ha : DE X W a f) (hb : DE X W b g) : DE X W (.Compare a [.GtE] [b] pos) (e2 kGe f g) := d_cmp op_ge fit_ge ha hb (nomark _)
theorem t_lt (hr : X.A.units + 64 < cLine) (ha : DE X W a f) (hb : DE X W b g) : DT X W (.Compare a [.Lt] [b] pos) (tV (e2 kLt f g)) := t_cmp (opr_lt (by omega)) fit_lt ha hb (nomark _)
theorem t_le (hr : X.A.units + 64 < cLine) (ha : DE X W a f) (hb : DE X W b g) : DT X W (.Compare a [.LtE] [b] pos) (tV (e2 kLe f g)) := t_cmp op_le fit_le ha hb (nomark _)
theorem t_gt (hr : X.A.units + 64 < cLine) (ha : DE X W a f) (hb : DE X W b g) : DT X W (.Compare a [.Gt] [b] pos) (tV (e2 kGt f g)) := t_cmp op_gt fit_gt ha hb (nomark _)
theorem t_ge (hr : X.A.units + 64 < cLine) (ha : DE X W a f) (hb : DE X W b g) : DT X W (.Compare a [.GtE] [b] pos) (tV (e2 kGe f g)) := t_cmp op_ge fit_ge ha hb (nomark _)

/-! ### equality of data -/
mutual
def py : D → Option PyData
  | .non => some .none
  | .bl b => some (.bool b)
  | .int i => some (.int i)
  | .str x => some (.str x)
  | .tup ds => (pys ds).map .tuple
  | .lst ds => (pys ds).map .list
  | .scr ds => (pys ds).map .list
  | _ => none
def pys : List D → Option (List PyData)
  | [] => some []
  | d :: ds => match py d, pys ds with
    | some a, some r => some (a :: r)
    | _, _ => none
end
mutual
theorem py_ok {K : PySem.W.Frag} {H B : Hp} {tb : Tb} (s : ∀ a o, B a = some o → H a = some o) : ∀ (d : D) (v : V) (e : PyData), rep K B tb d v → py d = some e → Dp K H v e
  | .non, v, e, r, q => by simp only [rep] at r; simp only [py, Option.some.injEq] at q; subst r q; exact .non
  | .bl b, v, e, r, q => by simp only [rep] at r; simp only [py, Option.some.injEq] at q; subst r q; exact .bl b
  | .int i, v, e, r, q => by simp only [rep] at r; simp only [py, Option.some.injEq] at q; subst r q; exact .int i
  | .str x, v, e, r, q => by simp only [rep] at r; simp only [py, Option.some.injEq] at q; subst r q; exact .str x
  | .tup ds, v, e, r, q => by
    simp only [rep] at r
    obtain ⟨a, vs, rfl, h1, h2⟩ := r
    simp only [py] at q
    cases z : pys ds with
    | none => rw [z] at q; cases q
    | some es => rw [z] at q; cases q; exact .tup (SqT.ex s h1) (pys_ok s ds vs es h2 z)
  | .lst ds, v, e, r, q => by
    simp only [rep] at r
    obtain ⟨a, vs, rfl, h1, h2⟩ := r
    simp only [py] at q
    cases z : pys ds with
    | none => rw [z] at q; cases q
    | some es => rw [z] at q; cases q; exact .lst (SqL.of (s _ _ h1)) (pys_ok s ds vs es h2 z)
  | .scr ds, v, e, r, q => by
    simp only [rep] at r
    obtain ⟨a, vs, rfl, h1, h2⟩ := r
    simp only [py] at q
    cases z : pys ds with
    | none => rw [z] at q; cases q
    | some es => rw [z] at q; cases q; exact .lst (SqL.ex s h1) (pys_ok s ds vs es h2 z)
  | .dk ks ds, v, e, r, q => by simp only [py] at q; cases q
  | .dt ks ds, v, e, r, q => by simp only [py] at q; cases q
  | .ins C ns ds, v, e, r, q => by simp only [py] at q; cases q
  | .obj k, v, e, r, q => by simp only [py] at q; cases q
  | .glo x, v, e, r, q => by simp only [py] at q; cases q
  | .ty n, v, e, r, q => by simp only [py] at q; cases q
theorem pys_ok {K : PySem.W.Frag} {H B : Hp} {tb : Tb} (s : ∀ a o, B a = some o → H a = some o) : ∀ (ds : List D) (vs : List V) (es : List PyData), reps K B tb ds vs → pys ds = some es → DpAll K H vs es
  | [], vs, es, r, q => by simp only [reps] at r; simp only [pys, Option.some.injEq] at q; subst r q; exact .nil
  | d :: ds, vs, es, r, q => by
    simp only [reps] at r
    obtain ⟨v, t, rfl, h1, h2⟩ := r
    simp only [pys] at q
    split at q
    · rename_i a r' e1 e2
      cases q
      exact .cons (py_ok s d v a h1 e1) (pys_ok s ds t r' h2 e2)
    · cases q
end
def pyOf (S : Sto) : D → Option PyData
  | .obj k => match S.m[k]? with
    | some (some (.lst ds)) => (pys ds).map .list
    | _ => none
  | d => py d
theorem pyOf_ok {K : PySem.W.Frag} {H B : Hp} {tb : Tb} {S : Sto} (w : Wd K H B tb S) {d : D} {v : V} {e : PyData} (r : rep K B tb d v) (q : pyOf S d = some e) : Dp K H v e := by
  unfold pyOf at q
  split at q
  · rename_i k
    simp only [rep] at r
    obtain ⟨a, rfl, ha⟩ := r
    split at q
    · rename_i ds hk
      obtain ⟨a', h1, _, h2⟩ := w.at_ k _ hk
      rw [ha] at h1; cases h1
      obtain ⟨vs, h3, h4⟩ := h2
      cases z : pys ds with
      | none => rw [z] at q; cases q
      | some es => rw [z] at q; cases q; exact .lst (SqL.of h3) (pys_ok w.sub ds vs es h4 z)
    · cases q
  · exact py_ok w.sub _ _ _ r q
def kEqB (n : Bool) (x y : D) (S : Sto) : R D := match pyOf S x, pyOf S y with
  | some a, some b => chk (SeqAt.shaped a && SeqAt.shaped b) (.ok (.bl (if n then !PyData.eqv a b else PyData.eqv a b)) S)
  | _, _ => .no
abbrev kEq := kEqB false
abbrev kNe := kEqB true
theorem fit_eq {K : PySem.W.Frag} : Fit2 K (rEqD K) kEq := by
  intro B tb W σ H S x y v u Q w rx ry q
  unfold kEq kEqB at q
  split at q
  · rename_i a b ea eb
    obtain ⟨c, q⟩ := chk_ok q
    simp only [Bool.and_eq_true] at c
    exact ⟨a, b, pyOf_ok w rx ea, pyOf_ok w ry eb, c.1, c.2, q.ok w _ rep_bl⟩
  · exact q.elim
theorem fit_ne {K : PySem.W.Frag} : Fit2 K (rNeD K) kNe := by
  intro B tb W σ H S x y v u Q w rx ry q
  unfold kNe kEqB at q
  split at q
  · rename_i a b ea eb
    obtain ⟨c, q⟩ := chk_ok q
    simp only [Bool.and_eq_true] at c
    exact ⟨a, b, pyOf_ok w rx ea, pyOf_ok w ry eb, c.1, c.2, q.ok w _ rep_bl⟩
  · exact q.elim
theorem d_eq (hr : X.A.units + 64 < cLine) (ha : DE X W a f) (hb : DE X W b g) : DE X W (.Compare a [.Eq] [b] pos) (e2 kEq f g) := d_cmp (op_eqD hr) fit_eq ha hb (nomark _)
theorem d_ne (hr : X.A.units + 64 < cLine) (ha : DE X W a f) (hb : DE X W b g) : DE X W (.Compare a [.NotEq] [b] pos) (e2 kNe f g) := d_cmp (op_neD hr) fit_ne ha hb (nomark _)
theorem t_eq (hr : X.A.units + 64 < cLine) (ha : DE X W a f) (hb : DE X W b g) : DT X W (.Compare a [.Eq] [b] pos) (tV (e2 kEq f g)) := t_cmp (op_eqD hr) fit_eq ha hb (nomark _)
theorem t_ne (hr : X.A.units + 64 < cLine) (ha : DE X W a f) (hb : DE X W b g) : DT X W (.Compare a [.NotEq] [b] pos) (tV (e2 kNe f g)) := t_cmp (op_neD hr) fit_ne ha hb (nomark _)

/-! ### chains -/
/-- a < b < c -/
def e3 (k k' : D → D → Sto → R D) (f g h : FE) : FE := fun ρ S => (f ρ S).bind fun x S => (g ρ S).bind fun y S => (k x y S).bind fun z S => match z with
  | .bl true => (h ρ S).bind fun u S => k' y u S
  | .bl false => .ok (.bl false) S
  | _ => .no
/-- a fit whose value is told -/
theorem chain_step {K : PySem.W.Frag} {r r' : R2} {k k' : D → D → Sto → R D} (ft : Fit2 K r k) (ft' : Fit2 K r' k') (pure : ∀ x y S d S', k x y S = .ok d S' → S' = S ∧ ∃ b, d = .bl b) (ner : ∀ x y S C ns vs S', k x y S ≠ .er C ns vs S') {f g h : FE} {σ : St} {H : Hp} {Q : VK} (q : LE K W (e3 k k' f g h) σ H Q) : tChain r r' (LE K W f) (LE K W g) (LE K W h) σ H Q := by
  obtain ⟨B, tb, ρ, S, w, e, q⟩ := q
  refine LE.step w e q fun d S1 B1 tb1 H1 v x1 w1 e1 r1 h1 => ?_
  refine LE.step w1 e1 h1 fun d2 S2 B2 tb2 H2 u x2 w2 e2 r2 h2 => ?_
  have r1' := rep_ex x2 _ _ r1
  refine ft B2 tb2 W σ H2 S2 d d2 v u _ w2 r1' r2 ?_
  cases z : k d d2 S2 with
  | er C ns vs S' => exact (ner _ _ _ _ _ _ _ z).elim
  | no => rw [z] at h2; exact h2
  | ok d3 S3 =>
    rw [z] at h2
    obtain ⟨rfl, b, rfl⟩ := pure _ _ _ _ _ z
    intro B3 tb3 H3 x3 w3 zv rz
    simp only [rep] at rz; subst rz
    refine ⟨b, rfl, ?_⟩
    cases b with
    | false =>
      rw [if_neg (by decide)]
      have h3 : Post K B2 tb2 W σ (.ok (.bl false) S3) fun d _ B' tb' H' => ∀ v, rep K B' tb' d v → Q v H' := h2
      exact (h3.mono x3).ok w3 _ rep_bl
    | true =>
      rw [if_pos rfl]
      have h3 : Post K B2 tb2 W σ ((h ρ S3).bind fun u S => k' d2 u S) fun d _ B' tb' H' => ∀ v, rep K B' tb' d v → Q v H' := h2
      refine LE.step w3 (e2.ex x3) (h3.mono x3) fun d4 S4 B4 tb4 H4 v4 x4 w4 e4 r4 h4 => ?_
      exact ft' B4 tb4 W σ H4 S4 d2 d4 u v4 Q w4 (rep_ex (x3.trans x4) _ _ r2) r4 h4
theorem pure_I {c : Int → Int → Bool} {gb : Int → Int → Bool} : ∀ x y S d S', kI c (fun i j => .bl (gb i j)) x y S = .ok d S' → S' = S ∧ ∃ b, d = .bl b := by
  intro x y S d S' h
  unfold kI at h
  split at h
  · unfold chk at h
    split at h
    · cases h; exact ⟨rfl, _, rfl⟩
    · cases h
  · cases h
theorem ner_I {c : Int → Int → Bool} {g : Int → Int → D} : ∀ x y S C ns vs S', kI c g x y S ≠ .er C ns vs S' := by
  intro x y S C ns vs S' h
  unfold kI at h
  split at h
  · unfold chk at h
    split at h <;> cases h
  · cases h
theorem d_leLe {c : Expr} {h : FE} (hr : X.A.units + 64 < cLine) (ha : DE X W a f) (hb : DE X W b g) (hc : DE X W c h) (hm : lastMarks [CmpOp.LtE, CmpOp.LtE] [b, c] = false := by with_unfolding_all rfl) : DE X W (.Compare a [.LtE, .LtE] [b, c] pos) (e3 kLe kLe f g h) :=
  (pe_chain op_le op_le ha hb hc hm).imp fun _ _ _ q => chain_step fit_le fit_le pure_I ner_I q
theorem d_leLt {c : Expr} {h : FE} (hr : X.A.units + 64 < cLine) (ha : DE X W a f) (hb : DE X W b g) (hc : DE X W c h) (hm : lastMarks [CmpOp.LtE, CmpOp.Lt] [b, c] = false := by with_unfolding_all rfl) : DE X W (.Compare a [.LtE, .Lt] [b, c] pos) (e3 kLe kLt f g h) :=
  (pe_chain op_le (opr_lt (by omega)) ha hb hc hm).imp fun _ _ _ q => chain_step fit_le fit_lt pure_I ner_I q
theorem t_leLe {c : Expr} {h : FE} (hr : X.A.units + 64 < cLine) (ha : DE X W a f) (hb : DE X W b g) (hc : DE X W c h) (hm : lastMarks [CmpOp.LtE, CmpOp.LtE] [b, c] = false := by with_unfolding_all rfl) : DT X W (.Compare a [.LtE, .LtE] [b, c] pos) (tV (e3 kLe kLe f g h)) :=
  (pt_chain op_le op_le ha hb hc hm).imp fun _ _ _ q => chain_step fit_le fit_le pure_I ner_I (tV_step q)
theorem t_leLt {c : Expr} {h : FE} (hr : X.A.units + 64 < cLine) (ha : DE X W a f) (hb : DE X W b g) (hc : DE X W c h) (hm : lastMarks [CmpOp.LtE, CmpOp.Lt] [b, c] = false := by with_unfolding_all rfl) : DT X W (.Compare a [.LtE, .Lt] [b, c] pos) (tV (e3 kLe kLt f g h)) :=
  (pt_chain op_le (opr_lt (by omega)) ha hb hc hm).imp fun _ _ _ q => chain_step fit_le fit_lt pure_I ner_I (tV_step q)
end
end Qd

namespace Qd
open PySem L2

section
variable {X : Cx} {W : WX} {a b : Expr} {pos : Pos} {f g : FE}
/-! ### subscripts -/
def kIx (x y : D) (S : Sto) : R D := match x, y with
  | .str z, .int i => chk (decide (z.length ≤ line)) (match atI z.cps.toList i with
    | some c => .ok (.str ⟨#[c]⟩) S
    | none => .no)
  | x, .int i => (match seqOf S x with
    | some ds => (match atI ds i with
      | some d => .ok d S
      | none => .no)
    | none => .no)
  | _, _ => .no
theorem reps_atI {K : PySem.W.Frag} {B : Hp} {tb : Tb} {ds : List D} {vs : List V} {i : Int} {d : D} (r : reps K B tb ds vs) (e : atI ds i = some d) : ∃ v, atI vs i = some v ∧ rep K B tb d v := by
  unfold atI at e ⊢
  rw [reps_len r]
  cases q : ixN ds.length i with
  | none => rw [q] at e; cases e
  | some j => rw [q] at e; exact reps_get r e
theorem fit_ix {K : PySem.W.Frag} : Fit2 K (rIx K) kIx := by
  intro B tb W σ H S x y v u Q w rx ry q
  unfold kIx at q
  split at q
  · obtain ⟨c, q⟩ := chk_ok q
    simp only [rep] at rx ry; subst rx ry
    split at q
    · rename_i ch e
      exact .inr (.inr ⟨_, _, ch, rfl, rfl, by rw [line_eq]; exact of_decide_eq_true c, e, q.ok w _ rep_str⟩)
    · exact q.elim
  · split at q
    · rename_i ds e
      split at q
      · rename_i d ed
        obtain ⟨p, vs, rfl, h1, r1⟩ := seqOf_ok w e rx
        obtain ⟨z, e2, r2⟩ := reps_atI r1 ed
        simp only [rep] at ry; subst ry
        rcases h1 with h1 | h1
        · exact .inl ⟨p, vs, _, z, rfl, rfl, h1, e2, q.ok w _ r2⟩
        · exact .inr (.inl ⟨p, vs, _, z, rfl, rfl, h1, e2, q.ok w _ r2⟩)
      · exact q.elim
    · exact q.elim
  · exact q.elim
theorem d_ix (ha : DE X W a f) (hb : DE X W b g) (hs : PlainIx b) : DE X W (.Subscript a b pos) (e2 kIx f g) := (pe_ix ix_seq ha hb hs).imp fun _ _ _ h => fit2_step fit_ix h
abbrev FO := Rho → Sto → R (Option Int)
def LO (K : PySem.W.Frag) (W : WX) (f : FO) : TO := fun σ H Q => ∃ B tb ρ S, Wd K H B tb S ∧ repE K B tb ρ σ ∧ Post K B tb W σ (f ρ S) fun o _ B' tb' H' => Q o H'
def oNone : FO := fun _ S => .ok none S
def oSome (f : FE) : FO := fun ρ S => (f ρ S).bind fun d S => match d with
  | .int i => .ok (some i) S
  | _ => .no
theorem _root_.L2.PO.imp {e : Option Expr} {t t' : TO} (h : PO X e t) (i : ∀ σ H Q, t' σ H Q → t σ H Q) : PO X e t' := ⟨fun pins s σ H Q I q => h.run pins s σ H Q I (i σ H Q q)⟩
theorem do_none : PO X none (LO X.K W oNone) := po_none.imp fun σ H Q ⟨B, tb, ρ, S, w, e, q⟩ => q.ok w
theorem do_some (ha : DE X W a f) : PO X (some a) (LO X.K W (oSome f)) := (po_some ha).imp fun σ H Q ⟨B, tb, ρ, S, w, e, q⟩ =>
  LE.step w e q fun d S1 B1 tb1 H1 v x1 w1 e1 r1 h1 => by
    cases d with
    | int i => simp only [rep] at r1; subst r1; exact ⟨i, rfl, h1.ok w1⟩
    | _ => exact h1.elim
theorem LO.step {K : PySem.W.Frag} {H B : Hp} {tb : Tb} {σ : L2.St} {ρ : Rho} {S : Sto} {β : Type} {f : FO} {g : Option Int → Sto → R β} {k : β → Sto → Hp → Tb → Hp → Prop} (w : Wd K H B tb S) (e : repE K B tb ρ σ) (h : Post K B tb W σ ((f ρ S).bind g) k) {Q : Option Int → Hp → Prop}
    (hq : ∀ d S1 B1 tb1 H1, Ex B tb B1 tb1 → Wd K H1 B1 tb1 S1 → repE K B1 tb1 ρ σ → Post K B1 tb1 W σ (g d S1) k → Q d H1) : LO K W f σ H Q := by
  refine ⟨B, tb, ρ, S, w, e, ?_⟩
  cases q : f ρ S with
  | ok d S1 => rw [q] at h; exact fun B1 tb1 H1 e1 w1 => hq d S1 B1 tb1 H1 e1 w1 (e.ex e1) (h.mono e1)
  | er C ns vs S1 => rw [q] at h; exact h
  | no => rw [q] at h; exact h
def cutD (xs : List D) (lo hi : Option Int) : List D := (xs.drop (HT.sIx xs.length 0 lo)).take (HT.sIx xs.length xs.length hi - HT.sIx xs.length 0 lo)
def kSl (x : D) (lo hi : Option Int) (S : Sto) : R D := match x with
  | .tup ds => .ok (.tup (cutD ds lo hi)) S
  | .scr ds => .ok (.lst (cutD ds lo hi)) S
  | x => match lstOf S x with
    | some ds => .ok (.lst (cutD ds lo hi)) S
    | none => .no
def eSl (f : FE) (lo hi : FO) : FE := fun ρ S => (f ρ S).bind fun x S => (lo ρ S).bind fun l S => (hi ρ S).bind fun h S => kSl x l h S
theorem reps_cut {K : PySem.W.Frag} {B : Hp} {tb : Tb} {ds : List D} {vs : List V} (r : reps K B tb ds vs) (lo hi : Option Int) : reps K B tb (cutD ds lo hi) (cutV vs lo hi) := by
  unfold cutD cutV
  rw [reps_len r]
  exact reps_take _ (reps_drop _ r)
theorem d_sl {lo hi : Option Expr} {p2 : Pos} {fl fh : FO} (ha : DE X W a f) (hl : PO X lo (LO X.K W fl)) (hh : PO X hi (LO X.K W fh)) : DE X W (.Subscript a (.Slice lo hi none p2) pos) (eSl f fl fh) :=
  (pe_slice (SlR.or sl_list sl_tupA) ha hl hh).imp fun σ H Q ⟨B, tb, ρ, S, w, e, q⟩ => by
    refine LE.step w e q fun d S1 B1 tb1 H1 v x1 w1 e1 r1 h1 => ?_
    refine LO.step w1 e1 h1 fun l S2 B2 tb2 H2 x2 w2 e2 h2 => ?_
    refine LO.step w2 e2 h2 fun h S3 B3 tb3 H3 x3 w3 e3 h3 => ?_
    have r3 := rep_ex (x2.trans x3) _ _ r1
    have lists : ∀ {ds : List D} {p : Addr} {vs : List V}, SqL X.K H3 p vs → reps X.K B3 tb3 ds vs → v = .ref p → Post X.K B3 tb3 W σ (.ok (.lst (cutD ds l h)) S3) (fun d _ B' tb' H' => ∀ z, rep X.K B' tb' d z → Q z H') → rSlL X.K v l h H3 Q := by
      intro ds p vs q1 q2 q3 q4
      refine ⟨p, vs, q3, q1, fun pn hp => ?_⟩
      obtain ⟨B', e', w', r'⟩ := new_lst w3 (reps_cut q2 l h) hp
      exact q4 B' tb3 _ e' w' _ r'
    unfold kSl at h3
    split at h3
    · rename_i ds
      simp only [rep] at r3
      obtain ⟨p, vs, rfl, q1, q2⟩ := r3
      refine .inr ⟨p, vs, rfl, SqT.ex w3.sub q1, fun hc => ?_, fun _ pn hp => ?_⟩
      · refine h3.ok w3 _ ?_
        have l2 := reps_len q2
        have eq : cutD ds l h = ds := by
          unfold cutD
          rw [← l2, hc.1, hc.2, List.drop_zero, Nat.sub_zero, l2, List.take_length]
        rw [eq]
        simp only [rep]
        exact ⟨p, vs, rfl, q1, q2⟩
      · obtain ⟨B', e', w', r'⟩ := new_tup w3 (reps_cut q2 l h) hp
        exact h3 B' tb3 _ e' w' _ r'
    · rename_i ds
      simp only [rep] at r3
      obtain ⟨p, vs, rfl, q1, q2⟩ := r3
      exact .inl (lists (SqL.ex w3.sub q1) q2 rfl h3)
    · split at h3
      · rename_i ds e'
        obtain ⟨p, vs, rfl, q1, q2⟩ := lstOf_ok w3 e' r3
        exact .inl (lists (SqL.of q1) q2 rfl h3)
      · exact h3.elim

/-! ### arguments, displays -/
def aNil : FA := fun _ S => .ok [] S
def aCons (f : FE) (fa : FA) : FA := fun ρ S => (f ρ S).bind fun x S => (fa ρ S).bind fun xs S => .ok (x :: xs) S
theorem da_nil : DA X W [] aNil := pa_nil.imp fun σ H Q ⟨B, tb, ρ, S, w, e, q⟩ => q.ok w _ reps_nil
theorem da_cons {es : List Expr} {fa : FA} (ha : DE X W a f) (hr : DA X W es fa) (hs : starEach (a :: es) X.env = (false, eval a X.env) :: starEach es X.env := by rfl) : DA X W (a :: es) (aCons f fa) :=
  (pa_cons ha hr hs).imp fun σ H Q ⟨B, tb, ρ, S, w, e, q⟩ =>
    LE.step w e q fun d S1 B1 tb1 H1 v x1 w1 e1 r1 h1 => LA.step w1 e1 h1 fun ds S2 B2 tb2 H2 vs x2 w2 e2 r2 h2 => h2.ok w2 _ (reps_cons (rep_ex x2 _ _ r1) r2)
def eTup (fa : FA) : FE := fun ρ S => (fa ρ S).bind fun ds S => chk (decide (ds.length ≤ line)) (.ok (.tup ds) S)
def eLst (fa : FA) : FE := fun ρ S => (fa ρ S).bind fun ds S => chk (decide (ds.length ≤ line)) (.ok (.lst ds) S)
/-- a list that will change -/
def eLstM (fa : FA) : FE := fun ρ S => (fa ρ S).bind fun ds S => chk (decide (ds.length ≤ line)) (.ok (.obj S.next) (S.push (.lst ds)))
theorem d_tup {es : List Expr} {fa : FA} {k : Nat} (ha : DA X W es fa) : DE X W (.Tuple es k pos) (eTup fa) := (pe_tup ha).imp fun σ H Q ⟨B, tb, ρ, S, w, e, q⟩ =>
  LA.step w e q fun ds S1 B1 tb1 H1 vs x1 w1 e1 r1 h1 => by
    obtain ⟨c, h1⟩ := chk_ok h1
    refine ⟨by rw [reps_len r1, line_eq]; exact of_decide_eq_true c, fun p hp => ?_⟩
    obtain ⟨B', e', w', r'⟩ := new_tup w1 r1 hp
    exact h1 B' tb1 _ e' w' _ r'
theorem d_lst {es : List Expr} {fa : FA} (ha : DA X W es fa) : DE X W (.List es pos) (eLst fa) := (pe_lst ha).imp fun σ H Q ⟨B, tb, ρ, S, w, e, q⟩ =>
  LA.step w e q fun ds S1 B1 tb1 H1 vs x1 w1 e1 r1 h1 => by
    obtain ⟨c, h1⟩ := chk_ok h1
    refine ⟨by rw [reps_len r1, line_eq]; exact of_decide_eq_true c, fun p hp => ?_⟩
    obtain ⟨B', e', w', r'⟩ := new_lst w1 r1 hp
    exact h1 B' tb1 _ e' w' _ r'
theorem d_lstM {es : List Expr} {fa : FA} (ha : DA X W es fa) : DE X W (.List es pos) (eLstM fa) := (pe_lst ha).imp fun σ H Q ⟨B, tb, ρ, S, w, e, q⟩ =>
  LA.step w e q fun ds S1 B1 tb1 H1 vs x1 w1 e1 r1 h1 => by
    obtain ⟨c, h1⟩ := chk_ok h1
    refine ⟨by rw [reps_len r1, line_eq]; exact of_decide_eq_true c, fun p hp => ?_⟩
    obtain ⟨tb', e', w', r'⟩ := new_obj w1 r1 hp
    exact h1 B1 tb' _ e' w' _ r'
/-- from here on it changes no more -/
def fz (f : FE) : FE := fun ρ S => (f ρ S).bind fun d S => match d with
  | .obj k => (match S.m[k]? with
    | some (some o) => .ok o (S.drop k)
    | _ => .no)
  | d => .ok d S
theorem d_fz (ha : DE X W a f) : DE X W a (fz f) := ha.imp fun σ H Q ⟨B, tb, ρ, S, w, e, q⟩ =>
  LE.step w e q fun d S1 B1 tb1 H1 v x1 w1 e1 r1 h1 => by
    split at h1
    · rename_i k
      split at h1
      · rename_i o ho
        simp only [rep] at r1
        obtain ⟨p, rfl, hp⟩ := r1
        obtain ⟨p', q1, q2, q3⟩ := w1.at_ k _ ho
        rw [hp] at q1; cases q1
        cases o with
        | lst ds =>
          obtain ⟨vs, z1, z2⟩ := q3
          obtain ⟨w2, x2⟩ := w1.drop ho hp z1
          exact h1 _ _ _ x2 w2 _ (by simp only [rep]; exact ⟨p, vs, rfl, upd_same, reps_ex x2 _ _ z2⟩)
        | dk ks ds =>
          obtain ⟨vs, z1, z3, z2⟩ := q3
          obtain ⟨w2, x2⟩ := w1.drop ho hp z1
          exact h1 _ _ _ x2 w2 _ (by simp only [rep]; exact ⟨p, vs, rfl, upd_same, z3, reps_ex x2 _ _ z2⟩)
        | dt ks ds =>
          obtain ⟨vs, z1, z3, z2⟩ := q3
          obtain ⟨w2, x2⟩ := w1.drop ho hp z1
          exact h1 _ _ _ x2 w2 _ (by simp only [rep]; exact ⟨p, vs, rfl, upd_same, z3, reps_ex x2 _ _ z2⟩)
        | ins C ns ds =>
          obtain ⟨dx, vs, z1, z3, z2⟩ := q3
          obtain ⟨w2, x2⟩ := w1.drop ho hp z1
          exact h1 _ _ _ x2 w2 _ (by simp only [rep]; exact ⟨p, dx, vs, rfl, upd_same, z3, reps_ex x2 _ _ z2⟩)
        | _ => exact q3.elim
      · exact h1.elim
    · exact h1.ok w1 _ r1

/-! ### and, or, not, if -/
def tAnd2 (t u : FT) : FT := fun ρ S => (t ρ S).bind fun b S => if b = true then u ρ S else .ok false S
def tOr2 (t u : FT) : FT := fun ρ S => (t ρ S).bind fun b S => if b = true then .ok true S else u ρ S
def tNot1 (t : FT) : FT := fun ρ S => (t ρ S).bind fun b S => .ok (!b) S
abbrev DW (X : Cx) (W : WX) (e : Expr) (f : FT) : Prop := PW X e (LT X.K W f)
theorem _root_.L2.PW.imp {e : Expr} {t t' : TT} (h : PW X e t) (i : ∀ σ H Q, t' σ H Q → t σ H Q) : PW X e t' := ⟨fun wh pins s σ H Q I q => h.run wh pins s σ H Q I (i σ H Q q)⟩
variable {t u : FT} {rest : List Expr}
theorem LT.last {K : PySem.W.Frag} {H B : Hp} {tb : Tb} {σ : L2.St} {ρ : Rho} {S : Sto} {f : FT} {Q : Bool → Hp → Prop} (w : Wd K H B tb S) (e : repE K B tb ρ σ) (h : Post K B tb W σ (f ρ S) fun d _ B' tb' H' => Q d H') : LT K W f σ H Q := ⟨B, tb, ρ, S, w, e, h⟩
theorem dw_and1 (ha : DT X W a t) : DW X W (.BoolOp .And [a] pos) t := pw_and1 ha
theorem dw_or1 (ha : DT X W a t) : DW X W (.BoolOp .Or [a] pos) t := pw_or1 ha
theorem dw_and (ha : DT X W a t) (hb : DW X W (.BoolOp .And (b :: rest) pos) u) : DW X W (.BoolOp .And (a :: b :: rest) pos) (tAnd2 t u) := (pw_and ha hb).imp fun σ H Q ⟨B, tb, ρ, S, w, e, q⟩ =>
  LT.step w e q fun c S1 B1 tb1 H1 x1 w1 e1 h1 => by
    cases c with
    | true => rw [if_pos rfl] at h1 ⊢; exact LT.last w1 e1 h1
    | false => rw [if_neg (by decide)] at h1 ⊢; exact h1.ok w1
theorem dw_or (ha : DT X W a t) (hb : DW X W (.BoolOp .Or (b :: rest) pos) u) : DW X W (.BoolOp .Or (a :: b :: rest) pos) (tOr2 t u) := (pw_or ha hb).imp fun σ H Q ⟨B, tb, ρ, S, w, e, q⟩ =>
  LT.step w e q fun c S1 B1 tb1 H1 x1 w1 e1 h1 => by
    cases c with
    | true => rw [if_pos rfl] at h1 ⊢; exact h1.ok w1
    | false => rw [if_neg (by decide)] at h1 ⊢; exact LT.last w1 e1 h1
theorem t_w {e : Expr} (h : DW X W e t) : DT X W e t := PW.pt h
theorem t_not (ha : DT X W a t) : DT X W (.UnaryOp .Not a pos) (tNot1 t) := (pt_not ha).imp fun σ H Q ⟨B, tb, ρ, S, w, e, q⟩ => LT.step w e q fun c S1 B1 tb1 H1 x1 w1 e1 h1 => h1.ok w1
/-- .. as values: bools -/
def bAnd (f g : FE) : FE := fun ρ S => (f ρ S).bind fun d S => match d with
  | .bl b => if b = true then g ρ S else .ok (.bl false) S
  | _ => .no
def bOr (f g : FE) : FE := fun ρ S => (f ρ S).bind fun d S => match d with
  | .bl b => if b = true then .ok (.bl true) S else g ρ S
  | _ => .no
def bNot (f : FE) : FE := fun ρ S => (f ρ S).bind fun d S => match d with
  | .bl b => .ok (.bl (!b)) S
  | _ => .no
theorem d_one {op : BoolOp} (ha : DE X W a f) : DE X W (.BoolOp op [a] pos) f := pe_one ha
theorem d_and (ha : DE X W a f) (hb : DE X W (.BoolOp .And (b :: rest) pos) g) : DE X W (.BoolOp .And (a :: b :: rest) pos) (bAnd f g) := (pe_and ha hb).imp fun σ H Q ⟨B, tb, ρ, S, w, e, q⟩ =>
  LE.step w e q fun d S1 B1 tb1 H1 v x1 w1 e1 r1 h1 => by
    cases d with
    | bl c =>
      simp only [rep] at r1; subst r1
      refine ⟨c, rfl, ?_⟩
      cases c with
      | true => rw [if_pos rfl]; exact LE.last w1 e1 h1
      | false => rw [if_neg (by decide)]; exact Post.ok (k := fun d _ B' tb' H' => ∀ v, rep X.K B' tb' d v → Q v H') h1 w1 _ rep_bl
    | _ => exact h1.elim
theorem d_or (ha : DE X W a f) (hb : DE X W (.BoolOp .Or (b :: rest) pos) g) : DE X W (.BoolOp .Or (a :: b :: rest) pos) (bOr f g) := (pe_or ha hb).imp fun σ H Q ⟨B, tb, ρ, S, w, e, q⟩ =>
  LE.step w e q fun d S1 B1 tb1 H1 v x1 w1 e1 r1 h1 => by
    cases d with
    | bl c =>
      simp only [rep] at r1; subst r1
      refine ⟨c, rfl, ?_⟩
      cases c with
      | false => rw [if_neg (by decide)]; exact LE.last w1 e1 h1
      | true => rw [if_pos rfl]; exact Post.ok (k := fun d _ B' tb' H' => ∀ v, rep X.K B' tb' d v → Q v H') h1 w1 _ rep_bl
    | _ => exact h1.elim
theorem d_not (ha : DE X W a f) : DE X W (.UnaryOp .Not a pos) (bNot f) := (pe_not ha).imp fun σ H Q ⟨B, tb, ρ, S, w, e, q⟩ =>
  LE.step w e q fun d S1 B1 tb1 H1 v x1 w1 e1 r1 h1 => by
    cases d with
    | bl c => simp only [rep] at r1; subst r1; exact ⟨c, rfl, h1.ok w1 _ rep_bl⟩
    | _ => exact h1.elim
def eIf (t : FT) (f g : FE) : FE := fun ρ S => (t ρ S).bind fun b S => if b = true then f ρ S else g ρ S
theorem d_if {c : Expr} (hc : DT X W c t) (ha : DE X W a f) (hb : DE X W b g) : DE X W (.IfExp c a b pos) (eIf t f g) := (pe_ifExp hc ha hb).imp fun σ H Q ⟨B, tb, ρ, S, w, e, q⟩ =>
  LT.step w e q fun c S1 B1 tb1 H1 x1 w1 e1 h1 => by
    cases c with
    | true => rw [if_pos rfl] at h1 ⊢; exact LE.last w1 e1 h1
    | false => rw [if_neg (by decide)] at h1 ⊢; exact LE.last w1 e1 h1
/-- is None -/
def isNon : D → Bool
  | .non => true
  | _ => false
theorem rep_isNon {K : PySem.W.Frag} {B : Hp} {tb : Tb} {d : D} {v : V} (r : rep K B tb d v) : decide (v = .non) = isNon d := by
  cases d <;> simp only [rep] at r
  all_goals first
    | (subst r; rfl)
    | (obtain ⟨_, rfl, _⟩ := r; rfl)
    | (obtain ⟨_, _, rfl, _⟩ := r; rfl)
    | (obtain ⟨_, _, _, rfl, _⟩ := r; rfl)
def eIsN (f : FE) : FE := fun ρ S => (f ρ S).bind fun d S => .ok (.bl (isNon d)) S
def eNotN (f : FE) : FE := fun ρ S => (f ρ S).bind fun d S => .ok (.bl (!isNon d)) S
theorem isN_step {σ : L2.St} {H : Hp} {Q : VK} (h : LE X.K W (eIsN f) σ H Q) : tIsN (LE X.K W f) σ H Q := by
  obtain ⟨B, tb, ρ, S, w, e, q⟩ := h
  exact LE.step w e q fun d S1 B1 tb1 H1 v x1 w1 e1 r1 h1 => h1.ok w1 _ (by rw [rep_isNon r1]; exact rep_bl)
theorem notN_step {σ : L2.St} {H : Hp} {Q : VK} (h : LE X.K W (eNotN f) σ H Q) : tNotN (LE X.K W f) σ H Q := by
  obtain ⟨B, tb, ρ, S, w, e, q⟩ := h
  exact LE.step w e q fun d S1 B1 tb1 H1 v x1 w1 e1 r1 h1 => h1.ok w1 _ (by rw [rep_isNon r1]; exact rep_bl)
theorem d_isN {j : Nat} {p : Pos} (ha : DE X W a f) : DE X W (.Compare a [.Is] [.Constant .none j p] pos) (eIsN f) := (pe_cmp (pc_isN ha)).imp fun _ _ _ h => isN_step h
theorem d_notN {j : Nat} {p : Pos} (ha : DE X W a f) : DE X W (.Compare a [.IsNot] [.Constant .none j p] pos) (eNotN f) := (pe_cmp (pc_notN ha)).imp fun _ _ _ h => notN_step h
theorem t_isN {j : Nat} {p : Pos} (ha : DE X W a f) : DT X W (.Compare a [.Is] [.Constant .none j p] pos) (tV (eIsN f)) := (pt_cmp (pc_isN ha)).imp fun _ _ _ h => isN_step (tV_step h)
theorem t_notN {j : Nat} {p : Pos} (ha : DE X W a f) : DT X W (.Compare a [.IsNot] [.Constant .none j p] pos) (tV (eNotN f)) := (pt_cmp (pc_notN ha)).imp fun _ _ _ h => notN_step (tV_step h)
end
end Qd

namespace Qd
open PySem L2

/-! ### built-ins by their names -/
def FitC (K : PySem.W.Frag) (r : List V → Hp → VK → Prop) (k : List D → Sto → R D) : Prop := ∀ (B : Hp) (tb : Tb) (W : WX) (σ : L2.St) (H : Hp) (S : Sto) (ds : List D) (vs : List V) (Q : VK), Wd K H B tb S → reps K B tb ds vs →
  Post K B tb W σ (k ds S) (fun d _ B' tb' H' => ∀ z, rep K B' tb' d z → Q z H') → r vs H Q
def eCall (k : List D → Sto → R D) (fa : FA) : FE := fun ρ S => (fa ρ S).bind fun ds S => k ds S
theorem fitC_step {K : PySem.W.Frag} {W : WX} {r : List V → Hp → VK → Prop} {k : List D → Sto → R D} (ft : FitC K r k) {fa : FA} {σ : L2.St} {H : Hp} {Q : VK} (h : LE K W (eCall k fa) σ H Q) : tCB r (LA K W fa) σ H Q := by
  obtain ⟨B, tb, ρ, S, w, e, q⟩ := h
  exact LA.step w e q fun ds S1 B1 tb1 H1 vs x1 w1 e1 r1 h1 => ft B1 tb1 W σ H1 S1 ds vs Q w1 r1 h1
/-- one argument -/
def k1 (k : D → Sto → R D) (ds : List D) (S : Sto) : R D := match ds with
  | [d] => k d S
  | _ => .no
def k2 (k : D → D → Sto → R D) (ds : List D) (S : Sto) : R D := match ds with
  | [d, e] => k d e S
  | _ => .no
theorem fit_k1 {K : PySem.W.Frag} {r : List V → Hp → VK → Prop} {k : D → Sto → R D} (h : ∀ (B : Hp) (tb : Tb) (W : WX) (σ : L2.St) (H : Hp) (S : Sto) (d : D) (v : V) (Q : VK), Wd K H B tb S → rep K B tb d v →
    Post K B tb W σ (k d S) (fun d _ B' tb' H' => ∀ z, rep K B' tb' d z → Q z H') → r [v] H Q) : FitC K r (k1 k) := by
  intro B tb W σ H S ds vs Q w rs q
  unfold k1 at q
  split at q
  · simp only [reps] at rs
    obtain ⟨v, t, rfl, r1, rfl⟩ := rs
    exact h B tb W σ H S _ v Q w r1 q
  · exact q.elim
theorem fit_k2 {K : PySem.W.Frag} {r : List V → Hp → VK → Prop} {k : D → D → Sto → R D} (h : ∀ (B : Hp) (tb : Tb) (W : WX) (σ : L2.St) (H : Hp) (S : Sto) (d e : D) (v u : V) (Q : VK), Wd K H B tb S → rep K B tb d v → rep K B tb e u →
    Post K B tb W σ (k d e S) (fun d _ B' tb' H' => ∀ z, rep K B' tb' d z → Q z H') → r [v, u] H Q) : FitC K r (k2 k) := by
  intro B tb W σ H S ds vs Q w rs q
  unfold k2 at q
  split at q
  · simp only [reps] at rs
    obtain ⟨v, t, rfl, r1, u, t', rfl, r2, rfl⟩ := rs
    exact h B tb W σ H S _ _ v u Q w r1 r2 q
  · exact q.elim
def kLen : List D → Sto → R D := k1 fun d S => match d with
  | .str z => chk (decide (z.length ≤ line)) (.ok (.int z.length) S)
  | d => match seqOf S d with
    | some ds => .ok (.int ds.length) S
    | none => .no
theorem fit_len {K : PySem.W.Frag} : FitC K (fun xs H Q => ∃ x n, xs = [x] ∧ LenV K x H n ∧ Q (.int n) H) kLen := fit_k1 fun B tb W σ H S d v Q w r q => by
  split at q
  · obtain ⟨c, q⟩ := chk_ok q
    simp only [rep] at r; subst r
    exact ⟨_, _, rfl, ⟨by rw [line_eq]; exact of_decide_eq_true c, rfl⟩, q.ok w _ rep_int⟩
  · split at q
    · rename_i ds e
      obtain ⟨p, vs, rfl, h1, r1⟩ := seqOf_ok w e r
      refine ⟨_, vs.length, rfl, ?_, q.ok w _ (by rw [reps_len r1]; exact rep_int)⟩
      exact h1.elim (fun h => .inl ⟨vs, h, rfl⟩) fun h => .inr ⟨vs, h, rfl⟩
    · exact q.elim
/-- a list to be read (the script too) -/
def lsOf (S : Sto) : D → Option (List D)
  | .scr ds => some ds
  | d => lstOf S d
theorem lsOf_ok {K : PySem.W.Frag} {H B : Hp} {tb : Tb} {S : Sto} (w : Wd K H B tb S) {d : D} {ds : List D} {v : V} (e : lsOf S d = some ds) (r : rep K B tb d v) : ∃ a vs, v = .ref a ∧ SqL K H a vs ∧ reps K B tb ds vs := by
  cases d with
  | scr es =>
    cases e
    simp only [rep] at r
    obtain ⟨a, vs, rfl, h1, h2⟩ := r
    exact ⟨a, vs, rfl, SqL.ex w.sub h1, h2⟩
  | lst es =>
    obtain ⟨a, vs, h1, h2, h3⟩ := lstOf_ok w (d := .lst es) e r
    exact ⟨a, vs, h1, SqL.of h2, h3⟩
  | obj k =>
    obtain ⟨a, vs, h1, h2, h3⟩ := lstOf_ok w (d := .obj k) e r
    exact ⟨a, vs, h1, SqL.of h2, h3⟩
  | _ => cases e
def kSum : List D → Sto → R D := k1 fun d S => match (lsOf S d).bind intsD with
  | some ns => .ok (.int ns.sum) S
  | none => .no
theorem fit_sum {K : PySem.W.Frag} : FitC K (rSum K) kSum := fit_k1 fun B tb W σ H S d v Q w r q => by
  split at q
  · rename_i ns e
    cases z : lsOf S d with
    | none => rw [z] at e; cases e
    | some ds =>
      rw [z] at e
      obtain ⟨p, vs, rfl, h1, r1⟩ := lsOf_ok w z r
      have := intsD_ok r1 e
      subst this
      exact ⟨p, ns, rfl, h1, q.ok w _ rep_int⟩
  · exact q.elim
def blsD : List D → Option (List Bool)
  | [] => some []
  | .bl i :: r => (blsD r).map (i :: ·)
  | _ => none
theorem blsD_ok {K : PySem.W.Frag} {B : Hp} {tb : Tb} : ∀ {ds : List D} {vs : List V} {ns : List Bool}, reps K B tb ds vs → blsD ds = some ns → vs = ns.map V.bl
  | [], vs, ns, r, e => by
    simp only [reps] at r; subst r
    simp only [blsD, Option.some.injEq] at e; subst e; rfl
  | d :: ds, vs, ns, r, e => by
    simp only [reps] at r
    obtain ⟨v, t, rfl, h1, h2⟩ := r
    cases d with
    | bl i =>
      simp only [blsD] at e
      cases q : blsD ds with
      | none => rw [q] at e; cases e
      | some ms =>
        rw [q] at e; cases e
        simp only [rep] at h1; subst h1
        rw [blsD_ok h2 q]; rfl
    | _ => simp only [blsD] at e; cases e
def kAll : List D → Sto → R D := k1 fun d S => match (lsOf S d).bind blsD with
  | some bs => .ok (.bl (bs.all id)) S
  | none => .no
def kAny : List D → Sto → R D := k1 fun d S => match (lsOf S d).bind blsD with
  | some bs => .ok (.bl (bs.any id)) S
  | none => .no
theorem fit_all {K : PySem.W.Frag} : FitC K (rAll K) kAll := fit_k1 fun B tb W σ H S d v Q w r q => by
  split at q
  · rename_i ns e
    cases z : lsOf S d with
    | none => rw [z] at e; cases e
    | some ds =>
      rw [z] at e
      obtain ⟨p, vs, rfl, h1, r1⟩ := lsOf_ok w z r
      have := blsD_ok r1 e
      subst this
      exact ⟨p, ns, rfl, h1, q.ok w _ rep_bl⟩
  · exact q.elim
theorem fit_any {K : PySem.W.Frag} : FitC K (rAny K) kAny := fit_k1 fun B tb W σ H S d v Q w r q => by
  split at q
  · rename_i ns e
    cases z : lsOf S d with
    | none => rw [z] at e; cases e
    | some ds =>
      rw [z] at e
      obtain ⟨p, vs, rfl, h1, r1⟩ := lsOf_ok w z r
      have := blsD_ok r1 e
      subst this
      exact ⟨p, ns, rfl, h1, q.ok w _ rep_bl⟩
  · exact q.elim
def kMin2 : List D → Sto → R D := k2 (kI yes2 fun i j => .int (if j < i then j else i))
def kMax2 : List D → Sto → R D := k2 (kI yes2 fun i j => .int (if j > i then j else i))
theorem fit_min2 {K : PySem.W.Frag} : FitC K (fun xs H Q => ∃ i j, xs = [.int i, .int j] ∧ Q (.int (if j < i then j else i)) H) kMin2 := fit_k2 fun B tb W σ H S d e v u Q w r1 r2 q => by
  unfold kI at q
  split at q
  · obtain ⟨c, q⟩ := chk_ok q
    simp only [rep] at r1 r2; subst r1 r2
    exact ⟨_, _, rfl, q.ok w _ rep_int⟩
  · exact q.elim
theorem fit_max2 {K : PySem.W.Frag} : FitC K (fun xs H Q => ∃ i j, xs = [.int i, .int j] ∧ Q (.int (if j > i then j else i)) H) kMax2 := fit_k2 fun B tb W σ H S d e v u Q w r1 r2 q => by
  unfold kI at q
  split at q
  · obtain ⟨c, q⟩ := chk_ok q
    simp only [rep] at r1 r2; subst r1 r2
    exact ⟨_, _, rfl, q.ok w _ rep_int⟩
  · exact q.elim
def kAbs : List D → Sto → R D := k1 fun d S => match d with
  | .int i => .ok (.int (if i < 0 then -i else i)) S
  | _ => .no
theorem fit_abs {K : PySem.W.Frag} : FitC K (fun xs H Q => ∃ i, xs = [.int i] ∧ Q (.int (if i < 0 then -i else i)) H) kAbs := fit_k1 fun B tb W σ H S d v Q w r q => by
  cases d with
  | int i => simp only [rep] at r; subst r; exact ⟨i, rfl, Post.ok (k := fun d _ B' tb' H' => ∀ z, rep K B' tb' d z → Q z H') q w _ rep_int⟩
  | _ => exact q.elim
def kInt : List D → Sto → R D := k1 fun d S => match d with
  | .int i => .ok (.int i) S
  | .bl b => .ok (.int (if b then 1 else 0)) S
  | _ => .no
theorem fit_int {K : PySem.W.Frag} : FitC K (fun xs H Q => (∃ i, xs = [.int i] ∧ Q (.int i) H) ∨ ∃ k, xs = [.bl k] ∧ Q (.int (if k then 1 else 0)) H) kInt := fit_k1 fun B tb W σ H S d v Q w r q => by
  cases d with
  | int i => simp only [rep] at r; subst r; exact .inl ⟨i, rfl, Post.ok (k := fun d _ B' tb' H' => ∀ z, rep K B' tb' d z → Q z H') q w _ rep_int⟩
  | bl i => simp only [rep] at r; subst r; exact .inr ⟨i, rfl, Post.ok (k := fun d _ B' tb' H' => ∀ z, rep K B' tb' d z → Q z H') q w _ rep_int⟩
  | _ => exact q.elim
def kTuple : List D → Sto → R D := k1 fun d S => match d with
  | .tup ds => .ok (.tup ds) S
  | d => match lsOf S d with
    | some ds => .ok (.tup ds) S
    | none => .no
theorem fit_tuple {K : PySem.W.Frag} : FitC K (fun xs H Q => ∃ p ys, xs = [.ref p] ∧ ((SqL K H p ys ∧ ∀ l, H l = none → Q (.ref l) (upd H l (.tup ys))) ∨ (SqT K H p ys ∧ Q (.ref p) H))) kTuple := fit_k1 fun B tb W σ H S d v Q w r q => by
  split at q
  · rename_i ds
    have r0 := r
    simp only [rep] at r
    obtain ⟨a, vs, rfl, h1, h2⟩ := r
    exact ⟨a, vs, rfl, .inr ⟨SqT.ex w.sub h1, q.ok w _ r0⟩⟩
  · split at q
    · rename_i ds e
      obtain ⟨p, vs, rfl, h1, r1⟩ := lsOf_ok w e r
      refine ⟨p, vs, rfl, .inl ⟨h1, fun l hl => ?_⟩⟩
      obtain ⟨B', e', w', r'⟩ := new_tup w r1 hl
      exact q B' tb _ e' w' _ r'
    · exact q.elim
def kList : List D → Sto → R D := k1 fun d S => match seqOf S d with
  | some ds => .ok (.lst ds) S
  | none => .no
/-- a list that will change -/
def kListM : List D → Sto → R D := k1 fun d S => match seqOf S d with
  | some ds => .ok (.obj S.next) (S.push (.lst ds))
  | none => .no
theorem fit_list {K : PySem.W.Frag} : FitC K (fun xs H Q => ∃ p ys, xs = [.ref p] ∧ (SqL K H p ys ∨ SqT K H p ys) ∧ ∀ l, H l = none → Q (.ref l) (upd H l (.lst ys))) kList := fit_k1 fun B tb W σ H S d v Q w r q => by
  split at q
  · rename_i ds e
    obtain ⟨p, vs, rfl, h1, r1⟩ := seqOf_ok w e r
    refine ⟨p, vs, rfl, h1, fun l hl => ?_⟩
    obtain ⟨B', e', w', r'⟩ := new_lst w r1 hl
    exact q B' tb _ e' w' _ r'
  · exact q.elim
theorem fit_listM {K : PySem.W.Frag} : FitC K (fun xs H Q => ∃ p ys, xs = [.ref p] ∧ (SqL K H p ys ∨ SqT K H p ys) ∧ ∀ l, H l = none → Q (.ref l) (upd H l (.lst ys))) kListM := fit_k1 fun B tb W σ H S d v Q w r q => by
  split at q
  · rename_i ds e
    obtain ⟨p, vs, rfl, h1, r1⟩ := seqOf_ok w e r
    refine ⟨p, vs, rfl, h1, fun l hl => ?_⟩
    obtain ⟨tb', e', w', r'⟩ := new_obj w r1 hl
    exact q B tb' _ e' w' _ r'
  · exact q.elim
section
variable {X : Cx} {W : WX} {x : Str} {es : List Expr} {e : Expr} {fa : FA} {pos p : Pos}
theorem d_callB {id : String} {r : List V → Hp → VK → Prop} {k : List D → Sto → R D} (hc : CallR X (.builtin id) r) (ft : FitC X.K r k) (hg : Gl X x) (hm : X.mg x = none) (hv : bootBuiltins x = some (.builtin id)) (ha : DA X W (e :: es) fa)
    (hn : x ≠ "__name__" := by decide) (hdb : (x == ("__debug__" : Str)) = false := by decide) (he : starEach (e :: es) X.env = (false, eval e X.env) :: starEach es X.env := by rfl) (hpl : (backTo pos (starEach es X.env)).any (·.1) = false := by rfl) :
    DE X W (.Call (.Name x p) (e :: es) [] pos) (eCall k fa) := (pe_callB hc hg hm hv ha hn hdb he hpl).imp fun _ _ _ h => fitC_step ft h
theorem d_callT {T : String} {r : List V → Hp → VK → Prop} {k : List D → Sto → R D} (hc : CallR X (.type T) r) (ft : FitC X.K r k) (hg : Gl X x) (hm : X.mg x = none) (hv : bootBuiltins x = some (.type T)) (ha : DA X W (e :: es) fa)
    (hn : x ≠ "__name__" := by decide) (hdb : (x == ("__debug__" : Str)) = false := by decide) (he : starEach (e :: es) X.env = (false, eval e X.env) :: starEach es X.env := by rfl) (hpl : (backTo pos (starEach es X.env)).any (·.1) = false := by rfl) :
    DE X W (.Call (.Name x p) (e :: es) [] pos) (eCall k fa) := (pe_callTy hc hg hm hv ha hn hdb he hpl).imp fun _ _ _ h => fitC_step ft h
/-- the name of a built-in class, as a value -/
theorem d_ty {T : String} (hg : Gl X x) (hm : X.mg x = none) (hv : bootBuiltins x = some (.type T)) (hn : x ≠ "__name__" := by decide) (hd : (x == ("__debug__" : Str)) = false := by decide) : DE X W (.Name x pos) (eC (.ty T)) :=
  d_c (pe_bltn (v := .ty T) hg hm hv rfl hn hd) fun _ _ => by simp only [rep]
end

/-! ### isinstance of built-in classes -/
def tyOf (S : Sto) : D → Option String
  | .non => some "NoneType"
  | .bl _ => some "bool"
  | .int _ => some "int"
  | .str _ => some "str"
  | .tup _ => some "tuple"
  | .lst _ => some "list"
  | .dk _ _ => some "dict"
  | .dt _ _ => some "dict"
  | .obj k => (match S.m[k]? with
    | some (some (.lst _)) => some "list"
    | some (some (.dk _ _)) => some "dict"
    | some (some (.dt _ _)) => some "dict"
    | _ => none)
  | _ => none
theorem tyOf_ok {K : PySem.W.Frag} {H B : Hp} {tb : Tb} {S : Sto} (w : Wd K H B tb S) {d : D} {v : V} {T : String} (e : tyOf S d = some T) (r : rep K B tb d v) : TyX K H v (.type T) := by
  cases d with
  | non => cases e; simp only [rep] at r; subst r; exact .base .non
  | bl b => cases e; simp only [rep] at r; subst r; exact .base (.bl b)
  | int i => cases e; simp only [rep] at r; subst r; exact .base (.int i)
  | str x => cases e; simp only [rep] at r; subst r; exact .base (.str x)
  | tup ds =>
    cases e; simp only [rep] at r
    obtain ⟨a, vs, rfl, h1, h2⟩ := r
    rcases SqT.ex w.sub h1 with (h | ⟨o, h⟩) | ⟨o, its, n, h, hc, _⟩
    · exact .base (.tup h)
    · exact .fTuple h
    · exact .kTuple h hc
  | lst ds =>
    cases e; simp only [rep] at r
    obtain ⟨a, vs, rfl, h1, h2⟩ := r
    exact .base (.lst (w.sub _ _ h1))
  | dk ks ds =>
    cases e; simp only [rep] at r
    obtain ⟨a, vs, rfl, h1, h2⟩ := r
    exact .base (.dK (w.sub _ _ h1))
  | dt ks ds =>
    cases e; simp only [rep] at r
    obtain ⟨a, vs, rfl, h1, h2⟩ := r
    exact .base (.dT (w.sub _ _ h1))
  | obj k =>
    simp only [rep] at r
    obtain ⟨a, rfl, ha⟩ := r
    simp only [tyOf] at e
    split at e
    · rename_i ds hk
      cases e
      obtain ⟨a', h1, _, vs, h3, h4⟩ := w.at_ k _ hk
      rw [ha] at h1; cases h1
      exact .base (.lst h3)
    · rename_i ks ds hk
      cases e
      obtain ⟨a', h1, _, vs, h3, h4⟩ := w.at_ k _ hk
      rw [ha] at h1; cases h1
      exact .base (.dK h3)
    · rename_i ks ds hk
      cases e
      obtain ⟨a', h1, _, vs, h3, h4⟩ := w.at_ k _ hk
      rw [ha] at h1; cases h1
      exact .base (.dT h3)
    · cases e
  | _ => cases e
def isaB (a b : String) : Bool := a == b || (a == "bool" && b == "int")
def tyOkB (a : String) : Bool := a == "NoneType" || a == "bool" || a == "int" || a == "str" || a == "tuple" || a == "list" || a == "dict"
theorem tyOf_in {S : Sto} {d : D} {T : String} (e : tyOf S d = some T) : T ∈ ["NoneType", "bool", "int", "str", "tuple", "list", "dict"] := by
  unfold tyOf at e
  split at e
  all_goals first
    | (cases e; decide)
    | skip
  split at e
  all_goals first
    | (cases e; decide)
    | cases e
theorem kit_isa {K : PySem.W.Frag} : ∀ a ∈ ["NoneType", "bool", "int", "str", "tuple", "list", "dict"], ∀ b ∈ ["bool", "int", "str", "tuple", "list", "dict"], PySem.W.kitOne K (.type a) (.type b) = some (isaB a b) := by
  have h : ∀ a ∈ ["NoneType", "bool", "int", "str", "tuple", "list", "dict"], ∀ b ∈ ["bool", "int", "str", "tuple", "list", "dict"], kitB a b = some (isaB a b) := by decide +kernel
  exact fun a ha b hb => kit_ty (h a ha b hb)
def tysD : List D → Option (List String)
  | [] => some []
  | .ty n :: r => (tysD r).map (n :: ·)
  | _ => none
def knownTy (b : String) : Bool := ["bool", "int", "str", "tuple", "list", "dict"].contains b
def kIsi : List D → Sto → R D := k2 fun d c S => match c, tyOf S d with
  | .ty T, some a => chk (knownTy T) (.ok (.bl (isaB a T)) S)
  | .tup cs, some a => (match tysD cs with
    | some Ts => chk (Ts.all knownTy) (.ok (.bl (Ts.any (isaB a))) S)
    | none => .no)
  | _, _ => .no
theorem tysD_ok {K : PySem.W.Frag} {B : Hp} {tb : Tb} : ∀ {ds : List D} {vs : List V} {Ts : List String}, reps K B tb ds vs → tysD ds = some Ts → Paired ClsV vs (Ts.map Value.type)
  | [], vs, ns, r, e => by
    simp only [reps] at r; subst r
    simp only [tysD, Option.some.injEq] at e; subst e; exact .nil
  | d :: ds, vs, ns, r, e => by
    simp only [reps] at r
    obtain ⟨v, t, rfl, h1, h2⟩ := r
    cases d with
    | ty i =>
      simp only [tysD] at e
      cases q : tysD ds with
      | none => rw [q] at e; cases e
      | some ms =>
        rw [q] at e; cases e
        simp only [rep] at h1; subst h1
        exact .cons (.ty i) (tysD_ok h2 q)
    | _ => simp only [tysD] at e; cases e
theorem kitAny_isa {K : PySem.W.Frag} {a : String} (ha : a ∈ ["NoneType", "bool", "int", "str", "tuple", "list", "dict"]) : ∀ {Ts : List String}, Ts.all knownTy = true → PySem.W.kitAny K (.type a) (Ts.map Value.type) = some (Ts.any (isaB a))
  | [], _ => kitAny_nil
  | T :: Ts, h => by
    simp only [List.all_cons, Bool.and_eq_true] at h
    have h1 := kit_isa (K := K) a ha T (by simpa [knownTy] using h.1)
    refine kitAny_cons h1 (fun e => ?_) fun e => by simp [e]
    rw [List.any_cons, e, Bool.false_or]
    exact kitAny_isa ha h.2
theorem fit_isi {K : PySem.W.Frag} : FitC K (fun xs H Q => rIsi K xs H Q ∨ rIsiT K xs H Q ∨ rIsiK K xs H Q) kIsi := fit_k2 fun B tb W σ H S d c v u Q w r1 r2 q => by
  split at q
  · rename_i T a ea
    obtain ⟨hc, q⟩ := chk_ok q
    simp only [rep] at r2; subst r2
    exact .inl ⟨v, _, _, _, _, rfl, .ty T, tyOf_ok w ea r1, kit_isa a (tyOf_in ea) T (by simpa [knownTy] using hc), q.ok w _ rep_bl⟩
  · rename_i cs a ea
    split at q
    · rename_i Ts eT
      obtain ⟨hc, q⟩ := chk_ok q
      simp only [rep] at r2
      obtain ⟨p, vs, rfl, h1, h2⟩ := r2
      exact .inr (.inl ⟨v, p, vs, _, _, _, rfl, w.sub _ _ h1, tysD_ok h2 eT, tyOf_ok w ea r1, kitAny_isa (tyOf_in ea) hc, q.ok w _ rep_bl⟩)
    · exact q.elim
  · exact q.elim
theorem opr_isi {X : Cx} : CallR X (.builtin "isinstance") (fun xs H Q => rIsi X.K xs H Q ∨ rIsiT X.K xs H Q ∨ rIsiK X.K xs H Q) := CallR.or call_isi (CallR.or call_isiT call_isiK)
end Qd

namespace Qd
open PySem L2

/-! ### targets -/
inductive Pt where
  | nm (i : Nat)
  | tp (ps : List Pt)
mutual
def bindP : Pt → D → Rho → Option Rho
  | .nm i, d, ρ => some (ρ.set i (some d))
  | .tp ps, d, ρ => match d with
    | .tup ds => bindPs ps ds ρ
    | _ => none
def bindPs : List Pt → List D → Rho → Option Rho
  | [], ds, ρ => match ds with
    | [] => some ρ
    | _ :: _ => none
  | p :: ps, ds, ρ => match ds with
    | [] => none
    | d :: r => match bindP p d ρ with
      | some ρ' => bindPs ps r ρ'
      | none => none
def slotsP : Pt → List Nat
  | .nm i => [i]
  | .tp ps => slotsPs ps
def slotsPs : List Pt → List Nat
  | [] => []
  | p :: ps => slotsP p ++ slotsPs ps
def tgP (K : PySem.W.Frag) : Pt → TG
  | .nm i => gName i
  | .tp ps => gTup K ps.length (tgPs K ps)
def tgPs (K : PySem.W.Frag) : List Pt → TGs
  | [] => gNil
  | p :: ps => gCons (tgP K p) (tgPs K ps)
end
theorem wipe_get (σ : L2.St) (j : Nat) : ∀ vs : List Nat, (wipe σ vs)[j]? = if j ∈ vs then (if j < σ.length then some none else none) else σ[j]?
  | [] => by simp [wipe]
  | v :: vs => by
    unfold wipe
    by_cases e : j = v
    · subst e
      by_cases h : j < σ.length
      · rw [List.getElem?_set_self (by rw [wipe_length]; exact h)]; simp [h]
      · rw [List.getElem?_eq_none (by rw [List.length_set, wipe_length]; omega)]; simp [h]
    · rw [List.getElem?_set_ne (Ne.symm e), wipe_get σ j vs]
      simp [e]
theorem wipe_set {σ : L2.St} {own : List Nat} {i : Nat} (h : i ∈ own) (x : Option V) : wipe (σ.set i x) own = wipe σ own := by
  apply List.ext_getElem?
  intro j
  rw [wipe_get, wipe_get, List.length_set]
  by_cases hj : j ∈ own
  · simp [hj]
  · rw [if_neg hj, if_neg hj, List.getElem?_set_ne (fun (e : i = j) => hj (by rw [← e]; exact h))]
mutual
theorem bindP_ok {K : PySem.W.Frag} {H B : Hp} {tb : Tb} (s : ∀ a o, B a = some o → H a = some o) : ∀ (p : Pt) (d : D) (v : V) (ρ ρ' : Rho) (σ : L2.St) (Q : L2.St → Hp → Prop), bindP p d ρ = some ρ' → rep K B tb d v → repE K B tb ρ σ →
    (∀ σ', repE K B tb ρ' σ' → (∀ own : List Nat, (∀ i ∈ slotsP p, i ∈ own) → wipe σ' own = wipe σ own) → Q σ' H) → tgP K p v σ H Q
  | .nm i, d, v, ρ, ρ', σ, Q, e, r, q, k => by
    simp only [bindP, Option.some.injEq] at e; subst e
    exact k _ (q.set i r) fun own h => wipe_set (h i (by simp [slotsP])) _
  | .tp ps, d, v, ρ, ρ', σ, Q, e, r, q, k => by
    cases d with
    | tup ds =>
      simp only [bindP] at e
      simp only [rep] at r
      obtain ⟨a, vs, rfl, h1, h2⟩ := r
      obtain ⟨l, z⟩ := bindPs_ok s ps ds vs ρ ρ' σ Q e h2 q k
      exact ⟨a, vs, rfl, SqT.ex s h1, l, z⟩
    | _ => simp only [bindP] at e; cases e
theorem bindPs_ok {K : PySem.W.Frag} {H B : Hp} {tb : Tb} (s : ∀ a o, B a = some o → H a = some o) : ∀ (ps : List Pt) (ds : List D) (vs : List V) (ρ ρ' : Rho) (σ : L2.St) (Q : L2.St → Hp → Prop), bindPs ps ds ρ = some ρ' → reps K B tb ds vs → repE K B tb ρ σ →
    (∀ σ', repE K B tb ρ' σ' → (∀ own : List Nat, (∀ i ∈ slotsPs ps, i ∈ own) → wipe σ' own = wipe σ own) → Q σ' H) → vs.length = ps.length ∧ tgPs K ps vs σ H Q
  | [], ds, vs, ρ, ρ', σ, Q, e, r, q, k => by
    cases ds with
    | nil =>
      simp only [bindPs, Option.some.injEq] at e; subst e
      simp only [reps] at r; subst r
      exact ⟨rfl, rfl, k σ q fun _ _ => rfl⟩
    | cons d ds => simp only [bindPs] at e; cases e
  | p :: ps, ds, vs, ρ, ρ', σ, Q, e, r, q, k => by
    cases ds with
    | nil => simp only [bindPs] at e; cases e
    | cons d ds =>
      simp only [bindPs] at e
      simp only [reps] at r
      obtain ⟨v, t, rfl, h1, h2⟩ := r
      cases z : bindP p d ρ with
      | none => rw [z] at e; cases e
      | some ρ1 =>
        rw [z] at e
        have l : t.length = ps.length := by
          have l1 := reps_len h2
          have l2 : ∀ (ps : List Pt) (ds : List D) (ρ ρ' : Rho), bindPs ps ds ρ = some ρ' → ds.length = ps.length := by
            intro ps
            induction ps with
            | nil => intro ds ρ ρ' e; cases ds with
              | nil => rfl
              | cons _ _ => simp only [bindPs] at e; cases e
            | cons p ps ih => intro ds ρ ρ' e; cases ds with
              | nil => simp only [bindPs] at e; cases e
              | cons d ds =>
                simp only [bindPs] at e
                split at e
                · simp [ih _ _ _ e]
                · cases e
          rw [l1, l2 _ _ _ _ e]
        refine ⟨by simp [l], v, t, rfl, ?_⟩
        refine bindP_ok s p d v ρ ρ1 σ _ z h1 q fun σ1 q1 w1 => ?_
        refine (bindPs_ok s ps ds t ρ1 ρ' σ1 Q e h2 q1 fun σ2 q2 w2 => k σ2 q2 fun own ho => ?_).2
        rw [w2 own fun i hi => ho i (by simp [slotsPs, hi]), w1 own fun i hi => ho i (by simp [slotsPs, hi])]
end
abbrev FG := D → Rho → Sto → R Rho
def LG (K : PySem.W.Frag) (W : WX) (g : FG) : TG := fun v σ H Q => ∃ B tb ρ S d, Wd K H B tb S ∧ repE K B tb ρ σ ∧ rep K B tb d v ∧ Post K B tb W σ (g d ρ S) fun ρ' _ B' tb' H' => ∀ σ', repE K B' tb' ρ' σ' → Q σ' H'
theorem _root_.L2.PG.imp {X : Cx} {e : Expr} {t t' : TG} (h : PG X e t) (i : ∀ v σ H Q, t' v σ H Q → t v σ H Q) : PG X e t' := ⟨fun pins s σ H v u Q I r q => h.run pins s σ H v u Q I r (i v σ H Q q)⟩
def gPt (p : Pt) : FG := fun d ρ S => match bindP p d ρ with
  | some ρ' => .ok ρ' S
  | none => .no
abbrev DG (X : Cx) (W : WX) (e : Expr) (g : FG) : Prop := PG X e (LG X.K W g)
section
variable {X : Cx} {W : WX}
theorem dg_pt {e : Expr} {p : Pt} (h : PG X e (tgP X.K p)) : DG X W e (gPt p) := h.imp fun v σ H Q ⟨B, tb, ρ, S, d, w, e, r, q⟩ => by
  unfold gPt at q
  split at q
  · rename_i ρ' z
    exact bindP_ok w.sub p d v ρ ρ' σ Q z r e fun σ' q' _ => q.ok w σ' q'
  · exact q.elim
theorem pt_nm {i : Nat} {x : Str} {pos : Pos} (hN : X.N.Nodup) (hi : X.N[i]? = some x) (hx : Loc X.env.scope x) (hf : X.fn x = true ∨ X.env.scope.names.lookup x = some .local := by first | exact .inl rfl | exact .inr rfl | assumption) : PG X (.Name x pos) (tgP X.K (.nm i)) := pg_name hN hi hx hf
theorem pts_nil : PGs X [] (tgPs X.K []) := pgs_nil
theorem pts_cons {e : Expr} {es : List Expr} {p : Pt} {ps : List Pt} (h1 : PG X e (tgP X.K p)) (h2 : PGs X es (tgPs X.K ps)) (hs : (assignEach (e :: es) X.env).map (fun x => x.2) = assign e X.env :: (assignEach es X.env).map (fun x => x.2) := by rfl) : PGs X (e :: es) (tgPs X.K (p :: ps)) := pgs_cons h1 h2 hs
end

/-! ### statements -/
inductive Out where
  | nx (ρ : Rho) | rt (d : D) | bk (ρ : Rho) | ct (ρ : Rho) | xx (ρ : Rho) (C : Str) (ns : List Str) (vs : List D)
abbrev FS := Rho → Sto → R Out
def R.st {α : Type} (r : R α) (ρ : Rho) (k : α → Sto → R Out) : R Out := match r with
  | .ok a S => k a S
  | .er C ns vs S => .ok (.xx ρ C ns vs) S
  | .no => .no
@[simp] theorem st_ok {α : Type} (a : α) (S : Sto) (ρ : Rho) (k : α → Sto → R Out) : (R.ok a S).st ρ k = k a S := rfl
@[simp] theorem st_er {α : Type} (C : Str) (ns : List Str) (vs : List D) (S : Sto) (ρ : Rho) (k : α → Sto → R Out) : (R.er C ns vs S : R α).st ρ k = .ok (.xx ρ C ns vs) S := rfl
@[simp] theorem st_no {α : Type} (ρ : Rho) (k : α → Sto → R Out) : (R.no : R α).st ρ k = .no := rfl
/-- what an exception asks -/
def ErP (K : PySem.W.Frag) (B : Hp) (tb : Tb) (W : WX) (C : Str) (ns : List Str) (vs : List D) (σ : L2.St) (H : Hp) : Prop :=
  (ns = [] → W (.ref (He.ga K C)) none σ H) ∧ ∀ dd xs, H dd = some (.xd (ns.zip xs)) → ns.length = xs.length → reps K B tb vs xs → W (.ref (He.ga K C)) (some dd) σ H
def PostS (K : PySem.W.Frag) (B : Hp) (tb : Tb) (W : WX) (Dn : Ends) (r : R Out) : Prop := match r with
  | .ok (.nx ρ) S => ∀ B' tb' H' σ', Ex B tb B' tb' → Wd K H' B' tb' S → repE K B' tb' ρ σ' → Dn.nx σ' H'
  | .ok (.rt d) S => ∀ B' tb' H' v, Ex B tb B' tb' → Wd K H' B' tb' S → rep K B' tb' d v → Dn.rt v H'
  | .ok (.bk ρ) S => ∀ B' tb' H' σ', Ex B tb B' tb' → Wd K H' B' tb' S → repE K B' tb' ρ σ' → Dn.bk σ' H'
  | .ok (.ct ρ) S => ∀ B' tb' H' σ', Ex B tb B' tb' → Wd K H' B' tb' S → repE K B' tb' ρ σ' → Dn.ct σ' H'
  | .ok (.xx ρ C ns vs) S => ∀ B' tb' H' σ', Ex B tb B' tb' → Wd K H' B' tb' S → repE K B' tb' ρ σ' → ErP K B' tb' W C ns vs σ' H'
  | _ => False
theorem PostS.mono {K : PySem.W.Frag} {B B' : Hp} {tb tb' : Tb} {W : WX} {Dn : Ends} {r : R Out} (e : Ex B tb B' tb') (h : PostS K B tb W Dn r) : PostS K B' tb' W Dn r := by
  cases r with
  | ok o S => cases o <;> exact fun B2 tb2 H2 σ' e2 w2 => h B2 tb2 H2 σ' (e.trans e2) w2
  | er C ns vs S => exact h
  | no => exact h
def LS (K : PySem.W.Frag) (W : WX) (f : FS) : TS := fun Dn σ H => ∃ B tb ρ S, Wd K H B tb S ∧ repE K B tb ρ σ ∧ PostS K B tb W Dn (f ρ S)
abbrev DS (X : Cx) (W : WX) (e : Stmt) (f : FS) : Prop := PS X e (LS X.K W f)
abbrev DSs (X : Cx) (W : WX) (e : List Stmt) (f : FS) : Prop := PSs X e (LS X.K W f)
section
variable {K : PySem.W.Frag} {H B : Hp} {tb : Tb} {W : WX} {σ : L2.St} {ρ : Rho} {S : Sto} {Dn : Ends}
theorem LE.stepS {f : FE} {g : D → Sto → R Out} (w : Wd K H B tb S) (e : repE K B tb ρ σ) (h : PostS K B tb W Dn ((f ρ S).st ρ g)) {Q : V → Hp → Prop}
    (hq : ∀ d S1 B1 tb1 H1 v, Ex B tb B1 tb1 → Wd K H1 B1 tb1 S1 → repE K B1 tb1 ρ σ → rep K B1 tb1 d v → PostS K B1 tb1 W Dn (g d S1) → Q v H1) : LE K W f σ H Q := by
  refine ⟨B, tb, ρ, S, w, e, ?_⟩
  cases q : f ρ S with
  | ok d S1 => rw [q] at h; exact fun B1 tb1 H1 e1 w1 v r => hq d S1 B1 tb1 H1 v e1 w1 (e.ex e1) r (h.mono e1)
  | er C ns vs S1 => rw [q] at h; exact fun B1 tb1 H1 e1 w1 => h B1 tb1 H1 σ e1 w1 (e.ex e1)
  | no => rw [q] at h; exact h
theorem LT.stepS {f : FT} {g : Bool → Sto → R Out} (w : Wd K H B tb S) (e : repE K B tb ρ σ) (h : PostS K B tb W Dn ((f ρ S).st ρ g)) {Q : Bool → Hp → Prop}
    (hq : ∀ d S1 B1 tb1 H1, Ex B tb B1 tb1 → Wd K H1 B1 tb1 S1 → repE K B1 tb1 ρ σ → PostS K B1 tb1 W Dn (g d S1) → Q d H1) : LT K W f σ H Q := by
  refine ⟨B, tb, ρ, S, w, e, ?_⟩
  cases q : f ρ S with
  | ok d S1 => rw [q] at h; exact fun B1 tb1 H1 e1 w1 => hq d S1 B1 tb1 H1 e1 w1 (e.ex e1) (h.mono e1)
  | er C ns vs S1 => rw [q] at h; exact fun B1 tb1 H1 e1 w1 => h B1 tb1 H1 σ e1 w1 (e.ex e1)
  | no => rw [q] at h; exact h
theorem LA.stepS {f : FA} {g : List D → Sto → R Out} (w : Wd K H B tb S) (e : repE K B tb ρ σ) (h : PostS K B tb W Dn ((f ρ S).st ρ g)) {Q : List V → Hp → Prop}
    (hq : ∀ d S1 B1 tb1 H1 v, Ex B tb B1 tb1 → Wd K H1 B1 tb1 S1 → repE K B1 tb1 ρ σ → reps K B1 tb1 d v → PostS K B1 tb1 W Dn (g d S1) → Q v H1) : LA K W f σ H Q := by
  refine ⟨B, tb, ρ, S, w, e, ?_⟩
  cases q : f ρ S with
  | ok d S1 => rw [q] at h; exact fun B1 tb1 H1 e1 w1 v r => hq d S1 B1 tb1 H1 v e1 w1 (e.ex e1) r (h.mono e1)
  | er C ns vs S1 => rw [q] at h; exact fun B1 tb1 H1 e1 w1 => h B1 tb1 H1 σ e1 w1 (e.ex e1)
  | no => rw [q] at h; exact h
theorem LG.stepS {f : FG} {g : Rho → Sto → R Out} {d : D} {v : V} (w : Wd K H B tb S) (e : repE K B tb ρ σ) (r : rep K B tb d v) (h : PostS K B tb W Dn ((f d ρ S).st ρ g)) {Q : L2.St → Hp → Prop}
    (hq : ∀ ρ' S1 B1 tb1 H1 σ', Ex B tb B1 tb1 → Wd K H1 B1 tb1 S1 → repE K B1 tb1 ρ' σ' → PostS K B1 tb1 W Dn (g ρ' S1) → Q σ' H1) : LG K W f v σ H Q := by
  refine ⟨B, tb, ρ, S, d, w, e, r, ?_⟩
  cases q : f d ρ S with
  | ok ρ' S1 => rw [q] at h; exact fun B1 tb1 H1 e1 w1 σ' q' => hq ρ' S1 B1 tb1 H1 σ' e1 w1 q' (h.mono e1)
  | er C ns vs S1 => rw [q] at h; exact fun B1 tb1 H1 e1 w1 => h B1 tb1 H1 σ e1 w1 (e.ex e1)
  | no => rw [q] at h; exact h
theorem PostS.nx' (h : PostS K B tb W Dn (.ok (.nx ρ) S)) (w : Wd K H B tb S) (e : repE K B tb ρ σ) : Dn.nx σ H := h B tb H σ (Ex.refl _ _) w e
end
def sNil : FS := fun ρ S => .ok (.nx ρ) S
def sSeq (f g : FS) : FS := fun ρ S => match f ρ S with
  | .ok (.nx ρ') S' => g ρ' S'
  | r => r
def sExpr (f : FE) : FS := fun ρ S => (f ρ S).st ρ fun _ S => .ok (.nx ρ) S
def sRet (f : FE) : FS := fun ρ S => (f ρ S).st ρ fun d S => .ok (.rt d) S
def sAsg (f : FE) (g : FG) : FS := fun ρ S => (f ρ S).st ρ fun d S => (g d ρ S).st ρ fun ρ' S => .ok (.nx ρ') S
def sIf (t : FT) (f g : FS) : FS := fun ρ S => (t ρ S).st ρ fun b S => if b = true then f ρ S else g ρ S
section
variable {X : Cx} {W : WX} {st : Stmt} {rest : List Stmt} {f g : FS} {fe : FE} {e : Expr} {pos : Pos}
theorem dss_nil : DSs X W [] sNil := pss_nil.imp fun Dn σ H ⟨B, tb, ρ, S, w, e, q⟩ => q.nx' w e
theorem dss_cons (h1 : DS X W st f) (h2 : DSs X W rest g) : DSs X W (st :: rest) (sSeq f g) := (pss_cons h1 h2).imp fun Dn σ H ⟨B, tb, ρ, S, w, e, q⟩ => by
  refine ⟨B, tb, ρ, S, w, e, ?_⟩
  unfold sSeq at q
  cases z : f ρ S with
  | ok o S1 =>
    rw [z] at q
    cases o with
    | nx ρ1 => exact fun B1 tb1 H1 σ1 x1 w1 e1 => ⟨B1, tb1, ρ1, S1, w1, e1, PostS.mono x1 q⟩
    | rt d => exact q
    | bk ρ1 => exact q
    | ct ρ1 => exact q
    | xx ρ1 C ns vs => exact q
  | er C ns vs S1 => rw [z] at q; exact q
  | no => rw [z] at q; exact q
theorem dss_one (h1 : DS X W st f) : DSs X W [st] f := pss_one h1
theorem ds_pass : DS X W (.Pass pos) sNil := ps_pass.imp fun Dn σ H ⟨B, tb, ρ, S, w, e, q⟩ => q.nx' w e
theorem ds_expr (he : DE X W e fe) (hs : swapsWith e none pos.line X.env = pure false := by rfl) : DS X W (.Expr e pos) (sExpr fe) := (ps_expr he hs).imp fun Dn σ H ⟨B, tb, ρ, S, w, e, q⟩ =>
  LE.stepS w e q fun d S1 B1 tb1 H1 v x1 w1 e1 r1 h1 => h1.nx' w1 e1
theorem ds_ret (he : DE X W e fe) : DS X W (.Return (some e) pos) (sRet fe) := (ps_ret he).imp fun Dn σ H ⟨B, tb, ρ, S, w, e, q⟩ =>
  LE.stepS w e q fun d S1 B1 tb1 H1 v x1 w1 e1 r1 h1 => h1 B1 tb1 H1 v (Ex.refl _ _) w1 r1
theorem ds_asg {tg : Expr} {fg : FG} (he : DE X W e fe) (hg : DG X W tg fg) (hs : swapsWithSole [tg] e pos.line X.env = pure false := by rfl) (hw : swappedStores [tg] e X.env = pure none := by rfl) (ha : (assignEach [tg] X.env).map (fun x => x.2) = [assign tg X.env] := by rfl) : DS X W (.Assign [tg] e pos) (sAsg fe fg) := (ps_asg he hg hs hw ha).imp fun Dn σ H ⟨B, tb, ρ, S, w, e, q⟩ =>
  LE.stepS w e q fun d S1 B1 tb1 H1 v x1 w1 e1 r1 h1 => LG.stepS w1 e1 r1 h1 fun ρ' S2 B2 tb2 H2 σ2 x2 w2 e2 h2 => h2.nx' w2 e2
theorem ds_if {c : Expr} {p q : List Stmt} {t : FT} (hc : DT X W c t) (ha : DSs X W p f) (hb : DSs X W q g) : DS X W (.If c p q pos) (sIf t f g) := (ps_if hc ha hb).imp fun Dn σ H ⟨B, tb, ρ, S, w, e, q⟩ =>
  LT.stepS w e q fun b S1 B1 tb1 H1 x1 w1 e1 h1 => by
    cases b with
    | true => rw [if_pos rfl] at h1 ⊢; exact ⟨B1, tb1, ρ, S1, w1, e1, h1⟩
    | false => rw [if_neg (by decide)] at h1 ⊢; exact ⟨B1, tb1, ρ, S1, w1, e1, h1⟩
/-- a, b = e1, e2 with both sides written, two local names -/
def sPar (fa : FA) (is : List Nat) : FS := fun ρ S => (fa ρ S).st ρ fun ds S => match bindPs (is.map .nm) ds ρ with
  | some ρ' => .ok (.nx ρ') S
  | none => .no
theorem ds_par2 {i j : Nat} {x y : Str} {a b : Expr} {fa : FA} {px py pt : Pos} {kt k2 pt2} (hc : X.calm = true) (hN : X.N.Nodup) (hi : X.N[i]? = some x) (hj : X.N[j]? = some y) (hij : i ≠ j) (hx : X.env.scope.names.lookup x = some .local) (hy : X.env.scope.names.lookup y = some .local)
    (ha : DA X W [a, b] fa) (hw : swappedStores [.Tuple [.Name x px, .Name y py] kt pt] (.Tuple [a, b] k2 pt2) X.env = pure (some [x, y])) (hs : swapsWithSole [.Tuple [.Name x px, .Name y py] kt pt] (.Tuple [a, b] k2 pt2) pos.line X.env = pure false := by rfl) :
    DS X W (.Assign [.Tuple [.Name x px, .Name y py] kt pt] (.Tuple [a, b] k2 pt2) pos) (sPar fa [i, j]) := (ps_par hc hN hi hj hij hx hy ha hw hs).imp fun Dn σ H ⟨B, tb, ρ, S, w, e, q⟩ =>
  LA.stepS w e q fun ds S1 B1 tb1 H1 vs x1 w1 e1 r1 h1 => by
    cases ds with
    | nil => exact h1.elim
    | cons d ds =>
      cases ds with
      | nil => exact h1.elim
      | cons d2 ds =>
        cases ds with
        | cons d3 ds => exact h1.elim
        | nil =>
          simp only [reps] at r1
          obtain ⟨v, t, rfl, q1, v2, t2, rfl, q2, rfl⟩ := r1
          exact ⟨v, v2, rfl, PostS.nx' (ρ := (ρ.set i (some d)).set j (some d2)) h1 w1 ((e1.set i q1).set j q2)⟩
end
end Qd

namespace Qd
open PySem L2

/-! ### what is walked -/
/-- an iterator that gives just these -/
def ItOk (K : PySem.W.Frag) (J : It) (ds : List D) (B0 : Hp) (tb0 : Tb) : Prop := ∀ (i : Nat) (B : Hp) (tb : Tb) (H : Hp) (S : Sto), (∀ a o, B0 a = some o → B a = some o) → (∀ (k : Nat) (a : Addr), tb0.l[k]? = some a → tb.l[k]? = some a) → Wd K H B tb S →
  (∀ d, ds[i]? = some d → J.go i H ∧ ∀ x H', J.yld i H x H' → ∃ B', Ex B tb B' tb ∧ Wd K H' B' tb S ∧ rep K B' tb d x) ∧ (i = ds.length → J.stop i H)
abbrev FI := Rho → Sto → R (List D)
def LI (K : PySem.W.Frag) (W : WX) (f : FI) : TI := fun σ H Rk => ∃ B tb ρ S, Wd K H B tb S ∧ repE K B tb ρ σ ∧ Post K B tb W σ (f ρ S) fun ds _ B' tb' H' => ∀ J, ItOk K J ds B' tb' → Rk J H'
theorem _root_.L2.PI.imp {X : Cx} {tg e : Expr} {t t' : TI} (h : PI X tg e t) (i : ∀ σ H Rk, t' σ H Rk → t σ H Rk) : PI X tg e t' := ⟨fun pins s σ H Rk I q => h.run pins s σ H Rk I (i σ H Rk q)⟩
theorem _root_.L2.PI.or {X : Cx} {tg e : Expr} {t t' : TI} (h : PI X tg e t) (h' : PI X tg e t') : PI X tg e (fun σ H Rk => t σ H Rk ∨ t' σ H Rk) := ⟨fun pins s σ H Rk I q => q.elim (h.run pins s σ H Rk I) (h'.run pins s σ H Rk I)⟩
abbrev DI (X : Cx) (W : WX) (tg e : Expr) (f : FI) : Prop := PI X tg e (LI X.K W f)
section
variable {K : PySem.W.Frag} {H B : Hp} {tb : Tb} {W : WX} {σ : L2.St} {ρ : Rho} {S : Sto}
theorem LI.step {β : Type} {f : FI} {g : List D → Sto → R β} {k : β → Sto → Hp → Tb → Hp → Prop} (w : Wd K H B tb S) (e : repE K B tb ρ σ) (h : Post K B tb W σ ((f ρ S).bind g) k) {Q : It → Hp → Prop}
    (hq : ∀ d S1 B1 tb1 H1 J, Ex B tb B1 tb1 → Wd K H1 B1 tb1 S1 → repE K B1 tb1 ρ σ → ItOk K J d B1 tb1 → Post K B1 tb1 W σ (g d S1) k → Q J H1) : LI K W f σ H Q := by
  refine ⟨B, tb, ρ, S, w, e, ?_⟩
  cases q : f ρ S with
  | ok d S1 => rw [q] at h; exact fun B1 tb1 H1 e1 w1 J r => hq d S1 B1 tb1 H1 J e1 w1 (e.ex e1) r (h.mono e1)
  | er C ns vs S1 => rw [q] at h; exact h
  | no => rw [q] at h; exact h
theorem LI.stepS {f : FI} {g : List D → Sto → R Out} {Dn : Ends} (w : Wd K H B tb S) (e : repE K B tb ρ σ) (h : PostS K B tb W Dn ((f ρ S).st ρ g)) {Q : It → Hp → Prop}
    (hq : ∀ d S1 B1 tb1 H1 J, Ex B tb B1 tb1 → Wd K H1 B1 tb1 S1 → repE K B1 tb1 ρ σ → ItOk K J d B1 tb1 → PostS K B1 tb1 W Dn (g d S1) → Q J H1) : LI K W f σ H Q := by
  refine ⟨B, tb, ρ, S, w, e, ?_⟩
  cases q : f ρ S with
  | ok d S1 => rw [q] at h; exact fun B1 tb1 H1 e1 w1 J r => hq d S1 B1 tb1 H1 J e1 w1 (e.ex e1) r (h.mono e1)
  | er C ns vs S1 => rw [q] at h; exact fun B1 tb1 H1 e1 w1 => h B1 tb1 H1 σ e1 w1 (e.ex e1)
  | no => rw [q] at h; exact h
/-- a list or tuple that never changes -/
def frOf : D → Option (List D)
  | .tup ds => some ds
  | .scr ds => some ds
  | .lst ds => some ds
  | _ => none
theorem itOk_list {a : Addr} {vs : List V} {ds : List D} (h : ∀ (B' : Hp) (H' : Hp), (∀ a o, B a = some o → B' a = some o) → (∀ a o, B' a = some o → H' a = some o) → SqL K H' a vs) (r : reps K B tb ds vs) : ItOk K (Itl K a) ds B tb := by
  intro i B1 tb1 H1 S1 s t w
  have hl := h B1 H1 s w.sub
  refine ⟨fun d hd => ?_, fun e => ⟨vs, hl, by rw [reps_len r, e]; exact Nat.le_refl _⟩⟩
  obtain ⟨v, h1, h2⟩ := reps_get r hd
  exact ⟨⟨vs, v, hl, h1⟩, fun x H' ⟨e, q⟩ => by
    subst e
    have := q vs hl
    rw [h1] at this; cases this
    exact ⟨B1, Ex.refl _ _, w, rep_mono s t _ _ h2⟩⟩
theorem itOk_tup {a : Addr} {vs : List V} {ds : List D} (h : TpB K B a vs) (r : reps K B tb ds vs) : ItOk K (Itt K a) ds B tb := by
  intro i B1 tb1 H1 S1 s t w
  have hl : SqT K H1 a vs := SqT.ex w.sub (TpB.ex s h)
  refine ⟨fun d hd => ?_, fun e => ⟨vs, hl, by rw [reps_len r, e]; exact Nat.le_refl _⟩⟩
  obtain ⟨v, h1, h2⟩ := reps_get r hd
  exact ⟨⟨vs, v, hl, h1⟩, fun x H' ⟨e, q⟩ => by
    subst e
    have := q vs hl
    rw [h1] at this; cases this
    exact ⟨B1, Ex.refl _ _, w, rep_mono s t _ _ h2⟩⟩
def iSeq (f : FE) : FI := fun ρ S => (f ρ S).bind fun d S => match frOf d with
  | some ds => .ok ds S
  | none => .no
def rangeD (lo : Int) (n : Nat) : List D := (List.range n).map fun (i : Nat) => .int (lo + (i : Int))
theorem itOk_range {lo : Int} {n : Nat} : ItOk K (Itr lo n) (rangeD lo n) B tb := by
  intro i B1 tb1 H1 S1 s t w
  have hl : (rangeD lo n).length = n := by simp [rangeD]
  refine ⟨fun d hd => ?_, fun e => by rw [hl] at e; exact Nat.le_of_eq e.symm⟩
  have hi : i < n := by rw [← hl]; exact (List.getElem?_eq_some_iff.mp hd).1
  refine ⟨hi, fun x H' ⟨e, q⟩ => ?_⟩
  subst e q
  refine ⟨B1, Ex.refl _ _, w, ?_⟩
  have : d = .int (lo + (i : Int)) := by
    unfold rangeD at hd
    rw [List.getElem?_map, List.getElem?_range hi] at hd
    exact (Option.some.inj hd).symm
  rw [this]; exact rep_int
def small62 (i : Int) : Bool := decide (-(2 ^ 62) ≤ i) && decide (i < 2 ^ 62)
def iRange1 (f : FE) : FI := fun ρ S => (f ρ S).bind fun d S => match d with
  | .int j => chk (small62 j) (.ok (rangeD 0 j.toNat) S)
  | _ => .no
def iRange2 (f g : FE) : FI := fun ρ S => (f ρ S).bind fun d S => (g ρ S).bind fun e S => match d, e with
  | .int i, .int j => chk (small62 i && small62 j) (.ok (rangeD i (j - i).toNat) S)
  | _, _ => .no
end
section
variable {X : Cx} {W : WX} {e : Expr} {f g : FE} {tg : Expr} {pos p : Pos}
theorem LE.stepEq {K : PySem.W.Frag} {H B : Hp} {tb : Tb} {σ : L2.St} {ρ : Rho} {S S0 : Sto} {d0 : D} {β : Type} {f : FE} {g : D → Sto → R β} {k : β → Sto → Hp → Tb → Hp → Prop} (z : f ρ S = .ok d0 S0) (w : Wd K H B tb S) (e : repE K B tb ρ σ) (h : Post K B tb W σ (g d0 S0) k) {Q : V → Hp → Prop}
    (hq : ∀ B1 tb1 H1 v, Ex B tb B1 tb1 → Wd K H1 B1 tb1 S0 → repE K B1 tb1 ρ σ → rep K B1 tb1 d0 v → Post K B1 tb1 W σ (g d0 S0) k → Q v H1) : LE K W f σ H Q := by
  refine ⟨B, tb, ρ, S, w, e, ?_⟩
  rw [z]
  exact fun B1 tb1 H1 e1 w1 v r => hq B1 tb1 H1 v e1 w1 (e.ex e1) r (h.mono e1)
theorem di_seq (he : DE X W e f) : DI X W tg e (iSeq f) := ((pi_list he).or (pi_tup he)).imp fun σ H Rk ⟨B, tb, ρ, S, w, e, q⟩ => by
  unfold iSeq at q
  cases z : f ρ S with
  | er C ns vs S1 => rw [z] at q; exact .inl ⟨B, tb, ρ, S, w, e, by rw [z]; exact q⟩
  | no => rw [z] at q; exact q.elim
  | ok d S1 =>
    rw [z] at q
    simp only [bind_ok] at q
    cases d with
    | tup ds =>
      refine .inr (LE.stepEq (g := fun d S => match frOf d with | some ds => .ok ds S | none => .no) z w e q fun B1 tb1 H1 v x1 w1 e1 r1 h1 => ?_)
      simp only [rep] at r1
      obtain ⟨a, vs, rfl, h2, h3⟩ := r1
      exact ⟨a, rfl, ⟨vs, SqT.ex w1.sub h2⟩, Post.ok (k := fun ds _ B' tb' H' => ∀ J, ItOk X.K J ds B' tb' → Rk J H') h1 w1 _ (itOk_tup h2 h3)⟩
    | lst ds =>
      refine .inl (LE.stepEq (g := fun d S => match frOf d with | some ds => .ok ds S | none => .no) z w e q fun B1 tb1 H1 v x1 w1 e1 r1 h1 => ?_)
      simp only [rep] at r1
      obtain ⟨a, vs, rfl, h2, h3⟩ := r1
      exact ⟨a, rfl, ⟨vs, SqL.of (w1.sub _ _ h2)⟩, Post.ok (k := fun ds _ B' tb' H' => ∀ J, ItOk X.K J ds B' tb' → Rk J H') h1 w1 _ (itOk_list (fun B' H' s u => SqL.of (u _ _ (s _ _ h2))) h3)⟩
    | scr ds =>
      refine .inl (LE.stepEq (g := fun d S => match frOf d with | some ds => .ok ds S | none => .no) z w e q fun B1 tb1 H1 v x1 w1 e1 r1 h1 => ?_)
      simp only [rep] at r1
      obtain ⟨a, vs, rfl, h2, h3⟩ := r1
      exact ⟨a, rfl, ⟨vs, SqL.ex w1.sub h2⟩, Post.ok (k := fun ds _ B' tb' H' => ∀ J, ItOk X.K J ds B' tb' → Rk J H') h1 w1 _ (itOk_list (fun B' H' s u => SqL.ex u (SqL.ex s h2)) h3)⟩
    | _ => exact q.elim
theorem tCons_nil {K : PySem.W.Frag} {σ : L2.St} {H : Hp} {P : List V → Hp → Prop} (h : LE K W f σ H fun v H1 => P [v] H1) : tCons (LE K W f) tNil σ H P := h
theorem di_range1 {a : Expr} (hg : Gl X "range") (hm : X.mg "range" = none) (ha : DE X W a f) (hs : starEach [a] X.env = [(false, eval a X.env)] := by rfl) (hs2 : starEach (a :: []) X.env = (false, eval a X.env) :: starEach [] X.env := by rfl) : DI X W tg (.Call (.Name "range" p) [a] [] pos) (iRange1 f) :=
  (pi_range1 hg hm (pa_cons ha pa_nil hs2) hs).imp fun σ H Rk ⟨B, tb, ρ, S, w, e, q⟩ =>
    LE.step w e q fun d S1 B1 tb1 H1 v x1 w1 e1 r1 h1 => by
      cases d with
      | int j =>
        obtain ⟨c, h1⟩ := chk_ok h1
        unfold small62 at c
        simp only [Bool.and_eq_true, decide_eq_true_eq] at c
        simp only [rep] at r1; subst r1
        exact ⟨j, rfl, c.1, c.2, h1.ok w1 _ itOk_range⟩
      | _ => exact h1.elim
theorem di_range2 {a b : Expr} (hg : Gl X "range") (hm : X.mg "range" = none) (ha : DE X W a f) (hb : DE X W b g) (hs : starEach [a, b] X.env = [(false, eval a X.env), (false, eval b X.env)] := by rfl) (hs2 : starEach [b] X.env = [(false, eval b X.env)] := by rfl)
    (hs3 : starEach (a :: [b]) X.env = (false, eval a X.env) :: starEach [b] X.env := by rfl) (hs4 : starEach (b :: []) X.env = (false, eval b X.env) :: starEach [] X.env := by rfl) : DI X W tg (.Call (.Name "range" p) [a, b] [] pos) (iRange2 f g) :=
  (pi_range2 hg hm (pa_cons ha (pa_cons hb pa_nil hs4) hs3) hs hs2).imp fun σ H Rk ⟨B, tb, ρ, S, w, e, q⟩ =>
    LE.step w e q fun d S1 B1 tb1 H1 v x1 w1 e1 r1 h1 => LE.step w1 e1 h1 fun d2 S2 B2 tb2 H2 v2 x2 w2 e2 r2 h2 => by
      split at h2
      · rename_i i j
        obtain ⟨c, h2⟩ := chk_ok h2
        unfold small62 at c
        simp only [Bool.and_eq_true, decide_eq_true_eq] at c
        simp only [rep] at r1 r2; subst r1 r2
        exact ⟨i, j, rfl, ⟨c.1.1, c.1.2, c.2.1, c.2.2⟩, h2.ok w2 _ itOk_range⟩
      · exact h2.elim
end

/-! ### for -/
def loop (p : Pt) (body : FS) : List D → Rho → Sto → R Out
  | [], ρ, S => .ok (.nx ρ) S
  | d :: ds, ρ, S => match bindP p d ρ with
    | none => .no
    | some ρ1 => match body ρ1 S with
      | .ok (.nx ρ2) S2 => loop p body ds ρ2 S2
      | .ok (.ct ρ2) S2 => loop p body ds ρ2 S2
      | .ok (.bk ρ2) S2 => .ok (.nx ρ2) S2
      | r => r
def sFor (fi : FI) (p : Pt) (body : FS) : FS := fun ρ S => (fi ρ S).st ρ fun ds S => loop p body ds ρ S
section
variable {X : Cx} {W : WX} {tg iter : Expr} {fi : FI} {p : Pt} {fb : FS} {body : List Stmt} {pos : Pos}
theorem drop_eq {ds : List D} {i : Nat} (h : i < ds.length) : ds.drop i = ds[i] :: ds.drop (i + 1) := List.drop_eq_getElem_cons h
theorem ds_for (hp : PassesOwn (model X.prog X.w) X.A X.env X.xe) (hc : X.calm = true) (hi : DI X W tg iter fi) (hg : PG X tg (tgP X.K p)) (hb : DSs X W body fb) (hs : ∀ x, foldedSetIterable iter X.env x = pure x := by intro _; rfl) : DS X W (.For tg iter body [] pos) (sFor fi p fb) :=
  (ps_for hp hc hi hg hb hs).imp fun Dn σ H ⟨B, tb, ρ, S, w, e, q⟩ => by
    refine LI.stepS w e q fun ds S1 B1 tb1 H1 J x1 w1 e1 it h1 => ?_
    refine ⟨fun i m σ H => ∃ B tb ρ S, Ex B1 tb1 B tb ∧ Wd X.K H B tb S ∧ repE X.K B tb ρ σ ∧ m = ds.length - i ∧ i ≤ ds.length ∧ PostS X.K B tb W Dn (loop p fb (ds.drop i) ρ S), ⟨_, B1, tb1, ρ, S1, Ex.refl _ _, w1, e1, rfl, Nat.zero_le _, h1⟩, ?_⟩
    rintro i m σ2 H2 ⟨B2, tb2, ρ2, S2, x2, w2, e2, rfl, hi, h2⟩
    have itx := it i B2 tb2 H2 S2 x2.sub (fun _ _ => x2.at_) w2
    by_cases hlt : i < ds.length
    · obtain ⟨go, yl⟩ := itx.1 ds[i] (by simp [hlt])
      refine .inr ⟨go, fun σ' H' => ∃ B tb ρ S, Ex B1 tb1 B tb ∧ Wd X.K H' B tb S ∧ repE X.K B tb ρ σ' ∧ PostS X.K B tb W Dn (loop p fb (ds.drop (i + 1)) ρ S), fun σ' H' ⟨B, tb, ρ, S, q1, q2, q3, q4⟩ => ⟨ds.length - (i + 1), by omega, B, tb, ρ, S, q1, q2, q3, rfl, hlt, q4⟩, fun x H' y => ?_⟩
      obtain ⟨B3, x3, w3, r3⟩ := yl x H' y
      rw [drop_eq hlt] at h2
      simp only [loop] at h2
      cases z : bindP p ds[i] ρ2 with
      | none => rw [z] at h2; exact h2.elim
      | some ρ3 =>
        rw [z] at h2
        refine bindP_ok w3.sub p _ x ρ2 ρ3 σ2 _ z r3 (e2.ex x3) fun σ3 e3 _ => ⟨B3, tb2, ρ3, S2, w3, e3, ?_⟩
        have h3 := h2.mono x3
        simp only at h3
        cases y : fb ρ3 S2 with
        | ok o S4 =>
          rw [y] at h3
          cases o with
          | nx ρ4 => exact fun B4 tb4 H4 σ4 x4 w4 e4 => ⟨B4, tb4, ρ4, S4, (x2.trans x3).trans x4, w4, e4, PostS.mono x4 h3⟩
          | ct ρ4 => exact fun B4 tb4 H4 σ4 x4 w4 e4 => ⟨B4, tb4, ρ4, S4, (x2.trans x3).trans x4, w4, e4, PostS.mono x4 h3⟩
          | bk ρ4 => exact h3
          | rt d => exact h3
          | xx ρ4 C ns vs => exact h3
        | er C ns vs S4 => rw [y] at h3; exact h3
        | no => rw [y] at h3; exact h3
    · have e0 : i = ds.length := by omega
      refine .inl ⟨itx.2 e0, ?_⟩
      subst e0
      rw [List.drop_length] at h2
      exact h2.nx' w2 e2
end

/-! ### list comprehensions -/
def wipeD (ρ : Rho) : List Nat → Rho
  | [] => ρ
  | v :: vs => (wipeD ρ vs).set v none
theorem repE.wipe {K : PySem.W.Frag} {B : Hp} {tb : Tb} {ρ : Rho} {σ : L2.St} (h : repE K B tb ρ σ) : ∀ vs : List Nat, repE K B tb (wipeD ρ vs) (wipe σ vs)
  | [] => h
  | v :: vs => (repE.wipe h vs).forget v none
def comp (p : Pt) (tt : FT) (te : FE) (ρ : Rho) : List D → Sto → List D → R (List D)
  | [], S, acc => .ok acc S
  | d :: ds, S, acc => match bindP p d ρ with
    | none => .no
    | some ρ1 => match tt ρ1 S with
      | .ok true S1 => (match te ρ1 S1 with
        | .ok y S2 => comp p tt te ρ ds S2 (acc ++ [y])
        | _ => .no)
      | .ok false S1 => comp p tt te ρ ds S1 acc
      | _ => .no
def finD (fin : Bool) (ys : List D) (S : Sto) : R D := match fin with
  | true => .ok (.lst ys) S
  | false => .ok (.obj S.next) (S.push (.lst ys))
def eCompG (fin : Bool) (fi : FI) (p : Pt) (tt : FT) (te : FE) (own : List Nat) : FE := fun ρ S => (fi ρ S).bind fun ds S => chk (decide (ds.length ≤ line)) ((comp p tt te (wipeD ρ own) ds S []).bind fun ys S => finD fin ys S)
/-- a list that will change -/
def eCompM (fi : FI) (p : Pt) (tt : FT) (te : FE) (own : List Nat) : FE := fun ρ S => (fi ρ S).bind fun ds S => chk (decide (ds.length ≤ line)) ((comp p tt te (wipeD ρ own) ds S []).bind fun ys S => .ok (.obj S.next) (S.push (.lst ys)))
def eComp (fi : FI) (p : Pt) (tt : FT) (te : FE) (own : List Nat) : FE := fun ρ S => (fi ρ S).bind fun ds S => chk (decide (ds.length ≤ line)) ((comp p tt te (wipeD ρ own) ds S []).bind fun ys S => .ok (.lst ys) S)
def tYesD : FT := fun _ S => .ok true S
abbrev WF : WX := fun _ _ _ _ => False
abbrev DTs (X : Cx) (W : WX) (e : List Expr) (f : FT) : Prop := PTs X e (LT X.K W f)
theorem dts_nil {X : Cx} {W : WX} : DTs X W [] tYesD := ⟨fun pins s σ H Q I ⟨B, tb, ρ, S, w, e, q⟩ => L2.pts_nil.run pins s σ H Q I (q.ok w)⟩
theorem wipe_idem (σ : L2.St) (vs : List Nat) : wipe (wipe σ vs) vs = wipe σ vs := by
  apply List.ext_getElem?
  intro j
  rw [wipe_get, wipe_length]
  by_cases h : j ∈ vs
  · rw [if_pos h, wipe_get, if_pos h]
  · rw [if_neg h]
/-- what stands beside and is not told of: not in B, no changing object, not held -/
structure Beside (B : Hp) (tb : Tb) (S : Sto) (p : Addr) : Prop where
  b : B p = none
  l : ∀ (k : Nat) (d : D), S.m[k]? = some (some d) → tb.l[k]? ≠ some p
  f : tb.F p = none
section
variable {K : PySem.W.Frag} {H B : Hp} {tb : Tb} {S : Sto} {p : Addr} {o o' : HO}
theorem Wd.beside (w : Wd K H B tb S) (hp : H p = none) : Beside B tb S p := by
  refine ⟨w.none_of hp, fun k d hk ha => ?_, ?_⟩
  · obtain ⟨_, _, u, hu⟩ := w.live hk ha
    rw [hp] at hu; cases hu
  · cases e : tb.F p with
    | none => rfl
    | some u => have := (w.fr p u e).1; rw [hp] at this; cases this
theorem Wd.heldB {F0 : Hp} (w : Wd K H B tb S) (hF : tb.F = upd F0 p o) : H p = some o ∧ B p = none ∧ ∀ (k : Nat) (d : D), S.m[k]? = some (some d) → tb.l[k]? ≠ some p := w.fr p o (by rw [hF]; exact upd_same)
theorem Wd.unhold {F0 : Hp} (w : Wd K H B tb S) (hF : tb.F = upd F0 p o) (h0 : F0 p = none) : Wd K (upd H p o') B ⟨tb.l, F0⟩ S ∧ Beside B ⟨tb.l, F0⟩ S p := by
  obtain ⟨h1, h2, h3⟩ := w.heldB hF
  refine ⟨⟨fun a u h => ?_, w.len, fun k d h => ?_, fun a u h => ?_, w.inj, fun a u h => w.fl a u (by
    have h' : F0 a = some u := h
    rw [hF, upd_ne (ne_of_none h' h0)]; exact h')⟩, h2, h3, h0⟩
  · rw [upd_ne (ne_of_none h h2)]; exact w.sub _ _ h
  · obtain ⟨a, q1, q2, q3⟩ := w.at_ k d h
    have ne : a ≠ p := fun z => h3 k d h (z ▸ q1)
    exact ⟨a, q1, q2, orep_ex (Ex.refl _ _) (upd_ne ne) (orep_tab (tb := tb) (tb' := ⟨tb.l, F0⟩) rfl q3)⟩
  · have h' : F0 a = some u := h
    have ne : a ≠ p := ne_of_none h' h0
    obtain ⟨r1, r2, r3⟩ := w.fr a u (by rw [hF, upd_ne ne]; exact h')
    exact ⟨by rw [upd_ne ne]; exact r1, r2, r3⟩
theorem Wd.keep (w : Wd K H B tb S) (b : Beside B tb S p) (hp : H p = some o) : Wd K H (upd B p o) tb S ∧ Ex B tb (upd B p o) tb := by
  have ex : Ex B tb (upd B p o) tb := ⟨fun a u h => by rw [upd_ne (ne_of_none h b.b)]; exact h, ⟨[], by simp⟩, rfl⟩
  refine ⟨⟨fun a u h => ?_, w.len, fun k d h => ?_, fun a u h => ?_, w.inj, w.fl⟩, ex⟩
  · by_cases e : a = p
    · subst e; rw [upd_same] at h; cases h; exact hp
    · rw [upd_ne e] at h; exact w.sub _ _ h
  · obtain ⟨a, q1, q2, q3⟩ := w.at_ k d h
    have ne : a ≠ p := fun z => b.l k d h (z ▸ q1)
    exact ⟨a, q1, by rw [upd_ne ne]; exact q2, orep_ex ex rfl q3⟩
  · obtain ⟨r1, r2, r3⟩ := w.fr a u h
    have ne : a ≠ p := ne_of_none h b.f
    exact ⟨r1, by rw [upd_ne ne]; exact r2, r3⟩
end
theorem Wd.pushB {K : PySem.W.Frag} {H B : Hp} {tb : Tb} {S : Sto} {p : Addr} {d : D} (w : Wd K H B tb S) (b : Beside B tb S p) (h : orep K H B (tb.add p) d p) : Wd K H B (tb.add p) (S.push d) ∧ Ex B tb B (tb.add p) ∧ (tb.add p).l[S.next]? = some p := by
  have ex : Ex B tb B (tb.add p) := ⟨fun _ _ h => h, ⟨[p], rfl⟩, rfl⟩
  have hn : (tb.add p).l[S.next]? = some p := by
    unfold Sto.next Tb.add
    rw [← w.len]
    simp
  have old : ∀ {i : Nat} {e : D} {c : Addr}, S.m[i]? = some (some e) → (tb.add p).l[i]? = some c → tb.l[i]? = some c ∧ c ≠ p := fun {i e c} q r => by
    obtain ⟨c', q1, _, _⟩ := w.at_ i e q
    have q4 := ex.at_ q1
    rw [q4] at r; cases r
    exact ⟨q1, fun z => b.l i e q (z ▸ q1)⟩
  refine ⟨⟨w.sub, ?_, fun k e h' => ?_, fun a u h' => ?_, fun j k a e1 e2 h1 h2 h3 h4 => ?_, w.fl⟩, ex, hn⟩
  · unfold Sto.push Tb.add; simp [w.len]; omega
  · rcases push_get h' with h' | ⟨rfl, rfl⟩
    · obtain ⟨a, h1, h2, h3⟩ := w.at_ k e h'
      exact ⟨a, ex.at_ h1, h2, orep_ex ex rfl h3⟩
    · exact ⟨p, hn, b.b, h⟩
  · obtain ⟨h1, h2, h3⟩ := w.fr a u h'
    have ne : a ≠ p := ne_of_none h' b.f
    refine ⟨h1, h2, fun k e hk ha => ?_⟩
    rcases push_get hk with hk | ⟨rfl, rfl⟩
    · exact h3 k e hk (old hk ha).1
    · rw [hn] at ha; cases ha; exact ne rfl
  · rcases push_get h1 with q1 | ⟨rfl, rfl⟩
    · rcases push_get h2 with q2 | ⟨rfl, rfl⟩
      · exact w.inj _ _ _ _ _ q1 q2 (old q1 h3).1 (old q2 h4).1
      · rw [hn] at h4; cases h4; exact absurd rfl (old q1 h3).2
    · rcases push_get h2 with q2 | ⟨rfl, rfl⟩
      · rw [hn] at h3; cases h3; exact absurd rfl (old q2 h4).2
      · rfl
section
variable {X : Cx} {W : WX} {elt tg iter : Expr} {ifs : List Expr} {scope : Scope} {own : List (Str × Nat)} {pos : Pos} {fi : FI} {p : Pt} {tt : FT} {te : FE}
theorem comp_fit {σ : L2.St} {H : Hp} {Q : VK} (fin : Bool) (hsl : ∀ i ∈ slotsP p, i ∈ own.map (·.2)) (h : LE X.K W (eCompG fin fi p tt te (own.map (·.2))) σ H Q) : tLc (LI X.K W fi) (tgP X.K p) (LT X.K WF tt) (LE X.K WF te) (own.map (·.2)) σ H Q := by
  obtain ⟨B, tb, ρ, S, w, e, q⟩ := h
  refine LI.step w e q fun ds S1 B1 tb1 H1 J x1 w1 e1 it h1 => ?_
  obtain ⟨c, h1⟩ := chk_ok h1
  have hlen : ds.length ≤ line := of_decide_eq_true c
  intro Dd hD
  have b1 := w1.beside hD
  refine ⟨fun i m H => ∃ B tb S acc av, Ex B1 tb1 B tb ∧ Wd X.K H B tb S ∧ H Dd = some (.lst av) ∧ Beside B tb S Dd ∧ reps X.K B tb acc av ∧ acc.length ≤ i ∧ m = ds.length - i ∧ i ≤ ds.length ∧
    Post X.K B tb W σ ((comp p tt te (wipeD ρ (own.map (·.2))) (ds.drop i) S acc).bind fun ys S => finD fin ys S) (fun d _ B' tb' H' => ∀ v, rep X.K B' tb' d v → Q v H'), ⟨_, B1, tb1, S1, [], [], Ex.refl _ _, w1.more hD _, upd_same, b1, reps_nil, Nat.le_refl _, rfl, Nat.zero_le _, h1⟩, ?_⟩
  rintro i m H2 ⟨B2, tb2, S2, acc, av, x2, w2, d2, b2, r2, la, rfl, hi, h2⟩
  by_cases hlt : i < ds.length
  · have wh := w2.hold d2 b2.b b2.l
    have itx := it i B2 (tb2.hold Dd (.lst av)) H2 S2 x2.sub (fun _ _ => x2.at_) wh
    obtain ⟨go, yl⟩ := itx.1 ds[i] (by simp [hlt])
    refine .inr ⟨go, fun H' => ∃ B tb S acc av, Ex B1 tb1 B tb ∧ Wd X.K H' B tb S ∧ H' Dd = some (.lst av) ∧ Beside B tb S Dd ∧ reps X.K B tb acc av ∧ acc.length ≤ i + 1 ∧
      Post X.K B tb W σ ((comp p tt te (wipeD ρ (own.map (·.2))) (ds.drop (i + 1)) S acc).bind fun ys S => finD fin ys S) (fun d _ B' tb' H' => ∀ v, rep X.K B' tb' d v → Q v H'),
      fun H' ⟨B, tb, S, acc, av, q1, q2, q3, q4, q5, q6, q7⟩ => ⟨ds.length - (i + 1), by omega, B, tb, S, acc, av, q1, q2, q3, q4, q5, q6, rfl, hlt, q7⟩, fun x H' y => ?_⟩
    obtain ⟨B3, x3, w3, r3⟩ := yl x H' y
    rw [drop_eq hlt] at h2
    simp only [comp] at h2
    cases z : bindP p ds[i] (wipeD ρ (own.map (·.2))) with
    | none => rw [z] at h2; exact h2.elim
    | some ρ3 =>
      rw [z] at h2
      simp only at h2
      have e3 : repE X.K B3 (tb2.hold Dd (.lst av)) (wipeD ρ (own.map (·.2))) (wipe σ (own.map (·.2))) := repE.wipe ⟨e1.1, fun j d hj => by
        obtain ⟨u, u1, u2⟩ := e1.2 j d hj
        exact ⟨u, u1, rep_ex x3 _ _ (rep_tab (tb := tb2) (tb' := tb2.hold Dd (.lst av)) rfl (rep_ex x2 _ _ u2))⟩⟩ _
      refine bindP_ok w3.sub p _ x _ ρ3 _ _ z r3 e3 fun σ3 e3' hw => ⟨by rw [hw _ hsl, wipe_idem], ?_⟩
      have base : ∀ {B4 : Hp} {tb4 : Tb} {H4 : Hp} {S4 : Sto} {acc' : List D} {av' : List V}, Ex B3 (tb2.hold Dd (.lst av)) B4 tb4 → Wd X.K H4 B4 tb4 S4 → reps X.K B4 tb4 acc' av' → acc'.length ≤ i + 1 →
          Post X.K B2 tb2 W σ ((comp p tt te (wipeD ρ (own.map (·.2))) (ds.drop (i + 1)) S4 acc').bind fun ys S => finD fin ys S) (fun d _ B' tb' H' => ∀ v, rep X.K B' tb' d v → Q v H') →
          ∃ B tb S acc av, Ex B1 tb1 B tb ∧ Wd X.K (upd H4 Dd (.lst av')) B tb S ∧ (upd H4 Dd (.lst av')) Dd = some (.lst av) ∧ Beside B tb S Dd ∧ reps X.K B tb acc av ∧ acc.length ≤ i + 1 ∧
            Post X.K B tb W σ ((comp p tt te (wipeD ρ (own.map (·.2))) (ds.drop (i + 1)) S acc).bind fun ys S => finD fin ys S) (fun d _ B' tb' H' => ∀ v, rep X.K B' tb' d v → Q v H') := by
        intro B4 tb4 H4 S4 acc' av' x4 w4 r4 l4 h4
        have hF : tb4.F = upd tb2.F Dd (.lst av) := x4.fr
        obtain ⟨w5, b5⟩ := w4.unhold (o' := .lst av') hF b2.f
        have x5 : Ex B2 tb2 B4 ⟨tb4.l, tb2.F⟩ := ⟨fun a o h => x4.sub a o (x3.sub a o h), x4.tab, rfl⟩
        exact ⟨B4, ⟨tb4.l, tb2.F⟩, S4, acc', av', x2.trans x5, w5, upd_same, b5, reps_tab (tb := tb4) (tb' := ⟨tb4.l, tb2.F⟩) rfl r4, l4, h4.mono x5⟩
      refine ⟨B3, tb2.hold Dd (.lst av), ρ3, S2, w3, e3', ?_⟩
      cases y : tt ρ3 S2 with
      | er C ns vs S4 => rw [y] at h2; exact h2.elim
      | no => rw [y] at h2; exact h2.elim
      | ok b S4 =>
        rw [y] at h2
        intro B4 tb4 H4 x4 w4
        cases b with
        | false =>
          rw [if_neg (by decide)]
          simp only at h2
          have r4 : reps X.K B4 tb4 acc av := reps_ex (x3.trans x4) _ _ (reps_tab (tb := tb2) (tb' := tb2.hold Dd (.lst av)) rfl r2)
          have hh := base (acc' := acc) (av' := av) x4 w4 r4 (by omega) h2
          have hF : tb4.F = upd tb2.F Dd (.lst av) := x4.fr
          have he : upd H4 Dd (.lst av) = H4 := by
            funext a
            by_cases ea : a = Dd
            · rw [ea, upd_same]; exact (w4.heldB hF).1.symm
            · exact upd_ne ea
          rw [he] at hh
          exact hh
        | true =>
          rw [if_pos rfl]
          simp only at h2
          refine ⟨B4, tb4, ρ3, S4, w4, e3'.ex x4, ?_⟩
          cases y2 : te ρ3 S4 with
          | er C ns vs S5 => rw [y2] at h2; exact h2.elim
          | no => rw [y2] at h2; exact h2.elim
          | ok d S5 =>
            rw [y2] at h2
            intro B5 tb5 H5 x5 w5 v r5
            have r6 : reps X.K B5 tb5 acc av := reps_ex ((x3.trans x4).trans x5) _ _ (reps_tab (tb := tb2) (tb' := tb2.hold Dd (.lst av)) rfl r2)
            have hF : tb5.F = upd tb2.F Dd (.lst av) := (x4.trans x5).fr
            refine ⟨av, (w5.heldB hF).1, by rw [reps_len r2, line_eq]; omega, ?_⟩
            exact base (x4.trans x5) w5 (reps_append r6 (reps_cons r5 reps_nil)) (by simp; omega) h2
  · have e0 : i = ds.length := by omega
    have itx := it i B2 tb2 H2 S2 x2.sub (fun _ _ => x2.at_) w2
    refine .inl ⟨itx.2 e0, ?_⟩
    subst e0
    rw [List.drop_length] at h2
    simp only [comp, bind_ok] at h2
    cases fin with
    | true =>
      obtain ⟨w3, x3⟩ := w2.keep b2 d2
      refine h2 _ _ _ x3 w3 _ ?_
      simp only [rep]
      exact ⟨Dd, av, rfl, upd_same, reps_ex x3 _ _ r2⟩
    | false =>
      have e0 : Ex B2 tb2 B2 (tb2.add Dd) := ⟨fun _ _ h => h, ⟨[Dd], rfl⟩, rfl⟩
      obtain ⟨w3, x3, n3⟩ := w2.pushB b2 (d := .lst acc) ⟨av, d2, reps_ex e0 _ _ r2⟩
      refine h2 _ _ _ x3 w3 _ ?_
      simp only [rep]
      exact ⟨Dd, rfl, n3⟩
theorem d_compG (fin : Bool) (hc : X.calm = true) (hN : X.N.Nodup) (hi : DI X W tg iter fi) (ok : BlkOk X.N X.env.scope scope own) (hsl : ∀ i ∈ slotsP p, i ∈ own.map (·.2))
    (hg : ∀ (s : Shared) (H : Hp) (C : Addr) (cl : List (Str × Addr)) (fp : List Addr), PG (X.blk s H scope (compEnvC scope cl C X.env) fp) tg (tgP X.K p))
    (ht : ∀ (s : Shared) (H : Hp) (C : Addr) (cl : List (Str × Addr)) (fp : List Addr), DTs (X.blk s H scope (compEnvC scope cl C X.env) fp) WF ifs tt)
    (he : ∀ (s : Shared) (H : Hp) (C : Addr) (cl : List (Str × Addr)) (fp : List Addr), DE (X.blk s H scope (compEnvC scope cl C X.env) fp) WF elt te) (hs : ∀ x, foldedSetIterable iter X.env x = pure x := by intro _; rfl) :
    DE X W (.ListComp elt [⟨tg, iter, ifs, 0⟩] scope pos) (eCompG fin fi p tt te (own.map (·.2))) := (pe_lc (tt := LT X.K WF tt) (te := LE X.K WF te) hc hN hi ok hg ht he hs).imp fun _ _ _ h => comp_fit fin hsl h
theorem d_comp (hc : X.calm = true) (hN : X.N.Nodup) (hi : DI X W tg iter fi) (ok : BlkOk X.N X.env.scope scope own) (hsl : ∀ i ∈ slotsP p, i ∈ own.map (·.2))
    (hg : ∀ (s : Shared) (H : Hp) (C : Addr) (cl : List (Str × Addr)) (fp : List Addr), PG (X.blk s H scope (compEnvC scope cl C X.env) fp) tg (tgP X.K p))
    (ht : ∀ (s : Shared) (H : Hp) (C : Addr) (cl : List (Str × Addr)) (fp : List Addr), DTs (X.blk s H scope (compEnvC scope cl C X.env) fp) WF ifs tt)
    (he : ∀ (s : Shared) (H : Hp) (C : Addr) (cl : List (Str × Addr)) (fp : List Addr), DE (X.blk s H scope (compEnvC scope cl C X.env) fp) WF elt te) (hs : ∀ x, foldedSetIterable iter X.env x = pure x := by intro _; rfl) :
    DE X W (.ListComp elt [⟨tg, iter, ifs, 0⟩] scope pos) (eComp fi p tt te (own.map (·.2))) := d_compG true hc hN hi ok hsl hg ht he hs
theorem d_compM (hc : X.calm = true) (hN : X.N.Nodup) (hi : DI X W tg iter fi) (ok : BlkOk X.N X.env.scope scope own) (hsl : ∀ i ∈ slotsP p, i ∈ own.map (·.2))
    (hg : ∀ (s : Shared) (H : Hp) (C : Addr) (cl : List (Str × Addr)) (fp : List Addr), PG (X.blk s H scope (compEnvC scope cl C X.env) fp) tg (tgP X.K p))
    (ht : ∀ (s : Shared) (H : Hp) (C : Addr) (cl : List (Str × Addr)) (fp : List Addr), DTs (X.blk s H scope (compEnvC scope cl C X.env) fp) WF ifs tt)
    (he : ∀ (s : Shared) (H : Hp) (C : Addr) (cl : List (Str × Addr)) (fp : List Addr), DE (X.blk s H scope (compEnvC scope cl C X.env) fp) WF elt te) (hs : ∀ x, foldedSetIterable iter X.env x = pure x := by intro _; rfl) :
    DE X W (.ListComp elt [⟨tg, iter, ifs, 0⟩] scope pos) (eCompM fi p tt te (own.map (·.2))) := d_compG false hc hN hi ok hsl hg ht he hs
theorem ds_setC (fin : Bool) {i : Nat} {y : Str} {py spos : Pos} (hc : X.calm = true) (hN : X.N.Nodup) (hy : X.N[i]? = some y) (hyl : X.env.scope.names.lookup y = some .local) (hk : X.env.scope.kind = .function) (hl : (py.line == pos.line) = true)
    (ha : (scope.names.any fun (n, k) => n == y && (k == .local || k == .cell)) = false) (hi : DI X W tg iter fi) (ok : BlkOk X.N X.env.scope scope own) (hsl : ∀ i ∈ slotsP p, i ∈ own.map (·.2))
    (hg : ∀ (s : Shared) (H : Hp) (C : Addr) (cl : List (Str × Addr)) (fp : List Addr), PG (X.blk s H scope (compEnvC scope cl C X.env) fp) tg (tgP X.K p))
    (ht : ∀ (s : Shared) (H : Hp) (C : Addr) (cl : List (Str × Addr)) (fp : List Addr), DTs (X.blk s H scope (compEnvC scope cl C X.env) fp) WF ifs tt)
    (he : ∀ (s : Shared) (H : Hp) (C : Addr) (cl : List (Str × Addr)) (fp : List Addr), DE (X.blk s H scope (compEnvC scope cl C X.env) fp) WF elt te) (hs : ∀ x, foldedSetIterable iter X.env x = pure x := by intro _; rfl) :
    DS X W (.Assign [.Name y py] (.ListComp elt [⟨tg, iter, ifs, 0⟩] scope pos) spos) (sAsg (eCompG fin fi p tt te (own.map (·.2))) (gPt (.nm i))) :=
  (ps_setLc (tt := LT X.K WF tt) (te := LE X.K WF te) hc hN hy hyl (sw_true hk hyl hl ha) hi ok hg ht he hs).imp fun Dn σ H ⟨B, tb, ρ, S, w, e, q⟩ =>
    comp_fit fin hsl (LE.stepS (f := eCompG fin fi p tt te (own.map (·.2))) w e q fun d S1 B1 tb1 H1 v x1 w1 e1 r1 h1 => PostS.nx' (ρ := ρ.set i (some d)) h1 w1 (e1.set i r1))
end
end Qd

namespace Qd
open PySem L2

/-! ### defs -/
abbrev FF := List D → Sto → R D
def PostF (K : PySem.W.Frag) (B : Hp) (tb : Tb) (E : XK) (Q : VK) (r : R D) : Prop := match r with
  | .ok d S => ∀ B' tb' H' v, Ex B tb B' tb' → Wd K H' B' tb' S → rep K B' tb' d v → Q v H'
  | .er C ns vs S => ∀ B' tb' H', Ex B tb B' tb' → Wd K H' B' tb' S → (ns = [] → E (.ref (He.ga K C)) none H') ∧
      ∀ dd xs, H' dd = some (.xd (ns.zip xs)) → ns.length = xs.length → reps K B' tb' vs xs → E (.ref (He.ga K C)) (some dd) H'
  | .no => False
def SpD (K : PySem.W.Frag) (n : Nat) (g : FF) : Sp := fun vs H Q E => vs.length = n ∧ ∃ B tb S ds, Wd K H B tb S ∧ reps K B tb ds vs ∧ PostF K B tb E Q (g ds S)
/-- no exception leaves -/
def ner (r : R D) : R D := match r with
  | .er _ _ _ _ => .no
  | r => r
def rho0 (n : Nat) (ds : List D) : Rho := ds.map some ++ List.replicate (n - ds.length) none
/-- a def's body run: b: what it made is forgotten behind it -/
def run0 (b : Bool) (fb : FS) (n : Nat) : FF := fun ds S => match fb (rho0 n ds) S with
  | .ok (.rt d) S' => .ok d (if b = true then S'.back S.m.length else S')
  | .ok (.nx _) S' => .ok .non (if b = true then S'.back S.m.length else S')
  | _ => .no
section
variable {P : Program} {w : World} {K : PySem.W.Frag} {mg : Str → Option Value} {base : Heap}
theorem rep_start {B : Hp} {tb : Tb} {N : List Str} {ds : List D} {vs : List V} (r : reps K B tb ds vs) : repE K B tb (rho0 N.length ds) (L2.start N vs) := by
  have l := reps_len r
  unfold rho0 L2.start
  refine ⟨by simp [l], fun i d hd => ?_⟩
  by_cases hi : i < ds.length
  · rw [List.getElem?_append_left (by simpa using hi), List.getElem?_map] at hd
    cases z : ds[i]? with
    | none => rw [z] at hd; cases hd
    | some e =>
      rw [z] at hd
      have : e = d := by simpa using hd
      subst this
      obtain ⟨v, h1, h2⟩ := reps_get r z
      exact ⟨v, by rw [List.getElem?_append_left (by simp; omega), List.getElem?_map, h1]; rfl, h2⟩
  · rw [List.getElem?_append_right (by simp; omega)] at hd
    by_cases h2 : i - (ds.map some).length < N.length - ds.length
    · rw [List.getElem?_replicate_of_lt h2] at hd; cases hd
    · rw [List.getElem?_eq_none (by simpa using h2)] at hd; cases hd
theorem fn_D {N ps : List Str} {k : Nat} {fb : FS} {b : Bool} {x qual : Str} {params : Arguments} {body : List Stmt} {scope : Scope} {dvs : List V} {kws : List (Str × V)} {f : Addr} {fd : FuncData} (F : FunD K x qual params body scope dvs kws f fd) (Sc : FnScope N ps scope)
    (hb : ∀ (cdv : Value) (A : Around) (outer : List Env) (s : Shared) (H : Hp) (E : XK), Room k (A.deeper (PyProof.Rows.envOfC qual scope s.heap.objs.size f cdv)) → DSs (cxOf CX0 P w K mg base N qual scope f cdv A outer s H E).nox WF body fb) :
    FnOk P w K mg base CX0 (k + 1) f fd ps (SpD K ps.length (run0 b fb N.length)) := by
  refine F.ok Sc (fun vs H Q E h => h.1) (fun cdv A outer s H vs Q E hr h => ⟨_, PSs.nox (hb cdv A outer s H E hr), ?_⟩)
  obtain ⟨hl, B, tb, S, ds, wd, r, q⟩ := h
  refine ⟨B, tb, rho0 N.length ds, S, wd, rep_start r, ?_⟩
  unfold run0 at q
  cases z : fb (rho0 N.length ds) S with
  | er C ns vs S' => rw [z] at q; exact q.elim
  | no => rw [z] at q; exact q.elim
  | ok o S' =>
    rw [z] at q
    have bk : ∀ {H' B' : Hp} {tb' : Tb}, Wd K H' B' tb' S' → Wd K H' B' tb' (if b = true then S'.back S.m.length else S') := fun w' => by
      split
      · exact w'.back _
      · exact w'
    cases o with
    | rt d => exact fun B' tb' H' v x' w' r' => q B' tb' H' v x' (bk w') r'
    | nx ρ => exact fun B' tb' H' σ' x' w' r' => q B' tb' H' .non x' (bk w') rep_non
    | bk ρ => exact q.elim
    | ct ρ => exact q.elim
    | xx ρ C ns vs => exact q.elim
end
def eFn (g : FF) (fa : FA) (dds : List D) : FE := fun ρ S => (fa ρ S).bind fun ds S => ner (g (ds ++ dds) S)
theorem post_ner {K : PySem.W.Frag} {B : Hp} {tb : Tb} {W : WX} {σ : L2.St} {r : R D} {Q : VK} (h : Post K B tb W σ (ner r) fun d _ B' tb' H' => ∀ v, rep K B' tb' d v → Q v H') : PostF K B tb E0 Q r := by
  cases r with
  | ok d S => exact fun B' tb' H' v x w r => h B' tb' H' x w v r
  | er C ns vs S => exact h.elim
  | no => exact h
section
variable {X : Cx} {W : WX} {g : FF} {fa fk : FA} {k n : Nat} {f : Addr} {fd : FuncData} {ps ks : List Str} {x : Str} {e : Expr} {es : List Expr} {kws : List Keyword} {pos p : Pos} {dds : List D} {dvs : List V} {ds : List Value}
theorem d_fn (F : FnOk X.prog X.w X.K X.mg X.base CX0 k f fd ps (SpD X.K ps.length g)) (hr : Room k X.A) (hg : Gl X x) (hm : X.mg x = some (.ref f)) (hk : PySem.W.keepIn X.K (.ref f) = true) (hb : Binds X.K fd ps ds) (hd : Vals dvs ds) (hdd : ∀ B tb, reps X.K B tb dds dvs) (hl : (e :: es).length + dvs.length = ps.length)
    (la : ∀ ρ S d S', fa ρ S = .ok d S' → d.length = (e :: es).length)
    (ha : DA X W (e :: es) fa) (hdb : (x == ("__debug__" : Str)) = false := by decide) (he : starEach (e :: es) X.env = (false, eval e X.env) :: starEach es X.env := by rfl) (hpl : (backTo pos (starEach es X.env)).any (·.1) = false := by rfl) :
    DE X W (.Call (.Name x p) (e :: es) [] pos) (eFn g fa dds) := (pe_call F hr hg hm hk hb hd pass0 ha hdb he hpl).imp fun σ H Q ⟨B, tb, ρ, S, w, e1, q⟩ => by
  unfold eFn at q
  refine ⟨B, tb, ρ, S, w, e1, ?_⟩
  cases z : fa ρ S with
  | er C ns vs S1 => rw [z] at q; exact q
  | no => rw [z] at q; exact q
  | ok as S1 =>
    rw [z] at q
    have l1 := la _ _ _ _ z
    intro B1 tb1 H1 x1 w1 vs r1
    refine ⟨by rw [List.length_append, reps_len r1, l1]; exact hl, B1, tb1, S1, as ++ dds, w1, reps_append r1 (hdd _ _), ?_⟩
    exact post_ner (W := W) (σ := σ) (Post.mono x1 q)
end
theorem al_nil : ∀ ρ S d S', aNil ρ S = .ok d S' → d.length = ([] : List Expr).length := by
  intro ρ S d S' h; cases h; rfl
theorem al_cons {f : FE} {fa : FA} {e : Expr} {es : List Expr} (h : ∀ ρ S d S', fa ρ S = .ok d S' → d.length = es.length) : ∀ ρ S d S', aCons f fa ρ S = .ok d S' → d.length = (e :: es).length := by
  intro ρ S d S' q
  unfold aCons at q
  cases z : f ρ S with
  | ok x S1 =>
    rw [z] at q
    simp only [bind_ok] at q
    cases y : fa ρ S1 with
    | ok xs S2 => rw [y] at q; cases q; simp [h _ _ _ _ y]
    | er C ns vs S2 => rw [y] at q; cases q
    | no => rw [y] at q; cases q
  | er C ns vs S1 => rw [z] at q; cases q
  | no => rw [z] at q; cases q
/-! ### calls by keywords alone, or behind some by place -/
def aKw : List FE → FA
  | [] => aNil
  | f :: r => aCons f (aKw r)
abbrev DK (X : Cx) (W : WX) (kws : List Keyword) (f : FA) : Prop := PK X kws (LA X.K W f)
theorem _root_.L2.PK.imp {X : Cx} {kws : List Keyword} {t t' : TA} (h : PK X kws t) (i : ∀ σ H Q, t' σ H Q → t σ H Q) : PK X kws t' := ⟨fun po pins s σ H Q I q => h.run po pins s σ H Q I (i σ H Q q)⟩
section
variable {X : Cx} {W : WX} {g : FF} {fa fk : FA} {k n : Nat} {f : Addr} {fd : FuncData} {ps ks : List Str} {x nm : Str} {e : Expr} {es : List Expr} {kws : List Keyword} {pos p kpos : Pos} {fe : FE}
theorem dk_nil : DK X W [] aNil := pk_nil.imp fun σ H Q ⟨B, tb, ρ, S, w, e, q⟩ => q.ok w _ reps_nil
theorem dk_cons (ha : DE X W e fe) (hr : DK X W kws fk) : DK X W (⟨some nm, e, kpos⟩ :: kws) (aCons fe fk) := (pk_cons ha hr).imp fun σ H Q ⟨B, tb, ρ, S, w, e, q⟩ =>
  LE.step w e q fun d S1 B1 tb1 H1 v x1 w1 e1 r1 h1 => LA.step w1 e1 h1 fun ds S2 B2 tb2 H2 vs x2 w2 e2 r2 h2 => h2.ok w2 _ (reps_cons (rep_ex x2 _ _ r1) r2)
/-- how arguments by place and by name come together, whatever they are; it keeps pairs -/
structure Mix (n m l : Nat) (t : {α : Type} → List α → List α → List α) : Prop where
  len : ∀ {α : Type} (a b : List α), a.length = n → b.length = m → (t a b).length = l
  rel : ∀ {α β : Type} (R : α → β → Prop) (a b : List α) (a' b' : List β), Paired R a a' → Paired R b b' → Paired R (t a b) (t a' b')
theorem reps_paired {K : PySem.W.Frag} {B : Hp} {tb : Tb} : ∀ {ds : List D} {vs : List V}, reps K B tb ds vs ↔ Paired (rep K B tb) ds vs
  | [], vs => ⟨fun h => by simp only [reps] at h; subst h; exact .nil, fun h => by cases h; simp only [reps]⟩
  | d :: ds, vs => ⟨fun h => by simp only [reps] at h; obtain ⟨v, r, rfl, h1, h2⟩ := h; exact .cons h1 (reps_paired.mp h2), fun h => by cases h with | cons h1 h2 => exact reps_cons h1 (reps_paired.mpr h2)⟩
def eFnK (g : FF) (fa fk : FA) (t : {α : Type} → List α → List α → List α) : FE := fun ρ S => (fa ρ S).bind fun ds S => (fk ρ S).bind fun es S => ner (g (t ds es) S)
theorem kw_step {t : {α : Type} → List α → List α → List α} {m l : Nat} (T : Mix n m l t) (hl : l = ps.length) (la : ∀ ρ S d S', fa ρ S = .ok d S' → d.length = n) (lk : ∀ ρ S d S', fk ρ S = .ok d S' → d.length = m) {σ : L2.St} {H : Hp} {Q : VK} (h : LE X.K W (eFnK g fa fk t) σ H Q) :
    tCallK (SpD X.K ps.length g) (fun a b => t a b) E0 (LA X.K W fa) (LA X.K W fk) σ H Q := by
  obtain ⟨B, tb, ρ, S, w, e1, q⟩ := h
  unfold eFnK at q
  refine ⟨B, tb, ρ, S, w, e1, ?_⟩
  cases z : fa ρ S with
  | er C ns vs S1 => rw [z] at q; exact q
  | no => rw [z] at q; exact q
  | ok as S1 =>
    rw [z] at q
    have l1 := la _ _ _ _ z
    intro B1 tb1 H1 x1 w1 vs r1
    refine ⟨B1, tb1, ρ, S1, w1, e1.ex x1, ?_⟩
    have q1 := Post.mono x1 q
    cases z2 : fk ρ S1 with
    | er C ns vs S2 => simp only [bind_ok] at q1; rw [z2] at q1; exact q1
    | no => simp only [bind_ok] at q1; rw [z2] at q1; exact q1
    | ok bs S2 =>
      simp only [bind_ok] at q1
      rw [z2] at q1
      have l2 := lk _ _ _ _ z2
      intro B2 tb2 H2 x2 w2 us r2
      refine ⟨?_, B2, tb2, S2, t as bs, w2, reps_paired.mpr (T.rel _ _ _ _ _ (reps_paired.mp (reps_ex x2 _ _ r1)) (reps_paired.mp r2)), ?_⟩
      · rw [← hl]; exact T.len _ _ (by rw [reps_len r1, l1]) (by rw [reps_len r2, l2])
      · exact post_ner (W := W) (σ := σ) (Post.mono x2 q1)
theorem d_fnK {t : {α : Type} → List α → List α → List α} {m l : Nat} (T : Mix n m l t) (hl : l = ps.length) (F : FnOk X.prog X.w X.K X.mg X.base CX0 k f fd ps (SpD X.K ps.length g)) (hr : Room k X.A) (hg : Gl X x) (hm : X.mg x = some (.ref f)) (hk : PySem.W.keepIn X.K (.ref f) = true)
    (hb : KBinds X.K fd ps ks (fun a b => t a b) (fun a b => t a b)) (la : ∀ ρ S d S', fa ρ S = .ok d S' → d.length = n) (lk : ∀ ρ S d S', fk ρ S = .ok d S' → d.length = m)
    (ha : DA X W (e :: es) fa) (hkw : DK X W kws fk) (hall : (backToKw pos (keywordEach kws X.env)).all (·.1.isSome) = true := by rfl) (hks : (backToKw pos (keywordEach kws X.env)).filterMap (·.1) = ks := by rfl)
    (hdb : (x == ("__debug__" : Str)) = false := by decide) (he : starEach (e :: es) X.env = (false, eval e X.env) :: starEach es X.env := by rfl)
    (hpl : ((backTo pos (starEach (e :: es) X.env)).any (·.1) || (backToKw pos (keywordEach kws X.env)).any (·.1.isNone)) = false := by rfl) :
    DE X W (.Call (.Name x p) (e :: es) kws pos) (eFnK g fa fk t) := (pe_callK F hr hg hm hk hb pass0 ha hkw hall hks hdb he hpl).imp fun _ _ _ h => kw_step T hl la lk h
/-- no argument by place -/
theorem pe_callKw {sp : Sp} {gv : List Value → List Value → List Value} {gV : List V → List V → List V} {tk : TA} {E : XK} {CX : CXT} (F : FnOk X.prog X.w X.K X.mg X.base CX k f fd ps sp) (hr : Room k X.A) (hg : Gl X x) (hm : X.mg x = some (.ref f)) (hk : PySem.W.keepIn X.K (.ref f) = true) (hb : KBinds X.K fd ps ks gv gV) (hx : Passes CX X E)
    (hkw : PK X kws tk) (hall : (backToKw pos (keywordEach kws X.env)).all (·.1.isSome) = true := by rfl) (hks : (backToKw pos (keywordEach kws X.env)).filterMap (·.1) = ks := by rfl)
    (hdb : (x == ("__debug__" : Str)) = false := by decide) (hpl : ((backTo pos (starEach [] X.env)).any (·.1) || (backToKw pos (keywordEach kws X.env)).any (·.1.isNone)) = false := by rfl) :
    PE X (.Call (.Name x p) [] kws pos) (tCallK sp gV E tNil tk) := by
  refine ⟨fun pins s σ H Q I h => wpAny_Call_Name_kw (ld_glob I hg hm ?_ hdb)⟩
  refine PySem.W.callWith_KW0 (h₀ := X.base) I.ok.mod.kin hk hall (thn (hkw.run pos pins s σ H _ I h) fun ws s2 ⟨zs, H2, I2, rz, q2⟩ => ⟨I2.kIn, ?_⟩) hpl
  rw [hks]
  exact run_fnk (us := []) F hr hb hx I2 .nil rz q2
theorem d_fnK0 {t : {α : Type} → List α → List α → List α} {m l : Nat} (T : Mix 0 m l t) (hl : l = ps.length) (F : FnOk X.prog X.w X.K X.mg X.base CX0 k f fd ps (SpD X.K ps.length g)) (hr : Room k X.A) (hg : Gl X x) (hm : X.mg x = some (.ref f)) (hk : PySem.W.keepIn X.K (.ref f) = true)
    (hb : KBinds X.K fd ps ks (fun a b => t a b) (fun a b => t a b)) (lk : ∀ ρ S d S', fk ρ S = .ok d S' → d.length = m)
    (hkw : DK X W kws fk) (hall : (backToKw pos (keywordEach kws X.env)).all (·.1.isSome) = true := by rfl) (hks : (backToKw pos (keywordEach kws X.env)).filterMap (·.1) = ks := by rfl)
    (hdb : (x == ("__debug__" : Str)) = false := by decide) (hpl : ((backTo pos (starEach [] X.env)).any (·.1) || (backToKw pos (keywordEach kws X.env)).any (·.1.isNone)) = false := by rfl) :
    DE X W (.Call (.Name x p) [] kws pos) (eFnK g aNil fk t) := (pe_callKw F hr hg hm hk hb pass0 hkw hall hks hdb hpl).imp fun σ H Q h => by
  have z := kw_step (n := 0) T hl (fun _ _ _ _ h => by cases h; rfl) lk h
  obtain ⟨B, tb, ρ, S, w, e, q⟩ := z
  exact q.ok w _ reps_nil
end
/-! ### changing lists -/
def eAppend (f g : FE) : FE := fun ρ S => (f ρ S).bind fun o S1 => match o with
  | .obj k => chk (match S1.m[k]? with | some (some (.lst _)) => true | _ => false) ((g ρ S1).bind fun y S2 => match S2.m[k]? with
    | some (some (.lst ds)) => chk (decide (ds.length < line)) (.ok .non (S2.put k (.lst (ds ++ [y]))))
    | _ => .no)
  | _ => .no
section
variable {X : Cx} {W : WX} {a b : Expr} {f g : FE} {apos cpos pos : Pos}
theorem d_append (ha : DE X W a f) (hb : DE X W b g) (hse : starEach (b :: []) X.env = (false, eval b X.env) :: starEach [] X.env := by rfl) (hbase : attributeBase a "append" X.env (eval a X.env) = eval a X.env := by rfl)
    (hfew : ((backTo cpos (starEach (b :: []) X.env)).all (fun x => !x.1) && (backToKw cpos (keywordEach [] X.env)).all (fun x => x.1.isSome) && decide ((b :: []).length + ([] : List Keyword).length + (if ([] : List Keyword).isEmpty then 0 else 1) < 30)) = true := by rfl)
    (hline : (apos.endLine == cpos.line) = true := by rfl) (hplain : (backTo cpos (starEach [] X.env)).any (·.1) = false := by rfl) : DE X W (.Call (.Attribute a "append" apos) [b] [] cpos) (eAppend f g) :=
  (pe_bm PySem.F.plainAttrs_list PySem.F.slot_list_append PySem.F.type_list_append mt_append ha (pa_cons hb pa_nil hse) hbase hfew hline hse hplain).imp fun σ H Q ⟨B, tb, ρ, S, w, e, q⟩ => by
    refine LE.step w e q fun o S1 B1 tb1 H1 v x1 w1 e1 r1 h1 => ?_
    split at h1
    · rename_i k
      obtain ⟨c, h1⟩ := chk_ok h1
      simp only [rep] at r1
      obtain ⟨p, rfl, hp⟩ := r1
      refine ⟨?_, ?_⟩
      · split at c
        · rename_i ds hk
          obtain ⟨_, ⟨vs, hv, _⟩, _⟩ := w1.live hk hp
          exact .inl ⟨rfl, vs, SqL.of hv⟩
        · cases c
      · refine LE.step w1 e1 h1 fun y S2 B2 tb2 H2 u x2 w2 e2 r2 h2 => ?_
        have hp2 := x2.at_ hp
        split at h2
        · rename_i ds hk
          obtain ⟨c2, h2⟩ := chk_ok h2
          obtain ⟨_, ⟨vs, hv, hr⟩, _⟩ := w2.live hk hp2
          refine ⟨p, vs, u, rfl, rfl, hv, by rw [reps_len hr, line_eq]; exact of_decide_eq_true c2, ?_⟩
          have w3 := w2.put hk hp2 (o := .lst (vs ++ [u])) (d' := .lst (ds ++ [y])) ⟨_, upd_same, reps_append hr (reps_cons r2 reps_nil)⟩
          exact h2 _ _ _ (Ex.refl _ _) w3 _ rep_non
        · exact h2.elim
    · exact h1.elim
/-- o[i] = v, o a changing list -/
def gSet (f g : FE) : FG := fun d ρ S => (f ρ S).bind fun o S1 => (g ρ S1).bind fun i S2 => match o, i with
  | .obj k, .int j => (match S2.m[k]? with
    | some (some (.lst ds)) => (match ixN ds.length j with
      | some n => .ok ρ (S2.put k (.lst (ds.set n d)))
      | none => .no)
    | _ => .no)
  | _, _ => .no
theorem dg_set (ha : DE X W a f) (hb : DE X W b g) (hs : ∀ v, assign (.Subscript a b pos) X.env v = (do
      let ov ← holding [v] (eval a X.env)
      let iv ← holding [v, ov] (eval b X.env)
      standAt pos
      holding [v, ov, iv] (setItem ov iv v)
      release [v, ov, iv] []) := by intro _; rfl) : DG X W (.Subscript a b pos) (gSet f g) := (pg_sub ha hb set_list hs).imp fun v σ H Q ⟨B, tb, ρ, S, d, w, e, r, q⟩ => by
  refine LE.step w e q fun o S1 B1 tb1 H1 ov x1 w1 e1 r1 h1 => ?_
  refine LE.step w1 e1 h1 fun i S2 B2 tb2 H2 iv x2 w2 e2 r2 h2 => ?_
  have rd := rep_ex (x1.trans x2) _ _ r
  split at h2
  · rename_i k j
    simp only [rep] at r1 r2
    obtain ⟨p, rfl, hp⟩ := r1
    subst r2
    have hp2 := x2.at_ hp
    split at h2
    · rename_i ds hk
      obtain ⟨_, ⟨vs, hv, hr⟩, _⟩ := w2.live hk hp2
      split at h2
      · rename_i n hn
        refine ⟨p, vs, j, n, rfl, rfl, hv, by rw [reps_len hr]; exact hn, ?_⟩
        have w3 := w2.put hk hp2 (o := .lst (vs.set n v)) (d' := .lst (ds.set n d)) ⟨_, upd_same, reps_set n hr rd⟩
        exact h2 _ _ _ (Ex.refl _ _) w3 _ e2
      · exact h2.elim
    · exact h2.elim
  · exact h2.elim
/-- what is never reached -/
def sNever : FS := fun _ _ => .no
theorem ds_never {st : Stmt} : DS X W st sNever := ps_never.imp fun Dn σ H ⟨B, tb, ρ, S, w, e, q⟩ => q.elim
/-- several targets, the value a tuple -/
def gTp : List FG → FG
  | [] => fun d ρ S => match d with
    | .tup [] => .ok ρ S
    | _ => .no
  | g :: gs => fun d ρ S => match d with
    | .tup (x :: xs) => (g x ρ S).bind fun ρ' S' => gTp gs (.tup xs) ρ' S'
    | _ => .no
end
end Qd

namespace Qd
open PySem L2
open PySem.W (AllAlike Sortable dataLe EachIs alike)

/-! ### sorted of data -/
def rSortD (K : PySem.W.Frag) : List V → Hp → VK → Prop := fun vs H Q => ∃ (a : Addr) (xs : List V) (es : List PyData), vs = [.ref a] ∧ SqL K H a xs ∧ DpAll K H xs es ∧ AllAlike es ∧ Sortable es ∧ (∀ e ∈ es, e.depth ≤ 60) ∧
  ∀ p, H p = none → Q (.ref p) (upd H p (.lst (((xs.zip es).mergeSort (dataLe false Prod.snd)).map Prod.fst)))
theorem dpAll_len {K : PySem.W.Frag} {H : Hp} : ∀ {xs : List V} {es : List PyData}, DpAll K H xs es → xs.length = es.length
  | _, _, .nil => rfl
  | _, _, .cons _ h => by simp [dpAll_len h]
theorem zip_snd {α β : Type} : ∀ {xs : List α} {es : List β}, xs.length = es.length → (xs.zip es).map Prod.snd = es
  | [], [], _ => rfl
  | x :: xs, e :: es, h => by simp [zip_snd (xs := xs) (es := es) (by simpa using h)]
theorem each_zip {xs : List V} {us : List Value} {es : List PyData} (r : Vals xs us) (h : xs.length = es.length) : EachIs (fun (u : Value) (b : V × PyData) => RelV b.1 u) us (xs.zip es) := by
  induction r generalizing es with
  | nil => cases es with
    | nil => exact .nil
    | cons _ _ => cases h
  | cons r1 _ ih => cases es with
    | nil => cases h
    | cons e es => exact .cons r1 (ih (by simpa using h))
theorem vals_each {zs : List (V × PyData)} {us : List Value} (h : EachIs (fun (u : Value) (b : V × PyData) => RelV b.1 u) us zs) : Vals (zs.map Prod.fst) us := by
  induction h with
  | nil => exact .nil
  | cons r _ ih => exact .cons r ih
theorem cr_sortD {X : Cx} (hu : X.A.units + 64 < cLine) : CallR X (.builtin "sorted") (rSortD X.K) := by
  intro pins s σ H vs us Q I r h
  obtain ⟨a, xs, es, rfl, hs, hd, hal, hso, hdp, q⟩ := h
  obtain ⟨its, rv, hl, hz⟩ := I.list hs
  obtain ⟨u, rfl, ru⟩ := Vals.one r
  obtain rfl : u = Value.ref a := ru
  obtain ⟨as, hr⟩ := Dp.readsAll I es xs its hd rv
  have hlen := dpAll_len hd
  have e2 : (xs.zip es).map Prod.snd = es := zip_snd hlen
  have hzl : (xs.zip es).length = es.length := by rw [← e2, List.length_map, e2]
  refine PySem.W.sorted_data (R := fun u (b : V × PyData) => RelV b.1 u) (enc := Prod.snd) (bs := xs.zip es) (vs := its) hl.isList (each_zip rv hlen) (PySem.W.readsAll_each Prod.snd (as := as) (by rw [e2]; exact hr)) (by rw [e2]; exact hal) (by rw [e2]; exact hso)
    (by rw [hzl, ← hlen]; exact hz) (fun b hb => ?_) fun out ho he => ?_
  · have hm : b.2 ∈ es := by rw [← e2]; exact List.mem_map.mpr ⟨b, hb, rfl⟩
    have := hdp _ hm
    omega
  · obtain ⟨m, F⟩ := I.fr
    have N : PyProof.Rows.News X.base X.env.locals s.heap [] := fun p hp => nomatch hp
    obtain ⟨c, F', N', _, kp⟩ := PySem.W.sorted_news F N its out
    have hn := (N' _ List.mem_cons_self).1
    have hf : H (s.heap.objs.size + 1) = none := I.hok.fresh (Nat.le_succ _)
    refine ⟨.ref (s.heap.objs.size + 1), upd H (s.heap.objs.size + 1) (.lst (((xs.zip es).mergeSort (dataLe false Prod.snd)).map Prod.fst)), I.laid (t' := s.toks) kp (Nat.le_succ _) ⟨?_, out, c, vals_each he, hn⟩, rfl, q _ hf⟩
    rw [List.length_map, List.length_mergeSort, hzl, ← hlen]
    exact hz
def pyD (d : D) : PyData := (py d).getD .none
def leD : D → D → Bool := dataLe false pyD
def allAlikeB (es : List PyData) : Bool := es.all fun a => es.all fun b => alike a b
def isTupB : PyData → Bool
  | .tuple (_ :: _) => true
  | _ => false
def notTupB : PyData → Bool
  | .tuple _ => false
  | .none => false
  | _ => true
def sortOkB (es : List PyData) : Bool := allAlikeB es && (es.all isTupB || es.all notTupB) && es.all fun e => decide (e.depth ≤ 60)
theorem sortOk_alike {es : List PyData} (h : sortOkB es = true) : AllAlike es := by
  unfold sortOkB at h
  simp only [Bool.and_eq_true] at h
  intro d hd d' hd'
  exact List.all_eq_true.mp (List.all_eq_true.mp h.1.1 d hd) d' hd'
theorem sortOk_sortable {es : List PyData} (h : sortOkB es = true) : Sortable es := by
  unfold sortOkB at h
  simp only [Bool.and_eq_true, Bool.or_eq_true] at h
  rcases h.1.2 with q | q
  · refine .inl fun d hd => ?_
    have := List.all_eq_true.mp q d hd
    unfold isTupB at this
    split at this
    · exact ⟨_, _, rfl⟩
    · cases this
  · refine .inr fun d hd => ?_
    have z := List.all_eq_true.mp q d hd
    refine ⟨fun e => ?_, fun xs e => ?_⟩
    · rw [e] at z; cases z
    · rw [e] at z; cases z
theorem sortOk_depth {es : List PyData} (h : sortOkB es = true) : ∀ e ∈ es, e.depth ≤ 60 := by
  unfold sortOkB at h
  simp only [Bool.and_eq_true] at h
  intro d hd
  exact of_decide_eq_true (List.all_eq_true.mp h.2 d hd)
theorem each_sort {K : PySem.W.Frag} {B : Hp} {tb : Tb} : ∀ {ds : List D} {vs : List V} {es : List PyData}, reps K B tb ds vs → pys ds = some es → EachIs (fun (d : D) (b : V × PyData) => rep K B tb d b.1 ∧ pyD d = b.2) ds (vs.zip es)
  | [], vs, es, r, q => by
    simp only [reps] at r; subst r
    exact .nil
  | d :: ds, vs, es, r, q => by
    simp only [reps] at r
    obtain ⟨v, t, rfl, h1, h2⟩ := r
    simp only [pys] at q
    split at q
    · rename_i a r' e1 e2
      cases q
      exact .cons ⟨h1, by unfold pyD; rw [e1]; rfl⟩ (each_sort h2 e2)
    · cases q
theorem reps_each {K : PySem.W.Frag} {B : Hp} {tb : Tb} {ds : List D} {zs : List (V × PyData)} (h : EachIs (fun (d : D) (b : V × PyData) => rep K B tb d b.1 ∧ pyD d = b.2) ds zs) : reps K B tb ds (zs.map Prod.fst) := by
  induction h with
  | nil => exact reps_nil
  | cons r _ ih => exact reps_cons r.1 ih
def kSorted : List D → Sto → R D := k1 fun d S => match lsOf S d with
  | some ds => (match pys ds with
    | some es => chk (sortOkB es) (.ok (.lst (ds.mergeSort leD)) S)
    | none => .no)
  | none => .no
/-- .. a list that will change -/
def kSortedM : List D → Sto → R D := k1 fun d S => match lsOf S d with
  | some ds => (match pys ds with
    | some es => chk (sortOkB es) (.ok (.obj S.next) (S.push (.lst (ds.mergeSort leD))))
    | none => .no)
  | none => .no
theorem sort_reps {K : PySem.W.Frag} {B : Hp} {tb : Tb} {ds : List D} {vs : List V} {es : List PyData} (r : reps K B tb ds vs) (q : pys ds = some es) : reps K B tb (ds.mergeSort leD) (((vs.zip es).mergeSort (dataLe false Prod.snd)).map Prod.fst) := by
  have e := each_sort r q
  refine reps_each (PySem.W.sort_each e fun p hp p' hp' => ?_)
  have h1 := e.zip p hp
  have h2 := e.zip p' hp'
  unfold leD
  show PySem.W.sortLe _ _ _ _ _ = PySem.W.sortLe _ _ _ _ _
  unfold PySem.W.sortLe
  simp only [h1.2, h2.2]
theorem fit_sorted {K : PySem.W.Frag} : FitC K (rSortD K) kSorted := fit_k1 fun B tb W σ H S d v Q w r q => by
  split at q
  · rename_i ds e
    split at q
    · rename_i es e2
      obtain ⟨c, q⟩ := chk_ok q
      obtain ⟨p, vs, rfl, h1, r1⟩ := lsOf_ok w e r
      refine ⟨p, vs, es, rfl, h1, pys_ok w.sub ds vs es r1 e2, sortOk_alike c, sortOk_sortable c, sortOk_depth c, fun l hl => ?_⟩
      obtain ⟨B', e', w', r'⟩ := new_lst w (sort_reps r1 e2) hl
      exact q B' tb _ e' w' _ r'
    · exact q.elim
  · exact q.elim
theorem fit_sortedM {K : PySem.W.Frag} : FitC K (rSortD K) kSortedM := fit_k1 fun B tb W σ H S d v Q w r q => by
  split at q
  · rename_i ds e
    split at q
    · rename_i es e2
      obtain ⟨c, q⟩ := chk_ok q
      obtain ⟨p, vs, rfl, h1, r1⟩ := lsOf_ok w e r
      refine ⟨p, vs, es, rfl, h1, pys_ok w.sub ds vs es r1 e2, sortOk_alike c, sortOk_sortable c, sortOk_depth c, fun l hl => ?_⟩
      obtain ⟨tb', e', w', r'⟩ := new_obj w (sort_reps r1 e2) hl
      exact q B tb' _ e' w' _ r'
    · exact q.elim
  · exact q.elim
end Qd

namespace Qd
open PySem L2
open PyProof.Rows (IsTup)

/-! ### enumerate, zip over lists and tuples -/
/-- k: a list, else a tuple -/
def SrcH (K : PySem.W.Frag) (k : Bool) (a : Addr) (vs : List V) (H : Hp) : Prop := match k with
  | true => SqL K H a vs
  | false => SqT K H a vs
def SrcA (k : Bool) (a : Addr) (items : Array Value) (h : Heap) : Prop := match k with
  | true => h.IsList a items
  | false => h.IsTuple a items
def ItA (k : Bool) (it a : Addr) (i : Nat) (h : Heap) : Prop := match k with
  | true => h.IsListIter it a i
  | false => h.IsTupleIter it a i
def itObj (k : Bool) (a : Addr) : Obj := match k with
  | true => { cls := .type "list_iterator", data := .fields #[.ref a, .int 0 0] }
  | false => { cls := .type "tuple_iterator", data := .fields #[.ref a, .int 0 0] }
theorem ItA.keep {k : Bool} {it a : Addr} {i : Nat} {h h' : Heap} (x : ItA k it a i h) (q : ∀ o, h.get? it = some o → h'.get? it = some o) : ItA k it a i h' := by
  cases k with
  | true => exact Heap.IsListIter.at x q
  | false => exact Heap.IsTupleIter.at x q
theorem ItA.obj {k : Bool} {it a : Addr} {i : Nat} {h : Heap} (x : ItA k it a i h) : ∃ o, h.get? it = some o ∧ ∀ v, o.data ≠ .cell v := by
  cases k with
  | true => obtain ⟨o, h1, _, h2⟩ := x; exact ⟨o, h1, fun v q => by rw [h2] at q; cases q⟩
  | false => obtain ⟨o, h1, _, h2⟩ := x; exact ⟨o, h1, fun v q => by rw [h2] at q; cases q⟩
theorem drawsK {prog : Program} {w : World} {A : Around} (hh : A.handled = none) (k : Bool) (it a : Addr) (hne : a ≠ it) (items : Array Value) :
    Draws prog w A it [it, a] items.size (fun i v => items[i]? = some v) (fun i h => ItA k it a i h ∧ SrcA k a items h) := by
  cases k with
  | true => exact Draws.list hh it a hne items
  | false => exact Draws.tuple hh it a hne items
theorem beginsK (k : Bool) (a : Addr) (items : Array Value) : Begins (.ref a) (itObj k a) (SrcA k a items) := by
  cases k with
  | true => exact begins_list a items
  | false => exact begins_tuple a items
theorem itObj_it {k : Bool} {a it : Addr} {h : Heap} (e : h.get? it = some (itObj k a)) : ItA k it a 0 h := by
  cases k with
  | true => exact ⟨_, e, rfl, rfl⟩
  | false => exact ⟨_, e, rfl, rfl⟩
section
variable {X : Cx} {pins : List (Addr × Obj)} {σ : L2.St} {H : Hp} {s : Shared}
theorem src_of (I : Inv X pins σ H s) {k : Bool} {a : Addr} {vs : List V} (h : SrcH X.K k a vs H) : ∃ its : List Value, Vals vs its ∧ SrcA k a its.toArray s.heap ∧ a < s.heap.objs.size := by
  cases k with
  | true =>
    obtain ⟨its, rv, p, _⟩ := I.list h
    exact ⟨its, rv, p.isList, p.lt⟩
  | false =>
    obtain ⟨its, rv, p, _⟩ := I.tuple h
    exact ⟨its, rv, p, p.lt⟩
end
theorem apart_cls {k : Bool} {a e : Addr} {its : Array Value} {h : Heap} {o : Obj} (sa : SrcA k a its h) (he : h.get? e = some o) (hc : (o.cls == .type "list" || o.cls == .type "tuple") = false) : a ≠ e := by
  intro z
  subst z
  cases k with
  | true =>
    obtain ⟨o', h1, h2, _⟩ := sa
    rw [he] at h1; cases h1
    rw [h2] at hc
    exact absurd hc (by decide)
  | false =>
    obtain ⟨o', h1, h2, _⟩ := sa
    rw [he] at h1; cases h1
    rw [h2] at hc
    exact absurd hc (by decide)
theorem apart_it {k k' : Bool} {a it b : Addr} {i : Nat} {its : Array Value} {h : Heap} (sa : SrcA k a its h) (hi : ItA k' it b i h) : a ≠ it := by
  cases k' with
  | true => obtain ⟨o, h1, h2, _⟩ := hi; exact apart_cls sa h1 (by rw [h2] <;> rfl)
  | false => obtain ⟨o, h1, h2, _⟩ := hi; exact apart_cls sa h1 (by rw [h2] <;> rfl)
theorem _root_.PySem.GoesN.cast {prog : Program} {w : World} {A : Around} {target : Expr} {I : Addr} {fp wr : List Addr} {n : Nat} {Y : Nat → Heap → Value → Heap → Prop} {St St' : Nat → Heap → Prop} (G : GoesN prog w A target I fp wr n Y St) (h : ∀ i hp, St i hp ↔ St' i hp) : GoesN prog w A target I fp wr n Y St' := by
  have e : St = St' := by funext i hp; exact propext (h i hp)
  rw [← e]; exact G
/-- an iterator that gives new tuples, its sources looked up anew at each turn -/
theorem turnN {P : Program} {w : World} {K : PySem.W.Frag} {elts : List Expr} {kk : Nat} {tpos : Pos} {I : Addr} {own wr : List Addr} {n : Nat} (rows : Nat → List V) (Sr : Hp → Prop) {ι : Type} (SA : ι → Heap → Prop) (fps : List Addr) (tn : Nat → Heap → Prop)
    (hz : ∀ i, (rows i).length ≤ sizeLine) (mem : I ∈ own) (obj : ∀ i h, tn i h → ∀ b ∈ own, ∃ o, h.get? b = some o ∧ ∀ v, o.data ≠ .cell v)
    (keep : ∀ i h h', tn i h → (∀ b ∈ own, ∀ o, h.get? b = some o → h'.get? b = some o) → tn i h') (hw : ∀ b ∈ wr, b ∈ own)
    (self : ∀ (A : Around) (i : Nat) (s : Shared) (Q : Value → Shared → Prop) (E : Value → Shared → Prop), tn i s.heap → Q (.ref I) s → wpAny (model P w) A (pyIter (.ref I)) Q E s)
    (src : ∀ (X : Cx) (pins : List (Addr × Obj)) (σ : L2.St) (H : Hp) (s : Shared), X.K = K → Inv X pins σ H s → Sr H → ∀ i, tn i s.heap → ∃ j, SA j s.heap ∧
      ∀ A : Around, A.handled = none → GoesN P w A (.Tuple elts kk tpos) I fps wr n (fun i h₀ v h => ∃ T vals, v = .ref T ∧ h₀.objs.size ≤ T ∧ Vals (rows i) vals ∧ h.IsTuple T vals.toArray) (fun i h => tn i h ∧ SA j h)) :
    Turn P w K (.Tuple elts kk tpos) ⟨fun i H => i < n ∧ Sr H, fun i H x H' => ∃ T, x = .ref T ∧ H T = none ∧ H' = upd H T (.tup (rows i)), fun i H => i = n ∧ Sr H⟩ own I tn where
  mem := mem
  obj := obj
  keep := keep
  item := by
    intro X hP hw' hK hc i pins s σ H E I0 hf st hg
    subst hP hw'
    obtain ⟨hi, hs⟩ := hg
    obtain ⟨j, sa, G⟩ := src X pins σ H s hK I0 hs _ st
    subst hK
    refine (G X.A (I0.ok.hd hc)).goes i s _ E hi ⟨st, sa⟩ fun v h' tk hY st' hk _ => ?_
    obtain ⟨T, vals, rfl, hT, rv, ht⟩ := hY
    have new : ObjOk X.prog X.w (upd H T (.tup (rows i))) h' T (.tup (rows i)) := ⟨hz i, vals, rv, ht⟩
    have I1 : Inv X pins σ (upd H T (.tup (rows i))) { s with heap := h', toks := tk } := I0.turnedNew (ch := wr) hk (fun b hb => hf b (hw b hb)) hT new
    refine ⟨.ref T, _, I1, rfl, ⟨T, rfl, I0.hok.fresh hT, rfl⟩, st'.1, fun b hb => ?_⟩
    obtain ⟨o, ho, _⟩ := obj i _ st b hb
    rw [upd_ne (Nat.ne_of_lt (Nat.lt_of_lt_of_le (Heap.lt_size ho) hT))]
    exact (hf b hb).1
  done := by
    intro X hP hw' hK hc i pins s σ H E I0 hf st hg
    subst hP hw'
    obtain ⟨rfl, hs⟩ := hg
    obtain ⟨j, sa, G⟩ := src X pins σ H s hK I0 hs _ st
    subst hK
    exact (G X.A (I0.ok.hd hc)).stops s _ E ⟨st, sa⟩ fun h' tk hk _ => I0.turnedL (ch := wr) hk fun b hb => hf b (hw b hb)
  self := self
/-- enumerate of one argument -/
theorem meets_enum1 {v : Value} {ob : Obj} {Hs : Heap → Prop} (Bg : Begins v ob Hs) : Meets (Builtin.«enumerate.__new__» ⟨[.type "enumerate", v], []⟩) (fun _ Rs st =>
    Hs st.heap ∧ Rs (.ok (.ret (.ref (st.heap.push ob).objs.size))) { st with heap := (st.heap.push ob).push { cls := .type "enumerate", data := .fields #[.none, .bool false, .ref st.heap.objs.size, rawInt 0, .none, .none] } }) :=
  .of_wp fun pr wo Ar Rs st hy => by
    obtain ⟨hp, gn, dr, tk, os⟩ := st
    obtain ⟨hy1, hy2⟩ := hy
    have hsub := sub_enumerate
    have go1 : ∀ {A' : Around} {E' Q' : Value → Shared → Prop}, Q' (.ref hp.objs.size) ⟨hp.push ob, gn, dr, tk, os⟩ → wpAny (model pr wo) A' (pyIter v) Q' E' ⟨hp, gn, dr, tk, os⟩ := fun q => Bg.iter pr wo _ _ ⟨hp, gn, dr, tk, os⟩ _ hy1 q
    wp_walk using go1
    refine wpAny_stack_any fun z => wpAny_pure ?_
    split
    · rename_i c _ _ _ _ _
      cases (c == Value.type "enumerate") <;> (wp_walk using go1; exact ⟨_, rfl, hy2⟩)
    · wp_walk using go1
      exact ⟨_, rfl, hy2⟩
theorem enum_begins1 {prog : Program} {w : World} {A : Around} {E : Value → Shared → Prop} {s : Shared} {v : Value} {ob : Obj} {Hs : Heap → Prop} {Q : Value → Shared → Prop} (Bg : Begins v ob Hs) (h1 : Hs s.heap)
    (k : ∀ g : Heap, IsEnum g (s.heap.objs.size + 1) s.heap.objs.size 0 .none → g.get? s.heap.objs.size = some ob → (∀ c u, s.heap.get? c = some u → g.get? c = some u) → Q (.ref (s.heap.objs.size + 1)) { s with heap := g }) :
    wpAny (model prog w) A (call (.type "enumerate") [v]) Q E s := by
  refine callType_new F.called_enumerate (by decide) (F.typeCall_enumerate_1 _) (F.newCall_enumerate_1 _) (fun y => F.args_object_init_2 y _) F.entry_enumerate_new (meets_enum1 Bg) ⟨h1, ?_⟩
  have sz : (s.heap.push ob).objs.size = s.heap.objs.size + 1 := Heap.size_push ..
  show _ ∧ _
  rw [sz]
  generalize hen : ({ cls := .type "enumerate", data := .fields #[.none, .bool false, .ref s.heap.objs.size, rawInt 0, .none, .none] } : Obj) = en
  have g1 : ((s.heap.push ob).push en).get? (s.heap.objs.size + 1) = some en := by
    have z := Heap.get?_push_size (s.heap.push ob) (o := en) (by rw [← hen] <;> rfl)
    rw [sz] at z; exact z
  have ie : IsEnum ((s.heap.push ob).push en) (s.heap.objs.size + 1) s.heap.objs.size 0 .none := by rw [← hen] at g1 ⊢; exact g1
  exact ⟨⟨_, g1, by rw [← hen] <;> rfl⟩, k _ ie (Heap.get?_push_of_some _ (Heap.get?_push_size _ Bg.free)) fun c u x => Heap.get?_push_of_some _ (Heap.get?_push_of_some _ x)⟩
def ItEnum (K : PySem.W.Frag) (k : Bool) (a : Addr) (vs : List V) : It := ⟨fun i H => i < vs.length ∧ SrcH K k a vs H, fun i H x H' => ∃ T, x = .ref T ∧ H T = none ∧ H' = upd H T (.tup ((vs[i]?.map fun v => [V.int (i : Nat), v]).getD [])), fun i H => i = vs.length ∧ SrcH K k a vs H⟩
theorem two_line : 2 ≤ sizeLine := by rw [sizeLine_eq]; decide
theorem turn_enumK {P : Program} {w : World} {K : PySem.W.Frag} {elts : List Expr} {kk : Nat} {tpos : Pos} (k : Bool) (a e it : Addr) (vs : List V) (hei : e ≠ it) :
    Turn P w K (.Tuple elts kk tpos) (ItEnum K k a vs) [e, it] e (fun i h => (∃ old, IsEnum h e it (0 + (i : Int)) old) ∧ ItA k it a i h) := by
  refine turnN (fun i => (vs[i]?.map fun v => [V.int (i : Nat), v]).getD []) (SrcH K k a vs) (ι := List Value) (fun its h => SrcA k a its.toArray h) [e, it, a] _ (wr := [e, it]) (fun i => ?_) (by simp) (fun i h st b hb => ?_) (fun i h h' st q => ?_) (fun b hb => hb) (fun A i s Q E st h => ?_) (fun X pins σ H s hK I hs j0 st => ?_)
  · cases vs[i]? with
    | none => exact Nat.zero_le _
    | some v => exact two_line
  · obtain ⟨⟨old, he⟩, hi⟩ := st
    have e' : b = e ∨ b = it := by simpa using hb
    rcases e' with z | z
    · subst z; exact ⟨_, he, fun v q => nomatch q⟩
    · subst z; exact hi.obj
  · obtain ⟨⟨old, he⟩, hi⟩ := st
    exact ⟨⟨old, q e (by simp) _ he⟩, hi.keep fun o x => q it (by simp) o x⟩
  · obtain ⟨⟨old, he⟩, _⟩ := st
    exact wpAny_pyIter_enum he h
  · subst hK
    obtain ⟨its, rv, sa, la⟩ := src_of I hs
    obtain ⟨⟨old, he⟩, hi⟩ := st
    have ne1 : a ≠ it := apart_it sa hi
    have ne2 : a ≠ e := apart_cls sa he rfl
    refine ⟨its, sa, fun A hh => ?_⟩
    have G := (GoesN.enumFrom (elts := elts) (x1 := kk) (pos := tpos) 0 (drawsK (prog := P) (w := w) (A := A.in1) hh k it a ne1 its.toArray) e hei (by simp [hei, Ne.symm ne2]) (by simp))
    have sz : its.toArray.size = vs.length := by rw [List.size_toArray]; exact rv.length.symm
    rw [sz] at G
    refine (GoesN.cast G fun i h => ⟨fun ⟨x, y, z⟩ => ⟨⟨x, y⟩, z⟩, fun ⟨⟨x, y⟩, z⟩ => ⟨x, y, z⟩⟩).mono fun i h₀ v h hi ⟨T, t, x, e1, e2, e3, e4⟩ => ?_
    have e3' : its[i]? = some x := by simpa using e3
    obtain ⟨v', hv⟩ : ∃ v', vs[i]? = some v' := ⟨vs[i], by simp [hi]⟩
    obtain ⟨u, hu, ru⟩ := rv.get hv
    rw [e3'] at hu; cases hu
    refine ⟨T, [.int (0 + (i : Int)) t, x], e1, e2, ?_, by simpa using e4⟩
    rw [hv]
    exact .cons ⟨t, by rw [Int.zero_add]⟩ (.cons ru .nil)
end Qd

namespace Qd
open PySem L2

def ItZip (K : PySem.W.Frag) (k k' : Bool) (a b : Addr) (vs us : List V) : It := ⟨fun i H => i < min vs.length us.length ∧ SrcH K k a vs H ∧ SrcH K k' b us H, fun i H x H' => ∃ T, x = .ref T ∧ H T = none ∧ H' = upd H T (.tup ((vs[i]?.bind fun v => us[i]?.map fun u => [v, u]).getD [])),
  fun i H => i = min vs.length us.length ∧ SrcH K k a vs H ∧ SrcH K k' b us H⟩
theorem turn_zipK {P : Program} {w : World} {K : PySem.W.Frag} {elts : List Expr} {kk : Nat} {tpos : Pos} (k k' : Bool) (a b N : Addr) (vs us : List V) (ha : a < N) (hb : b < N) :
    Turn P w K (.Tuple elts kk tpos) (ItZip K k k' a b vs us) [N + 4, N + 2, N + 3, N, N + 1] (N + 4) (fun i h => (IsZip h (N + 4) (N + 2) (N + 3) .none ∧ IsTupOf2 h (N + 2) (.ref N) (.ref (N + 1)) ∧ ∃ a1 a2, IsTupOf2 h (N + 3) a1 a2) ∧ ItA k N a i h ∧ ItA k' (N + 1) b i h) := by
  have na : a ≠ N := Nat.ne_of_lt ha
  have nb : b ≠ N + 1 := Nat.ne_of_lt (Nat.lt_succ_of_lt hb)
  refine turnN (fun i => (vs[i]?.bind fun v => us[i]?.map fun u => [v, u]).getD []) (fun H => SrcH K k a vs H ∧ SrcH K k' b us H) (ι := List Value × List Value) (fun its h => SrcA k a its.1.toArray h ∧ SrcA k' b its.2.toArray h) ((N + 4) :: (N + 2) :: (N + 3) :: ([N, a] ++ [N + 1, b])) _ (wr := [N + 4, N + 3, N, N + 1])
    (fun i => ?_) (by simp) (fun i h st c hc => ?_) (fun i h h' st q => ?_) (fun c hc => ?_) (fun A i s Q E st h => wpAny_pyIter_zip st.1.1 h) (fun X pins σ H s hK I hs j0 st => ?_)
  · cases vs[i]? with
    | none => exact Nat.zero_le _
    | some v => cases us[i]? with
      | none => exact Nat.zero_le _
      | some u => exact two_line
  · obtain ⟨⟨hz, hTI, a1, a2, hTO⟩, h1, h2⟩ := st
    have e' : c = N + 4 ∨ c = N + 2 ∨ c = N + 3 ∨ c = N ∨ c = N + 1 := by simpa using hc
    rcases e' with z | z | z | z | z
    · subst z; exact ⟨_, hz, fun v q => nomatch q⟩
    · subst z; exact ⟨_, hTI, fun v q => nomatch q⟩
    · subst z; exact ⟨_, hTO, fun v q => nomatch q⟩
    · subst z; exact h1.obj
    · subst z; exact h2.obj
  · obtain ⟨⟨hz, hTI, a1, a2, hTO⟩, h1, h2⟩ := st
    exact ⟨⟨q _ (by simp) _ hz, q _ (by simp) _ hTI, a1, a2, q _ (by simp) _ hTO⟩, h1.keep fun o x => q _ (by simp) o x, h2.keep fun o x => q _ (by simp) o x⟩
  · have e' : c = N + 4 ∨ c = N + 3 ∨ c = N ∨ c = N + 1 := by simpa using hc
    rcases e' with z | z | z | z <;> subst z <;> simp
  · subst hK
    obtain ⟨its, rv, sa, la⟩ := src_of I hs.1
    obtain ⟨its2, rv2, sa2, la2⟩ := src_of I hs.2
    refine ⟨(its, its2), ⟨sa, sa2⟩, fun A hh => ?_⟩
    have sep : ZipSep2 (N + 4) (N + 2) (N + 3) N (N + 1) (N :: [a]) ((N + 1) :: [b]) := zip_sep2 (fun c hc => by rw [List.mem_singleton.mp hc]; exact ha) (fun c hc => by rw [List.mem_singleton.mp hc]; exact hb)
    have G := GoesN.zip2 (elts := elts) (x1 := kk) (pos := tpos) sep (drawsK (prog := P) (w := w) (A := A.in1) hh k N a na its.toArray) (drawsK (prog := P) (w := w) (A := A.in1) hh k' (N + 1) b nb its2.toArray)
    have sz : min its.toArray.size its2.toArray.size = min vs.length us.length := by rw [List.size_toArray, List.size_toArray, rv.length, rv2.length]
    rw [sz] at G
    refine (GoesN.cast G fun i h => ⟨fun ⟨x, y, z, ⟨p, q⟩, r, t⟩ => ⟨⟨⟨x, y, z⟩, p, r⟩, q, t⟩, fun ⟨⟨⟨x, y, z⟩, p, r⟩, q, t⟩ => ⟨x, y, z, ⟨p, q⟩, r, t⟩⟩).mono fun i h₀ v h hi ⟨T, x, y, e1, e2, e3, e4, e5⟩ => ?_
    have e3' : its[i]? = some x := by simpa using e3
    have e4' : its2[i]? = some y := by simpa using e4
    have hi1 : i < vs.length := by omega
    have hi2 : i < us.length := by omega
    have hv : vs[i]? = some vs[i] := by simp [hi1]
    have hu : us[i]? = some us[i] := by simp [hi2]
    obtain ⟨x', q1, r1⟩ := rv.get hv
    obtain ⟨y', q2, r2⟩ := rv2.get hu
    rw [e3'] at q1; cases q1
    rw [e4'] at q2; cases q2
    refine ⟨T, [x, y], e1, e2, ?_, by simpa using e5⟩
    rw [hv, hu]
    exact .cons r1 (.cons r2 .nil)
section
variable {X : Cx} {W : WX} {e e2 : Expr} {f g : FE} {elts : List Expr} {kk : Nat} {p pos tpos : Pos}
def iEnumK (K : PySem.W.Frag) (te : TE) : TI := fun σ H R => te σ H fun x H1 => ∃ a vs k, x = .ref a ∧ SrcH K k a vs H1 ∧ R (ItEnum K k a vs) H1
theorem pi_enumK {te : TE} (hg : Gl X "enumerate") (hm : X.mg "enumerate" = none) (he : PE X e te) (hs : starEach (e :: []) X.env = (false, eval e X.env) :: starEach [] X.env := by rfl) (hs2 : starEach [e] X.env = [(false, eval e X.env)] := by rfl) :
    PI X (.Tuple elts kk tpos) (.Call (.Name "enumerate" p) [e] [] pos) (iEnumK X.K te) := by
  refine ⟨fun pins s σ H R I h => PyProof.Rows.Call_ (ld_blt I hg hm PyProof.Rows.boot_enumerate (PyProof.Rows.callWith_type1 (thn ((pa_cons he pa_nil hs).run pos pins s σ H (fun vs H1 => ∃ a ws k, vs = [.ref a] ∧ SrcH X.K k a ws H1 ∧ R (ItEnum X.K k a ws) H1) I ?_) fun us s1 ⟨vs, H1, I1, r1, q1⟩ => ?_) hs2 rfl))⟩
  · have h' : te σ H fun x H1 => ∃ a vs k, x = .ref a ∧ SrcH X.K k a vs H1 ∧ R (ItEnum X.K k a vs) H1 := h
    have key : (fun x H1 => ∃ a vs k, x = V.ref a ∧ SrcH X.K k a vs H1 ∧ R (ItEnum X.K k a vs) H1) = fun (x : V) (H1 : Hp) => ∃ a ws k, [x] = [V.ref a] ∧ SrcH X.K k a ws H1 ∧ R (ItEnum X.K k a ws) H1 := by
      funext x H1
      simp only [List.cons.injEq, and_true]
    rw [key] at h'
    exact h'
  · obtain ⟨a, ws, k, rfl, hq, q⟩ := q1
    obtain ⟨u, rfl, ru⟩ := Vals.one r1
    obtain rfl : u = Value.ref a := ru
    obtain ⟨its, rv, sa, la⟩ := src_of I1 hq
    refine enum_begins1 (beginsK k a its.toArray) sa fun h' he hit hk => wpAny_pyIter_enum he ?_
    have I2 : Inv X pins σ H1 { s1 with heap := h' } := I1.kept (t' := s1.toks) hk
    refine ⟨s1.heap.objs.size + 1, [s1.heap.objs.size + 1, s1.heap.objs.size], _, _, H1, rfl, I2, turn_enumK k a (s1.heap.objs.size + 1) s1.heap.objs.size ws (Nat.succ_ne_self _), ⟨⟨.none, he⟩, itObj_it hit⟩, fun b hb => ?_, q⟩
    have hle : s1.heap.objs.size ≤ b := by
      have e' : b = s1.heap.objs.size + 1 ∨ b = s1.heap.objs.size := by simpa using hb
      rcases e' with z | z
      · rw [z]; exact Nat.le_succ _
      · rw [z]; exact Nat.le_refl _
    exact I1.fpOk hle (I1.hok.fresh hle)
def iZipK (K : PySem.W.Frag) (ta tb : TE) : TI := fun σ H R => ta σ H fun x H1 => tb σ H1 fun y H2 => ∃ a b vs us k k', x = .ref a ∧ y = .ref b ∧ SrcH K k a vs H2 ∧ SrcH K k' b us H2 ∧ R (ItZip K k k' a b vs us) H2
theorem pi_zipK {ta tb : TE} (hg : Gl X "zip") (hm : X.mg "zip" = none) (he : PE X e ta) (he2 : PE X e2 tb) (hs : starEach [e, e2] X.env = (false, eval e X.env) :: starEach [e2] X.env := by rfl) (hs2 : starEach (e2 :: []) X.env = (false, eval e2 X.env) :: starEach [] X.env := by rfl)
    (hpl : (backTo pos (starEach [e2] X.env)).any (·.1) = false := by rfl) : PI X (.Tuple elts kk tpos) (.Call (.Name "zip" p) [e, e2] [] pos) (iZipK X.K ta tb) := by
  refine ⟨fun pins s σ H R I h => PyProof.Rows.Call_ (ld_blt I hg hm PyProof.Rows.boot_zip (PyProof.Rows.callWith_type1 (thn ((pa_cons he (pa_cons he2 pa_nil hs2) hs).run pos pins s σ H (fun vs H2 => ∃ a b ws us k k', vs = [.ref a, .ref b] ∧ SrcH X.K k a ws H2 ∧ SrcH X.K k' b us H2 ∧ R (ItZip X.K k k' a b ws us) H2) I ?_) fun us s1 ⟨vs, H1, I1, r1, q1⟩ => ?_) hs hpl))⟩
  · have h' : ta σ H fun x H1 => tb σ H1 fun y H2 => ∃ a b vs us k k', x = .ref a ∧ y = .ref b ∧ SrcH X.K k a vs H2 ∧ SrcH X.K k' b us H2 ∧ R (ItZip X.K k k' a b vs us) H2 := h
    have key : (fun (x : V) H1 => tb σ H1 fun y H2 => ∃ a b vs us k k', x = .ref a ∧ y = .ref b ∧ SrcH X.K k a vs H2 ∧ SrcH X.K k' b us H2 ∧ R (ItZip X.K k k' a b vs us) H2) = fun (x : V) H1 => tb σ H1 fun y H2 => ∃ a b ws us k k', [x, y] = [.ref a, .ref b] ∧ SrcH X.K k a ws H2 ∧ SrcH X.K k' b us H2 ∧ R (ItZip X.K k k' a b ws us) H2 := by
      funext x H1
      congr 1
      funext y H2
      simp only [List.cons.injEq, and_true, and_assoc]
    rw [key] at h'
    exact h'
  · obtain ⟨a, b, ws, zs, k, k', rfl, hq, hq2, q⟩ := q1
    obtain ⟨u, u2, rfl, ru, ru2⟩ := Vals.two r1
    obtain rfl : u = Value.ref a := ru
    obtain rfl : u2 = Value.ref b := ru2
    obtain ⟨its, rv, sa, la⟩ := src_of I1 hq
    obtain ⟨its2, rv2, sa2, la2⟩ := src_of I1 hq2
    refine zip_begins2 (beginsK k a its.toArray) (beginsK k' b its2.toArray) sa sa2 fun h' hz hTI hTO h1 h2 hsz hk => wpAny_pyIter_zip hz ?_
    have I2 : Inv X pins σ H1 { s1 with heap := h' } := I1.kept (t' := s1.toks) hk
    refine ⟨s1.heap.objs.size + 4, [s1.heap.objs.size + 4, s1.heap.objs.size + 2, s1.heap.objs.size + 3, s1.heap.objs.size, s1.heap.objs.size + 1], _, _, H1, rfl, I2, turn_zipK k k' a b s1.heap.objs.size ws zs la la2, ⟨⟨hz, hTI, _, _, hTO⟩, itObj_it h1, itObj_it h2⟩, fun c hc => ?_, q⟩
    have hle : s1.heap.objs.size ≤ c := by
      have e' : c = s1.heap.objs.size + 4 ∨ c = s1.heap.objs.size + 2 ∨ c = s1.heap.objs.size + 3 ∨ c = s1.heap.objs.size ∨ c = s1.heap.objs.size + 1 := by simpa using hc
      rcases e' with z | z | z | z | z <;> rw [z] <;> first | exact Nat.le_add_right _ _ | exact Nat.le_refl _
    exact I1.fpOk hle (I1.hok.fresh hle)

def enumD : Nat → List D → List D
  | _, [] => []
  | n, d :: r => .tup [.int (n : Int), d] :: enumD (n + 1) r
def zipD : List D → List D → List D
  | d :: r, e :: s => .tup [d, e] :: zipD r s
  | _, _ => []
theorem enumD_get : ∀ (n : Nat) (ds : List D) (i : Nat), (enumD n ds)[i]? = ds[i]?.map fun d => .tup [.int ((n + i : Nat) : Int), d]
  | n, [], i => by simp [enumD]
  | n, d :: r, 0 => by simp [enumD]
  | n, d :: r, i + 1 => by
    simp only [enumD, List.getElem?_cons_succ, enumD_get (n + 1) r i]
    congr 1
    funext x
    have : n + 1 + i = n + (i + 1) := by omega
    rw [this]
theorem enumD_len : ∀ (n : Nat) (ds : List D), (enumD n ds).length = ds.length
  | _, [] => rfl
  | n, d :: r => by simp [enumD, enumD_len (n + 1) r]
theorem zipD_get : ∀ (ds es : List D) (i : Nat), (zipD ds es)[i]? = ds[i]?.bind fun d => es[i]?.map fun e => .tup [d, e]
  | [], es, i => by simp [zipD]
  | d :: r, [], i => by cases i <;> simp [zipD]
  | d :: r, e :: s, 0 => by simp [zipD]
  | d :: r, e :: s, i + 1 => by simp [zipD, zipD_get r s i]
theorem zipD_len : ∀ (ds es : List D), (zipD ds es).length = min ds.length es.length
  | [], es => by simp [zipD]
  | d :: r, [] => by simp [zipD]
  | d :: r, e :: s => by simp [zipD, zipD_len r s]
/-- a list or tuple that never changes, as a source -/
theorem src_fr {K : PySem.W.Frag} {B : Hp} {tb : Tb} {d : D} {ds : List D} {v : V} (e : frOf d = some ds) (r : rep K B tb d v) : ∃ a vs k, v = .ref a ∧ reps K B tb ds vs ∧ ∀ (B' H' : Hp), (∀ a o, B a = some o → B' a = some o) → (∀ a o, B' a = some o → H' a = some o) → SrcH K k a vs H' := by
  cases d with
  | tup es =>
    cases e
    simp only [rep] at r
    obtain ⟨a, vs, rfl, h1, h2⟩ := r
    exact ⟨a, vs, false, rfl, h2, fun B' H' s u => SqT.ex u (TpB.ex s h1)⟩
  | lst es =>
    cases e
    simp only [rep] at r
    obtain ⟨a, vs, rfl, h1, h2⟩ := r
    exact ⟨a, vs, true, rfl, h2, fun B' H' s u => SqL.of (u _ _ (s _ _ h1))⟩
  | scr es =>
    cases e
    simp only [rep] at r
    obtain ⟨a, vs, rfl, h1, h2⟩ := r
    exact ⟨a, vs, true, rfl, h2, fun B' H' s u => SqL.ex u (SqL.ex s h1)⟩
  | _ => cases e
theorem itOk_enum {K : PySem.W.Frag} {B : Hp} {tb : Tb} {k : Bool} {a : Addr} {vs : List V} {ds : List D} (h : ∀ (B' H' : Hp), (∀ a o, B a = some o → B' a = some o) → (∀ a o, B' a = some o → H' a = some o) → SrcH K k a vs H') (r : reps K B tb ds vs) : ItOk K (ItEnum K k a vs) (enumD 0 ds) B tb := by
  intro i B1 tb1 H1 S1 s t w
  have hl := h B1 H1 s w.sub
  refine ⟨fun d hd => ?_, fun e => ⟨by rw [enumD_len] at e; rw [e, reps_len r], hl⟩⟩
  rw [enumD_get] at hd
  cases z : ds[i]? with
  | none => rw [z] at hd; cases hd
  | some d0 =>
    rw [z] at hd
    obtain ⟨v, h1, h2⟩ := reps_get r z
    refine ⟨⟨(List.getElem?_eq_some_iff.mp h1).1, hl⟩, fun x H' ⟨T, e1, e2, e3⟩ => ?_⟩
    subst e1 e3
    rw [h1]
    have hr : reps K B1 tb1 [.int ((i : Nat) : Int), d0] [.int ((i : Nat) : Int), v] := reps_cons rep_int (reps_cons (rep_mono s t _ _ h2) reps_nil)
    obtain ⟨B', x', w', r'⟩ := new_tup w hr e2
    refine ⟨B', x', w', ?_⟩
    have : d = .tup [.int ((i : Nat) : Int), d0] := by
      have z2 := Option.some.inj hd
      rw [← z2, Nat.zero_add]
    rw [this]; exact r'
theorem itOk_zip {K : PySem.W.Frag} {B : Hp} {tb : Tb} {k k' : Bool} {a b : Addr} {vs us : List V} {ds es : List D} (h : ∀ (B' H' : Hp), (∀ a o, B a = some o → B' a = some o) → (∀ a o, B' a = some o → H' a = some o) → SrcH K k a vs H') (h' : ∀ (B' H' : Hp), (∀ a o, B a = some o → B' a = some o) → (∀ a o, B' a = some o → H' a = some o) → SrcH K k' b us H')
    (r : reps K B tb ds vs) (r' : reps K B tb es us) : ItOk K (ItZip K k k' a b vs us) (zipD ds es) B tb := by
  intro i B1 tb1 H1 S1 s t w
  have hl := h B1 H1 s w.sub
  have hl' := h' B1 H1 s w.sub
  refine ⟨fun d hd => ?_, fun e => ⟨by rw [zipD_len] at e; rw [e, reps_len r, reps_len r'], hl, hl'⟩⟩
  rw [zipD_get] at hd
  cases z : ds[i]? with
  | none => rw [z] at hd; cases hd
  | some d0 =>
    cases z' : es[i]? with
    | none => rw [z, z'] at hd; cases hd
    | some d1 =>
      rw [z, z'] at hd
      obtain ⟨v, h1, h2⟩ := reps_get r z
      obtain ⟨u, h3, h4⟩ := reps_get r' z'
      have i1 := (List.getElem?_eq_some_iff.mp h1).1
      have i2 := (List.getElem?_eq_some_iff.mp h3).1
      refine ⟨⟨by omega, hl, hl'⟩, fun x H' ⟨T, e1, e2, e3⟩ => ?_⟩
      subst e1 e3
      rw [h1, h3]
      have hr : reps K B1 tb1 [d0, d1] [v, u] := reps_cons (rep_mono s t _ _ h2) (reps_cons (rep_mono s t _ _ h4) reps_nil)
      obtain ⟨B', x', w', r'⟩ := new_tup w hr e2
      refine ⟨B', x', w', ?_⟩
      have : d = .tup [d0, d1] := (Option.some.inj hd).symm
      rw [this]; exact r'
def iEnum (f : FE) : FI := fun ρ S => (f ρ S).bind fun d S => match frOf d with
  | some ds => .ok (enumD 0 ds) S
  | none => .no
def iZip (f g : FE) : FI := fun ρ S => (f ρ S).bind fun d S => (g ρ S).bind fun e S => match frOf d, frOf e with
  | some ds, some es => .ok (zipD ds es) S
  | _, _ => .no
theorem di_enum (hg : Gl X "enumerate") (hm : X.mg "enumerate" = none) (he : DE X W e f) (hs : starEach (e :: []) X.env = (false, eval e X.env) :: starEach [] X.env := by rfl) (hs2 : starEach [e] X.env = [(false, eval e X.env)] := by rfl) :
    DI X W (.Tuple elts kk tpos) (.Call (.Name "enumerate" p) [e] [] pos) (iEnum f) := (pi_enumK hg hm he hs hs2).imp fun σ H Rk ⟨B, tb, ρ, S, w, e, q⟩ =>
  LE.step w e q fun d S1 B1 tb1 H1 v x1 w1 e1 r1 h1 => by
    split at h1
    · rename_i ds hd
      obtain ⟨a, vs, k, rfl, h2, h3⟩ := src_fr hd r1
      exact ⟨a, vs, k, rfl, h3 B1 H1 (fun _ _ h => h) w1.sub, h1.ok w1 _ (itOk_enum h3 h2)⟩
    · exact h1.elim
theorem di_zip (hg : Gl X "zip") (hm : X.mg "zip" = none) (he : DE X W e f) (he2 : DE X W e2 g) (hs : starEach [e, e2] X.env = (false, eval e X.env) :: starEach [e2] X.env := by rfl) (hs2 : starEach (e2 :: []) X.env = (false, eval e2 X.env) :: starEach [] X.env := by rfl)
    (hpl : (backTo pos (starEach [e2] X.env)).any (·.1) = false := by rfl) : DI X W (.Tuple elts kk tpos) (.Call (.Name "zip" p) [e, e2] [] pos) (iZip f g) := (pi_zipK hg hm he he2 hs hs2 hpl).imp fun σ H Rk ⟨B, tb, ρ, S, w, e, q⟩ =>
  LE.step w e q fun d S1 B1 tb1 H1 v x1 w1 e1 r1 h1 => LE.step w1 e1 h1 fun d2 S2 B2 tb2 H2 u x2 w2 e2 r2 h2 => by
    split at h2
    · rename_i ds es hd hd2
      obtain ⟨a, vs, k, rfl, q2, q3⟩ := src_fr hd (rep_ex x2 _ _ r1)
      obtain ⟨b, us, k', rfl, q4, q5⟩ := src_fr hd2 r2
      exact ⟨a, b, vs, us, k, k', rfl, rfl, q3 B2 H2 (fun _ _ h => h) w2.sub, q5 B2 H2 (fun _ _ h => h) w2.sub, h2.ok w2 _ (itOk_zip q3 q5 q2 q4)⟩
    · exact h2.elim
end
end Qd

namespace Qd
open PySem L2

/-! ### how many arguments -/
theorem al_c {f : FE} {fa : FA} {n : Nat} (h : ∀ ρ S d S', fa ρ S = .ok d S' → d.length = n) : ∀ ρ S d S', aCons f fa ρ S = .ok d S' → d.length = n + 1 := by
  intro ρ S d S' q
  unfold aCons at q
  cases z : f ρ S with
  | ok x S1 =>
    rw [z] at q
    simp only [bind_ok] at q
    cases y : fa ρ S1 with
    | ok xs S2 => rw [y] at q; cases q; simp [h _ _ _ _ y]
    | er C ns vs S2 => rw [y] at q; cases q
    | no => rw [y] at q; cases q
  | er C ns vs S1 => rw [z] at q; cases q
  | no => rw [z] at q; cases q
theorem al_0 : ∀ ρ S d S', aNil ρ S = .ok d S' → d.length = 0 := by
  intro ρ S d S' h; cases h; rfl
theorem al_n1 {f : FE} : ∀ ρ S d S', aCons f aNil ρ S = .ok d S' → d.length = 1 := al_c al_0
theorem al_n2 {f g : FE} : ∀ ρ S d S', aCons f (aCons g aNil) ρ S = .ok d S' → d.length = 2 := al_c al_n1
theorem al_n3 {f g h : FE} : ∀ ρ S d S', aCons f (aCons g (aCons h aNil)) ρ S = .ok d S' → d.length = 3 := al_c al_n2
theorem al_n4 {f g h i : FE} : ∀ ρ S d S', aCons f (aCons g (aCons h (aCons i aNil))) ρ S = .ok d S' → d.length = 4 := al_c al_n3
theorem al_n5 {f g h i j : FE} : ∀ ρ S d S', aCons f (aCons g (aCons h (aCons i (aCons j aNil)))) ρ S = .ok d S' → d.length = 5 := al_c al_n4
theorem al_n6 {f g h i j k : FE} : ∀ ρ S d S', aCons f (aCons g (aCons h (aCons i (aCons j (aCons k aNil))))) ρ S = .ok d S' → d.length = 6 := al_c al_n5

/-! ### several targets -/
def gEach : List FG → List D → Rho → Sto → R Rho
  | [], ds => fun ρ S => match ds with
    | [] => .ok ρ S
    | _ :: _ => .no
  | g :: gs, ds => fun ρ S => match ds with
    | [] => .no
    | x :: xs => (g x ρ S).bind fun ρ' S' => gEach gs xs ρ' S'
def gMany (gs : List FG) : FG := fun d ρ S => match d with
  | .tup ds => chk (ds.length == gs.length) (gEach gs ds ρ S)
  | _ => .no
def LGs (K : PySem.W.Frag) (W : WX) (gs : List FG) : TGs := fun vs σ H Q => ∃ B tb ρ S ds, Wd K H B tb S ∧ repE K B tb ρ σ ∧ reps K B tb ds vs ∧ Post K B tb W σ (gEach gs ds ρ S) fun ρ' _ B' tb' H' => ∀ σ', repE K B' tb' ρ' σ' → Q σ' H'
abbrev DGs (X : Cx) (W : WX) (es : List Expr) (gs : List FG) : Prop := PGs X es (LGs X.K W gs)
theorem _root_.L2.PGs.imp {X : Cx} {e : List Expr} {t t' : TGs} (h : PGs X e t) (i : ∀ v σ H Q, t' v σ H Q → t v σ H Q) : PGs X e t' := ⟨fun pins s σ H v u Q I r q => h.run pins s σ H v u Q I r (i v σ H Q q)⟩
section
variable {X : Cx} {e : Expr} {es : List Expr} {g : FG} {gs : List FG} {pos : Pos} {k : Nat}
theorem dgs_nil {W : WX} : DGs X W [] [] := pgs_nil.imp fun vs σ H Q ⟨B, tb, ρ, S, ds, w, e, r, q⟩ => by
  cases ds with
  | nil => simp only [reps] at r; exact ⟨r, q.ok w σ e⟩
  | cons _ _ => exact q.elim
theorem dgs_cons (h1 : DG X WF e g) (h2 : DGs X WF es gs) (hs : (assignEach (e :: es) X.env).map (fun x => x.2) = assign e X.env :: (assignEach es X.env).map (fun x => x.2) := by rfl) : DGs X WF (e :: es) (g :: gs) := (pgs_cons h1 h2 hs).imp fun vs σ H Q ⟨B, tb, ρ, S, ds, w, e, r, q⟩ => by
  cases ds with
  | nil => exact q.elim
  | cons x xs =>
    simp only [reps] at r
    obtain ⟨v, t, rfl, r1, r2⟩ := r
    refine ⟨v, t, rfl, B, tb, ρ, S, x, w, e, r1, ?_⟩
    simp only [gEach] at q
    cases z : g x ρ S with
    | ok ρ1 S1 =>
      rw [z] at q
      intro B1 tb1 H1 x1 w1 σ1 e1
      refine ⟨B1, tb1, ρ1, S1, xs, w1, e1, reps_ex x1 _ _ r2, ?_⟩
      have q1 := Post.mono x1 q
      simp only [bind_ok] at q1
      cases y : gEach gs xs ρ1 S1 with
      | ok ρ2 S2 => rw [y] at q1; exact q1
      | er C ns vs S2 => rw [y] at q1; exact fun B' tb' H' x' w' => ⟨fun h => ((q1 B' tb' H' x' w').1 h).elim, fun dd xs a b c => ((q1 B' tb' H' x' w').2 dd xs a b c).elim⟩
      | no => rw [y] at q1; exact q1
    | er C ns vs S1 => rw [z] at q; exact q
    | no => rw [z] at q; exact q
theorem dg_tp {W : WX} {n : Nat} (hc : X.calm = true) (h : DGs X W es gs) (hl : gs.length = n) (hn : (assignEach es X.env).length = n := by rfl) (hst : (assignEach es X.env).findIdx? (fun x => x.1) = none := by rfl) : DG X W (.Tuple es k pos) (gMany gs) := (pg_tup hc h hn hst).imp fun v σ H Q ⟨B, tb, ρ, S, d, w, e, r, q⟩ => by
  unfold gMany at q
  cases d with
  | tup ds =>
    simp only at q
    obtain ⟨c, q⟩ := chk_ok q
    simp only [rep] at r
    obtain ⟨a, vs, rfl, h1, h2⟩ := r
    refine ⟨a, vs, rfl, SqT.ex w.sub h1, ?_, B, tb, ρ, S, ds, w, e, h2, q⟩
    rw [reps_len h2, eq_of_beq c, hl]
  | _ => exact q.elim
end
theorem gl {X : Cx} {x : Str} (h : X.env.kindOf x = some .globalImplicit) : Gl X x := h
theorem pts_one' {X : Cx} {W : WX} {c : Expr} {t : FT} (h : DT X W c t) : PTs X [c] (LT X.K W t) := pts_one h
end Qd

namespace Qd
open PySem L2

/-! ### what comes out, by its wish -/
def W {α : Type} (r : R α) (Q : α → Sto → Prop) : Prop := match r with
  | .ok a S => Q a S
  | _ => False
def Wo (N : Rho → Sto → Prop) (T : D → Sto → Prop) (o : Out) (S : Sto) : Prop := match o with
  | .nx ρ => N ρ S
  | .rt d => T d S
  | _ => False
def Ws (r : R Out) (N : Rho → Sto → Prop) (T : D → Sto → Prop) : Prop := W r (Wo N T)
section
variable {α β : Type} {r : R α} {S : Sto} {ρ : Rho}
theorem W_ok {a : α} {Q : α → Sto → Prop} : W (.ok a S) Q = Q a S := rfl
theorem W_no {Q : α → Sto → Prop} : W .no Q = False := rfl
theorem W_bind {k : α → Sto → R β} {Q : β → Sto → Prop} : W (r.bind k) Q = W r fun a S => W (k a S) Q := by cases r <;> rfl
theorem W_chk {c : Bool} {Q : α → Sto → Prop} : W (chk c r) Q = (c = true ∧ W r Q) := by
  unfold chk
  cases c <;> simp [W]
theorem W_ner {r : R D} {Q : D → Sto → Prop} : W (ner r) Q = W r Q := by cases r <;> rfl
theorem W_if {c : Prop} [Decidable c] {a b : R α} {Q : α → Sto → Prop} : W (if c then a else b) Q = if c then W a Q else W b Q := by split <;> rfl
theorem W.mono {Q Q' : α → Sto → Prop} (h : W r Q) (i : ∀ a S, Q a S → Q' a S) : W r Q' := by
  cases r with
  | ok a S => exact i a S h
  | er C ns vs S => exact h
  | no => exact h
theorem W_ex {Q : α → Sto → Prop} (h : W r Q) : ∃ a S, r = .ok a S ∧ Q a S := by
  cases r with
  | ok a S => exact ⟨a, S, rfl, h⟩
  | er C ns vs S => exact h.elim
  | no => exact h.elim
theorem W_eq {a : α} {Q : α → Sto → Prop} (e : r = .ok a S) (h : Q a S) : W r Q := by rw [e]; exact h
theorem Ws.mono {r : R Out} {N N' : Rho → Sto → Prop} {T T' : D → Sto → Prop} (h : Ws r N T) (i : ∀ a S, N a S → N' a S) (j : ∀ a S, T a S → T' a S) : Ws r N' T' := W.mono h fun o S q => by
  cases o with
  | nx ρ => exact i _ _ q
  | rt d => exact j _ _ q
  | _ => exact q
theorem Ws_if {c : Prop} [Decidable c] {a b : R Out} {N : Rho → Sto → Prop} {T : D → Sto → Prop} : Ws (if c then a else b) N T = if c then Ws a N T else Ws b N T := by split <;> rfl
theorem Ws_st {k : α → Sto → R Out} {N : Rho → Sto → Prop} {T : D → Sto → Prop} : Ws (r.st ρ k) N T = W r fun a S => Ws (k a S) N T := by cases r <;> rfl
theorem Ws_nx {N : Rho → Sto → Prop} {T : D → Sto → Prop} : Ws (.ok (.nx ρ) S) N T = N ρ S := rfl
theorem Ws_rt {d : D} {N : Rho → Sto → Prop} {T : D → Sto → Prop} : Ws (.ok (.rt d) S) N T = T d S := rfl
end
section
variable {ρ : Rho} {S : Sto} {N : Rho → Sto → Prop} {T : D → Sto → Prop} {Q : D → Sto → Prop} {QA : List D → Sto → Prop} {QB : Bool → Sto → Prop}
theorem W_nil : Ws (sNil ρ S) N T = N ρ S := rfl
theorem W_seq {f g : FS} : Ws (sSeq f g ρ S) N T = Ws (f ρ S) (fun ρ S => Ws (g ρ S) N T) T := by
  unfold sSeq Ws
  cases f ρ S with
  | ok o S => cases o <;> rfl
  | er C ns vs S => rfl
  | no => rfl
theorem W_expr {f : FE} : Ws (sExpr f ρ S) N T = W (f ρ S) fun _ S => N ρ S := Ws_st
theorem W_ret {f : FE} : Ws (sRet f ρ S) N T = W (f ρ S) T := Ws_st
theorem W_asg {f : FE} {g : FG} : Ws (sAsg f g ρ S) N T = W (f ρ S) fun d S => W (g d ρ S) N := by
  unfold sAsg
  rw [Ws_st]
  congr; funext d S
  rw [Ws_st]
  rfl
theorem W_sif {t : FT} {f g : FS} : Ws (sIf t f g ρ S) N T = W (t ρ S) fun b S => if b = true then Ws (f ρ S) N T else Ws (g ρ S) N T := by
  unfold sIf
  rw [Ws_st]
  congr; funext d S
  exact Ws_if
theorem W_par {fa : FA} {is : List Nat} : Ws (sPar fa is ρ S) N T = W (fa ρ S) fun ds S => match bindPs (is.map .nm) ds ρ with
    | some ρ' => N ρ' S
    | none => False := by
  unfold sPar
  rw [Ws_st]
  congr; funext d S
  cases bindPs (is.map .nm) d ρ <;> rfl
theorem W_never : Ws (sNever ρ S) N T = False := rfl
theorem W_var {i : Nat} : W (eVar i ρ S) Q = match ρ[i]? with
    | some (some d) => Q d S
    | _ => False := by
  unfold eVar
  cases ρ[i]? with
  | none => rfl
  | some x => cases x <;> rfl
theorem W_c {d : D} : W (eC d ρ S) Q = Q d S := rfl
theorem W_e2 {k : D → D → Sto → R D} {f g : FE} : W (e2 k f g ρ S) Q = W (f ρ S) fun x S => W (g ρ S) fun y S => W (k x y S) Q := by
  unfold e2
  rw [W_bind]
  congr; funext d S
  rw [W_bind]
theorem W_call {k : List D → Sto → R D} {fa : FA} : W (eCall k fa ρ S) Q = W (fa ρ S) fun ds S => W (k ds S) Q := W_bind
theorem W_anil : W (aNil ρ S) QA = QA [] S := rfl
theorem W_acons {f : FE} {fa : FA} : W (aCons f fa ρ S) QA = W (f ρ S) fun d S => W (fa ρ S) fun ds S => QA (d :: ds) S := by
  unfold aCons
  rw [W_bind]
  congr; funext d S
  rw [W_bind]
  rfl
theorem W_tup {fa : FA} : W (eTup fa ρ S) Q = W (fa ρ S) fun ds S => ds.length ≤ line ∧ Q (.tup ds) S := by
  unfold eTup
  rw [W_bind]
  congr; funext d S
  rw [W_chk, decide_eq_true_eq]
  rfl
theorem W_lst {fa : FA} : W (eLst fa ρ S) Q = W (fa ρ S) fun ds S => ds.length ≤ line ∧ Q (.lst ds) S := by
  unfold eLst
  rw [W_bind]
  congr; funext d S
  rw [W_chk, decide_eq_true_eq]
  rfl
theorem W_lstM {fa : FA} : W (eLstM fa ρ S) Q = W (fa ρ S) fun ds S => ds.length ≤ line ∧ Q (.obj S.next) (S.push (.lst ds)) := by
  unfold eLstM
  rw [W_bind]
  congr; funext d S
  rw [W_chk, decide_eq_true_eq]
  rfl
theorem W_tV {f : FE} : W (tV f ρ S) QB = W (f ρ S) fun d S => match d with
    | .bl b => QB b S
    | _ => False := by
  unfold tV
  rw [W_bind]
  congr; funext d S
  cases d <;> rfl
theorem W_and {t u : FT} : W (tAnd2 t u ρ S) QB = W (t ρ S) fun b S => if b = true then W (u ρ S) QB else QB false S := by
  unfold tAnd2
  rw [W_bind]
  congr; funext d S
  exact W_if
theorem W_or {t u : FT} : W (tOr2 t u ρ S) QB = W (t ρ S) fun b S => if b = true then QB true S else W (u ρ S) QB := by
  unfold tOr2
  rw [W_bind]
  congr; funext d S
  exact W_if
theorem W_not {t : FT} : W (tNot1 t ρ S) QB = W (t ρ S) fun b S => QB (!b) S := by
  unfold tNot1
  rw [W_bind]
  rfl
theorem W_bAnd {f g : FE} : W (bAnd f g ρ S) Q = W (f ρ S) fun d S => match d with
    | .bl b => if b = true then W (g ρ S) Q else Q (.bl false) S
    | _ => False := by
  unfold bAnd
  rw [W_bind]
  congr; funext d S
  cases d <;> first
    | exact W_if
    | rfl
theorem W_bOr {f g : FE} : W (bOr f g ρ S) Q = W (f ρ S) fun d S => match d with
    | .bl b => if b = true then Q (.bl true) S else W (g ρ S) Q
    | _ => False := by
  unfold bOr
  rw [W_bind]
  congr; funext d S
  cases d <;> first
    | exact W_if
    | rfl
theorem W_bNot {f : FE} : W (bNot f ρ S) Q = W (f ρ S) fun d S => match d with
    | .bl b => Q (.bl (!b)) S
    | _ => False := by
  unfold bNot
  rw [W_bind]
  congr; funext d S
  cases d <;> rfl
theorem W_eif {t : FT} {f g : FE} : W (eIf t f g ρ S) Q = W (t ρ S) fun b S => if b = true then W (f ρ S) Q else W (g ρ S) Q := by
  unfold eIf
  rw [W_bind]
  congr; funext d S
  exact W_if
theorem W_isN {f : FE} : W (eIsN f ρ S) Q = W (f ρ S) fun d S => Q (.bl (isNon d)) S := W_bind
theorem W_notN {f : FE} : W (eNotN f ρ S) Q = W (f ρ S) fun d S => Q (.bl (!isNon d)) S := W_bind
theorem W_fn {g : FF} {fa : FA} {dds : List D} : W (eFn g fa dds ρ S) Q = W (fa ρ S) fun ds S => W (g (ds ++ dds) S) Q := by
  unfold eFn
  rw [W_bind]
  congr; funext d S
  exact W_ner
theorem W_fnK {g : FF} {fa fk : FA} {t : {α : Type} → List α → List α → List α} : W (eFnK g fa fk t ρ S) Q = W (fa ρ S) fun ds S => W (fk ρ S) fun es S => W (g (t ds es) S) Q := by
  unfold eFnK
  rw [W_bind]
  congr; funext d S
  rw [W_bind]
  congr; funext d S
  exact W_ner
theorem W_pt {p : Pt} {d : D} : W (gPt p d ρ S) N = match bindP p d ρ with
    | some ρ' => N ρ' S
    | none => False := by
  unfold gPt
  cases bindP p d ρ <;> rfl
theorem W_run {b : Bool} {fb : FS} {n : Nat} {ds : List D} : W (run0 b fb n ds S) Q = Ws (fb (rho0 n ds) S) (fun _ S' => Q .non (if b = true then S'.back S.m.length else S')) (fun d S' => Q d (if b = true then S'.back S.m.length else S')) := by
  unfold run0 Ws
  cases fb (rho0 n ds) S with
  | ok o S => cases o <;> rfl
  | er C ns vs S => rfl
  | no => rfl
theorem back_same : S.back S.m.length = S := by
  cases S with
  | mk m g => simp [Sto.back]
theorem back_m {S' : Sto} : (S'.back S.m.length).m = S'.m.take S.m.length := rfl
theorem W_for {fi : FI} {p : Pt} {body : FS} : Ws (sFor fi p body ρ S) N T = W (fi ρ S) fun ds S => Ws (loop p body ds ρ S) N T := Ws_st
theorem W_iseq {f : FE} {Q : List D → Sto → Prop} : W (iSeq f ρ S) Q = W (f ρ S) fun d S => match frOf d with
    | some ds => Q ds S
    | none => False := by
  unfold iSeq
  rw [W_bind]
  congr; funext d S
  cases frOf d <;> rfl
theorem W_ienum {f : FE} {Q : List D → Sto → Prop} : W (iEnum f ρ S) Q = W (f ρ S) fun d S => match frOf d with
    | some ds => Q (enumD 0 ds) S
    | none => False := by
  unfold iEnum
  rw [W_bind]; congr; funext d S
  cases frOf d <;> rfl
theorem W_izip {f g : FE} {Q : List D → Sto → Prop} : W (iZip f g ρ S) Q = W (f ρ S) fun d S => W (g ρ S) fun e S => match frOf d, frOf e with
    | some ds, some es => Q (zipD ds es) S
    | _, _ => False := by
  unfold iZip
  rw [W_bind]; congr; funext d S
  rw [W_bind]; congr; funext e S
  cases frOf d <;> cases frOf e <;> rfl
/-- the loop's rule: what holds ahead of each turn, by what is left -/
theorem W_loop {p : Pt} {body : FS} (I : List D → Rho → Sto → Prop) {ds : List D} (h0 : I ds ρ S)
    (hs : ∀ d r ρ S, I (d :: r) ρ S → ∃ ρ1, bindP p d ρ = some ρ1 ∧ Ws (body ρ1 S) (fun ρ S => I r ρ S) T) (hn : ∀ ρ S, I [] ρ S → N ρ S) : Ws (loop p body ds ρ S) N T := by
  induction ds generalizing ρ S with
  | nil => exact hn _ _ h0
  | cons d r ih =>
    obtain ⟨ρ1, e, h⟩ := hs d r ρ S h0
    unfold loop
    rw [e]
    simp only
    cases z : body ρ1 S with
    | ok o S2 =>
      rw [z] at h
      cases o with
      | nx ρ2 => exact ih h
      | rt d => exact h
      | bk ρ => exact h.elim
      | ct ρ => exact h.elim
      | xx ρ C ns vs => exact h.elim
    | er C ns vs S => rw [z] at h; exact h.elim
    | no => rw [z] at h; exact h.elim
/-- a comprehension that draws, element by element -/
theorem W_compI {p : Pt} {tt : FT} {te : FE} (I : List D → List D → Sto → Prop) {ds acc : List D} {Q : List D → Sto → Prop} (h0 : I ds acc S)
    (hs : ∀ d r acc S, I (d :: r) acc S → ∃ ρ1, bindP p d ρ = some ρ1 ∧ W (tt ρ1 S) fun b S => if b = true then W (te ρ1 S) fun y S => I r (acc ++ [y]) S else I r acc S) (hn : ∀ acc S, I [] acc S → Q acc S) : W (comp p tt te ρ ds S acc) Q := by
  induction ds generalizing acc S with
  | nil => exact hn _ _ h0
  | cons d r ih =>
    obtain ⟨ρ1, e, h⟩ := hs d r acc S h0
    unfold comp
    rw [e]
    simp only
    cases z : tt ρ1 S with
    | ok b S2 =>
      rw [z] at h
      cases b with
      | false => exact ih h
      | true =>
        have h : W (te ρ1 S2) fun y S => I r (acc ++ [y]) S := h
        simp only
        cases y : te ρ1 S2 with
        | ok x S3 => rw [y] at h; exact ih h
        | er C ns vs S => rw [y] at h; exact h.elim
        | no => rw [y] at h; exact h.elim
    | er C ns vs S => rw [z] at h; exact h.elim
    | no => rw [z] at h; exact h.elim
/-- one that leaves the store as it is -/
theorem comp_map {α : Type} {p : Pt} {tt : FT} {te : FE} (enc : α → D) (b : α → Bool) (f : α → D) : ∀ (xs : List α) (acc : List D), (∀ x ∈ xs, ∃ ρ1, bindP p (enc x) ρ = some ρ1 ∧ tt ρ1 S = .ok (b x) S ∧ (b x = true → te ρ1 S = .ok (f x) S)) →
    comp p tt te ρ (xs.map enc) S acc = .ok (acc ++ (xs.filter b).map f) S
  | [], acc, h => by simp [comp]
  | x :: xs, acc, h => by
    obtain ⟨ρ1, e, ht, he⟩ := h x List.mem_cons_self
    simp only [List.map_cons, comp]
    rw [e]
    simp only
    rw [ht]
    have r := fun acc => comp_map enc b f xs acc fun y hy => h y (List.mem_cons_of_mem _ hy)
    cases z : b x with
    | false =>
      simp only
      rw [r, List.filter_cons_of_neg (by simp [z])]
    | true =>
      simp only
      rw [he z]
      simp only
      rw [r, List.filter_cons_of_pos z]
      simp
theorem W_comp {fi : FI} {p : Pt} {tt : FT} {te : FE} {own : List Nat} : W (eComp fi p tt te own ρ S) Q = W (fi ρ S) fun ds S => ds.length ≤ line ∧ W (comp p tt te (wipeD ρ own) ds S []) fun ys S => Q (.lst ys) S := by
  unfold eComp
  rw [W_bind]
  congr; funext d S
  rw [W_chk, W_bind, decide_eq_true_eq]
  rfl
theorem W_compG {fi : FI} {p : Pt} {tt : FT} {te : FE} {own : List Nat} : W (eCompG true fi p tt te own ρ S) Q = W (fi ρ S) fun ds S => ds.length ≤ line ∧ W (comp p tt te (wipeD ρ own) ds S []) fun ys S => Q (.lst ys) S := by
  unfold eCompG
  rw [W_bind]
  congr; funext d S
  rw [W_chk, W_bind, decide_eq_true_eq]
  rfl
theorem W_compM {fi : FI} {p : Pt} {tt : FT} {te : FE} {own : List Nat} : W (eCompM fi p tt te own ρ S) Q = W (fi ρ S) fun ds S => ds.length ≤ line ∧ W (comp p tt te (wipeD ρ own) ds S []) fun ys S => Q (.obj S.next) (S.push (.lst ys)) := by
  unfold eCompM
  rw [W_bind]
  congr; funext d S
  rw [W_chk, W_bind, decide_eq_true_eq]
  rfl
end
end Qd

namespace Qd
open PySem L2

section
variable {ρ : Rho} {S : Sto} {N : Rho → Sto → Prop} {T : D → Sto → Prop} {Q : D → Sto → Prop} {i j : Int}
theorem W_kI {c : Int → Int → Bool} {g : Int → Int → D} : W (kI c g (.int i) (.int j) S) Q = (c i j = true ∧ Q (g i j) S) := W_chk
theorem W_yes : (yes2 i j = true) = True := by simp [yes2]
theorem W_addI : W (kAdd (.int i) (.int j) S) Q = Q (.int (i + j)) S := rfl
theorem W_addL {a b : List D} : W (kAdd (.lst a) (.lst b) S) Q = (a.length + b.length ≤ line ∧ Q (.lst (a ++ b)) S) := by
  show W (chk _ _) Q = _
  rw [W_chk, decide_eq_true_eq]; rfl
theorem W_addT {a b : List D} : W (kAdd (.tup a) (.tup b) S) Q = (a.length + b.length ≤ line ∧ Q (.tup (a ++ b)) S) := by
  show W (chk _ _) Q = _
  rw [W_chk, decide_eq_true_eq]; rfl
theorem W_mulI : W (kMul (.int i) (.int j) S) Q = (mulOk i j = true ∧ Q (.int (i * j)) S) := W_chk
theorem W_ltI : W (kLt (.int i) (.int j) S) Q = Q (.bl (decide (i < j))) S := rfl
theorem W_ixL {ds : List D} : W (kIx (.lst ds) (.int i) S) Q = match atI ds i with
    | some d => Q d S
    | none => False := by
  show W (match atI ds i with
      | some d => .ok d S
      | none => .no) Q = _
  cases atI ds i <;> rfl
theorem W_ixT {ds : List D} : W (kIx (.tup ds) (.int i) S) Q = match atI ds i with
    | some d => Q d S
    | none => False := by
  show W (match atI ds i with
      | some d => .ok d S
      | none => .no) Q = _
  cases atI ds i <;> rfl
theorem W_ixS {ds : List D} : W (kIx (.scr ds) (.int i) S) Q = match atI ds i with
    | some d => Q d S
    | none => False := by
  show W (match atI ds i with
      | some d => .ok d S
      | none => .no) Q = _
  cases atI ds i <;> rfl
theorem W_ixO {k : Nat} : W (kIx (.obj k) (.int i) S) Q = match S.m[k]? with
    | some (some (.lst ds)) => (match atI ds i with
      | some d => Q d S
      | none => False)
    | _ => False := by
  show W (match (match S.m[k]? with
      | some (some (.lst ds)) => some ds
      | _ => none) with
    | some ds => (match atI ds i with
      | some d => .ok d S
      | none => .no)
    | none => .no) Q = _
  generalize S.m[k]? = z
  cases z with
  | none => rfl
  | some x =>
    cases x with
    | none => rfl
    | some x =>
      cases x with
      | lst ds => simp only; cases atI ds i <;> rfl
      | _ => rfl
theorem ixN_30 : ixN 3 0 = some 0 := rfl
theorem ixN_31 : ixN 3 1 = some 1 := rfl
theorem ixN_32 : ixN 3 2 = some 2 := rfl
theorem ixN_nat {n k : Nat} (h : k < n) : ixN n (k : Int) = some k := by
  unfold ixN
  simp [h]
theorem atI_nat {α : Type} {ds : List α} {k : Nat} (h : k < ds.length) : atI ds (k : Int) = some ds[k] := by
  unfold atI
  rw [ixN_nat h]
  simp [h]
theorem atI_0 {α : Type} {a : α} {ds : List α} : atI (a :: ds) 0 = some a := atI_nat (ds := a :: ds) (k := 0) (by simp)
theorem atI_1 {α : Type} {a b : α} {ds : List α} : atI (a :: b :: ds) 1 = some b := atI_nat (ds := a :: b :: ds) (k := 1) (by simp)
theorem atI_2 {α : Type} {a b c : α} {ds : List α} : atI (a :: b :: c :: ds) 2 = some c := atI_nat (ds := a :: b :: c :: ds) (k := 2) (by simp)
theorem atI_3 {α : Type} {a b c d : α} {ds : List α} : atI (a :: b :: c :: d :: ds) 3 = some d := atI_nat (ds := a :: b :: c :: d :: ds) (k := 3) (by simp)
theorem atI_4 {α : Type} {a b c d e : α} {ds : List α} : atI (a :: b :: c :: d :: e :: ds) 4 = some e := atI_nat (ds := a :: b :: c :: d :: e :: ds) (k := 4) (by simp)
/-- an index drawn -/
theorem at_of {α : Type} {ds : List α} {i : Int} (h0 : 0 ≤ i) (h : i < ds.length) : ∃ d, atI ds i = some d ∧ d ∈ ds := by
  obtain ⟨k, rfl⟩ := Int.eq_ofNat_of_zero_le h0
  have hk : k < ds.length := by omega
  exact ⟨ds[k], atI_nat hk, List.getElem_mem hk⟩
theorem W_len_L {ds : List D} {Q : D → Sto → Prop} : W (kLen [.lst ds] S) Q = Q (.int ds.length) S := rfl
theorem W_len_T {ds : List D} {Q : D → Sto → Prop} : W (kLen [.tup ds] S) Q = Q (.int ds.length) S := rfl
theorem W_len_S {ds : List D} {Q : D → Sto → Prop} : W (kLen [.scr ds] S) Q = Q (.int ds.length) S := rfl
theorem intsD_map (ns : List Int) : intsD (ns.map .int) = some ns := by
  induction ns with
  | nil => rfl
  | cons n ns ih => simp [intsD, ih]
theorem blsD_map (ns : List Bool) : blsD (ns.map .bl) = some ns := by
  induction ns with
  | nil => rfl
  | cons n ns ih => simp [blsD, ih]
theorem W_sum {ns : List Int} : W (kSum [.lst (ns.map .int)] S) Q = Q (.int ns.sum) S := by
  show W (match (some (ns.map D.int)).bind intsD with
    | some ns => .ok (.int ns.sum) S
    | none => .no) Q = _
  rw [Option.bind_some, intsD_map]; rfl
theorem W_all {ns : List Bool} : W (kAll [.lst (ns.map .bl)] S) Q = Q (.bl (ns.all id)) S := by
  show W (match (some (ns.map D.bl)).bind blsD with
    | some ns => .ok (.bl (ns.all id)) S
    | none => .no) Q = _
  rw [Option.bind_some, blsD_map]; rfl
theorem W_any {ns : List Bool} : W (kAny [.lst (ns.map .bl)] S) Q = Q (.bl (ns.any id)) S := by
  show W (match (some (ns.map D.bl)).bind blsD with
    | some ns => .ok (.bl (ns.any id)) S
    | none => .no) Q = _
  rw [Option.bind_some, blsD_map]; rfl
theorem W_min2 : W (kMin2 [.int i, .int j] S) Q = Q (.int (if j < i then j else i)) S := rfl
theorem W_max2 : W (kMax2 [.int i, .int j] S) Q = Q (.int (if j > i then j else i)) S := rfl
theorem W_abs : W (kAbs [.int i] S) Q = Q (.int (if i < 0 then -i else i)) S := rfl
theorem W_intI : W (kInt [.int i] S) Q = Q (.int i) S := rfl
theorem W_intB {b : Bool} : W (kInt [.bl b] S) Q = Q (.int (if b then 1 else 0)) S := rfl
theorem W_tupT {ds : List D} : W (kTuple [.tup ds] S) Q = Q (.tup ds) S := rfl
theorem W_tupL {ds : List D} : W (kTuple [.lst ds] S) Q = Q (.tup ds) S := rfl
theorem W_listT {ds : List D} : W (kList [.tup ds] S) Q = Q (.lst ds) S := rfl
theorem W_listL {ds : List D} : W (kList [.lst ds] S) Q = Q (.lst ds) S := rfl
theorem W_sl {f : FE} {lo hi : FO} : W (eSl f lo hi ρ S) Q = W (f ρ S) fun x S => W (lo ρ S) fun l S => W (hi ρ S) fun h S => W (kSl x l h S) Q := by
  unfold eSl
  rw [W_bind]; congr; funext d S
  rw [W_bind]; congr; funext d S
  rw [W_bind]
theorem W_oN {Q : Option Int → Sto → Prop} : W (oNone ρ S) Q = Q none S := rfl
theorem W_oS {f : FE} {Q : Option Int → Sto → Prop} : W (oSome f ρ S) Q = W (f ρ S) fun d S => match d with
    | .int i => Q (some i) S
    | _ => False := by
  unfold oSome
  rw [W_bind]; congr; funext d S
  cases d <;> rfl
theorem W_slT {ds : List D} {lo hi : Option Int} : W (kSl (.tup ds) lo hi S) Q = Q (.tup (cutD ds lo hi)) S := rfl
theorem W_slL {ds : List D} {lo hi : Option Int} : W (kSl (.lst ds) lo hi S) Q = Q (.lst (cutD ds lo hi)) S := rfl
theorem W_slS {ds : List D} {lo hi : Option Int} : W (kSl (.scr ds) lo hi S) Q = Q (.lst (cutD ds lo hi)) S := rfl
theorem W_r1 {f : FE} {Q : List D → Sto → Prop} : W (iRange1 f ρ S) Q = W (f ρ S) fun d S => match d with
    | .int j => small62 j = true ∧ Q (rangeD 0 j.toNat) S
    | _ => False := by
  unfold iRange1
  rw [W_bind]; congr; funext d S
  cases d <;> first
    | exact W_chk
    | rfl
theorem W_app {f g : FE} : W (eAppend f g ρ S) Q = W (f ρ S) fun o S1 => match o with
    | .obj k => (match S1.m[k]? with | some (some (.lst _)) => true | _ => false) = true ∧ W (g ρ S1) fun y S2 => match S2.m[k]? with
      | some (some (.lst ds)) => ds.length < line ∧ Q .non (S2.put k (.lst (ds ++ [y])))
      | _ => False
    | _ => False := by
  unfold eAppend
  rw [W_bind]; congr; funext o S1
  cases o with
  | obj k =>
    simp only
    rw [W_chk, W_bind]
    congr; funext y S2
    cases S2.m[k]? with
    | none => rfl
    | some x =>
      cases x with
      | none => rfl
      | some x =>
        cases x with
        | lst ds => simp only; rw [W_chk, decide_eq_true_eq]; rfl
        | _ => rfl
  | _ => rfl
theorem W_set {f g : FE} {d : D} {N : Rho → Sto → Prop} : W (gSet f g d ρ S) N = W (f ρ S) fun o S1 => W (g ρ S1) fun i S2 => match o, i with
    | .obj k, .int j => (match S2.m[k]? with
      | some (some (.lst ds)) => (match ixN ds.length j with
        | some n => N ρ (S2.put k (.lst (ds.set n d)))
        | none => False)
      | _ => False)
    | _, _ => False := by
  unfold gSet
  rw [W_bind]; congr; funext o S1
  rw [W_bind]; congr; funext i S2
  cases o with
  | obj k =>
    cases i with
    | int j =>
      simp only
      cases S2.m[k]? with
      | none => rfl
      | some x =>
        cases x with
        | none => rfl
        | some x =>
          cases x with
          | lst ds => simp only; cases ixN ds.length j <;> rfl
          | _ => rfl
    | _ => rfl
  | _ => rfl
theorem W_gm {gs : List FG} {ds : List D} {N : Rho → Sto → Prop} : W (gMany gs (.tup ds) ρ S) N = ((ds.length == gs.length) = true ∧ W (gEach gs ds ρ S) N) := W_chk
theorem W_g0 {N : Rho → Sto → Prop} : W (gEach [] [] ρ S) N = N ρ S := rfl
theorem W_g1 {g : FG} {gs : List FG} {x : D} {xs : List D} {N : Rho → Sto → Prop} : W (gEach (g :: gs) (x :: xs) ρ S) N = W (g x ρ S) fun ρ S => W (gEach gs xs ρ S) N := W_bind
theorem put_m {k : Nat} {d : D} : (S.put k d).m = S.m.set k (some d) := rfl
theorem push_m {d : D} : (S.push d).m = S.m ++ List.replicate S.g none ++ [some d] := rfl
theorem W_isiI {T : String} : W (kIsi [.int i, .ty T] S) Q = (knownTy T = true ∧ Q (.bl (isaB "int" T)) S) := W_chk
theorem W_isiT {ds : List D} {T : String} : W (kIsi [.tup ds, .ty T] S) Q = (knownTy T = true ∧ Q (.bl (isaB "tuple" T)) S) := W_chk
theorem W_isiL {ds : List D} {T : String} : W (kIsi [.lst ds, .ty T] S) Q = (knownTy T = true ∧ Q (.bl (isaB "list" T)) S) := W_chk
theorem W_e3 {k k' : D → D → Sto → R D} {f g h : FE} : W (e3 k k' f g h ρ S) Q = W (f ρ S) fun x S => W (g ρ S) fun y S => W (k x y S) fun z S => match z with
    | .bl true => W (h ρ S) fun u S => W (k' y u S) Q
    | .bl false => Q (.bl false) S
    | _ => False := by
  unfold e3
  rw [W_bind]; congr; funext x S
  rw [W_bind]; congr; funext y S
  rw [W_bind]; congr; funext z S
  cases z with
  | bl b => cases b with
    | true => exact W_bind
    | false => rfl
  | _ => rfl
end
end Qd

namespace Qd
open PySem L2

/-! ### == of a value and itself -/
mutual
def plD : D → Bool
  | .non => true
  | .bl _ => true
  | .int _ => true
  | .str x => PyData.canLay0 (.str x)
  | .tup ds => plDs ds
  | .lst ds => plDs ds
  | .scr ds => plDs ds
  | _ => false
def plDs : List D → Bool
  | [] => true
  | d :: ds => plD d && plDs ds
end
mutual
def dpD : D → Nat
  | .tup ds => dpDs ds + 1
  | .lst ds => dpDs ds + 1
  | .scr ds => dpDs ds + 1
  | _ => 0
def dpDs : List D → Nat
  | [] => 0
  | d :: ds => max (dpD d) (dpDs ds)
end
mutual
theorem pl_py : ∀ d : D, plD d = true → ∃ p, py d = some p ∧ p.canLay0 = true ∧ p.depth = dpD d
  | .non, _ => ⟨_, rfl, rfl, rfl⟩
  | .bl _, _ => ⟨_, rfl, rfl, rfl⟩
  | .int _, _ => ⟨_, rfl, rfl, rfl⟩
  | .str x, h => ⟨_, rfl, by simpa only [plD] using h, rfl⟩
  | .tup ds, h => by
    obtain ⟨ps, e, c, q⟩ := pl_pys ds (by simpa only [plD] using h)
    exact ⟨.tuple ps, by simp only [py, e]; rfl, by simpa only [PyData.canLay0] using c, by simp only [PyData.depth, dpD, q]⟩
  | .lst ds, h => by
    obtain ⟨ps, e, c, q⟩ := pl_pys ds (by simpa only [plD] using h)
    exact ⟨.list ps, by simp only [py, e]; rfl, by simpa only [PyData.canLay0] using c, by simp only [PyData.depth, dpD, q]⟩
  | .scr ds, h => by
    obtain ⟨ps, e, c, q⟩ := pl_pys ds (by simpa only [plD] using h)
    exact ⟨.list ps, by simp only [py, e]; rfl, by simpa only [PyData.canLay0] using c, by simp only [PyData.depth, dpD, q]⟩
  | .dk _ _, h => by simp [plD] at h
  | .dt _ _, h => by simp [plD] at h
  | .ins _ _ _, h => by simp [plD] at h
  | .obj _, h => by simp [plD] at h
  | .glo _, h => by simp [plD] at h
  | .ty _, h => by simp [plD] at h
theorem pl_pys : ∀ ds : List D, plDs ds = true → ∃ ps, pys ds = some ps ∧ PyData.canLayAll0 ps = true ∧ PyData.depthAll ps = dpDs ds
  | [], _ => ⟨[], by simp only [pys], by simp only [PyData.canLayAll0], by simp only [PyData.depthAll, dpDs]⟩
  | d :: ds, h => by
    simp only [plDs, Bool.and_eq_true] at h
    obtain ⟨p, e, c, q⟩ := pl_py d h.1
    obtain ⟨ps, e2, c2, q2⟩ := pl_pys ds h.2
    exact ⟨p :: ps, by simp only [pys, e, e2], by simp only [PyData.canLayAll0, c, c2, Bool.and_self], by simp only [PyData.depthAll, dpDs, q, q2]⟩
end
theorem pyOf_pl {S : Sto} {d : D} (h : plD d = true) : pyOf S d = py d := by
  cases d <;> first
    | rfl
    | (simp [plD] at h)
section
variable {ρ : Rho} {S : Sto} {Q : D → Sto → Prop} {d : D}
theorem W_eqSame (h : plD d = true) (hd : dpD d ≤ 64) : W (kEq d d S) Q = Q (.bl true) S := by
  obtain ⟨p, e, c, q⟩ := pl_py d h
  unfold kEq kEqB
  rw [pyOf_pl h, e]
  simp only
  rw [W_chk, show SeqAt.shaped p = true by unfold SeqAt.shaped; rw [c, q]; simp [hd], SeqAt.eqv_refl p c]
  simp [W]
theorem W_neSame (h : plD d = true) (hd : dpD d ≤ 64) : W (kNe d d S) Q = Q (.bl false) S := by
  obtain ⟨p, e, c, q⟩ := pl_py d h
  unfold kNe kEqB
  rw [pyOf_pl h, e]
  simp only
  rw [W_chk, show SeqAt.shaped p = true by unfold SeqAt.shaped; rw [c, q]; simp [hd], SeqAt.eqv_refl p c]
  simp [W]
theorem W_eqI {i j : Int} : W (kEq (.int i) (.int j) S) Q = Q (.bl (decide (i = j))) S := by
  unfold kEq kEqB
  show W (chk _ _) Q = _
  rw [W_chk, show (SeqAt.shaped (.int i) && SeqAt.shaped (.int j)) = true from rfl]
  simp only [true_and, W_ok, PyData.eqv]
  congr 2
theorem W_neI {i j : Int} : W (kNe (.int i) (.int j) S) Q = Q (.bl (!decide (i = j))) S := by
  unfold kNe kEqB
  show W (chk _ _) Q = _
  rw [W_chk, show (SeqAt.shaped (.int i) && SeqAt.shaped (.int j)) = true from rfl]
  simp only [true_and, W_ok, PyData.eqv]
  congr 2
end
theorem plDs_map {α : Type} {f : α → D} : ∀ {xs : List α}, (∀ x ∈ xs, plD (f x) = true) → plDs (xs.map f) = true
  | [], _ => rfl
  | x :: xs, h => by
    simp only [List.map_cons, plDs, h x List.mem_cons_self, Bool.true_and]
    exact plDs_map fun y hy => h y (List.mem_cons_of_mem _ hy)
theorem dpDs_map {α : Type} {f : α → D} {n : Nat} : ∀ {xs : List α}, (∀ x ∈ xs, dpD (f x) ≤ n) → dpDs (xs.map f) ≤ n
  | [], _ => Nat.zero_le _
  | x :: xs, h => by
    simp only [List.map_cons, dpDs]
    exact Nat.max_le.mpr ⟨h x List.mem_cons_self, dpDs_map fun y hy => h y (List.mem_cons_of_mem _ hy)⟩

/-! ### sorted lists of tuples of ints -/
def encT (l : List Int) : D := .tup (l.map .int)
theorem pys_ints (l : List Int) : pys (l.map .int) = some (l.map .int) := by
  induction l with
  | nil => simp only [List.map_nil, pys]
  | cons x l ih => simp only [List.map_cons, pys, py, ih]
theorem py_encT (l : List Int) : py (encT l) = some (.tuple (l.map .int)) := by
  unfold encT
  simp only [py, pys_ints]; rfl
theorem pys_encT (xs : List (List Int)) : pys (xs.map encT) = some (xs.map fun l => .tuple (l.map .int)) := by
  induction xs with
  | nil => simp only [List.map_nil, pys]
  | cons x l ih => simp only [List.map_cons, pys, py_encT, ih]
theorem alike_ints : ∀ (a b : List Int), PySem.W.alikeAll (a.map .int) (b.map .int) = true
  | [], _ => by simp only [List.map_nil, PySem.W.alikeAll]
  | _ :: _, [] => by simp only [List.map_nil, List.map_cons, PySem.W.alikeAll]
  | x :: a, y :: b => by simp only [List.map_cons, PySem.W.alikeAll, PySem.W.alike, alike_ints a b, Bool.and_self]
theorem depth_ints (l : List Int) : PyData.depthAll (l.map .int) = 0 := by
  induction l with
  | nil => simp only [List.map_nil, PyData.depthAll]
  | cons x l ih => simp only [List.map_cons, PyData.depthAll, PyData.depth, ih]; rfl
theorem sortOk_encT {xs : List (List Int)} (h : ∀ x ∈ xs, x ≠ []) : sortOkB (xs.map fun l => .tuple (l.map .int)) = true := by
  unfold sortOkB allAlikeB
  simp only [Bool.and_eq_true, Bool.or_eq_true, List.all_eq_true, List.mem_map, forall_exists_index, and_imp, forall_apply_eq_imp_iff₂, decide_eq_true_eq]
  refine ⟨⟨fun a _ b _ => ?_, .inl fun a ha => ?_⟩, fun a _ => ?_⟩
  · simp only [PySem.W.alike, alike_ints]
  · cases a with
    | nil => exact absurd rfl (h _ ha)
    | cons x a => rfl
  · simp only [PyData.depth, depth_ints]; omega
theorem lex_ints : ∀ (a b : List Int), PyProof.Rows.lexLt PyProof.Rows.itemOrd (PySem.W.keyToksAll (a.map .int)) (PySem.W.keyToksAll (b.map .int)) = HT.lexLt a b
  | [], [] => by simp only [List.map_nil]; exact PyProof.Rows.lex_irrefl _
  | [], y :: b => by
    simp only [List.map_nil, List.map_cons, PySem.W.keyToksAll]
    rw [PyProof.Rows.lex_diff (by simp)]; rfl
  | x :: a, [] => by
    simp only [List.map_nil, List.map_cons, PySem.W.keyToksAll]
    rw [PyProof.Rows.lex_diff (by simp)]; rfl
  | x :: a, y :: b => by
    simp only [List.map_cons, PySem.W.keyToksAll, PySem.W.keyToks, List.cons_append, List.nil_append]
    rw [PyProof.Rows.lex_self, HT.lexLt_cons]
    by_cases e : x = y
    · subst e
      rw [PyProof.Rows.lex_self, if_pos rfl]
      exact lex_ints a b
    · rw [PyProof.Rows.lex_diff (by simpa using e), if_neg e]; rfl
def lexLe (a b : List Int) : Bool := !HT.lexLt b a
theorem leD_encT (a b : List Int) : leD (encT a) (encT b) = lexLe a b := by
  unfold leD
  rw [PySem.W.dataLe_eq]
  simp only [cond_false, pyD, py_encT, Option.getD_some]
  unfold lexLe
  rw [PySem.W.dataLt_tuple, lex_ints]
theorem sort_encT (xs : List (List Int)) : (xs.map encT).mergeSort leD = (xs.mergeSort lexLe).map encT :=
  (List.map_mergeSort fun a _ b _ => (leD_encT a b).symm).symm
theorem W_sortT {S : Sto} {Q : D → Sto → Prop} {xs : List (List Int)} (h : ∀ x ∈ xs, x ≠ []) : W (kSorted [.lst (xs.map encT)] S) Q = Q (.lst ((xs.mergeSort lexLe).map encT)) S := by
  show W (match pys (xs.map encT) with
    | some es => chk (sortOkB es) (.ok (.lst ((xs.map encT).mergeSort leD)) S)
    | none => .no) Q = _
  rw [pys_encT]
  simp only
  rw [W_chk, sortOk_encT h, sort_encT]
  simp [W]
theorem W_sortTO {S : Sto} {Q : D → Sto → Prop} {xs : List (List Int)} {k : Nat} (hk : S.m[k]? = some (some (.lst (xs.map encT)))) (h : ∀ x ∈ xs, x ≠ []) : W (kSorted [.obj k] S) Q = Q (.lst ((xs.mergeSort lexLe).map encT)) S := by
  show W (match (match S.m[k]? with
      | some (some (.lst ds)) => some ds
      | _ => none) with
    | some ds => (match pys ds with
      | some es => chk (sortOkB es) (.ok (.lst (ds.mergeSort leD)) S)
      | none => .no)
    | none => .no) Q = _
  rw [hk]
  simp only
  rw [pys_encT]
  simp only
  rw [W_chk, sortOk_encT h, sort_encT]
  simp [W]
theorem lexLt_irrefl : ∀ a : List Int, HT.lexLt a a = false
  | [] => rfl
  | x :: a => by rw [HT.lexLt_cons, if_pos rfl]; exact lexLt_irrefl a
theorem lexLe_trans (a b c : List Int) (h1 : lexLe a b = true) (h2 : lexLe b c = true) : lexLe a c = true := by
  rw [← leD_encT] at h1 h2 ⊢
  unfold leD PySem.W.dataLe at h1 h2 ⊢
  exact (PySem.W.sortLe_total _ _ _).trans _ _ _ h1 h2
theorem lexLe_total (a b : List Int) : (lexLe a b || lexLe b a) = true := by
  rw [← leD_encT, ← leD_encT]
  unfold leD PySem.W.dataLe
  have := (PySem.W.sortLe_total (PyProof.Rows.listOrd PyProof.Rows.itemOrd) false fun b => PySem.W.keyToks (pyD b)).total (encT a) (encT b)
  first
    | exact this
    | exact Bool.or_eq_true_iff.mpr this
theorem sorted_pw (xs : List (List Int)) : (xs.mergeSort lexLe).Pairwise fun a b => lexLe a b = true := List.pairwise_mergeSort lexLe_trans lexLe_total xs
end Qd

namespace Qd
open PySem L2

section
variable {ρ : Rho} {S : Sto} {N : Rho → Sto → Prop} {T : D → Sto → Prop} {Q : D → Sto → Prop} {i j : Int}
theorem W_fz {f : FE} : W (fz f ρ S) Q = W (f ρ S) fun d S => match d with
    | .obj k => (match S.m[k]? with
      | some (some o) => Q o (S.drop k)
      | _ => False)
    | d => Q d S := by
  unfold fz
  rw [W_bind]; congr; funext d S
  cases d with
  | obj k =>
    simp only
    cases S.m[k]? with
    | none => rfl
    | some x => cases x <;> rfl
  | _ => rfl
theorem drop_m {k : Nat} : (S.drop k).m = S.m.set k none := rfl
theorem back_m' {S' : Sto} {n : Nat} : (S'.back n).m = S'.m.take n := rfl
end
theorem atI_map {α β : Type} {f : α → β} {xs : List α} {i : Int} : atI (xs.map f) i = (atI xs i).map f := by
  unfold atI
  rw [List.length_map]
  cases ixN xs.length i with
  | none => rfl
  | some k => simp
theorem cut_int (ns : List Int) (a b : Option Int) : ∃ ms : List Int, cutD (ns.map .int) a b = ms.map .int := by
  unfold cutD
  rw [← List.map_drop, ← List.map_take]
  exact ⟨_, rfl⟩
/-- drawn from a list -/
theorem pick {α : Type} {xs : List α} {f : α → D} {i : Int} (h0 : 0 ≤ i) (h : i < xs.length) : ∃ x, x ∈ xs ∧ atI (xs.map f) i = some (f x) := by
  obtain ⟨d, e, hd⟩ := at_of h0 h
  exact ⟨d, hd, by rw [atI_map, e]; rfl⟩
theorem W_pickI {S : Sto} {Q : D → Sto → Prop} {i : Int} {xs : List Int} (P : Int → Prop) (hx : ∀ x ∈ xs, P x) (h0 : 0 ≤ i) (h : i < xs.length) (q : ∀ x, P x → Q (.int x) S) : W (kIx (.lst (xs.map .int)) (.int i) S) Q := by
  obtain ⟨x, m, e⟩ := pick (f := D.int) h0 h
  rw [W_ixL, e]
  exact q x (hx x m)
theorem small62_of {i : Int} (h : -1000000000000000000 < i) (h2 : i < 1000000000000000000) : small62 i = true := by
  unfold small62
  simp only [Bool.and_eq_true, decide_eq_true_eq]
  constructor <;> omega
theorem rangeD_map (lo : Int) (n : Nat) : rangeD lo n = (List.range n).map fun i => .int (lo + (i : Int)) := rfl
theorem enumD_map {α : Type} {f : α → D} : ∀ (n : Nat) (xs : List α), enumD n (xs.map f) = (xs.zipIdx n).map fun p => .tup [.int (p.2 : Int), f p.1]
  | _, [] => rfl
  | n, x :: xs => by simp only [List.map_cons, enumD, List.zipIdx_cons, enumD_map (n + 1) xs]
theorem zipD_map {α β : Type} {f : α → D} {g : β → D} : ∀ (xs : List α) (ys : List β), zipD (xs.map f) (ys.map g) = (xs.zip ys).map fun p => .tup [f p.1, g p.2]
  | [], [] => rfl
  | [], _ :: _ => rfl
  | _ :: _, [] => rfl
  | x :: xs, y :: ys => by simp only [List.map_cons, zipD, List.zip_cons_cons, zipD_map xs ys]
theorem of_W {α : Type} {r : R α} {a : α} {S : Sto} (h : W r fun a' S' => a' = a ∧ S' = S) : r = .ok a S := by
  cases r with
  | ok a' S' => obtain ⟨rfl, rfl⟩ := h; rfl
  | er C ns vs S => exact h.elim
  | no => exact h.elim
theorem comp_mapW {α : Type} {p : Pt} {tt : FT} {te : FE} {ρ : Rho} {S : Sto} (enc : α → D) (b : α → Bool) (f : α → D) (xs : List α) (acc : List D) (h : ∀ x ∈ xs, ∃ ρ1, bindP p (enc x) ρ = some ρ1 ∧ (W (tt ρ1 S) fun b' S' => b' = b x ∧ S' = S) ∧ (b x = true → W (te ρ1 S) fun y S' => y = f x ∧ S' = S)) :
    comp p tt te ρ (xs.map enc) S acc = .ok (acc ++ (xs.filter b).map f) S := comp_map enc b f xs acc fun x hx => by
  obtain ⟨ρ1, h1, h2, h3⟩ := h x hx
  exact ⟨ρ1, h1, of_W h2, fun e => of_W (h3 e)⟩
theorem atI_get {α : Type} {f : α → D} {xs : List α} {k : Nat} (d : α) (h : k < xs.length) : atI (xs.map f) (k : Int) = some (f (xs.getD k d)) := by
  rw [atI_map, atI_nat h]
  simp [h]
theorem rangeD_0 (n : Nat) : rangeD 0 ((n : Int)).toNat = (List.range n).map fun k => .int (k : Int) := by
  unfold rangeD
  simp
theorem ixN_get {n k : Nat} (h : k < n) : ixN n (k : Int) = some k := ixN_nat h
theorem ixL {ds : List D} {k : Nat} {d : D} {S : Sto} {Q : D → Sto → Prop} (h : atI ds (k : Int) = some d) (q : Q d S) : W (kIx (.lst ds) (.int (k : Int)) S) Q := by rw [W_ixL, h]; exact q
theorem frOf_l {ds : List D} : frOf (.lst ds) = some ds := rfl
theorem frOf_t {ds : List D} : frOf (.tup ds) = some ds := rfl
theorem frOf_s {ds : List D} : frOf (.scr ds) = some ds := rfl
theorem kn_t : knownTy "tuple" = true := by decide
theorem kn_i : knownTy "int" = true := by decide
theorem kn_b : knownTy "bool" = true := by decide
theorem kn_l : knownTy "list" = true := by decide
theorem kn_s : knownTy "str" = true := by decide
theorem kn_d : knownTy "dict" = true := by decide
theorem isa_tt : isaB "tuple" "tuple" = true := by decide
theorem isa_ii : isaB "int" "int" = true := by decide
theorem isa_ib : isaB "int" "bool" = false := by decide
theorem isa_ll : isaB "list" "list" = true := by decide
theorem isa_lt : isaB "list" "tuple" = false := by decide
theorem isa_tl : isaB "tuple" "list" = false := by decide
section
variable {S : Sto} {Q : D → Sto → Prop}
theorem W_isiL2 {ds : List D} : W (kIsi [.lst ds, .tup [.ty "list", .ty "tuple"]] S) Q = Q (.bl true) S := rfl
theorem W_isiT2 {ds : List D} : W (kIsi [.tup ds, .tup [.ty "list", .ty "tuple"]] S) Q = Q (.bl true) S := rfl
/-- all of a list, each true -/
theorem W_allT {α : Type} {xs : List α} {b : α → Bool} : W (kAll [.lst ([] ++ (xs.filter b).map fun _ => .bl true)] S) Q = Q (.bl true) S := by
  have e : ([] : List D) ++ (xs.filter b).map (fun _ => D.bl true) = ((xs.filter b).map fun _ => true).map .bl := by simp
  rw [e, W_all]
  congr 2
  simp
theorem W_sumI {α : Type} {xs : List α} {b : α → Bool} {f : α → Int} : W (kSum [.lst ([] ++ (xs.filter b).map fun x => .int (f x))] S) Q = Q (.int ((xs.filter b).map f).sum) S := by
  have e : ([] : List D) ++ (xs.filter b).map (fun x => D.int (f x)) = ((xs.filter b).map f).map .int := by simp
  rw [e, W_sum]
theorem W_allM {α : Type} {xs : List α} : W (kAll [.lst (xs.map fun _ => .bl true)] S) Q = Q (.bl true) S := by
  have e : xs.map (fun _ => D.bl true) = (xs.map fun _ => true).map .bl := by simp
  rw [e, W_all]
  congr 2
  simp
theorem W_allB {α : Type} {xs : List α} {f : α → Bool} : W (kAll [.lst (xs.map fun x => .bl (f x))] S) Q = Q (.bl (xs.all f)) S := by
  have e : xs.map (fun x => D.bl (f x)) = (xs.map f).map .bl := by simp
  rw [e, W_all]
  congr 2
  simp [List.all_map]
theorem W_anyB {α : Type} {xs : List α} {f : α → Bool} : W (kAny [.lst (xs.map fun x => .bl (f x))] S) Q = Q (.bl (xs.any f)) S := by
  have e : xs.map (fun x => D.bl (f x)) = (xs.map f).map .bl := by simp
  rw [e, W_any]
  congr 2
  simp [List.any_map]
theorem W_sumM {α : Type} {xs : List α} {f : α → Int} : W (kSum [.lst (xs.map fun x => .int (f x))] S) Q = Q (.int (xs.map f).sum) S := by
  have e : xs.map (fun x => D.int (f x)) = (xs.map f).map .int := by simp
  rw [e, W_sum]
theorem cut2 {a b c : D} : cutD [a, b, c] none (some 2) = [a, b] := rfl
theorem W_ltT2 {a b c d : Int} : W (kLt (.tup [.int a, .int b]) (.tup [.int c, .int d]) S) Q = Q (.bl (HT.lexLt [a, b] [c, d])) S := rfl
theorem atI_succ {α : Type} {f : α → D} {xs : List α} {k : Nat} (d : α) (h : k + 1 < xs.length) : atI (xs.map f) ((k : Int) + 1) = some (f (xs.getD (k + 1) d)) := by
  rw [show ((k : Int) + 1) = ((k + 1 : Nat) : Int) by omega]
  exact atI_get d h
end
theorem getD_get {α : Type} {xs : List α} {k : Nat} (d : α) (h : k < xs.length) : xs.getD k d = xs[k] := by simp [h]
theorem filter_all {α : Type} (xs : List α) : xs.filter (fun _ => true) = xs := List.filter_eq_self.mpr fun _ _ => rfl
end Qd

namespace Qd
open PySem L2
open PySem.W (AllAlike Sortable dataLe EachIs alike)

/-! ### keys -/
def keyOf : D → Option Key
  | .int i => some (.inl i)
  | .str x => some (.inr x)
  | _ => none
def keysOf : List D → Option (List Key)
  | [] => some []
  | d :: ds => match keyOf d, keysOf ds with
    | some k, some ks => some (k :: ks)
    | _, _ => none
theorem keyOf_ok {K : PySem.W.Frag} {B : Hp} {tb : Tb} {d : D} {v : V} {k : Key} (e : keyOf d = some k) (r : rep K B tb d v) : v = kV k := by
  cases d <;> simp only [keyOf, Option.some.injEq, reduceCtorEq] at e
  all_goals subst e; simp only [rep] at r; subst r; rfl
theorem keysOf_ok {K : PySem.W.Frag} {B : Hp} {tb : Tb} : ∀ {ds : List D} {vs : List V} {k : List Key}, keysOf ds = some k → reps K B tb ds vs → vs = k.map kV
  | [], vs, k, e, r => by
    simp only [keysOf, Option.some.injEq] at e; subst e
    simp only [reps] at r; subst r; rfl
  | d :: ds, vs, k, e, r => by
    simp only [reps] at r
    obtain ⟨v, t, rfl, r1, r2⟩ := r
    simp only [keysOf] at e
    split at e
    · rename_i k1 ks e1 e2
      cases e
      rw [keyOf_ok e1 r1, keysOf_ok e2 r2]; rfl
    · cases e
section
variable {κ : Type} [DecidableEq κ]
def getV {α : Type} : List κ → List α → κ → Option α
  | k :: ks, d :: ds, q => if k = q then some d else getV ks ds q
  | _, _, _ => none
def putKs (ks : List κ) (q : κ) : List κ := if q ∈ ks then ks else ks ++ [q]
def putVs {α : Type} (ks : List κ) (ds : List α) (q : κ) (d : α) : List α := if q ∈ ks then List.zipWith (fun k e => if k = q then d else e) ks ds else ds ++ [d]
theorem getV_val : ∀ (ks : List κ) (vs : List V) (q : κ), valV (ks.zip vs) q = getV ks vs q
  | [], vs, q => by simp [getV, valV]
  | _ :: _, [], q => by simp [getV, valV]
  | k :: ks, v :: vs, q => by
    simp only [List.zip_cons_cons, getV]
    by_cases e : k = q
    · rw [valV_pos e, if_pos e]
    · rw [valV_neg e, if_neg e, getV_val ks vs q]
theorem any_mem (ks : List κ) (vs : List V) (q : κ) (h : ks.length = vs.length) : ((ks.zip vs).any fun kv => decide (kv.1 = q)) = decide (q ∈ ks) := by
  induction ks generalizing vs with
  | nil => rfl
  | cons k ks ih => cases vs with
    | nil => simp at h
    | cons v vs =>
      simp only [List.zip_cons_cons, List.any_cons, ih vs (by simpa using h)]
      by_cases e : k = q
      · subst e; simp
      · have e2 : ¬ q = k := fun z => e z.symm
        simp [e, e2]
theorem put_zip (ks : List κ) (vs : List V) (q : κ) (v : V) (h : ks.length = vs.length) : (putKs ks q).zip (putVs ks vs q v) = putK (ks.zip vs) q v := by
  unfold putK putKs putVs
  rw [any_mem ks vs q h]
  by_cases e : q ∈ ks
  · rw [if_pos e, if_pos e, if_pos (decide_eq_true e)]
    clear e
    induction ks generalizing vs with
    | nil => rfl
    | cons k ks ih => cases vs with
      | nil => rfl
      | cons u vs =>
        simp only [List.zipWith_cons_cons, List.zip_cons_cons, List.map_cons, ih vs (by simpa using h)]
        split <;> rfl
  · rw [if_neg e, if_neg e, if_neg (by simpa using e), List.zip_append h]; rfl
theorem put_len {α : Type} (ks : List κ) (vs : List α) (q : κ) (v : α) (h : ks.length = vs.length) : (putKs ks q).length = (putVs ks vs q v).length := by
  unfold putKs putVs
  split <;> simp [h]
theorem put_reps {K : PySem.W.Frag} {B : Hp} {tb : Tb} {q : κ} {d : D} {v : V} (r : rep K B tb d v) : ∀ {ks : List κ} {ds : List D} {vs : List V}, reps K B tb ds vs → reps K B tb (putVs ks ds q d) (putVs ks vs q v) := by
  intro ks ds vs h
  unfold putVs
  split
  · rename_i e
    clear e
    induction ks generalizing ds vs with
    | nil => exact reps_nil
    | cons k ks ih => cases ds with
      | nil => simp only [reps] at h; subst h; exact reps_nil
      | cons d' ds =>
        simp only [reps] at h
        obtain ⟨u, t, rfl, h1, h2⟩ := h
        simp only [List.zipWith_cons_cons]
        refine reps_cons ?_ (ih h2)
        split
        · exact r
        · exact h1
  · exact reps_append h (reps_cons r reps_nil)
end
def GR (K : PySem.W.Frag) (B : Hp) (tb : Tb) : Option D → Option V → Prop
  | some d, ov => ∃ v, ov = some v ∧ rep K B tb d v
  | none, ov => ov = none
theorem GR.isSome {K : PySem.W.Frag} {B : Hp} {tb : Tb} {o : Option D} {ov : Option V} (h : GR K B tb o ov) : ov.isSome = o.isSome := by
  cases o with
  | none => cases (show ov = none from h); rfl
  | some d => obtain ⟨u, rfl, _⟩ := h; rfl
section
variable {κ : Type} [DecidableEq κ]
theorem getV_rep {K : PySem.W.Frag} {B : Hp} {tb : Tb} {q : κ} : ∀ {ks : List κ} {ds : List D} {vs : List V}, reps K B tb ds vs → GR K B tb (getV ks ds q) (getV ks vs q)
  | [], ds, vs, h => by simp [getV, GR]
  | k :: ks, [], vs, h => by simp only [reps] at h; subst h; simp [getV, GR]
  | k :: ks, d :: ds, vs, h => by
    simp only [reps] at h
    obtain ⟨v, t, rfl, h1, h2⟩ := h
    simp only [getV]
    by_cases e : k = q
    · rw [if_pos e, if_pos e]; exact ⟨v, rfl, h1⟩
    · rw [if_neg e, if_neg e]; exact getV_rep h2
end

/-! ### dicts: what reads as one -/
/-- the key and the rows of a dict, told as one of tuple keys or of plain ones -/
inductive Dc where
  | k (ks : List Key) (ds : List D)
  | t (ks : List (List Key)) (ds : List D)
def dcOf (S : Sto) : D → Option Dc
  | .dk ks ds => some (.k ks ds)
  | .dt ks ds => some (.t ks ds)
  | .obj i => match S.m[i]? with
    | some (some (.dk ks ds)) => some (.k ks ds)
    | some (some (.dt ks ds)) => some (.t ks ds)
    | _ => none
  | _ => none
def Dc.get : Dc → D → Option (Option D)
  | .k ks ds, y => (keyOf y).map fun q => getV ks ds q
  | .t ks ds, y => match y with
    | .tup es => (keysOf es).map fun q => getV ks ds q
    | _ => none
def DcR (K : PySem.W.Frag) (H B : Hp) (tb : Tb) (a : Addr) : Dc → Prop
  | .k ks ds => ∃ vs, H a = some (.dK (ks.zip vs)) ∧ ks.length = vs.length ∧ reps K B tb ds vs
  | .t ks ds => ∃ vs, H a = some (.dT (ks.zip vs)) ∧ ks.length = vs.length ∧ reps K B tb ds vs
section
variable {K : PySem.W.Frag} {H B : Hp} {tb : Tb} {S : Sto} {W : WX} {σ : St} {ρ : Rho}
theorem dcOf_ok (w : Wd K H B tb S) {d : D} {c : Dc} {v : V} (e : dcOf S d = some c) (r : rep K B tb d v) : ∃ a, v = .ref a ∧ DcR K H B tb a c := by
  cases d with
  | dk ks ds =>
    cases e
    simp only [rep] at r
    obtain ⟨a, vs, rfl, h1, h2, h3⟩ := r
    exact ⟨a, rfl, vs, w.sub _ _ h1, h2, h3⟩
  | dt ks ds =>
    cases e
    simp only [rep] at r
    obtain ⟨a, vs, rfl, h1, h2, h3⟩ := r
    exact ⟨a, rfl, vs, w.sub _ _ h1, h2, h3⟩
  | obj k =>
    simp only [dcOf] at e
    simp only [rep] at r
    obtain ⟨a, rfl, ha⟩ := r
    split at e
    · rename_i ks ds hk
      cases e
      obtain ⟨a', h1, _, h2⟩ := w.at_ k _ hk
      rw [ha] at h1; cases h1
      exact ⟨a, rfl, h2⟩
    · rename_i ks ds hk
      cases e
      obtain ⟨a', h1, _, h2⟩ := w.at_ k _ hk
      rw [ha] at h1; cases h1
      exact ⟨a, rfl, h2⟩
    · cases e
  | _ => cases e
theorem DcR.isD {a : Addr} {c : Dc} (h : DcR K H B tb a c) : IsD H a := by
  cases c with
  | k ks ds => obtain ⟨vs, h1, _⟩ := h; exact .inl ⟨_, .inl h1⟩
  | t ks ds => obtain ⟨vs, h1, _⟩ := h; exact .inr ⟨_, .inl h1⟩
theorem DcR.get (sub : ∀ a o, B a = some o → H a = some o) {a : Addr} {c : Dc} {y : D} {o : Option D} {v : V} (h : DcR K H B tb a c) (e : c.get y = some o) (r : rep K B tb y v) :
    ∃ ov, DGet H a v ov ∧ GR K B tb o ov := by
  cases c with
  | k ks ds =>
    obtain ⟨vs, h1, h2, h3⟩ := h
    simp only [Dc.get] at e
    cases z : keyOf y with
    | none => rw [z] at e; cases e
    | some q =>
      rw [z] at e
      simp only [Option.map_some, Option.some.injEq] at e
      subst e
      refine ⟨valV (ks.zip vs) q, by rw [keyOf_ok z r]; exact DGet.k h1, ?_⟩
      rw [getV_val]
      exact getV_rep h3
  | t ks ds =>
    obtain ⟨vs, h1, h2, h3⟩ := h
    cases y with
    | tup es =>
      simp only [Dc.get] at e
      cases z : keysOf es with
      | none => rw [z] at e; cases e
      | some q =>
        rw [z] at e
        simp only [Option.map_some, Option.some.injEq] at e
        subst e
        simp only [rep] at r
        obtain ⟨b, us, rfl, r1, r2⟩ := r
        have r1' : H b = some (.tup (q.map kV)) := by rw [← keysOf_ok z r2]; exact sub _ _ r1
        refine ⟨valV (ks.zip vs) q, DGet.t h1 r1', ?_⟩
        rw [getV_val]
        exact getV_rep h3
    | _ => simp only [Dc.get] at e; cases e
theorem dcOf_same {S' : Sto} {d : D} (e : ∀ i : Nat, S'.m[i]? = S.m[i]?) : dcOf S' d = dcOf S d := by
  cases d with
  | obj i => simp only [dcOf, e]
  | _ => rfl
end

/-! ### d[y], d.get(y), d.get(y, z) -/
def kDIx (x y : D) (S : Sto) : R D := match dcOf S x with
  | some c => (match c.get y with
    | some (some d) => .ok d S
    | _ => .no)
  | none => .no
def eDGet2 (f g h : FE) : FE := fun ρ S => (f ρ S).bind fun x S1 => chk ((dcOf S1 x).isSome) ((g ρ S1).bind fun y S2 => (h ρ S2).bind fun z S3 => match dcOf S3 x with
  | some c => (match c.get y with
    | some o => .ok (o.getD z) S3
    | none => .no)
  | none => .no)
def eDGet1 (f g : FE) : FE := fun ρ S => (f ρ S).bind fun x S1 => chk ((dcOf S1 x).isSome) ((g ρ S1).bind fun y S2 => match dcOf S2 x with
  | some c => (match c.get y with
    | some o => .ok (o.getD .non) S2
    | none => .no)
  | none => .no)
/-- {} -/
def eDNewT : FE := fun _ S => .ok (.obj S.next) (S.push (.dt [] []))
def eDNewK : FE := fun _ S => .ok (.obj S.next) (S.push (.dk [] []))
/-- {}, never written -/
def eD0 : FE := fun _ S => .ok (.dk [] []) S
/-- y in d -/
def kDIn (n : Bool) (y x : D) (S : Sto) : R D := match dcOf S x with
  | some c => (match c.get y with
    | some o => .ok (.bl (if n then !o.isSome else o.isSome)) S
    | none => .no)
  | none => .no
/-- d[y] = v -/
def Dc.put : Dc → D → D → Option (Nat × D)
  | .k ks ds, y, v => (keyOf y).map fun q => (ks.length, .dk (putKs ks q) (putVs ks ds q v))
  | .t ks ds, y, v => match y with
    | .tup es => (keysOf es).map fun q => (ks.length, .dt (putKs ks q) (putVs ks ds q v))
    | _ => none
def sDPut (fv fo fy : FE) : FS := fun ρ S => (fv ρ S).st ρ fun v S => (fo ρ S).st ρ fun x S => (fy ρ S).st ρ fun y S => match x with
  | .obj i => (match dcOf S x with
    | some c => (match c.put y v with
      | some (n, o) => chk (decide (n < line)) (.ok (.nx ρ) (S.put i o))
      | none => .no)
    | none => .no)
  | _ => .no
section
variable {X : Cx} {W : WX} {o i e value : Expr} {pos pos' apos cpos : Pos} {f g h fv : FE}
theorem getD_rep {K : PySem.W.Frag} {B : Hp} {tb : Tb} {o : Option D} {ov : Option V} {z : D} {u : V} (h : GR K B tb o ov) (hz : rep K B tb z u) : rep K B tb (o.getD z) (ov.getD u) := by
  cases o with
  | none => cases (show ov = none from h); exact hz
  | some d => obtain ⟨u', rfl, r⟩ := h; exact r
theorem d_dix (hu : X.A.units + 64 < cLine) (ha : DE X W o f) (hb : DE X W i g) (hs : NoSl i) : DE X W (.Subscript o i pos) (e2 kDIx f g) := (pe_dget (by omega) ha hb hs).imp fun σ H Q ⟨B, tb, ρ, S, w, e, q⟩ => by
  refine LE.step w e q fun x S1 B1 tb1 H1 v x1 w1 e1 r1 h1 => LE.step w1 e1 h1 fun y S2 B2 tb2 H2 u x2 w2 e2 r2 h2 => ?_
  unfold kDIx at h2
  split at h2
  · rename_i c hc
    split at h2
    · rename_i d hd
      obtain ⟨a, rfl, hr⟩ := dcOf_ok w2 hc (rep_ex x2 _ _ r1)
      obtain ⟨ov, g1, u', rfl, g2⟩ := hr.get w2.sub hd r2
      exact ⟨a, u', rfl, g1, h2.ok w2 _ g2⟩
    · exact h2.elim
  · exact h2.elim
theorem d_dget2 (hu : X.A.units + 64 < cLine) (ha : DE X W o f) (hb : DE X W i g) (hc : DE X W e h) (m : M2 X o "get" apos i e cpos) : DE X W (.Call (.Attribute o "get" apos) [i, e] [] cpos) (eDGet2 f g h) := (pe_dget2 (by omega) ha hb hc m).imp fun σ H Q ⟨B, tb, ρ, S, w, e, q⟩ => by
  refine LE.step w e q fun x S1 B1 tb1 H1 v x1 w1 e1 r1 h1 => ?_
  obtain ⟨c0, h1⟩ := chk_ok h1
  obtain ⟨c, hc⟩ := Option.isSome_iff_exists.mp c0
  obtain ⟨a, rfl, hr⟩ := dcOf_ok w1 hc r1
  refine ⟨a, rfl, hr.isD, LE.step w1 e1 h1 fun y S2 B2 tb2 H2 u x2 w2 e2 r2 h2 => LE.step w2 e2 h2 fun z S3 B3 tb3 H3 t x3 w3 e3 r3 h3 => ?_⟩
  split at h3
  · rename_i c' hc'
    split at h3
    · rename_i o' ho'
      obtain ⟨a', ea, hr'⟩ := dcOf_ok w3 hc' (rep_ex (x2.trans x3) _ _ r1)
      cases ea
      obtain ⟨ov, g1, g2⟩ := hr'.get w3.sub ho' (rep_ex x3 _ _ r2)
      exact ⟨ov, g1, h3.ok w3 _ (getD_rep g2 r3)⟩
    · exact h3.elim
  · exact h3.elim
theorem d_dget1 (hu : X.A.units + 64 < cLine) (ha : DE X W o f) (hb : DE X W i g) (m : M1 X o "get" apos i cpos) : DE X W (.Call (.Attribute o "get" apos) [i] [] cpos) (eDGet1 f g) := (pe_dget1 (by omega) ha hb m).imp fun σ H Q ⟨B, tb, ρ, S, w, e, q⟩ => by
  refine LE.step w e q fun x S1 B1 tb1 H1 v x1 w1 e1 r1 h1 => ?_
  obtain ⟨c0, h1⟩ := chk_ok h1
  obtain ⟨c, hc⟩ := Option.isSome_iff_exists.mp c0
  obtain ⟨a, rfl, hr⟩ := dcOf_ok w1 hc r1
  refine ⟨a, rfl, hr.isD, LE.step w1 e1 h1 fun y S2 B2 tb2 H2 u x2 w2 e2 r2 h2 => ?_⟩
  split at h2
  · rename_i c' hc'
    split at h2
    · rename_i o' ho'
      obtain ⟨a', ea, hr'⟩ := dcOf_ok w2 hc' (rep_ex x2 _ _ r1)
      cases ea
      obtain ⟨ov, g1, g2⟩ := hr'.get w2.sub ho' r2
      exact ⟨ov, g1, h2.ok w2 _ (getD_rep g2 rep_non)⟩
    · exact h2.elim
  · exact h2.elim
theorem d_din (hu : X.A.units + 64 < cLine) (hb : DE X W i g) (ha : DE X W o f) : PC X .In i o (LE X.K W (e2 (kDIn false) g f)) := ⟨fun pins s σ H Q I h => (pc_din (by omega) hb ha).run pins s σ H Q I (by
  obtain ⟨B, tb, ρ, S, w, e, q⟩ := h
  refine LE.step w e q fun y S1 B1 tb1 H1 u x1 w1 e1 r1 h1 => LE.step w1 e1 h1 fun x S2 B2 tb2 H2 v x2 w2 e2 r2 h2 => ?_
  unfold kDIn at h2
  split at h2
  · rename_i c hc
    split at h2
    · rename_i o' ho'
      obtain ⟨a, rfl, hr⟩ := dcOf_ok w2 hc r2
      obtain ⟨ov, g1, g2⟩ := hr.get w2.sub ho' (rep_ex x2 _ _ r1)
      exact ⟨a, ov, rfl, g1, by rw [g2.isSome]; exact h2.ok w2 _ rep_bl⟩
    · exact h2.elim
  · exact h2.elim)⟩
theorem d_dnotin (hu : X.A.units + 64 < cLine) (hb : DE X W i g) (ha : DE X W o f) : PC X .NotIn i o (LE X.K W (e2 (kDIn true) g f)) := ⟨fun pins s σ H Q I h => (pc_dnotin (by omega) hb ha).run pins s σ H Q I (by
  obtain ⟨B, tb, ρ, S, w, e, q⟩ := h
  refine LE.step w e q fun y S1 B1 tb1 H1 u x1 w1 e1 r1 h1 => LE.step w1 e1 h1 fun x S2 B2 tb2 H2 v x2 w2 e2 r2 h2 => ?_
  unfold kDIn at h2
  split at h2
  · rename_i c hc
    split at h2
    · rename_i o' ho'
      obtain ⟨a, rfl, hr⟩ := dcOf_ok w2 hc r2
      obtain ⟨ov, g1, g2⟩ := hr.get w2.sub ho' (rep_ex x2 _ _ r1)
      exact ⟨a, ov, rfl, g1, by rw [g2.isSome]; exact h2.ok w2 _ rep_bl⟩
    · exact h2.elim
  · exact h2.elim)⟩
theorem ds_dput (hu : X.A.units + 64 < cLine) (hv : DE X W value fv) (ha : DE X W o f) (hb : DE X W i g) (hs : swapsWith value (some (.Subscript o i pos')) pos.line X.env = pure false) :
    DS X W (.Assign [.Subscript o i pos'] value pos) (sDPut fv f g) := (ps_dput (by omega) ha hb hv hs).imp fun Dn σ H ⟨B, tb, ρ, S, w, e, q⟩ => by
  refine LE.stepS w e q fun v S1 B1 tb1 H1 vv x1 w1 e1 r1 h1 => LE.stepS w1 e1 h1 fun x S2 B2 tb2 H2 xv x2 w2 e2 r2 h2 => LE.stepS w2 e2 h2 fun y S3 B3 tb3 H3 yv x3 w3 e3 r3 h3 => ?_
  split at h3
  · rename_i j
    have rx := rep_ex x3 _ _ r2
    have rv := rep_ex (x2.trans x3) _ _ r1
    split at h3
    · rename_i c hc
      split at h3
      · rename_i n o' ho
        obtain ⟨cl0, h4⟩ : decide (n < line) = true ∧ PostS X.K B3 tb3 W Dn (.ok (.nx ρ) (S3.put j o')) := by
          unfold chk at h3
          split at h3
          · rename_i z; exact ⟨z, h3⟩
          · exact h3.elim
        have cl := of_decide_eq_true cl0
        obtain ⟨a, ea, hr⟩ := dcOf_ok w3 hc rx
        simp only [rep] at rx
        obtain ⟨a', ea', hp⟩ := rx
        rw [ea] at ea'; cases ea'
        have hm : ∃ d0, S3.m[j]? = some (some d0) := by
          simp only [dcOf] at hc
          split at hc
          · rename_i ks ds hk; exact ⟨_, hk⟩
          · rename_i ks ds hk; exact ⟨_, hk⟩
          · cases hc
        obtain ⟨d0, hk⟩ := hm
        cases c with
        | k ks ds =>
          obtain ⟨vs, q1, q2, q3⟩ := hr
          simp only [Dc.put] at ho
          cases z : keyOf y with
          | none => rw [z] at ho; cases ho
          | some qk =>
            rw [z] at ho
            simp only [Option.map_some, Option.some.injEq, Prod.mk.injEq] at ho
            obtain ⟨rfl, rfl⟩ := ho
            have ll : (ks.zip vs).length < sizeLine := by rw [List.length_zip, q2, Nat.min_self, line_eq, ← q2]; exact cl
            refine ⟨a, _, ea, by rw [keyOf_ok z r3]; exact DPut.k q1 ll, ?_⟩
            rw [← put_zip ks vs qk vv q2]
            have w4 := w3.put hk hp (o := .dK ((putKs ks qk).zip (putVs ks vs qk vv))) (d' := .dk (putKs ks qk) (putVs ks ds qk v)) ⟨_, upd_same, put_len _ _ _ _ q2, put_reps rv q3⟩
            exact h4.nx' w4 e3
        | t ks ds =>
          obtain ⟨vs, q1, q2, q3⟩ := hr
          cases y with
          | tup es =>
            simp only [Dc.put] at ho
            cases z : keysOf es with
            | none => rw [z] at ho; cases ho
            | some qk =>
              rw [z] at ho
              simp only [Option.map_some, Option.some.injEq, Prod.mk.injEq] at ho
              obtain ⟨rfl, rfl⟩ := ho
              simp only [rep] at r3
              obtain ⟨b, us, rfl, t1, t2⟩ := r3
              have t1' : H3 b = some (.tup (qk.map kV)) := by rw [← keysOf_ok z t2]; exact w3.sub _ _ t1
              have ll : (ks.zip vs).length < sizeLine := by rw [List.length_zip, q2, Nat.min_self, line_eq, ← q2]; exact cl
              refine ⟨a, _, ea, DPut.t q1 t1' ll, ?_⟩
              rw [← put_zip ks vs qk vv q2]
              have w4 := w3.put hk hp (o := .dT ((putKs ks qk).zip (putVs ks vs qk vv))) (d' := .dt (putKs ks qk) (putVs ks ds qk v)) ⟨_, upd_same, put_len _ _ _ _ q2, put_reps rv q3⟩
              exact h4.nx' w4 e3
          | _ => simp only [Dc.put] at ho; cases ho
      · exact h3.elim
    · exact h3.elim
  · exact h3.elim
end
end Qd

namespace Qd
open PySem L2
open PySem.W (AllAlike Sortable dataLe EachIs alike dataLt)

/-! ### order of data -/
def rOrd (K : PySem.W.Frag) (c : PyData → PyData → Bool) : R2 := fun x y H Q => ∃ a b : PyData, Dp K H x a ∧ Dp K H y b ∧ alike a b = true ∧ a ≠ .none ∧ a.depth ≤ 60 ∧ Q (.bl (c a b)) H
section
variable {X : Cx}
theorem ord_room {a b : PyData} (hu : X.A.units + 64 < cLine) (h : a.depth ≤ 60) : X.A.units + min a.depth b.depth < cLine := by
  have := Nat.min_le_left a.depth b.depth
  omega
theorem op_ltO (hu : X.A.units + 64 < cLine) : OpR X (compareOp .Lt) (rOrd X.K dataLt) := by
  intro pins s σ H x y v u Q I rx ry h
  obtain ⟨a, b, d1, d2, al, hn, hd, q⟩ := h
  obtain ⟨as, ra⟩ := Dp.reads I a x v d1 rx
  obtain ⟨bs, rb⟩ := Dp.reads I b y u d2 ry
  exact PySem.W.lt_data ra rb al hn (ord_room hu hd) ⟨.bl _, H, I, rfl, q⟩
theorem op_gtO (hu : X.A.units + 64 < cLine) : OpR X (compareOp .Gt) (rOrd X.K fun a b => dataLt b a) := by
  intro pins s σ H x y v u Q I rx ry h
  obtain ⟨a, b, d1, d2, al, hn, hd, q⟩ := h
  obtain ⟨as, ra⟩ := Dp.reads I a x v d1 rx
  obtain ⟨bs, rb⟩ := Dp.reads I b y u d2 ry
  exact PySem.W.gt_data ra rb al hn (ord_room hu hd) ⟨.bl _, H, I, rfl, q⟩
theorem op_leO (hu : X.A.units + 64 < cLine) : OpR X (compareOp .LtE) (rOrd X.K fun a b => !dataLt b a) := by
  intro pins s σ H x y v u Q I rx ry h
  obtain ⟨a, b, d1, d2, al, hn, hd, q⟩ := h
  obtain ⟨as, ra⟩ := Dp.reads I a x v d1 rx
  obtain ⟨bs, rb⟩ := Dp.reads I b y u d2 ry
  exact PySem.W.le_data ra rb al hn (ord_room hu hd) ⟨.bl _, H, I, rfl, q⟩
theorem op_geO (hu : X.A.units + 64 < cLine) : OpR X (compareOp .GtE) (rOrd X.K fun a b => !dataLt a b) := by
  intro pins s σ H x y v u Q I rx ry h
  obtain ⟨a, b, d1, d2, al, hn, hd, q⟩ := h
  obtain ⟨as, ra⟩ := Dp.reads I a x v d1 rx
  obtain ⟨bs, rb⟩ := Dp.reads I b y u d2 ry
  exact PySem.W.ge_data ra rb al hn (ord_room hu hd) ⟨.bl _, H, I, rfl, q⟩
end
def kOrd (ci : Int → Int → Bool) (c : PyData → PyData → Bool) (x y : D) (S : Sto) : R D := match x, y with
  | .int i, .int j => .ok (.bl (ci i j)) S
  | x, y => match pyOf S x, pyOf S y with
    | some a, some b => chk (alike a b && (match a with | .none => false | _ => true) && decide (a.depth ≤ 60)) (.ok (.bl (c a b)) S)
    | _, _ => .no
theorem fit_ord {K : PySem.W.Frag} {ci : Int → Int → Bool} {c : PyData → PyData → Bool} (h : ∀ i j, c (.int i) (.int j) = ci i j) : Fit2 K (rOrd K c) (kOrd ci c) := by
  intro B tb W σ H S x y v u Q w rx ry q
  unfold kOrd at q
  split at q
  · rename_i i j
    exact ⟨.int i, .int j, pyOf_ok (d := .int i) w rx rfl, pyOf_ok (d := .int j) w ry rfl, rfl, (fun z => by cases z), Nat.zero_le _, by rw [h]; exact q.ok w _ rep_bl⟩
  · split at q
    · rename_i a b ea eb
      obtain ⟨cc, q⟩ := chk_ok q
      simp only [Bool.and_eq_true, decide_eq_true_eq] at cc
      refine ⟨a, b, pyOf_ok w rx ea, pyOf_ok w ry eb, cc.1.1, ?_, cc.2, q.ok w _ rep_bl⟩
      intro z
      subst z
      exact absurd cc.1.2 (by simp)
    · exact q.elim
abbrev kLtO := kOrd (fun i j => decide (i < j)) dataLt
abbrev kGtO := kOrd (fun i j => decide (j < i)) fun a b => dataLt b a
abbrev kLeO := kOrd (fun i j => decide (i ≤ j)) fun a b => !dataLt b a
abbrev kGeO := kOrd (fun i j => decide (j ≤ i)) fun a b => !dataLt a b
section
variable {X : Cx} {W : WX} {a b : Expr} {pos : Pos} {f g : FE}
theorem not_dlt (i j : Int) : (!dataLt (.int j) (.int i)) = decide (i ≤ j) := by
  rw [PySem.W.dataLt_int, ← decide_not]
  congr 1
  simp
theorem d_ltO (hu : X.A.units + 64 < cLine) (ha : DE X W a f) (hb : DE X W b g) : DE X W (.Compare a [.Lt] [b] pos) (e2 kLtO f g) := d_cmp (op_ltO hu) (fit_ord fun i j => PySem.W.dataLt_int i j) ha hb (nomark _)
theorem t_ltO (hu : X.A.units + 64 < cLine) (ha : DE X W a f) (hb : DE X W b g) : DT X W (.Compare a [.Lt] [b] pos) (tV (e2 kLtO f g)) := t_cmp (op_ltO hu) (fit_ord fun i j => PySem.W.dataLt_int i j) ha hb (nomark _)
theorem d_gtO (hu : X.A.units + 64 < cLine) (ha : DE X W a f) (hb : DE X W b g) : DE X W (.Compare a [.Gt] [b] pos) (e2 kGtO f g) := d_cmp (op_gtO hu) (fit_ord fun i j => PySem.W.dataLt_int j i) ha hb (nomark _)
theorem t_gtO (hu : X.A.units + 64 < cLine) (ha : DE X W a f) (hb : DE X W b g) : DT X W (.Compare a [.Gt] [b] pos) (tV (e2 kGtO f g)) := t_cmp (op_gtO hu) (fit_ord fun i j => PySem.W.dataLt_int j i) ha hb (nomark _)
theorem d_leO (hu : X.A.units + 64 < cLine) (ha : DE X W a f) (hb : DE X W b g) : DE X W (.Compare a [.LtE] [b] pos) (e2 kLeO f g) := d_cmp (op_leO hu) (fit_ord fun i j => not_dlt i j) ha hb (nomark _)
theorem t_leO (hu : X.A.units + 64 < cLine) (ha : DE X W a f) (hb : DE X W b g) : DT X W (.Compare a [.LtE] [b] pos) (tV (e2 kLeO f g)) := t_cmp (op_leO hu) (fit_ord fun i j => not_dlt i j) ha hb (nomark _)
theorem d_geO (hu : X.A.units + 64 < cLine) (ha : DE X W a f) (hb : DE X W b g) : DE X W (.Compare a [.GtE] [b] pos) (e2 kGeO f g) := d_cmp (op_geO hu) (fit_ord fun i j => not_dlt j i) ha hb (nomark _)
theorem t_geO (hu : X.A.units + 64 < cLine) (ha : DE X W a f) (hb : DE X W b g) : DT X W (.Compare a [.GtE] [b] pos) (tV (e2 kGeO f g)) := t_cmp (op_geO hu) (fit_ord fun i j => not_dlt j i) ha hb (nomark _)

/-! ### is True, is not False -/
def kIsB (n : Bool) (x y : D) (S : Sto) : R D := match x, y with
  | .bl a, .bl b => .ok (.bl (if n then !decide (a = b) else decide (a = b))) S
  | _, _ => .no
theorem fit_isB {K : PySem.W.Frag} : Fit2 K rIsB (kIsB false) := by
  intro B tb W σ H S x y v u Q w rx ry q
  unfold kIsB at q
  split at q
  · simp only [rep] at rx ry; subst rx ry
    exact ⟨_, _, rfl, rfl, q.ok w _ rep_bl⟩
  · exact q.elim
theorem fit_notB {K : PySem.W.Frag} : Fit2 K rNotB (kIsB true) := by
  intro B tb W σ H S x y v u Q w rx ry q
  unfold kIsB at q
  split at q
  · simp only [rep] at rx ry; subst rx ry
    exact ⟨_, _, rfl, rfl, q.ok w _ rep_bl⟩
  · exact q.elim
theorem d_isB (ha : DE X W a f) (hb : DE X W b g) : DE X W (.Compare a [.Is] [b] pos) (e2 (kIsB false) f g) := d_cmp op_isBl fit_isB ha hb (nomark _)
theorem d_notB (ha : DE X W a f) (hb : DE X W b g) : DE X W (.Compare a [.IsNot] [b] pos) (e2 (kIsB true) f g) := d_cmp op_notBl fit_notB ha hb (nomark _)
theorem t_isB (ha : DE X W a f) (hb : DE X W b g) : DT X W (.Compare a [.Is] [b] pos) (tV (e2 (kIsB false) f g)) := t_cmp op_isBl fit_isB ha hb (nomark _)
theorem t_notB (ha : DE X W a f) (hb : DE X W b g) : DT X W (.Compare a [.IsNot] [b] pos) (tV (e2 (kIsB true) f g)) := t_cmp op_notBl fit_notB ha hb (nomark _)
end

/-! ### max, min of a list -/
def maxI : Int → List Int → Int
  | m, [] => m
  | m, x :: r => maxI (if x > m then x else m) r
def minI : Int → List Int → Int
  | m, [] => m
  | m, x :: r => minI (if x < m then x else m) r
theorem maxI_ge : ∀ (m : Int) (r : List Int), m ≤ maxI m r ∧ ∀ x ∈ r, x ≤ maxI m r
  | m, [] => ⟨Int.le_refl _, fun _ h => nomatch h⟩
  | m, x :: r => by
    obtain ⟨h1, h2⟩ := maxI_ge (if x > m then x else m) r
    unfold maxI
    refine ⟨by split at h1 <;> split <;> omega, fun y hy => ?_⟩
    rcases List.mem_cons.mp hy with rfl | hy
    · split at h1 <;> split <;> omega
    · exact h2 y hy
theorem maxI_mem : ∀ (m : Int) (r : List Int), maxI m r ∈ m :: r
  | m, [] => by simp [maxI]
  | m, x :: r => by
    have h := maxI_mem (if x > m then x else m) r
    unfold maxI
    rcases List.mem_cons.mp h with h | h
    · rw [h]; split <;> simp
    · exact List.mem_cons_of_mem _ (List.mem_cons_of_mem _ h)
theorem minI_le : ∀ (m : Int) (r : List Int), minI m r ≤ m ∧ ∀ x ∈ r, minI m r ≤ x
  | m, [] => ⟨Int.le_refl _, fun _ h => nomatch h⟩
  | m, x :: r => by
    obtain ⟨h1, h2⟩ := minI_le (if x < m then x else m) r
    unfold minI
    refine ⟨by split at h1 <;> split <;> omega, fun y hy => ?_⟩
    rcases List.mem_cons.mp hy with rfl | hy
    · split at h1 <;> split <;> omega
    · exact h2 y hy
theorem minI_mem : ∀ (m : Int) (r : List Int), minI m r ∈ m :: r
  | m, [] => by simp [minI]
  | m, x :: r => by
    have h := minI_mem (if x < m then x else m) r
    unfold minI
    rcases List.mem_cons.mp h with h | h
    · rw [h]; split <;> simp
    · exact List.mem_cons_of_mem _ (List.mem_cons_of_mem _ h)
def kMaxL : List D → Sto → R D := k1 fun d S => match (lsOf S d).bind intsD with
  | some (n :: r) => .ok (.int (maxI n r)) S
  | _ => .no
def kMinL : List D → Sto → R D := k1 fun d S => match (lsOf S d).bind intsD with
  | some (n :: r) => .ok (.int (minI n r)) S
  | _ => .no
theorem fit_maxL {K : PySem.W.Frag} : FitC K (rMax K) kMaxL := fit_k1 fun B tb W σ H S d v Q w r q => by
  split at q
  · rename_i n l e
    cases z : lsOf S d with
    | none => rw [z] at e; cases e
    | some ds =>
      rw [z] at e
      simp only [Option.bind_some] at e
      obtain ⟨p, vs, rfl, h1, r1⟩ := lsOf_ok w z r
      have ev := intsD_ok r1 e
      subst ev
      refine ⟨p, n :: l, rfl, h1, by simp, fun m hm hu => ?_⟩
      have e2 : m = maxI n l := by
        have a := hu _ (maxI_mem n l)
        obtain ⟨b1, b2⟩ := maxI_ge n l
        rcases List.mem_cons.mp hm with rfl | hm
        · omega
        · have := b2 m hm; omega
      rw [e2]
      exact q.ok w _ rep_int
  · exact q.elim
theorem fit_minL {K : PySem.W.Frag} : FitC K (rMin K) kMinL := fit_k1 fun B tb W σ H S d v Q w r q => by
  split at q
  · rename_i n l e
    cases z : lsOf S d with
    | none => rw [z] at e; cases e
    | some ds =>
      rw [z] at e
      simp only [Option.bind_some] at e
      obtain ⟨p, vs, rfl, h1, r1⟩ := lsOf_ok w z r
      have ev := intsD_ok r1 e
      subst ev
      refine ⟨p, n :: l, rfl, h1, by simp, fun m hm hu => ?_⟩
      have e2 : m = minI n l := by
        have a := hu _ (minI_mem n l)
        obtain ⟨b1, b2⟩ := minI_le n l
        rcases List.mem_cons.mp hm with rfl | hm
        · omega
        · have := b2 m hm; omega
      rw [e2]
      exact q.ok w _ rep_int
  · exact q.elim

/-! ### xs[::-1] -/
section
variable {prog : Program} {w : World} {A : Around} {E : Value → Shared → Prop} {s : Shared}
open PyProof.Rows HT in
theorem sliceApplied_rev {sl : Addr} {vl vu vs : Value} {n : Nat} {Q : Int × Int × Nat → Shared → Prop} (hs : s.heap.IsSliceOf sl vl vu vs) (pl : IsPart vl none) (pu : IsPart vu none) (ps : IsPart vs (some (-1)))
    (h : Q ((n : Int) - 1, -1, n) s) : wpAny (model prog w) A (Builtin.Slice.sliceApplied (.ref sl) (pure (n : Int))) Q E s := by
  obtain ⟨os, hos, hcs, hds⟩ := id hs
  unfold Builtin.Slice.sliceApplied Builtin.Slice.sliceFields
  refine wpAny_bind (wpAny_bind (wpAny_field hos hds (x := vl) rfl (wpAny_bind (wpAny_field hos hds (x := vu) rfl (wpAny_bind (wpAny_field hos hds (x := vs) rfl (wpAny_pure ?_)))))))
  refine wpAny_bind (slicePart_ ps ?_)
  show wpAny _ _ (if ((-1 : Int) == 0) = true then _ else _) _ _ s
  rw [if_neg (by decide)]
  refine wpAny_bind (slicePart_ pl (wpAny_bind (slicePart_ pu (wpAny_bind (wpAny_pure ?_)))))
  show wpAny _ _ (pure ((n : Int) - 1, (-1 : Int), Builtin.Slice.slicePlaces ((n : Int) - 1) (-1) (-1))) _ _ s
  have e : Builtin.Slice.slicePlaces ((n : Int) - 1) (-1) (-1) = n := by
    unfold Builtin.Slice.slicePlaces
    rw [if_neg (by decide)]
    cases n with
    | zero => rfl
    | succ n =>
      rw [if_pos (by omega)]
      have : ((((n + 1 : Nat) : Int) - 1 - -1 - 1) / (- -1) + 1) = ((n + 1 : Nat) : Int) := by
        rw [show (- -1 : Int) = 1 by decide, Int.ediv_one]; omega
      rw [this]; exact Int.toNat_natCast _
  rw [e]
  exact wpAny_pure h
theorem pick_rev (xs : Array Value) : ((List.range xs.size).filterMap fun (m : Nat) => xs[((xs.size : Int) - 1 + (m : Int) * (-1)).toNat]?).toArray = xs.toList.reverse.toArray := by
  congr 1
  have e : ∀ m ∈ List.range xs.size, xs[((xs.size : Int) - 1 + (m : Int) * (-1)).toNat]? = xs.toList.reverse[m]? := fun m hm => by
    rw [List.mem_range] at hm
    have : ((xs.size : Int) - 1 + (m : Int) * (-1)).toNat = xs.size - 1 - m := by omega
    rw [this, List.getElem?_reverse (by simpa using hm)]
    simp
  have cg : ∀ (l : List Nat) (f g : Nat → Option Value), (∀ m ∈ l, f m = g m) → l.filterMap f = l.filterMap g := fun l f g h => by
    induction l with
    | nil => rfl
    | cons x l ih => rw [List.filterMap_cons, List.filterMap_cons, h x List.mem_cons_self, ih fun m hm => h m (List.mem_cons_of_mem _ hm)]
  rw [cg _ _ _ e]
  have key : ∀ l : List Value, (List.range l.length).filterMap (fun m => l[m]?) = l := fun l => by
    induction l with
    | nil => rfl
    | cons x l ih =>
      rw [List.length_cons, List.range_succ_eq_map, List.filterMap_cons]
      simp only [List.getElem?_cons_zero, List.filterMap_map]
      rw [show ((fun m => (x :: l)[m]?) ∘ Nat.succ) = fun m => l[m]? from by funext m; simp]
      rw [ih]
  have := key xs.toList.reverse
  rw [List.length_reverse, Array.length_toList] at this
  exact this
open PyProof.Rows HT in
theorem getItem_tuple_rev {t sl : Addr} {items : Array Value} {vl vu vs : Value} {Q : Value → Shared → Prop} (ht : IsTup s.heap t items) (hs : s.heap.IsSliceOf sl vl vu vs) (pl : IsPart vl none) (pu : IsPart vu none) (ps : IsPart vs (some (-1)))
    (h : Q (.ref s.heap.objs.size) { s with heap := s.heap.push { cls := .type "tuple", data := .seq items.toList.reverse.toArray } })
    (hsz : items.size ≤ sizeLine) : wpAny (model prog w) A (getItem (.ref t) (.ref sl)) Q E s := by
  have htake : sizeOk (.seq items.toList.reverse.toArray) := by
    show items.toList.reverse.toArray.size ≤ sizeLine
    rw [List.size_toArray, List.length_reverse, Array.length_toList]
    exact hsz
  obtain ⟨os, hos, hcs, hds⟩ := id hs
  have hTs : s.TypeIs (.ref sl) "slice" := ⟨os, hos, hcs⟩
  unfold getItem
  try with_reducible refine wpAny_holding ?_
  first | refine wpAny_bind (wpAny_pure ?_) | skip
  refine wpAny_bind (wpAny_sequenceKey ht.typeIs (by decide) ?_)
  refine wpAny_bind (wpAny_callSpecial?_slot (name := Str.ofString "__getitem__") ht.typeIs PyProof.Rows.slot_tuple_getitem
    (wpAny_call_entry PyProof.Rows.slot_tuple_getitem ht.typeIs PyProof.Rows.entry_tuple_getitem ?_ (PyProof.Rows.args_tuple_getitem _ _)))
  show wpAny _ _ (Builtin.Tuple.tupleItemsOf (.ref t) >>= _) _ _ s
  refine wpAny_bind (tupleItemsOf_ ht ?_)
  refine wpAny_bind (wpAny_typeOf hTs ?_)
  rw [if_pos (by decide)]
  refine wpAny_bind (sliceApplied_rev hs pl pu ps ?_)
  have hno : ¬ ((((items.size : Int) - 1) == 0 && (-1 : Int) == 1 && items.size == items.size) = true) := by simp
  show wpAny _ _ (if (((items.size : Int) - 1) == 0 && (-1 : Int) == 1 && items.size == items.size) = true then _ else _) _ _ s
  rw [if_neg hno, pick_rev]
  first
    | exact wpAny_bind (m := Builtin.Tuple.tupleExact _) (wpAny_newObj_type (wpAny_pure ⟨_, rfl, wpAny_pure h⟩) htake)
    | exact wpAny_bind (m := Builtin.Tuple.tupleExact _) (wpAny_newObj_type (wpAny_bind (wpAny_pure (wpAny_pure ⟨_, rfl, wpAny_pure h⟩))) htake)
    | exact wpAny_bind (wpAny_bind (m := Builtin.Tuple.tupleExact _) (wpAny_newObj_type (wpAny_pure (wpAny_pure ⟨_, rfl, wpAny_pure h⟩)) htake))
    | exact wpAny_bind (wpAny_bind (m := Builtin.Tuple.tupleExact _) (wpAny_newObj_type (wpAny_pure ⟨_, rfl, wpAny_pure h⟩) htake))
end
def tRevT (K : PySem.W.Frag) (te : TE) : TE := fun σ H Q => te σ H fun x H1 => ∃ a xs, x = .ref a ∧ SqT K H1 a xs ∧ ∀ p, H1 p = none → Q (.ref p) (upd H1 p (.tup xs.reverse))
def eRev (f : FE) : FE := fun ρ S => (f ρ S).bind fun d S => match d with
  | .tup ds => .ok (.tup ds.reverse) S
  | .scr ds => .ok (.lst ds.reverse) S
  | d => match lstOf S d with
    | some ds => .ok (.lst ds.reverse) S
    | none => .no
section
variable {X : Cx} {W : WX} {e : Expr} {te : TE} {k : Nat} {p1 p2 p3 pos : Pos} {f : FE}
theorem pe_revT (he : PE X e te) : PE X (.Subscript e (.Slice none none (some (.UnaryOp .USub (.Constant (.int 1) k p1) p2)) p3) pos) (tRevT X.K te) := by
  refine ⟨fun pins s σ H Q I h => ?_⟩
  refine PyProof.Rows.Subscript_ (thn (he.run pins s σ H _ I h) fun v s1 ⟨x, H1, I1, r1, q1⟩ => ?_)
  obtain ⟨a, xs, ex, hx, q⟩ := q1
  subst ex
  cases r1
  have hst : PO X (some (.UnaryOp .USub (.Constant (.int 1) k p1) p2)) (tPart (tUn (rU fun i => .int (-i)) (tC (.int 1)))) := po_some (pe_un un_neg pe_int)
  refine wpAny_Slice (thn (po_none.run pins s1 σ H1 (fun o H2 => o = none ∧ H2 = H1) I1 ⟨rfl, rfl⟩) fun vl s2 ⟨l, H2, I2, pl, el, e2⟩ => ?_)
  subst el e2
  refine thn (po_none.run pins s2 σ H2 (fun o H3 => o = none ∧ H3 = H2) I2 ⟨rfl, rfl⟩) fun vu s3 ⟨u, H3, I3, pu, eu, e3⟩ => ?_
  subst eu e3
  refine thn (hst.run pins s3 σ H3 (fun o H4 => o = some (-1) ∧ H4 = H3) I3 ⟨1, rfl, -1, rfl, rfl, rfl⟩) fun vs s4 ⟨o, H4, I4, ps, eo, e4⟩ => ?_
  subst eo e4
  have I5 : Inv X pins σ H4 { s4 with heap := s4.heap.push { cls := .type "slice", data := .fields #[vl, vu, vs] } } := I4.kept (t' := s4.toks) fun b ob q => Heap.get?_push_of_some _ q
  obtain ⟨its, r, ht, hz⟩ := I5.tuple hx
  have hlen := r.length
  show wpAny (model X.prog X.w) X.A (PyProof.Rows.subscriptTail e (.Slice none none (some (.UnaryOp .USub (.Constant (.int 1) k p1) p2)) p3) (.ref a) (.ref s4.heap.objs.size)) (EP X pins σ Q) X.xe { s4 with heap := s4.heap.push { cls := .type "slice", data := .fields #[vl, vu, vs] } }
  refine PyProof.Rows.tail_any (ops := [.ref a, .ref s4.heap.objs.size]) ht.typeIs (PyProof.Rows.slot_tuple_getitem.lookup) ?_ (by with_unfolding_all rfl)
  refine getItem_tuple_rev ht (Heap.IsSliceOf.new _ vl vu vs) pl pu ps ?_ (by rw [List.size_toArray]; omega)
  refine ⟨.ref _, _, I5.laid (t' := s4.toks) (o := .tup xs.reverse) (fun b ob q => Heap.get?_push_of_some _ q) (Nat.le_refl _) ?_, rfl, q _ (I5.hok.fresh (Nat.le_refl _))⟩
  exact ⟨by rw [List.length_reverse]; exact hz, _, r.reverse, PyProof.Rows.IsTup.new _ _⟩
theorem d_rev (he : DE X W e f) : DE X W (.Subscript e (.Slice none none (some (.UnaryOp .USub (.Constant (.int 1) k p1) p2)) p3) pos) (eRev f) := ((pe_revL he).or (pe_revT he)).imp fun σ H Q ⟨B, tb, ρ, S, w, e, q⟩ => by
  unfold eRev at q
  cases z : f ρ S with
  | er C ns vs S1 => rw [z] at q; exact .inl ⟨B, tb, ρ, S, w, e, by rw [z]; exact q⟩
  | no => rw [z] at q; exact q.elim
  | ok d S1 =>
    rw [z] at q
    simp only [bind_ok] at q
    have ls : ∀ ds, lstOf S1 d = some ds → Post X.K B tb W σ (.ok (.lst ds.reverse) S1) (fun d _ B' tb' H' => ∀ v, rep X.K B' tb' d v → Q v H') → tRevL X.K (LE X.K W f) σ H Q := fun ds hds q => by
      refine ⟨B, tb, ρ, S, w, e, ?_⟩
      rw [z]
      intro B1 tb1 H1 x1 w1 v r1
      obtain ⟨p, vs, rfl, h1, h2⟩ := lstOf_ok w1 hds r1
      refine ⟨p, vs, rfl, SqL.of h1, fun l hl => ?_⟩
      obtain ⟨B', e', w', r'⟩ := new_lst w1 (reps_reverse h2) hl
      exact (Post.mono x1 q) B' tb1 _ e' w' _ r'
    cases d with
    | tup ds =>
      refine .inr ⟨B, tb, ρ, S, w, e, ?_⟩
      rw [z]
      intro B1 tb1 H1 x1 w1 v r1
      simp only [rep] at r1
      obtain ⟨a, vs, rfl, h2, h3⟩ := r1
      refine ⟨a, vs, rfl, SqT.ex w1.sub h2, fun l hl => ?_⟩
      obtain ⟨B', e', w', r'⟩ := new_tup w1 (reps_reverse h3) hl
      exact (Post.mono x1 q) B' tb1 _ e' w' _ r'
    | scr ds =>
      refine .inl ⟨B, tb, ρ, S, w, e, ?_⟩
      rw [z]
      intro B1 tb1 H1 x1 w1 v r1
      simp only [rep] at r1
      obtain ⟨a, vs, rfl, h2, h3⟩ := r1
      refine ⟨a, vs, rfl, SqL.ex w1.sub h2, fun l hl => ?_⟩
      obtain ⟨B', e', w', r'⟩ := new_lst w1 (reps_reverse h3) hl
      exact (Post.mono x1 q) B' tb1 _ e' w' _ r'
    | lst ds => exact .inl (ls ds rfl q)
    | obj i =>
      simp only at q
      split at q
      · rename_i ds hds; exact .inl (ls ds hds q)
      · exact q.elim
    | _ => exact q.elim
end
end Qd

namespace Qd
open PySem L2
open PySem.W (AllAlike Sortable dataLe EachIs alike dataLt)

/-! ### new dicts -/
section
variable {X : Cx} {W : WX} {pos : Pos}
theorem d_dnewT : DE X W (.Dict [] [] pos) eDNewT := pe_dnewT.imp fun σ H Q ⟨B, tb, ρ, S, w, e, q⟩ p hp => by
  obtain ⟨w', e', n⟩ := w.push hp (o := .dT []) (d := .dt [] []) ⟨[], upd_same, rfl, reps_nil⟩
  exact q _ _ _ e' w' _ (by simp only [rep]; exact ⟨p, rfl, n⟩)
theorem d_dnewK : DE X W (.Dict [] [] pos) eDNewK := pe_dnewK.imp fun σ H Q ⟨B, tb, ρ, S, w, e, q⟩ p hp => by
  obtain ⟨w', e', n⟩ := w.push hp (o := .dK []) (d := .dk [] []) ⟨[], upd_same, rfl, reps_nil⟩
  exact q _ _ _ e' w' _ (by simp only [rep]; exact ⟨p, rfl, n⟩)
theorem d_d0 : DE X W (.Dict [] [] pos) eD0 := pe_dnewK.imp fun σ H Q ⟨B, tb, ρ, S, w, e, q⟩ p hp => by
  obtain ⟨w', e'⟩ := w.new hp (.dK [])
  exact q _ _ _ e' w' _ (by simp only [rep]; exact ⟨p, [], rfl, upd_same, rfl, reps_nil⟩)
end

/-! ### sorted(d), the keys tuples -/
def keyPy : Key → PyData
  | .inl i => .int i
  | .inr x => .str x
def kD : Key → D
  | .inl i => .int i
  | .inr x => .str x
def keyD (k : List Key) : D := .tup (k.map kD)
def keyData (k : List Key) : PyData := .tuple (k.map keyPy)
theorem py_kD (k : Key) : py (kD k) = some (keyPy k) := by
  cases k <;> simp only [kD, keyPy, py]
theorem pys_kD : ∀ k : List Key, pys (k.map kD) = some (k.map keyPy)
  | [] => by simp only [List.map_nil, pys]
  | k :: r => by simp only [List.map_cons, pys, py_kD, pys_kD r]
theorem py_keyD (k : List Key) : py (keyD k) = some (keyData k) := by
  unfold keyD keyData
  simp only [py, pys_kD]; rfl
theorem pys_keyD : ∀ ks : List (List Key), pys (ks.map keyD) = some (ks.map keyData)
  | [] => by simp only [List.map_nil, pys]
  | k :: r => by simp only [List.map_cons, pys, py_keyD, pys_keyD r]
theorem dp_kV {K : PySem.W.Frag} {H : Hp} (k : Key) : Dp K H (kV k) (keyPy k) := by
  cases k with
  | inl i => exact .int i
  | inr x => exact .str x
theorem dp_kVs {K : PySem.W.Frag} {H : Hp} : ∀ k : List Key, DpAll K H (k.map kV) (k.map keyPy)
  | [] => .nil
  | k :: r => .cons (dp_kV k) (dp_kVs r)
theorem dp_keys {K : PySem.W.Frag} {H : Hp} : ∀ {kvs : List (List Key × V)} {bs : List Addr}, IsKeys H kvs bs → DpAll K H (bs.map V.ref) (kvs.map fun p => keyData p.1)
  | _, _, .nil => .nil
  | _, _, .cons h t => .cons (.tup (SqT.of h) (dp_kVs _)) (dp_keys t)
def rSortDT (K : PySem.W.Frag) : List V → Hp → VK → Prop := fun vs H Q => ∃ (a : Addr) (kvs : List (List Key × V)), vs = [.ref a] ∧ H a = some (.dT kvs) ∧ AllAlike (kvs.map fun p => keyData p.1) ∧ Sortable (kvs.map fun p => keyData p.1) ∧ (∀ e ∈ kvs.map fun p => keyData p.1, e.depth ≤ 60) ∧
  ∀ bs p, IsKeys H kvs bs → H p = none → Q (.ref p) (upd H p (.lst ((((bs.map V.ref).zip (kvs.map fun p => keyData p.1)).mergeSort (dataLe false Prod.snd)).map Prod.fst)))
theorem cr_sortDT {X : Cx} (hc : X.calm = true) (hu : X.A.units + 64 < cLine) : CallR X (.builtin "sorted") (rSortDT X.K) := by
  intro pins s σ H vs us Q I r h
  obtain ⟨d, kvs, rfl, hd, hal, hso, hdp, q⟩ := h
  obtain ⟨u, rfl, rx⟩ := r.one
  cases rx
  obtain ⟨z, hs, ks, pr, o, es, ep, ho, hx, hdt, he, hn⟩ := (show ObjOk X.prog X.w H s.heap d (.dT kvs) from I.hok d _ hd)
  have l1 : es.size = ks.length := size_of_entries he
  have l2 : kvs.length = ks.length := Paired.length pr
  refine Calls.call_function_entry PyProof.Rows.kind_sorted PyProof.Rows.plain_sorted PyProof.Rows.entry_sorted (PyProof.Rows.args_sorted1 _) ?_
  unfold Builtin.«sorted»
  refine wpAny_bind (m := checkCount "sorted" 1 1 _) (wpAny_pure ?_)
  refine wpAny_bind (PySem.W.kdu_collect (A := X.A.in1) (kdl_raw hs hx hdt) (I.ok.hd hc) ho (by omega) fun h' tk acc kp it => ?_)
  have ea : acc.toList = ks.map fun x => Value.ref x.2.1 := by
    have hl : acc.toList.length = ks.length := by rw [Array.length_toList, it.1]; exact l1
    apply List.ext_getElem?
    intro j
    rw [List.getElem?_map]
    cases hj : acc.toList[j]? with
    | none =>
      have h1 := List.getElem?_eq_none_iff.mp hj
      rw [List.getElem?_eq_none (by omega)]
      all_goals rfl
    | some v =>
      obtain ⟨en, hen, hv⟩ := it.2 j v (by rw [← Array.getElem?_toList]; exact hj)
      have qe := entry_at he j
      rw [hen] at qe
      cases hb : ks[j]? with
      | none =>
        rw [hb] at qe
        exact nomatch (show some en = none from qe)
      | some b =>
        rw [hb] at qe
        have e2 : en = entryOfKey (tupleKind (mixKind X.prog X.w)) b := Option.some.inj qe
        rw [hv, e2]
        all_goals rfl
  have eb : acc.toList = (ks.map fun x => x.2.1).map Value.ref := by rw [ea, List.map_map]; all_goals rfl
  have rv : Vals ((ks.map fun x => x.2.1).map V.ref) acc.toList := by rw [eb]; exact vals_refs _
  have ik : IsKeys H kvs (ks.map fun x => x.2.1) := isKeys_of pr
  have I1 : Inv X pins σ H { s with heap := h', toks := tk } := I.kept kp
  have hdd : DpAll X.K H ((ks.map fun x => x.2.1).map V.ref) (kvs.map fun p => keyData p.1) := dp_keys ik
  have hlen := dpAll_len hdd
  have q' := fun p hp => q _ p ik hp
  generalize (kvs.map fun p => keyData p.1) = ds at hal hso hdp hdd hlen q'
  have hz : ((ks.map fun x => x.2.1).map V.ref).length ≤ sizeLine := by rw [List.length_map, List.length_map]; omega
  generalize ((ks.map fun x => x.2.1).map V.ref) = xs at rv hdd hlen q' hz
  obtain ⟨as, hr⟩ := Dp.readsAll I1 ds xs acc.toList hdd rv
  have e2 : (xs.zip ds).map Prod.snd = ds := zip_snd hlen
  have hzl : (xs.zip ds).length = ds.length := by rw [← e2, List.length_map, e2]
  have hal' : acc.toList.length = xs.length := rv.length.symm
  refine wpAny_bind (wpAny_newList ?_ (by rw [hal']; exact hz))
  have hoL : (h'.push (PyProof.Rows.seqObj "list" acc.toList.toArray 0)).get? h'.objs.size = some (PyProof.Rows.seqObj "list" acc.toList.toArray 0) := Heap.get?_push_size _ rfl
  show wpAny _ _ _ _ _ { s with heap := h'.push (PyProof.Rows.seqObj "list" acc.toList.toArray 0), toks := tk }
  have ee : EachIs (fun u (b : V × PyData) => RelV b.1 u) acc.toList (xs.zip ds) := each_zip rv hlen
  have er0 : EachIs (fun v (b : V × PyData) => ∃ as, Reads h' v (Prod.snd b) as) acc.toList (xs.zip ds) := PySem.W.readsAll_each Prod.snd (as := as) (by rw [e2]; exact hr)
  have er : EachIs (fun v (b : V × PyData) => ∃ as, Reads (PySem.W.sortingHeap (h'.push (PyProof.Rows.seqObj "list" acc.toList.toArray 0)) h'.objs.size acc.toList) v (Prod.snd b) as) acc.toList (xs.zip ds) :=
    er0.mono fun _ _ ⟨as, r⟩ => ⟨as, PyProof.Rows.Reads.keeps (fun b o e => PySem.W.sortingHeap_old (Nat.ne_of_lt (Heap.lt_size e)) (Heap.get?_push_of_some _ e)) r⟩
  refine wpAny_bind (wpAny_holding (wpAny_call_entry PyProof.Rows.slot_list_sort ⟨_, hoL, rfl⟩ PyProof.Rows.entry_list_sort
    (PySem.W.list_sort_vals (κ := PySem.W.dataKind (PySem.W.sortingHeap (h'.push (PyProof.Rows.seqObj "list" acc.toList.toArray 0)) h'.objs.size acc.toList) ((xs.zip ds).map Prod.snd)) (s := { s with heap := h'.push (PyProof.Rows.seqObj "list" acc.toList.toArray 0), toks := tk }) hoL
      (PySem.W.SortsAt.data (s := { s with heap := PySem.W.sortingHeap (h'.push (PyProof.Rows.seqObj "list" acc.toList.toArray 0)) h'.objs.size acc.toList, toks := tk }) (PySem.W.each_map (R := fun v d => ∃ as, Reads (PySem.W.sortingHeap (h'.push (PyProof.Rows.seqObj "list" acc.toList.toArray 0)) h'.objs.size acc.toList) v d as) Prod.snd er)
        (by rw [e2]; exact hal) (by rw [e2]; exact hso) (fun d hd => by
          rw [e2] at hd
          have h1 := hdp d hd
          have : X.A.in1.in1.units ≤ X.A.units + 2 := by first | exact Nat.le_refl _ | (show X.A.units + 1 + 1 ≤ _; omega)
          show X.A.in1.in1.units + d.depth < cLine
          omega))
      (by rw [hal']; exact hz) ⟨_, rfl, ?_⟩)
    (PyProof.Rows.args_list_sort _)))
  have he2 := PySem.W.sortVals_data (h' := PySem.W.sortingHeap (h'.push (PyProof.Rows.seqObj "list" acc.toList.toArray 0)) h'.objs.size acc.toList) false ee er (by rw [e2]; exact hal)
  obtain ⟨e', he'⟩ := PyProof.Rows.sortedHeap_at (vs := acc.toList) (out := (PySem.W.sortVals (PySem.W.dataKind (PySem.W.sortingHeap (h'.push (PyProof.Rows.seqObj "list" acc.toList.toArray 0)) h'.objs.size acc.toList) ((xs.zip ds).map Prod.snd)) false acc.toList acc.toList).toArray) hoL
  refine wpAny_pure ⟨_, rfl, .ref h'.objs.size, upd H h'.objs.size (.lst (((xs.zip ds).mergeSort (dataLe false Prod.snd)).map Prod.fst)), I1.laid (t' := tk) (fun b u e => ?_) (Nat.le_refl _)
    (show ObjOk X.prog X.w _ _ _ (.lst (((xs.zip ds).mergeSort (dataLe false Prod.snd)).map Prod.fst)) from ⟨?_, _, e', vals_each he2, he'⟩), rfl, q' _ (I1.hok.fresh (Nat.le_refl _))⟩
  · have hb : b < h'.objs.size := Heap.lt_size e
    rw [PyProof.Rows.sortedHeap_old (Nat.ne_of_lt hb) (by rw [PyProof.Rows.size_push']; exact Nat.lt_succ_of_lt hb)]
    exact Heap.get?_push_of_some _ e
  · rw [List.length_map, List.length_mergeSort, hzl, ← hlen]; exact hz
theorem adopt_keys {K : PySem.W.Frag} {H : Hp} {tb : Tb} {S : Sto} : ∀ {ks : List (List Key)} {vs : List V} {bs : List Addr} {B : Hp}, ks.length = vs.length → IsKeys H (ks.zip vs) bs → Wd K H B tb S → ∃ B', Ex B tb B' tb ∧ Wd K H B' tb S ∧ reps K B' tb (ks.map keyD) (bs.map V.ref)
  | [], vs, bs, B, hl, h, w => by
    cases h
    exact ⟨B, Ex.refl _ _, w, reps_nil⟩
  | k :: ks, [], bs, B, hl, h, w => by simp at hl
  | k :: ks, v :: vs, bs, B, hl, h, w => by
    cases h with
    | cons h1 t =>
      obtain ⟨B1, x1, w1, r1⟩ := adopt_keys (by simpa using hl) t w
      obtain ⟨B2, x2, w2, e2⟩ := w1.adopt h1
      have rk : ∀ k : List Key, reps K B2 tb (k.map kD) (k.map kV) := fun k => by
        induction k with
        | nil => exact reps_nil
        | cons a k ih => exact reps_cons (by cases a <;> simp only [kD, kV, rep]) ih
      exact ⟨B2, x1.trans x2, w2, reps_cons (by unfold keyD; simp only [rep]; exact ⟨_, _, rfl, e2, rk k⟩) (reps_ex x2 _ _ r1)⟩
def kSortDT : List D → Sto → R D := k1 fun d S => match dcOf S d with
  | some (.t ks ds) => chk (sortOkB (ks.map keyData)) (.ok (.lst ((ks.map keyD).mergeSort leD)) S)
  | _ => .no
theorem fit_sortDT {K : PySem.W.Frag} : FitC K (rSortDT K) kSortDT := fit_k1 fun B tb W σ H S d v Q w r q => by
  split at q
  · rename_i ks ds e
    obtain ⟨c, q⟩ := chk_ok q
    obtain ⟨a, rfl, vs, h1, h2, h3⟩ := dcOf_ok w e r
    have ek : ((ks.zip vs).map fun p => keyData p.1) = ks.map keyData := by
      rw [show (fun p : List Key × V => keyData p.1) = keyData ∘ Prod.fst from rfl, ← List.map_map, List.map_fst_zip (Nat.le_of_eq h2)]
    refine ⟨a, ks.zip vs, rfl, h1, by rw [ek]; exact sortOk_alike c, by rw [ek]; exact sortOk_sortable c, by rw [ek]; exact sortOk_depth c, fun bs p hk hp => ?_⟩
    rw [ek]
    obtain ⟨B1, x1, w1, r1⟩ := adopt_keys h2 hk w
    obtain ⟨B', e', w', r'⟩ := new_lst w1 (sort_reps r1 (pys_keyD ks)) hp
    exact q B' tb _ (x1.trans e') w' _ r'
  · exact q.elim
/-- len(d) -/
def kLenD : List D → Sto → R D := k1 fun d S => match dcOf S d with
  | some (.t ks ds) => .ok (.int ks.length) S
  | _ => .no
theorem dss_never {X : Cx} {W : WX} {body : List Stmt} : DSs X W body (fun _ _ => .no) := ⟨fun pins s σ H Dn I ⟨B, tb, ρ, S, w, e, q⟩ => q.elim⟩
section
variable {X : Cx} {W : WX}
theorem ds_par3 {i j l : Nat} {x y z : Str} {a b c : Expr} {fa : FA} {px py pz pt pos : Pos} {kt k2 pt2} (hc : X.calm = true) (hN : X.N.Nodup) (hi : X.N[i]? = some x) (hj : X.N[j]? = some y) (hl : X.N[l]? = some z) (hij : i ≠ j) (hil : i ≠ l) (hjl : j ≠ l)
    (hx : X.env.scope.names.lookup x = some .local) (hy : X.env.scope.names.lookup y = some .local) (hz : X.env.scope.names.lookup z = some .local) (ha : DA X W [a, b, c] fa)
    (hw : swappedStores [.Tuple [.Name x px, .Name y py, .Name z pz] kt pt] (.Tuple [a, b, c] k2 pt2) X.env = pure (some [x, y, z]))
    (hs : swapsWithSole [.Tuple [.Name x px, .Name y py, .Name z pz] kt pt] (.Tuple [a, b, c] k2 pt2) pos.line X.env = pure false := by rfl) :
    DS X W (.Assign [.Tuple [.Name x px, .Name y py, .Name z pz] kt pt] (.Tuple [a, b, c] k2 pt2) pos) (sPar fa [i, j, l]) := (ps_par3 hc hN hi hj hl hij hil hjl hx hy hz ha hw hs).imp fun Dn σ H ⟨B, tb, ρ, S, w, e, q⟩ =>
  LA.stepS w e q fun ds S1 B1 tb1 H1 vs x1 w1 e1 r1 h1 => by
    cases ds with
    | nil => exact h1.elim
    | cons d ds =>
      cases ds with
      | nil => exact h1.elim
      | cons d2 ds =>
        cases ds with
        | nil => exact h1.elim
        | cons d3 ds =>
          cases ds with
          | cons d4 ds => exact h1.elim
          | nil =>
            simp only [reps] at r1
            obtain ⟨v, t, rfl, q1, v2, t2, rfl, q2, v3, t3, rfl, q3, rfl⟩ := r1
            exact ⟨v, v2, v3, rfl, PostS.nx' (ρ := ((ρ.set i (some d)).set j (some d2)).set l (some d3)) h1 w1 (((e1.set i q1).set j q2).set l q3)⟩
end
end Qd

namespace K16
open PySem L2 Qd
def top (i : Nat) : Stmt := PySem.Challenge.pw_stakecrates_k16_what_dealings_are.main.body.getD i (.Pass ⟨0, 0, 0, 0⟩)
abbrev s_law_take : Stmt := top 23
abbrev s_law_outs : Stmt := top 26
abbrev s_law_backs : Stmt := top 27
abbrev s_law_dealt : Stmt := top 28
abbrev s_law_any_ranks : Stmt := top 30
abbrev s_law_number : Stmt := top 24
abbrev s_law_numbers : Stmt := top 25
abbrev s_law_is_dealing : Stmt := top 29
abbrev s_law_moved : Stmt := top 32
abbrev s_law_bent : Stmt := top 31
abbrev s_is_whole : Stmt := top 7
abbrev s_is_within : Stmt := top 8
abbrev s_is_amount : Stmt := top 10
abbrev s_is_day : Stmt := top 9
abbrev s_is_out : Stmt := top 13
abbrev s_check_outs : Stmt := top 15
abbrev s_is_back : Stmt := top 14
abbrev s_check_backs : Stmt := top 16
abbrev s_is_part : Stmt := top 17
abbrev s_deals_all : Stmt := top 18
abbrev s_is_dealing : Stmt := top 19
abbrev s_law_right : Stmt := top 33
abbrev s_law_purse : Stmt := top 22
abbrev s_law_cell : Stmt := top 21
abbrev s_law : Stmt := top 34
/-- what the top has written -/
structure Txt (K : PySem.W.Frag) (mg : Str → Option Value) : Prop where
  b_abs : mg "abs" = none
  b_all : mg "all" = none
  b_any : mg "any" = none
  b_bool : mg "bool" = none
  b_enumerate : mg "enumerate" = none
  b_int : mg "int" = none
  b_isinstance : mg "isinstance" = none
  b_len : mg "len" = none
  b_list : mg "list" = none
  b_max : mg "max" = none
  b_min : mg "min" = none
  b_range : mg "range" = none
  b_sorted : mg "sorted" = none
  b_sum : mg "sum" = none
  b_tuple : mg "tuple" = none
  i_LAST_DAY : ∃ t, mg "LAST_DAY" = some (.int 9999 t)
  i_MOST_AMOUNT : ∃ t, mg "MOST_AMOUNT" = some (.int 9999 t)
  i_MOST_MANY : ∃ t, mg "MOST_MANY" = some (.int 99999 t)
  g_law_take : mg "_law_take" = some (.ref (He.ga K "_law_take"))
  F_law_take : ∃ fd, FunD K "_law_take" "_law_take" (defArgs s_law_take) (defBody s_law_take) (defScope s_law_take) [] [] (He.ga K "_law_take") fd
  g_law_outs : mg "_law_outs" = some (.ref (He.ga K "_law_outs"))
  F_law_outs : ∃ fd, FunD K "_law_outs" "_law_outs" (defArgs s_law_outs) (defBody s_law_outs) (defScope s_law_outs) [] [] (He.ga K "_law_outs") fd
  g_law_backs : mg "_law_backs" = some (.ref (He.ga K "_law_backs"))
  F_law_backs : ∃ fd, FunD K "_law_backs" "_law_backs" (defArgs s_law_backs) (defBody s_law_backs) (defScope s_law_backs) [] [] (He.ga K "_law_backs") fd
  g_law_dealt : mg "_law_dealt" = some (.ref (He.ga K "_law_dealt"))
  F_law_dealt : ∃ fd, FunD K "_law_dealt" "_law_dealt" (defArgs s_law_dealt) (defBody s_law_dealt) (defScope s_law_dealt) [] [] (He.ga K "_law_dealt") fd
  g_law_any_ranks : mg "_law_any_ranks" = some (.ref (He.ga K "_law_any_ranks"))
  F_law_any_ranks : ∃ fd, FunD K "_law_any_ranks" "_law_any_ranks" (defArgs s_law_any_ranks) (defBody s_law_any_ranks) (defScope s_law_any_ranks) [] [] (He.ga K "_law_any_ranks") fd
  g_law_number : mg "_law_number" = some (.ref (He.ga K "_law_number"))
  F_law_number : ∃ fd, FunD K "_law_number" "_law_number" (defArgs s_law_number) (defBody s_law_number) (defScope s_law_number) [] [] (He.ga K "_law_number") fd
  g_law_numbers : mg "_law_numbers" = some (.ref (He.ga K "_law_numbers"))
  F_law_numbers : ∃ fd, FunD K "_law_numbers" "_law_numbers" (defArgs s_law_numbers) (defBody s_law_numbers) (defScope s_law_numbers) [] [] (He.ga K "_law_numbers") fd
  g_law_is_dealing : mg "_law_is_dealing" = some (.ref (He.ga K "_law_is_dealing"))
  F_law_is_dealing : ∃ fd, FunD K "_law_is_dealing" "_law_is_dealing" (defArgs s_law_is_dealing) (defBody s_law_is_dealing) (defScope s_law_is_dealing) [] [] (He.ga K "_law_is_dealing") fd
  g_law_moved : mg "_law_moved" = some (.ref (He.ga K "_law_moved"))
  F_law_moved : ∃ fd, FunD K "_law_moved" "_law_moved" (defArgs s_law_moved) (defBody s_law_moved) (defScope s_law_moved) [] [] (He.ga K "_law_moved") fd
  g_law_bent : mg "_law_bent" = some (.ref (He.ga K "_law_bent"))
  F_law_bent : ∃ fd, FunD K "_law_bent" "_law_bent" (defArgs s_law_bent) (defBody s_law_bent) (defScope s_law_bent) [] [] (He.ga K "_law_bent") fd
  g_is_whole : mg "is_whole" = some (.ref (He.ga K "is_whole"))
  F_is_whole : ∃ fd, FunD K "is_whole" "is_whole" (defArgs s_is_whole) (defBody s_is_whole) (defScope s_is_whole) [] [] (He.ga K "is_whole") fd
  g_is_within : mg "is_within" = some (.ref (He.ga K "is_within"))
  F_is_within : ∃ fd, FunD K "is_within" "is_within" (defArgs s_is_within) (defBody s_is_within) (defScope s_is_within) [] [] (He.ga K "is_within") fd
  g_is_amount : mg "is_amount" = some (.ref (He.ga K "is_amount"))
  F_is_amount : ∃ fd, FunD K "is_amount" "is_amount" (defArgs s_is_amount) (defBody s_is_amount) (defScope s_is_amount) [] [] (He.ga K "is_amount") fd
  g_is_day : mg "is_day" = some (.ref (He.ga K "is_day"))
  F_is_day : ∃ fd, FunD K "is_day" "is_day" (defArgs s_is_day) (defBody s_is_day) (defScope s_is_day) [] [] (He.ga K "is_day") fd
  g_is_out : mg "is_out" = some (.ref (He.ga K "is_out"))
  F_is_out : ∃ fd, FunD K "is_out" "is_out" (defArgs s_is_out) (defBody s_is_out) (defScope s_is_out) [] [] (He.ga K "is_out") fd
  g_check_outs : mg "check_outs" = some (.ref (He.ga K "check_outs"))
  F_check_outs : ∃ fd, FunD K "check_outs" "check_outs" (defArgs s_check_outs) (defBody s_check_outs) (defScope s_check_outs) [] [] (He.ga K "check_outs") fd
  g_is_back : mg "is_back" = some (.ref (He.ga K "is_back"))
  F_is_back : ∃ fd, FunD K "is_back" "is_back" (defArgs s_is_back) (defBody s_is_back) (defScope s_is_back) [] [] (He.ga K "is_back") fd
  g_check_backs : mg "check_backs" = some (.ref (He.ga K "check_backs"))
  F_check_backs : ∃ fd, FunD K "check_backs" "check_backs" (defArgs s_check_backs) (defBody s_check_backs) (defScope s_check_backs) [] [] (He.ga K "check_backs") fd
  g_is_part : mg "is_part" = some (.ref (He.ga K "is_part"))
  F_is_part : ∃ fd, FunD K "is_part" "is_part" (defArgs s_is_part) (defBody s_is_part) (defScope s_is_part) [] [] (He.ga K "is_part") fd
  g_deals_all : mg "deals_all" = some (.ref (He.ga K "deals_all"))
  F_deals_all : ∃ fd, FunD K "deals_all" "deals_all" (defArgs s_deals_all) (defBody s_deals_all) (defScope s_deals_all) [] [] (He.ga K "deals_all") fd
  g_is_dealing : mg "is_dealing" = some (.ref (He.ga K "is_dealing"))
  F_is_dealing : ∃ fd, FunD K "is_dealing" "is_dealing" (defArgs s_is_dealing) (defBody s_is_dealing) (defScope s_is_dealing) [] [] (He.ga K "is_dealing") fd
  g_law_right : mg "_law_right" = some (.ref (He.ga K "_law_right"))
  F_law_right : ∃ fd, FunD K "_law_right" "_law_right" (defArgs s_law_right) (defBody s_law_right) (defScope s_law_right) [] [] (He.ga K "_law_right") fd
  g_law_purse : mg "_law_purse" = some (.ref (He.ga K "_law_purse"))
  F_law_purse : ∃ fd, FunD K "_law_purse" "_law_purse" (defArgs s_law_purse) (defBody s_law_purse) (defScope s_law_purse) [] [] (He.ga K "_law_purse") fd
  g_law_cell : mg "_law_cell" = some (.ref (He.ga K "_law_cell"))
  F_law_cell : ∃ fd, FunD K "_law_cell" "_law_cell" (defArgs s_law_cell) (defBody s_law_cell) (defScope s_law_cell) [] [] (He.ga K "_law_cell") fd
  g_law : mg "law" = some (.ref (He.ga K "law"))
  F_law : ∃ fd, FunD K "law" "law" (defArgs s_law) (defBody s_law) (defScope s_law) [] [] (He.ga K "law") fd
section
variable {P : Program} {w : World} {K : PySem.W.Frag} {mg : Str → Option Value} {base : Heap}
def kw0 {α : Type} (as bs : List α) : List α := match as, bs with
  | [], [b0, b1, b2] => [b2, b1, b0]
  | _, _ => []
theorem mix_kw0 : Mix 0 3 3 @kw0 where
  len := fun as bs h1 h2 => by
    cases as with
    | cons _ _ => simp at h1 h2
    | nil =>
      cases bs with
      | nil => simp at h1 h2
      | cons _ bs => 
        cases bs with
        | nil => simp at h1 h2
        | cons _ bs => 
          cases bs with
          | nil => simp at h1 h2
          | cons _ bs => 
            cases bs with
            | cons _ _ => simp at h1 h2
            | nil => rfl
  rel := fun R as bs as' bs' h1 h2 => by
    cases h1 with
    | cons _ _ => exact .nil
    | nil =>
      cases h2 with
      | nil => exact .nil
      | cons pb0 h2 => 
        cases h2 with
        | nil => exact .nil
        | cons pb1 h2 => 
          cases h2 with
          | nil => exact .nil
          | cons pb2 h2 => 
            cases h2 with
            | cons _ _ => exact .nil
            | nil => exact (.cons pb2 (.cons pb1 (.cons pb0 .nil)))
theorem kb_kw0 {fd : FuncData} (F : FunD K "is_dealing" "is_dealing" (defArgs s_is_dealing) (defBody s_is_dealing) (defScope s_is_dealing) [] [] (He.ga K "is_dealing") fd) : KBinds K fd ["outs", "backs", "thing"] ["thing", "backs", "outs"] (fun a b => kw0 a b) (fun a b => kw0 a b) := by
  obtain ⟨oc, od, dV, kV, doc, pm, an, cdv, ct, osl, rfl, lk, hcd, hD, hK⟩ := F.ex
  rcases hD with ⟨_, rfl⟩ | ⟨e, _⟩
  · refine ⟨fun s us ws KI hl => ?_, fun h1 h2 => mix_kw0.rel _ _ _ _ _ h1 h2⟩
    cases us with
    | cons _ _ => exact absurd (show (0 : Nat) = 3 from hl) (by decide)
    | nil =>
      cases ws with
      | nil => exact absurd (show (0 : Nat) = 3 from hl) (by decide)
      | cons _ ws => 
        cases ws with
        | nil => exact absurd (show (0 : Nat) = 3 from hl) (by decide)
        | cons _ ws => 
          cases ws with
          | nil => exact absurd (show (0 : Nat) = 3 from hl) (by decide)
          | cons _ ws => 
            cases ws with
            | cons _ _ => exact absurd (show (0 : Nat) = 3 from hl) (by decide)
            | nil => exact .of_eq rfl
  · exact absurd rfl e
theorem sc_law_take : FnScope ["_law_purse_here", "_law_many", "_law_old", "_law_taken"] ["_law_purse_here", "_law_many"] (defScope s_law_take) := ⟨by kernel_rfl, by kernel_rfl, by kernel_rfl, by decide +kernel, rfl, by decide +kernel, by decide +kernel⟩
def b_law_take : FS := sSeq (sAsg (e2 kAdd (e2 kIx (eVar 0) (eC (.int 2))) (eC (.int 1))) (gSet (eVar 0) (eC (.int 2)))) (sSeq (sAsg (e2 kIx (eVar 0) (eC (.int 0))) (gPt (.nm 2))) (sSeq (sAsg (e2 kMod (e2 kAdd (e2 kAdd (e2 kMul (eVar 2) (e2 kAdd (e2 kMod (eVar 2) (eC (.int 45013))) (eC (.int 19013)))) (e2 kMul (eC (.int 91009)) (e2 kIx (eVar 0) (eC (.int 2))))) (eC (.int 11))) (eC (.int 2147483423))) (gSet (eVar 0) (eC (.int 0)))) (sSeq (sIf (tV (e2 kGt (e2 kIx (eVar 0) (eC (.int 1))) (eC (.int 0)))) (sSeq (sAsg (e2 kMod (e2 kIx (eVar 0) (eC (.int 1))) (eVar 1)) (gPt (.nm 3))) (sSeq (sAsg (e2 kDiv (e2 kIx (eVar 0) (eC (.int 1))) (eVar 1)) (gSet (eVar 0) (eC (.int 1)))) (sRet (eVar 3)))) (sNil)) (sRet (e2 kMod (e2 kDiv (e2 kIx (eVar 0) (eC (.int 0))) (eC (.int 32))) (eVar 1))))))
def m_law_take : FF := run0 true b_law_take 4
theorem ok_law_take (T : Txt K mg) {fd : FuncData} (F : FunD K "_law_take" "_law_take" (defArgs s_law_take) (defBody s_law_take) (defScope s_law_take) [] [] (He.ga K "_law_take") fd) : FnOk P w K mg base CX0 1 (He.ga K "_law_take") fd ["_law_purse_here", "_law_many"] (SpD K (["_law_purse_here", "_law_many"] : List Str).length m_law_take) := by
  refine fn_D (b := true) F sc_law_take (fun cdv A outer s H E hr => ?_)
  have hu := hr.units
  exact dss_cons (ds_asg (d_add (d_ix (d_var (pe_var (i := 0) rfl (Or.inl (by kernel_rfl)) (by kernel_rfl) (by kernel_rfl))) (d_int) (fun _ _ => rfl)) (d_int)) (dg_set (d_var (pe_var (i := 0) rfl (Or.inl (by kernel_rfl)) (by kernel_rfl) (by kernel_rfl))) (d_int))) (dss_cons (ds_asg (d_ix (d_var (pe_var (i := 0) rfl (Or.inl (by kernel_rfl)) (by kernel_rfl) (by kernel_rfl))) (d_int) (fun _ _ => rfl)) (dg_pt (pt_nm sc_law_take.nd rfl (Or.inl (by kernel_rfl)) (Or.inl rfl))) (by kernel_rfl)) (dss_cons (ds_asg (d_mod (d_add (d_add (d_mul (d_var (pe_var (i := 2) rfl (Or.inl (by kernel_rfl)) (by kernel_rfl) (by kernel_rfl))) (d_add (d_mod (d_var (pe_var (i := 2) rfl (Or.inl (by kernel_rfl)) (by kernel_rfl) (by kernel_rfl))) (d_int)) (d_int))) (d_mul (d_int) (d_ix (d_var (pe_var (i := 0) rfl (Or.inl (by kernel_rfl)) (by kernel_rfl) (by kernel_rfl))) (d_int) (fun _ _ => rfl)))) (d_int)) (d_int)) (dg_set (d_var (pe_var (i := 0) rfl (Or.inl (by kernel_rfl)) (by kernel_rfl) (by kernel_rfl))) (d_int))) (dss_cons (ds_if (t_gt hu (d_ix (d_var (pe_var (i := 0) rfl (Or.inl (by kernel_rfl)) (by kernel_rfl) (by kernel_rfl))) (d_int) (fun _ _ => rfl)) (d_int)) (dss_cons (ds_asg (d_mod (d_ix (d_var (pe_var (i := 0) rfl (Or.inl (by kernel_rfl)) (by kernel_rfl) (by kernel_rfl))) (d_int) (fun _ _ => rfl)) (d_var (pe_var (i := 1) rfl (Or.inl (by kernel_rfl)) (by kernel_rfl) (by kernel_rfl)))) (dg_pt (pt_nm sc_law_take.nd rfl (Or.inl (by kernel_rfl)) (Or.inl rfl))) (by kernel_rfl)) (dss_cons (ds_asg (d_div (d_ix (d_var (pe_var (i := 0) rfl (Or.inl (by kernel_rfl)) (by kernel_rfl) (by kernel_rfl))) (d_int) (fun _ _ => rfl)) (d_var (pe_var (i := 1) rfl (Or.inl (by kernel_rfl)) (by kernel_rfl) (by kernel_rfl)))) (dg_set (d_var (pe_var (i := 0) rfl (Or.inl (by kernel_rfl)) (by kernel_rfl) (by kernel_rfl))) (d_int))) (dss_one (ds_ret (d_var (pe_var (i := 3) rfl (Or.inl (by kernel_rfl)) (by kernel_rfl) (by kernel_rfl))))))) (dss_nil)) (dss_one (ds_ret (d_mod (d_div (d_ix (d_var (pe_var (i := 0) rfl (Or.inl (by kernel_rfl)) (by kernel_rfl) (by kernel_rfl))) (d_int) (fun _ _ => rfl)) (d_int)) (d_var (pe_var (i := 1) rfl (Or.inl (by kernel_rfl)) (by kernel_rfl) (by kernel_rfl)))))))))
theorem sc_law_outs : FnScope ["_law_purse_here", "_law_many", "_law_most", "_law_k", "_law_found", "_law_when", "_law_amount"] ["_law_purse_here", "_law_many", "_law_most"] (defScope s_law_outs) := ⟨by kernel_rfl, by kernel_rfl, by kernel_rfl, by decide +kernel, rfl, by decide +kernel, by decide +kernel⟩
def b_law_outs : FS := sSeq (sPar (aCons (eLstM (aNil)) (aCons (e2 kIx (eLst (aCons (eC (.int 0)) (aCons (eFn m_law_take (aCons (eVar 0) (aCons (eC (.int 50)) (aNil))) []) (aNil)))) (eFn m_law_take (aCons (eVar 0) (aCons (eC (.int 2)) (aNil))) [])) (aNil))) [4, 5]) (sSeq (sFor (iRange1 (eVar 1)) (.nm 3) (sSeq (sAsg (e2 kIx (eLst (aCons (eC (.int 0)) (aCons (eC (.int 8)) (aCons (eC (.int 8)) (aCons (eFn m_law_take (aCons (eVar 0) (aCons (eC (.int 60)) (aNil))) []) (aCons (eFn m_law_take (aCons (eVar 0) (aCons (eC (.int 10000)) (aNil))) []) (aNil))))))) (eFn m_law_take (aCons (eVar 0) (aCons (eC (.int 5)) (aNil))) [])) (gPt (.nm 6))) (sSeq (sExpr (eAppend (eVar 4) (eTup (aCons (eVar 5) (aCons (e2 kAdd (eC (.int 1)) (eFn m_law_take (aCons (eVar 0) (aCons (eVar 2) (aNil))) [])) (aCons (eVar 6) (aNil))))))) (sAsg (e2 kAdd (e2 kAdd (eVar 5) (eC (.int 1))) (eFn m_law_take (aCons (eVar 0) (aCons (e2 kIx (eLst (aCons (eC (.int 1)) (aCons (eC (.int 4)) (aCons (e2 kIx (eLst (aCons (eC (.int 700)) (aCons (eC (.int 9)) (aNil)))) (eCall kInt (aCons (e2 kGt (eVar 1) (eC (.int 12))) (aNil)))) (aNil))))) (eFn m_law_take (aCons (eVar 0) (aCons (eC (.int 3)) (aNil))) [])) (aNil))) [])) (gPt (.nm 5)))))) (sRet (fz (eVar 4))))
def m_law_outs : FF := run0 true b_law_outs 7
theorem ok_law_outs (T : Txt K mg) {fd : FuncData} (F : FunD K "_law_outs" "_law_outs" (defArgs s_law_outs) (defBody s_law_outs) (defScope s_law_outs) [] [] (He.ga K "_law_outs") fd) : FnOk P w K mg base CX0 2 (He.ga K "_law_outs") fd ["_law_purse_here", "_law_many", "_law_most"] (SpD K (["_law_purse_here", "_law_many", "_law_most"] : List Str).length m_law_outs) := by
  obtain ⟨fd_law_take, F_law_take⟩ := T.F_law_take
  have G_law_take := ok_law_take (P := P) (w := w) (base := base) T F_law_take
  refine fn_D (b := true) F sc_law_outs (fun cdv A outer s H E hr => ?_)
  have hu := hr.units
  exact dss_cons (ds_par2 (i := 4) (j := 5) rfl sc_law_outs.nd rfl rfl (by decide) (by kernel_rfl) (by kernel_rfl) (da_cons (d_lstM (da_nil)) (da_cons (d_ix (d_lst (da_cons (d_int) (da_cons (d_fn G_law_take (hr.mono (by decide)) (gl (by kernel_rfl)) T.g_law_take F_law_take.kp (L2.FunD.bindsN F_law_take (ps := ["_law_purse_here", "_law_many"]) (fun _ _ _ _ _ _ us hl => match us, hl with | [_, _], _ => rfl)) .nil (fun _ _ => reps_nil) rfl (al_cons (al_cons (al_nil))) (da_cons (d_var (pe_var (i := 0) rfl (Or.inl (by kernel_rfl)) (by kernel_rfl) (by kernel_rfl))) (da_cons (d_int) (da_nil))) (by kernel_rfl)) (da_nil)))) (d_fn G_law_take (hr.mono (by decide)) (gl (by kernel_rfl)) T.g_law_take F_law_take.kp (L2.FunD.bindsN F_law_take (ps := ["_law_purse_here", "_law_many"]) (fun _ _ _ _ _ _ us hl => match us, hl with | [_, _], _ => rfl)) .nil (fun _ _ => reps_nil) rfl (al_cons (al_cons (al_nil))) (da_cons (d_var (pe_var (i := 0) rfl (Or.inl (by kernel_rfl)) (by kernel_rfl) (by kernel_rfl))) (da_cons (d_int) (da_nil))) (by kernel_rfl)) (fun _ _ => rfl)) (da_nil))) (by kernel_rfl)) (dss_cons (ds_for PassesOwn.never rfl (di_range1 (gl (by kernel_rfl)) T.b_range (d_var (pe_var (i := 1) rfl (Or.inl (by kernel_rfl)) (by kernel_rfl) (by kernel_rfl)))) (pt_nm sc_law_outs.nd rfl (Or.inl (by kernel_rfl)) (Or.inl rfl)) (dss_cons (ds_asg (d_ix (d_lst (da_cons (d_int) (da_cons (d_int) (da_cons (d_int) (da_cons (d_fn G_law_take (hr.mono (by decide)) (gl (by kernel_rfl)) T.g_law_take F_law_take.kp (L2.FunD.bindsN F_law_take (ps := ["_law_purse_here", "_law_many"]) (fun _ _ _ _ _ _ us hl => match us, hl with | [_, _], _ => rfl)) .nil (fun _ _ => reps_nil) rfl (al_cons (al_cons (al_nil))) (da_cons (d_var (pe_var (i := 0) rfl (Or.inl (by kernel_rfl)) (by kernel_rfl) (by kernel_rfl))) (da_cons (d_int) (da_nil))) (by kernel_rfl)) (da_cons (d_fn G_law_take (hr.mono (by decide)) (gl (by kernel_rfl)) T.g_law_take F_law_take.kp (L2.FunD.bindsN F_law_take (ps := ["_law_purse_here", "_law_many"]) (fun _ _ _ _ _ _ us hl => match us, hl with | [_, _], _ => rfl)) .nil (fun _ _ => reps_nil) rfl (al_cons (al_cons (al_nil))) (da_cons (d_var (pe_var (i := 0) rfl (Or.inl (by kernel_rfl)) (by kernel_rfl) (by kernel_rfl))) (da_cons (d_int) (da_nil))) (by kernel_rfl)) (da_nil))))))) (d_fn G_law_take (hr.mono (by decide)) (gl (by kernel_rfl)) T.g_law_take F_law_take.kp (L2.FunD.bindsN F_law_take (ps := ["_law_purse_here", "_law_many"]) (fun _ _ _ _ _ _ us hl => match us, hl with | [_, _], _ => rfl)) .nil (fun _ _ => reps_nil) rfl (al_cons (al_cons (al_nil))) (da_cons (d_var (pe_var (i := 0) rfl (Or.inl (by kernel_rfl)) (by kernel_rfl) (by kernel_rfl))) (da_cons (d_int) (da_nil))) (by kernel_rfl)) (fun _ _ => rfl)) (dg_pt (pt_nm sc_law_outs.nd rfl (Or.inl (by kernel_rfl)) (Or.inl rfl))) (by kernel_rfl)) (dss_cons (ds_expr (d_append (d_var (pe_var (i := 4) rfl (Or.inl (by kernel_rfl)) (by kernel_rfl) (by kernel_rfl))) (d_tup (da_cons (d_var (pe_var (i := 5) rfl (Or.inl (by kernel_rfl)) (by kernel_rfl) (by kernel_rfl))) (da_cons (d_add (d_int) (d_fn G_law_take (hr.mono (by decide)) (gl (by kernel_rfl)) T.g_law_take F_law_take.kp (L2.FunD.bindsN F_law_take (ps := ["_law_purse_here", "_law_many"]) (fun _ _ _ _ _ _ us hl => match us, hl with | [_, _], _ => rfl)) .nil (fun _ _ => reps_nil) rfl (al_cons (al_cons (al_nil))) (da_cons (d_var (pe_var (i := 0) rfl (Or.inl (by kernel_rfl)) (by kernel_rfl) (by kernel_rfl))) (da_cons (d_var (pe_var (i := 2) rfl (Or.inl (by kernel_rfl)) (by kernel_rfl) (by kernel_rfl))) (da_nil))) (by kernel_rfl))) (da_cons (d_var (pe_var (i := 6) rfl (Or.inl (by kernel_rfl)) (by kernel_rfl) (by kernel_rfl))) (da_nil))))))) (dss_one (ds_asg (d_add (d_add (d_var (pe_var (i := 5) rfl (Or.inl (by kernel_rfl)) (by kernel_rfl) (by kernel_rfl))) (d_int)) (d_fn G_law_take (hr.mono (by decide)) (gl (by kernel_rfl)) T.g_law_take F_law_take.kp (L2.FunD.bindsN F_law_take (ps := ["_law_purse_here", "_law_many"]) (fun _ _ _ _ _ _ us hl => match us, hl with | [_, _], _ => rfl)) .nil (fun _ _ => reps_nil) rfl (al_cons (al_cons (al_nil))) (da_cons (d_var (pe_var (i := 0) rfl (Or.inl (by kernel_rfl)) (by kernel_rfl) (by kernel_rfl))) (da_cons (d_ix (d_lst (da_cons (d_int) (da_cons (d_int) (da_cons (d_ix (d_lst (da_cons (d_int) (da_cons (d_int) (da_nil)))) (d_callT call_int1 fit_int (gl (by kernel_rfl)) T.b_int (by kernel_rfl) (da_cons (d_gt hu (d_var (pe_var (i := 1) rfl (Or.inl (by kernel_rfl)) (by kernel_rfl) (by kernel_rfl))) (d_int)) (da_nil)) (by decide) (by kernel_rfl)) (fun _ _ => rfl)) (da_nil))))) (d_fn G_law_take (hr.mono (by decide)) (gl (by kernel_rfl)) T.g_law_take F_law_take.kp (L2.FunD.bindsN F_law_take (ps := ["_law_purse_here", "_law_many"]) (fun _ _ _ _ _ _ us hl => match us, hl with | [_, _], _ => rfl)) .nil (fun _ _ => reps_nil) rfl (al_cons (al_cons (al_nil))) (da_cons (d_var (pe_var (i := 0) rfl (Or.inl (by kernel_rfl)) (by kernel_rfl) (by kernel_rfl))) (da_cons (d_int) (da_nil))) (by kernel_rfl)) (fun _ _ => rfl)) (da_nil))) (by kernel_rfl))) (dg_pt (pt_nm sc_law_outs.nd rfl (Or.inl (by kernel_rfl)) (Or.inl rfl))) (by kernel_rfl)))))) (dss_one (ds_ret (d_fz (d_var (pe_var (i := 4) rfl (Or.inl (by kernel_rfl)) (by kernel_rfl) (by kernel_rfl)))))))
theorem sc_law_backs : FnScope ["_law_purse_here", "_law_sent", "_law_many", "_law_k", "_law_found", "_law_gone", "_law_least", "_law_days", "_law_when", "_law_free", "_law_much", "_law_row"] ["_law_purse_here", "_law_sent", "_law_many"] (defScope s_law_backs) := ⟨by kernel_rfl, by kernel_rfl, by kernel_rfl, by decide +kernel, rfl, by decide +kernel, by decide +kernel⟩
def b_law_backs : FS := sSeq (sAsg (eTup (aCons (eLstM (aNil)) (aCons (eC (.int 0)) (aCons (eC (.int 0)) (aNil))))) (gPt (.tp [.nm 4, .nm 5, .nm 6]))) (sSeq (sFor (iRange1 (eVar 2)) (.nm 3) (sSeq (sAsg (eCompG true (iSeq (eVar 1)) (.nm 11) (tV (e2 kGe (e2 kIx (eVar 11) (eC (.int 0))) (eVar 6))) (e2 kIx (eVar 11) (eC (.int 0))) [11]) (gPt (.nm 7))) (sSeq (sAsg (e2 kAdd (e2 kIx (e2 kAdd (eVar 7) (eLst (aCons (eVar 6) (aNil)))) (eFn m_law_take (aCons (eVar 0) (aCons (e2 kAdd (eCall kLen (aCons (eVar 7) (aNil))) (eC (.int 1))) (aNil))) [])) (e2 kIx (eLst (aCons (eC (.int 0)) (aCons (eC (.int 0)) (aCons (eC (.int 1)) (aCons (eC (.int 30)) (aNil)))))) (eFn m_law_take (aCons (eVar 0) (aCons (eC (.int 4)) (aNil))) []))) (gPt (.nm 8))) (sSeq (sAsg (e2 kSub (eCall kSum (aCons (eComp (iSeq (eVar 1)) (.nm 11) (tV (e2 kLe (e2 kIx (eVar 11) (eC (.int 0))) (eVar 8))) (e2 kIx (eVar 11) (eC (.int 1))) [11]) (aNil))) (eVar 5)) (gPt (.nm 9))) (sIf (tV (e2 kGt (eVar 9) (eC (.int 0)))) (sSeq (sAsg (eCall kMin2 (aCons (eC (.int 99999)) (aCons (e2 kIx (eLst (aCons (eC (.int 1)) (aCons (eVar 9) (aCons (e2 kAdd (eC (.int 1)) (eFn m_law_take (aCons (eVar 0) (aCons (eVar 9) (aNil))) [])) (aNil))))) (eFn m_law_take (aCons (eVar 0) (aCons (eC (.int 3)) (aNil))) [])) (aNil)))) (gPt (.nm 10))) (sSeq (sExpr (eAppend (eVar 4) (eTup (aCons (eVar 8) (aCons (eVar 10) (aNil)))))) (sAsg (eTup (aCons (e2 kAdd (eVar 5) (eVar 10)) (aCons (eVar 8) (aNil)))) (gPt (.tp [.nm 5, .nm 6]))))) (sNil)))))) (sRet (fz (eVar 4))))
def m_law_backs : FF := run0 true b_law_backs 12
theorem ok_law_backs (T : Txt K mg) {fd : FuncData} (F : FunD K "_law_backs" "_law_backs" (defArgs s_law_backs) (defBody s_law_backs) (defScope s_law_backs) [] [] (He.ga K "_law_backs") fd) : FnOk P w K mg base CX0 2 (He.ga K "_law_backs") fd ["_law_purse_here", "_law_sent", "_law_many"] (SpD K (["_law_purse_here", "_law_sent", "_law_many"] : List Str).length m_law_backs) := by
  obtain ⟨fd_law_take, F_law_take⟩ := T.F_law_take
  have G_law_take := ok_law_take (P := P) (w := w) (base := base) T F_law_take
  refine fn_D (b := true) F sc_law_backs (fun cdv A outer s H E hr => ?_)
  have hu := hr.units
  exact dss_cons (ds_asg (d_tup (da_cons (d_lstM (da_nil)) (da_cons (d_int) (da_cons (d_int) (da_nil))))) (dg_pt (pg_tup rfl (pts_cons (pt_nm sc_law_backs.nd rfl (Or.inl (by kernel_rfl)) (Or.inl rfl)) (pts_cons (pt_nm sc_law_backs.nd rfl (Or.inl (by kernel_rfl)) (Or.inl rfl)) (pts_cons (pt_nm sc_law_backs.nd rfl (Or.inr (by kernel_rfl)) (Or.inl rfl)) (pts_nil)))))) rfl (by kernel_rfl)) (dss_cons (ds_for PassesOwn.never rfl (di_range1 (gl (by kernel_rfl)) T.b_range (d_var (pe_var (i := 2) rfl (Or.inl (by kernel_rfl)) (by kernel_rfl) (by kernel_rfl)))) (pt_nm sc_law_backs.nd rfl (Or.inl (by kernel_rfl)) (Or.inl rfl)) (dss_cons (ds_setC true (i := 7) (own := [("_law_row", 11)]) rfl sc_law_backs.nd rfl (by kernel_rfl) (by kernel_rfl) (by kernel_rfl) (by kernel_rfl) (di_seq (d_var (pe_var (i := 1) rfl (Or.inl (by kernel_rfl)) (by kernel_rfl) (by kernel_rfl)))) (blkOk_by (by kernel_rfl)) (by simp [slotsP, slotsPs]) (fun _ _ _ _ _ => pt_nm sc_law_backs.nd rfl (Or.inl (by kernel_rfl)) (Or.inr (by kernel_rfl))) (fun _ _ _ _ _ => pts_one' (t_ge hu (d_ix (d_var (pe_var (i := 11) rfl (Or.inl (by kernel_rfl)) (by kernel_rfl) (by kernel_rfl))) (d_int) (fun _ _ => rfl)) (d_var (pe_var (i := 6) rfl (Or.inr (Or.inl (by kernel_rfl))) (by kernel_rfl) (by kernel_rfl))))) (fun _ _ _ _ _ => d_ix (d_var (pe_var (i := 11) rfl (Or.inl (by kernel_rfl)) (by kernel_rfl) (by kernel_rfl))) (d_int) (fun _ _ => rfl))) (dss_cons (ds_asg (d_add (d_ix (d_add (d_var (pe_var (i := 7) rfl (Or.inl (by kernel_rfl)) (by kernel_rfl) (by kernel_rfl))) (d_lst (da_cons (d_var (pe_var (i := 6) rfl (Or.inr (Or.inl (by kernel_rfl))) (by kernel_rfl) (by kernel_rfl))) (da_nil)))) (d_fn G_law_take (hr.mono (by decide)) (gl (by kernel_rfl)) T.g_law_take F_law_take.kp (L2.FunD.bindsN F_law_take (ps := ["_law_purse_here", "_law_many"]) (fun _ _ _ _ _ _ us hl => match us, hl with | [_, _], _ => rfl)) .nil (fun _ _ => reps_nil) rfl (al_cons (al_cons (al_nil))) (da_cons (d_var (pe_var (i := 0) rfl (Or.inl (by kernel_rfl)) (by kernel_rfl) (by kernel_rfl))) (da_cons (d_add (d_callB call_len fit_len (gl (by kernel_rfl)) T.b_len (by kernel_rfl) (da_cons (d_var (pe_var (i := 7) rfl (Or.inl (by kernel_rfl)) (by kernel_rfl) (by kernel_rfl))) (da_nil)) (by decide) (by kernel_rfl)) (d_int)) (da_nil))) (by kernel_rfl)) (fun _ _ => rfl)) (d_ix (d_lst (da_cons (d_int) (da_cons (d_int) (da_cons (d_int) (da_cons (d_int) (da_nil)))))) (d_fn G_law_take (hr.mono (by decide)) (gl (by kernel_rfl)) T.g_law_take F_law_take.kp (L2.FunD.bindsN F_law_take (ps := ["_law_purse_here", "_law_many"]) (fun _ _ _ _ _ _ us hl => match us, hl with | [_, _], _ => rfl)) .nil (fun _ _ => reps_nil) rfl (al_cons (al_cons (al_nil))) (da_cons (d_var (pe_var (i := 0) rfl (Or.inl (by kernel_rfl)) (by kernel_rfl) (by kernel_rfl))) (da_cons (d_int) (da_nil))) (by kernel_rfl)) (fun _ _ => rfl))) (dg_pt (pt_nm sc_law_backs.nd rfl (Or.inr (by kernel_rfl)) (Or.inl rfl))) (by kernel_rfl)) (dss_cons (ds_asg (d_sub (d_callB (cr_sum rfl) fit_sum (gl (by kernel_rfl)) T.b_sum (by kernel_rfl) (da_cons (d_comp (own := [("_law_row", 11)]) rfl sc_law_backs.nd (di_seq (d_var (pe_var (i := 1) rfl (Or.inl (by kernel_rfl)) (by kernel_rfl) (by kernel_rfl)))) (blkOk_by (by kernel_rfl)) (by simp [slotsP, slotsPs]) (fun _ _ _ _ _ => pt_nm sc_law_backs.nd rfl (Or.inl (by kernel_rfl)) (Or.inr (by kernel_rfl))) (fun _ _ _ _ _ => pts_one' (t_le hu (d_ix (d_var (pe_var (i := 11) rfl (Or.inl (by kernel_rfl)) (by kernel_rfl) (by kernel_rfl))) (d_int) (fun _ _ => rfl)) (d_var (pe_var (i := 8) rfl (Or.inr (Or.inl (by kernel_rfl))) (by kernel_rfl) (by kernel_rfl))))) (fun _ _ _ _ _ => d_ix (d_var (pe_var (i := 11) rfl (Or.inl (by kernel_rfl)) (by kernel_rfl) (by kernel_rfl))) (d_int) (fun _ _ => rfl))) (da_nil)) (by decide) (by kernel_rfl)) (d_var (pe_var (i := 5) rfl (Or.inl (by kernel_rfl)) (by kernel_rfl) (by kernel_rfl)))) (dg_pt (pt_nm sc_law_backs.nd rfl (Or.inl (by kernel_rfl)) (Or.inl rfl))) (by kernel_rfl)) (dss_one (ds_if (t_gt hu (d_var (pe_var (i := 9) rfl (Or.inl (by kernel_rfl)) (by kernel_rfl) (by kernel_rfl))) (d_int)) (dss_cons (ds_asg (d_callB (call_min2 rfl) fit_min2 (gl (by kernel_rfl)) T.b_min (by kernel_rfl) (da_cons (d_int) (da_cons (d_ix (d_lst (da_cons (d_int) (da_cons (d_var (pe_var (i := 9) rfl (Or.inl (by kernel_rfl)) (by kernel_rfl) (by kernel_rfl))) (da_cons (d_add (d_int) (d_fn G_law_take (hr.mono (by decide)) (gl (by kernel_rfl)) T.g_law_take F_law_take.kp (L2.FunD.bindsN F_law_take (ps := ["_law_purse_here", "_law_many"]) (fun _ _ _ _ _ _ us hl => match us, hl with | [_, _], _ => rfl)) .nil (fun _ _ => reps_nil) rfl (al_cons (al_cons (al_nil))) (da_cons (d_var (pe_var (i := 0) rfl (Or.inl (by kernel_rfl)) (by kernel_rfl) (by kernel_rfl))) (da_cons (d_var (pe_var (i := 9) rfl (Or.inl (by kernel_rfl)) (by kernel_rfl) (by kernel_rfl))) (da_nil))) (by kernel_rfl))) (da_nil))))) (d_fn G_law_take (hr.mono (by decide)) (gl (by kernel_rfl)) T.g_law_take F_law_take.kp (L2.FunD.bindsN F_law_take (ps := ["_law_purse_here", "_law_many"]) (fun _ _ _ _ _ _ us hl => match us, hl with | [_, _], _ => rfl)) .nil (fun _ _ => reps_nil) rfl (al_cons (al_cons (al_nil))) (da_cons (d_var (pe_var (i := 0) rfl (Or.inl (by kernel_rfl)) (by kernel_rfl) (by kernel_rfl))) (da_cons (d_int) (da_nil))) (by kernel_rfl)) (fun _ _ => rfl)) (da_nil))) (by decide) (by kernel_rfl)) (dg_pt (pt_nm sc_law_backs.nd rfl (Or.inl (by kernel_rfl)) (Or.inl rfl))) (by kernel_rfl)) (dss_cons (ds_expr (d_append (d_var (pe_var (i := 4) rfl (Or.inl (by kernel_rfl)) (by kernel_rfl) (by kernel_rfl))) (d_tup (da_cons (d_var (pe_var (i := 8) rfl (Or.inr (Or.inl (by kernel_rfl))) (by kernel_rfl) (by kernel_rfl))) (da_cons (d_var (pe_var (i := 10) rfl (Or.inl (by kernel_rfl)) (by kernel_rfl) (by kernel_rfl))) (da_nil)))))) (dss_one (ds_asg (d_tup (da_cons (d_add (d_var (pe_var (i := 5) rfl (Or.inl (by kernel_rfl)) (by kernel_rfl) (by kernel_rfl))) (d_var (pe_var (i := 10) rfl (Or.inl (by kernel_rfl)) (by kernel_rfl) (by kernel_rfl)))) (da_cons (d_var (pe_var (i := 8) rfl (Or.inr (Or.inl (by kernel_rfl))) (by kernel_rfl) (by kernel_rfl))) (da_nil)))) (dg_pt (pg_tup rfl (pts_cons (pt_nm sc_law_backs.nd rfl (Or.inl (by kernel_rfl)) (Or.inl rfl)) (pts_cons (pt_nm sc_law_backs.nd rfl (Or.inr (by kernel_rfl)) (Or.inl rfl)) (pts_nil))))) rfl (by kernel_rfl))))) (dss_nil))))))) (dss_one (ds_ret (d_fz (d_var (pe_var (i := 4) rfl (Or.inl (by kernel_rfl)) (by kernel_rfl) (by kernel_rfl)))))))
theorem sc_law_dealt : FnScope ["_law_sent", "_law_came", "_law_ranks", "_law_free", "_law_found", "_law_b", "_law_row", "_law_wanted", "_law_rank", "_law_k", "_law_much"] ["_law_sent", "_law_came", "_law_ranks"] (defScope s_law_dealt) := ⟨by kernel_rfl, by kernel_rfl, by kernel_rfl, by decide +kernel, rfl, by decide +kernel, by decide +kernel⟩
def b_law_dealt : FS := sSeq (sPar (aCons (eCompM (iSeq (eVar 0)) (.nm 6) (tYesD) (e2 kIx (eVar 6) (eC (.int 1))) [6]) (aCons (eLstM (aNil)) (aNil))) [3, 4]) (sSeq (sFor (iEnum (eVar 1)) (.tp [.nm 5, .nm 6]) (sSeq (sAsg (e2 kIx (eVar 6) (eC (.int 1))) (gPt (.nm 7))) (sFor (iSeq (eCall kSorted (aCons (eComp (iRange1 (eCall kLen (aCons (eVar 0) (aNil)))) (.nm 9) (tV (e2 kLe (e2 kIx (e2 kIx (eVar 0) (eVar 9)) (eC (.int 0))) (e2 kIx (eVar 6) (eC (.int 0))))) (eTup (aCons (e2 kIx (eVar 2) (eVar 9)) (aCons (eVar 9) (aNil)))) [9]) (aNil)))) (.tp [.nm 8, .nm 9]) (sSeq (sAsg (eCall kMin2 (aCons (eVar 7) (aCons (e2 kIx (eVar 3) (eVar 9)) (aNil)))) (gPt (.nm 10))) (sIf (tV (e2 kGt (eVar 10) (eC (.int 0)))) (sSeq (sExpr (eAppend (eVar 4) (eTup (aCons (eVar 5) (aCons (eVar 9) (aCons (eVar 10) (aNil))))))) (sAsg (eTup (aCons (e2 kSub (e2 kIx (eVar 3) (eVar 9)) (eVar 10)) (aCons (e2 kSub (eVar 7) (eVar 10)) (aNil)))) (gMany [gSet (eVar 3) (eVar 9), gPt (.nm 7)]))) (sNil)))))) (sRet (eCall kTuple (aCons (eCall kSorted (aCons (eVar 4) (aNil))) (aNil)))))
def m_law_dealt : FF := run0 true b_law_dealt 11
theorem ok_law_dealt (T : Txt K mg) {fd : FuncData} (F : FunD K "_law_dealt" "_law_dealt" (defArgs s_law_dealt) (defBody s_law_dealt) (defScope s_law_dealt) [] [] (He.ga K "_law_dealt") fd) : FnOk P w K mg base CX0 1 (He.ga K "_law_dealt") fd ["_law_sent", "_law_came", "_law_ranks"] (SpD K (["_law_sent", "_law_came", "_law_ranks"] : List Str).length m_law_dealt) := by
  refine fn_D (b := true) F sc_law_dealt (fun cdv A outer s H E hr => ?_)
  have hu := hr.units
  exact dss_cons (ds_par2 (i := 3) (j := 4) rfl sc_law_dealt.nd rfl rfl (by decide) (by kernel_rfl) (by kernel_rfl) (da_cons (d_compM (own := [("_law_row", 6)]) rfl sc_law_dealt.nd (di_seq (d_var (pe_var (i := 0) rfl (Or.inr (Or.inl (by kernel_rfl))) (by kernel_rfl) (by kernel_rfl)))) (blkOk_by (by kernel_rfl)) (by simp [slotsP, slotsPs]) (fun _ _ _ _ _ => pt_nm sc_law_dealt.nd rfl (Or.inl (by kernel_rfl)) (Or.inr (by kernel_rfl))) (fun _ _ _ _ _ => dts_nil) (fun _ _ _ _ _ => d_ix (d_var (pe_var (i := 6) rfl (Or.inl (by kernel_rfl)) (by kernel_rfl) (by kernel_rfl))) (d_int) (fun _ _ => rfl))) (da_cons (d_lstM (da_nil)) (da_nil))) (by kernel_rfl)) (dss_cons (ds_for PassesOwn.never rfl (di_enum (gl (by kernel_rfl)) T.b_enumerate (d_var (pe_var (i := 1) rfl (Or.inl (by kernel_rfl)) (by kernel_rfl) (by kernel_rfl)))) (pg_tup rfl (pts_cons (pt_nm sc_law_dealt.nd rfl (Or.inl (by kernel_rfl)) (Or.inl rfl)) (pts_cons (pt_nm sc_law_dealt.nd rfl (Or.inr (by kernel_rfl)) (Or.inl rfl)) (pts_nil)))) (dss_cons (ds_asg (d_ix (d_var (pe_var (i := 6) rfl (Or.inr (Or.inl (by kernel_rfl))) (by kernel_rfl) (by kernel_rfl))) (d_int) (fun _ _ => rfl)) (dg_pt (pt_nm sc_law_dealt.nd rfl (Or.inl (by kernel_rfl)) (Or.inl rfl))) (by kernel_rfl)) (dss_one (ds_for PassesOwn.never rfl (di_seq (d_callB (cr_sortD hu) fit_sorted (gl (by kernel_rfl)) T.b_sorted (by kernel_rfl) (da_cons (d_comp (own := [("_law_k", 9)]) rfl sc_law_dealt.nd (di_range1 (gl (by kernel_rfl)) T.b_range (d_callB call_len fit_len (gl (by kernel_rfl)) T.b_len (by kernel_rfl) (da_cons (d_var (pe_var (i := 0) rfl (Or.inr (Or.inl (by kernel_rfl))) (by kernel_rfl) (by kernel_rfl))) (da_nil)) (by decide) (by kernel_rfl))) (blkOk_by (by kernel_rfl)) (by simp [slotsP, slotsPs]) (fun _ _ _ _ _ => pt_nm sc_law_dealt.nd rfl (Or.inl (by kernel_rfl)) (Or.inr (by kernel_rfl))) (fun _ _ _ _ _ => pts_one' (t_le hu (d_ix (d_ix (d_var (pe_var (i := 0) rfl (Or.inr (Or.inl (by kernel_rfl))) (by kernel_rfl) (by kernel_rfl))) (d_var (pe_var (i := 9) rfl (Or.inl (by kernel_rfl)) (by kernel_rfl) (by kernel_rfl))) (fun _ _ => rfl)) (d_int) (fun _ _ => rfl)) (d_ix (d_var (pe_var (i := 6) rfl (Or.inr (Or.inl (by kernel_rfl))) (by kernel_rfl) (by kernel_rfl))) (d_int) (fun _ _ => rfl)))) (fun _ _ _ _ _ => d_tup (da_cons (d_ix (d_var (pe_var (i := 2) rfl (Or.inr (Or.inl (by kernel_rfl))) (by kernel_rfl) (by kernel_rfl))) (d_var (pe_var (i := 9) rfl (Or.inl (by kernel_rfl)) (by kernel_rfl) (by kernel_rfl))) (fun _ _ => rfl)) (da_cons (d_var (pe_var (i := 9) rfl (Or.inl (by kernel_rfl)) (by kernel_rfl) (by kernel_rfl))) (da_nil))))) (da_nil)) (by decide) (by kernel_rfl))) (pg_tup rfl (pts_cons (pt_nm sc_law_dealt.nd rfl (Or.inl (by kernel_rfl)) (Or.inl rfl)) (pts_cons (pt_nm sc_law_dealt.nd rfl (Or.inl (by kernel_rfl)) (Or.inl rfl)) (pts_nil)))) (dss_cons (ds_asg (d_callB (call_min2 rfl) fit_min2 (gl (by kernel_rfl)) T.b_min (by kernel_rfl) (da_cons (d_var (pe_var (i := 7) rfl (Or.inl (by kernel_rfl)) (by kernel_rfl) (by kernel_rfl))) (da_cons (d_ix (d_var (pe_var (i := 3) rfl (Or.inl (by kernel_rfl)) (by kernel_rfl) (by kernel_rfl))) (d_var (pe_var (i := 9) rfl (Or.inl (by kernel_rfl)) (by kernel_rfl) (by kernel_rfl))) (fun _ _ => rfl)) (da_nil))) (by decide) (by kernel_rfl)) (dg_pt (pt_nm sc_law_dealt.nd rfl (Or.inl (by kernel_rfl)) (Or.inl rfl))) (by kernel_rfl)) (dss_one (ds_if (t_gt hu (d_var (pe_var (i := 10) rfl (Or.inl (by kernel_rfl)) (by kernel_rfl) (by kernel_rfl))) (d_int)) (dss_cons (ds_expr (d_append (d_var (pe_var (i := 4) rfl (Or.inl (by kernel_rfl)) (by kernel_rfl) (by kernel_rfl))) (d_tup (da_cons (d_var (pe_var (i := 5) rfl (Or.inl (by kernel_rfl)) (by kernel_rfl) (by kernel_rfl))) (da_cons (d_var (pe_var (i := 9) rfl (Or.inl (by kernel_rfl)) (by kernel_rfl) (by kernel_rfl))) (da_cons (d_var (pe_var (i := 10) rfl (Or.inl (by kernel_rfl)) (by kernel_rfl) (by kernel_rfl))) (da_nil))))))) (dss_one (ds_asg (d_tup (da_cons (d_sub (d_ix (d_var (pe_var (i := 3) rfl (Or.inl (by kernel_rfl)) (by kernel_rfl) (by kernel_rfl))) (d_var (pe_var (i := 9) rfl (Or.inl (by kernel_rfl)) (by kernel_rfl) (by kernel_rfl))) (fun _ _ => rfl)) (d_var (pe_var (i := 10) rfl (Or.inl (by kernel_rfl)) (by kernel_rfl) (by kernel_rfl)))) (da_cons (d_sub (d_var (pe_var (i := 7) rfl (Or.inl (by kernel_rfl)) (by kernel_rfl) (by kernel_rfl))) (d_var (pe_var (i := 10) rfl (Or.inl (by kernel_rfl)) (by kernel_rfl) (by kernel_rfl)))) (da_nil)))) (dg_tp rfl (dgs_cons (dg_set (d_var (pe_var (i := 3) rfl (Or.inl (by kernel_rfl)) (by kernel_rfl) (by kernel_rfl))) (d_var (pe_var (i := 9) rfl (Or.inl (by kernel_rfl)) (by kernel_rfl) (by kernel_rfl)))) (dgs_cons (dg_pt (pt_nm sc_law_dealt.nd rfl (Or.inl (by kernel_rfl)) (Or.inl rfl))) (dgs_nil))) rfl) rfl (by kernel_rfl)))) (dss_nil)))))))) (dss_one (ds_ret (d_callT call_tuple_of fit_tuple (gl (by kernel_rfl)) T.b_tuple (by kernel_rfl) (da_cons (d_callB (cr_sortD hu) fit_sorted (gl (by kernel_rfl)) T.b_sorted (by kernel_rfl) (da_cons (d_var (pe_var (i := 4) rfl (Or.inl (by kernel_rfl)) (by kernel_rfl) (by kernel_rfl))) (da_nil)) (by decide) (by kernel_rfl)) (da_nil)) (by decide) (by kernel_rfl)))))
theorem sc_law_any_ranks : FnScope ["_law_purse_here", "_law_sent", "_law_row"] ["_law_purse_here", "_law_sent"] (defScope s_law_any_ranks) := ⟨by kernel_rfl, by kernel_rfl, by kernel_rfl, by decide +kernel, rfl, by decide +kernel, by decide +kernel⟩
def b_law_any_ranks : FS := sRet (eComp (iSeq (eVar 1)) (.nm 2) (tYesD) (eFn m_law_take (aCons (eVar 0) (aCons (eC (.int 4)) (aNil))) []) [2])
def m_law_any_ranks : FF := run0 true b_law_any_ranks 3
theorem ok_law_any_ranks (T : Txt K mg) {fd : FuncData} (F : FunD K "_law_any_ranks" "_law_any_ranks" (defArgs s_law_any_ranks) (defBody s_law_any_ranks) (defScope s_law_any_ranks) [] [] (He.ga K "_law_any_ranks") fd) : FnOk P w K mg base CX0 2 (He.ga K "_law_any_ranks") fd ["_law_purse_here", "_law_sent"] (SpD K (["_law_purse_here", "_law_sent"] : List Str).length m_law_any_ranks) := by
  obtain ⟨fd_law_take, F_law_take⟩ := T.F_law_take
  have G_law_take := ok_law_take (P := P) (w := w) (base := base) T F_law_take
  refine fn_D (b := true) F sc_law_any_ranks (fun cdv A outer s H E hr => ?_)
  have hu := hr.units
  exact dss_one (ds_ret (d_comp (own := [("_law_row", 2)]) rfl sc_law_any_ranks.nd (di_seq (d_var (pe_var (i := 1) rfl (Or.inl (by kernel_rfl)) (by kernel_rfl) (by kernel_rfl)))) (blkOk_by (by kernel_rfl)) (by simp [slotsP, slotsPs]) (fun _ _ _ _ _ => pt_nm sc_law_any_ranks.nd rfl (Or.inl (by kernel_rfl)) (Or.inr (by kernel_rfl))) (fun _ _ _ _ _ => dts_nil) (fun _ _ _ _ _ => d_fn G_law_take (hr.mono (by decide)) (gl (by kernel_rfl)) T.g_law_take F_law_take.kp (L2.FunD.bindsN F_law_take (ps := ["_law_purse_here", "_law_many"]) (fun _ _ _ _ _ _ us hl => match us, hl with | [_, _], _ => rfl)) .nil (fun _ _ => reps_nil) rfl (al_cons (al_cons (al_nil))) (da_cons (d_var (pe_var (i := 0) rfl (Or.inr (Or.inl (by kernel_rfl))) (by kernel_rfl) (by kernel_rfl))) (da_cons (d_int) (da_nil))) (by kernel_rfl))))
theorem sc_law_number : FnScope ["_law_it"] ["_law_it"] (defScope s_law_number) := ⟨by kernel_rfl, by kernel_rfl, by kernel_rfl, by decide +kernel, rfl, by decide +kernel, by decide +kernel⟩
def b_law_number : FS := sRet (bAnd (eCall kIsi (aCons (eVar 0) (aCons (eC (.ty "int")) (aNil)))) (bNot (eCall kIsi (aCons (eVar 0) (aCons (eC (.ty "bool")) (aNil))))))
def m_law_number : FF := run0 true b_law_number 1
theorem ok_law_number (T : Txt K mg) {fd : FuncData} (F : FunD K "_law_number" "_law_number" (defArgs s_law_number) (defBody s_law_number) (defScope s_law_number) [] [] (He.ga K "_law_number") fd) : FnOk P w K mg base CX0 1 (He.ga K "_law_number") fd ["_law_it"] (SpD K (["_law_it"] : List Str).length m_law_number) := by
  refine fn_D (b := true) F sc_law_number (fun cdv A outer s H E hr => ?_)
  have hu := hr.units
  exact dss_one (ds_ret (d_and (d_callB opr_isi fit_isi (gl (by kernel_rfl)) T.b_isinstance (by kernel_rfl) (da_cons (d_var (pe_var (i := 0) rfl (Or.inl (by kernel_rfl)) (by kernel_rfl) (by kernel_rfl))) (da_cons (d_ty (T := "int") (gl (by kernel_rfl)) T.b_int (by kernel_rfl)) (da_nil))) (by decide) (by kernel_rfl)) (d_one (d_not (d_callB opr_isi fit_isi (gl (by kernel_rfl)) T.b_isinstance (by kernel_rfl) (da_cons (d_var (pe_var (i := 0) rfl (Or.inl (by kernel_rfl)) (by kernel_rfl) (by kernel_rfl))) (da_cons (d_ty (T := "bool") (gl (by kernel_rfl)) T.b_bool (by kernel_rfl)) (da_nil))) (by decide) (by kernel_rfl))))))
theorem sc_law_numbers : FnScope ["_law_it", "_law_many", "_law_one"] ["_law_it", "_law_many"] (defScope s_law_numbers) := ⟨by kernel_rfl, by kernel_rfl, by kernel_rfl, by decide +kernel, rfl, by decide +kernel, by decide +kernel⟩
def b_law_numbers : FS := sRet (bAnd (eCall kIsi (aCons (eVar 0) (aCons (eC (.ty "tuple")) (aNil)))) (bAnd (e2 kEq (eCall kLen (aCons (eVar 0) (aNil))) (eVar 1)) (eCall kAll (aCons (eComp (iSeq (eVar 0)) (.nm 2) (tYesD) (eFn m_law_number (aCons (eVar 2) (aNil)) []) [2]) (aNil)))))
def m_law_numbers : FF := run0 true b_law_numbers 3
theorem ok_law_numbers (T : Txt K mg) {fd : FuncData} (F : FunD K "_law_numbers" "_law_numbers" (defArgs s_law_numbers) (defBody s_law_numbers) (defScope s_law_numbers) [] [] (He.ga K "_law_numbers") fd) : FnOk P w K mg base CX0 2 (He.ga K "_law_numbers") fd ["_law_it", "_law_many"] (SpD K (["_law_it", "_law_many"] : List Str).length m_law_numbers) := by
  obtain ⟨fd_law_number, F_law_number⟩ := T.F_law_number
  have G_law_number := ok_law_number (P := P) (w := w) (base := base) T F_law_number
  refine fn_D (b := true) F sc_law_numbers (fun cdv A outer s H E hr => ?_)
  have hu := hr.units
  exact dss_one (ds_ret (d_and (d_callB opr_isi fit_isi (gl (by kernel_rfl)) T.b_isinstance (by kernel_rfl) (da_cons (d_var (pe_var (i := 0) rfl (Or.inl (by kernel_rfl)) (by kernel_rfl) (by kernel_rfl))) (da_cons (d_ty (T := "tuple") (gl (by kernel_rfl)) T.b_tuple (by kernel_rfl)) (da_nil))) (by decide) (by kernel_rfl)) (d_and (d_eq hu (d_callB call_len fit_len (gl (by kernel_rfl)) T.b_len (by kernel_rfl) (da_cons (d_var (pe_var (i := 0) rfl (Or.inl (by kernel_rfl)) (by kernel_rfl) (by kernel_rfl))) (da_nil)) (by decide) (by kernel_rfl)) (d_var (pe_var (i := 1) rfl (Or.inl (by kernel_rfl)) (by kernel_rfl) (by kernel_rfl)))) (d_one (d_callB (cr_all rfl) fit_all (gl (by kernel_rfl)) T.b_all (by kernel_rfl) (da_cons (d_comp (own := [("_law_one", 2)]) rfl sc_law_numbers.nd (di_seq (d_var (pe_var (i := 0) rfl (Or.inl (by kernel_rfl)) (by kernel_rfl) (by kernel_rfl)))) (blkOk_by (by kernel_rfl)) (by simp [slotsP, slotsPs]) (fun _ _ _ _ _ => pt_nm sc_law_numbers.nd rfl (Or.inl (by kernel_rfl)) (Or.inr (by kernel_rfl))) (fun _ _ _ _ _ => dts_nil) (fun _ _ _ _ _ => d_fn G_law_number (hr.mono (by decide)) (gl (by kernel_rfl)) T.g_law_number F_law_number.kp (L2.FunD.bindsN F_law_number (ps := ["_law_it"]) (fun _ _ _ _ _ _ us hl => match us, hl with | [_], _ => rfl)) .nil (fun _ _ => reps_nil) rfl (al_cons (al_nil)) (da_cons (d_var (pe_var (i := 2) rfl (Or.inl (by kernel_rfl)) (by kernel_rfl) (by kernel_rfl))) (da_nil)) (by kernel_rfl))) (da_nil)) (by decide) (by kernel_rfl))))))
theorem sc_law_is_dealing : FnScope ["_law_sent", "_law_came", "_law_it", "_law_free", "_law_wanted", "_law_k", "_law_row", "_law_one"] ["_law_sent", "_law_came", "_law_it"] (defScope s_law_is_dealing) := ⟨by kernel_rfl, by kernel_rfl, by kernel_rfl, by decide +kernel, rfl, by decide +kernel, by decide +kernel⟩
def b_law_is_dealing : FS := sSeq (sIf (tOr2 (tNot1 (tV (eCall kIsi (aCons (eVar 2) (aCons (eC (.ty "tuple")) (aNil)))))) (tNot1 (tV (eCall kAll (aCons (eComp (iSeq (eVar 2)) (.nm 6) (tYesD) (eFn m_law_numbers (aCons (eVar 6) (aCons (eC (.int 3)) (aNil))) []) [6]) (aNil)))))) (sRet (eC (.bl false))) (sNil)) (sSeq (sPar (aCons (eCompM (iSeq (eVar 0)) (.nm 6) (tYesD) (e2 kIx (eVar 6) (eC (.int 1))) [6]) (aCons (eCompM (iSeq (eVar 1)) (.nm 6) (tYesD) (e2 kIx (eVar 6) (eC (.int 1))) [6]) (aNil))) [3, 4]) (sSeq (sFor (iEnum (eVar 2)) (.tp [.nm 5, .nm 6]) (sSeq (sIf (tOr2 (tNot1 (tV (e3 kLe kLt (eC (.int 0)) (e2 kIx (eVar 6) (eC (.int 0))) (eCall kLen (aCons (eVar 1) (aNil)))))) (tOr2 (tNot1 (tV (e3 kLe kLt (eC (.int 0)) (e2 kIx (eVar 6) (eC (.int 1))) (eCall kLen (aCons (eVar 0) (aNil)))))) (tV (e2 kLt (e2 kIx (eVar 6) (eC (.int 2))) (eC (.int 1)))))) (sRet (eC (.bl false))) (sNil)) (sSeq (sIf (tOr2 (tV (e2 kGt (e2 kIx (e2 kIx (eVar 0) (e2 kIx (eVar 6) (eC (.int 1)))) (eC (.int 0))) (e2 kIx (e2 kIx (eVar 1) (e2 kIx (eVar 6) (eC (.int 0)))) (eC (.int 0))))) (tAnd2 (tV (e2 kGt (eVar 5) (eC (.int 0)))) (tV (e2 kGeO (eSl (e2 kIx (eVar 2) (e2 kSub (eVar 5) (eC (.int 1)))) (oNone) (oSome (eC (.int 2)))) (eSl (eVar 6) (oNone) (oSome (eC (.int 2)))))))) (sRet (eC (.bl false))) (sNil)) (sSeq (sAsg (e2 kSub (e2 kIx (eVar 3) (e2 kIx (eVar 6) (eC (.int 1)))) (e2 kIx (eVar 6) (eC (.int 2)))) (gSet (eVar 3) (e2 kIx (eVar 6) (eC (.int 1))))) (sAsg (e2 kSub (e2 kIx (eVar 4) (e2 kIx (eVar 6) (eC (.int 0)))) (e2 kIx (eVar 6) (eC (.int 2)))) (gSet (eVar 4) (e2 kIx (eVar 6) (eC (.int 0))))))))) (sRet (bAnd (eCall kAll (aCons (eComp (iSeq (fz (eVar 3))) (.nm 7) (tYesD) (e2 kGe (eVar 7) (eC (.int 0))) [7]) (aNil))) (eCall kAll (aCons (eComp (iSeq (fz (eVar 4))) (.nm 7) (tYesD) (e2 kEq (eVar 7) (eC (.int 0))) [7]) (aNil)))))))
def m_law_is_dealing : FF := run0 true b_law_is_dealing 8
theorem ok_law_is_dealing (T : Txt K mg) {fd : FuncData} (F : FunD K "_law_is_dealing" "_law_is_dealing" (defArgs s_law_is_dealing) (defBody s_law_is_dealing) (defScope s_law_is_dealing) [] [] (He.ga K "_law_is_dealing") fd) : FnOk P w K mg base CX0 3 (He.ga K "_law_is_dealing") fd ["_law_sent", "_law_came", "_law_it"] (SpD K (["_law_sent", "_law_came", "_law_it"] : List Str).length m_law_is_dealing) := by
  obtain ⟨fd_law_numbers, F_law_numbers⟩ := T.F_law_numbers
  have G_law_numbers := ok_law_numbers (P := P) (w := w) (base := base) T F_law_numbers
  refine fn_D (b := true) F sc_law_is_dealing (fun cdv A outer s H E hr => ?_)
  have hu := hr.units
  exact dss_cons (ds_if (t_w (dw_or (t_not (t_val (d_callB opr_isi fit_isi (gl (by kernel_rfl)) T.b_isinstance (by kernel_rfl) (da_cons (d_var (pe_var (i := 2) rfl (Or.inl (by kernel_rfl)) (by kernel_rfl) (by kernel_rfl))) (da_cons (d_ty (T := "tuple") (gl (by kernel_rfl)) T.b_tuple (by kernel_rfl)) (da_nil))) (by decide) (by kernel_rfl)))) (dw_or1 (t_not (t_val (d_callB (cr_all rfl) fit_all (gl (by kernel_rfl)) T.b_all (by kernel_rfl) (da_cons (d_comp (own := [("_law_row", 6)]) rfl sc_law_is_dealing.nd (di_seq (d_var (pe_var (i := 2) rfl (Or.inl (by kernel_rfl)) (by kernel_rfl) (by kernel_rfl)))) (blkOk_by (by kernel_rfl)) (by simp [slotsP, slotsPs]) (fun _ _ _ _ _ => pt_nm sc_law_is_dealing.nd rfl (Or.inl (by kernel_rfl)) (Or.inr (by kernel_rfl))) (fun _ _ _ _ _ => dts_nil) (fun _ _ _ _ _ => d_fn G_law_numbers (hr.mono (by decide)) (gl (by kernel_rfl)) T.g_law_numbers F_law_numbers.kp (L2.FunD.bindsN F_law_numbers (ps := ["_law_it", "_law_many"]) (fun _ _ _ _ _ _ us hl => match us, hl with | [_, _], _ => rfl)) .nil (fun _ _ => reps_nil) rfl (al_cons (al_cons (al_nil))) (da_cons (d_var (pe_var (i := 6) rfl (Or.inl (by kernel_rfl)) (by kernel_rfl) (by kernel_rfl))) (da_cons (d_int) (da_nil))) (by kernel_rfl))) (da_nil)) (by decide) (by kernel_rfl))))))) (dss_one (ds_ret (d_bl))) (dss_nil)) (dss_cons (ds_par2 (i := 3) (j := 4) rfl sc_law_is_dealing.nd rfl rfl (by decide) (by kernel_rfl) (by kernel_rfl) (da_cons (d_compM (own := [("_law_row", 6)]) rfl sc_law_is_dealing.nd (di_seq (d_var (pe_var (i := 0) rfl (Or.inl (by kernel_rfl)) (by kernel_rfl) (by kernel_rfl)))) (blkOk_by (by kernel_rfl)) (by simp [slotsP, slotsPs]) (fun _ _ _ _ _ => pt_nm sc_law_is_dealing.nd rfl (Or.inl (by kernel_rfl)) (Or.inr (by kernel_rfl))) (fun _ _ _ _ _ => dts_nil) (fun _ _ _ _ _ => d_ix (d_var (pe_var (i := 6) rfl (Or.inl (by kernel_rfl)) (by kernel_rfl) (by kernel_rfl))) (d_int) (fun _ _ => rfl))) (da_cons (d_compM (own := [("_law_row", 6)]) rfl sc_law_is_dealing.nd (di_seq (d_var (pe_var (i := 1) rfl (Or.inl (by kernel_rfl)) (by kernel_rfl) (by kernel_rfl)))) (blkOk_by (by kernel_rfl)) (by simp [slotsP, slotsPs]) (fun _ _ _ _ _ => pt_nm sc_law_is_dealing.nd rfl (Or.inl (by kernel_rfl)) (Or.inr (by kernel_rfl))) (fun _ _ _ _ _ => dts_nil) (fun _ _ _ _ _ => d_ix (d_var (pe_var (i := 6) rfl (Or.inl (by kernel_rfl)) (by kernel_rfl) (by kernel_rfl))) (d_int) (fun _ _ => rfl))) (da_nil))) (by kernel_rfl)) (dss_cons (ds_for PassesOwn.never rfl (di_enum (gl (by kernel_rfl)) T.b_enumerate (d_var (pe_var (i := 2) rfl (Or.inl (by kernel_rfl)) (by kernel_rfl) (by kernel_rfl)))) (pg_tup rfl (pts_cons (pt_nm sc_law_is_dealing.nd rfl (Or.inl (by kernel_rfl)) (Or.inl rfl)) (pts_cons (pt_nm sc_law_is_dealing.nd rfl (Or.inl (by kernel_rfl)) (Or.inl rfl)) (pts_nil)))) (dss_cons (ds_if (t_w (dw_or (t_not (t_leLt hu (d_int) (d_ix (d_var (pe_var (i := 6) rfl (Or.inl (by kernel_rfl)) (by kernel_rfl) (by kernel_rfl))) (d_int) (fun _ _ => rfl)) (d_callB call_len fit_len (gl (by kernel_rfl)) T.b_len (by kernel_rfl) (da_cons (d_var (pe_var (i := 1) rfl (Or.inl (by kernel_rfl)) (by kernel_rfl) (by kernel_rfl))) (da_nil)) (by decide) (by kernel_rfl)))) (dw_or (t_not (t_leLt hu (d_int) (d_ix (d_var (pe_var (i := 6) rfl (Or.inl (by kernel_rfl)) (by kernel_rfl) (by kernel_rfl))) (d_int) (fun _ _ => rfl)) (d_callB call_len fit_len (gl (by kernel_rfl)) T.b_len (by kernel_rfl) (da_cons (d_var (pe_var (i := 0) rfl (Or.inl (by kernel_rfl)) (by kernel_rfl) (by kernel_rfl))) (da_nil)) (by decide) (by kernel_rfl)))) (dw_or1 (t_lt hu (d_ix (d_var (pe_var (i := 6) rfl (Or.inl (by kernel_rfl)) (by kernel_rfl) (by kernel_rfl))) (d_int) (fun _ _ => rfl)) (d_int)))))) (dss_one (ds_ret (d_bl))) (dss_nil)) (dss_cons (ds_if (t_w (dw_or (t_gt hu (d_ix (d_ix (d_var (pe_var (i := 0) rfl (Or.inl (by kernel_rfl)) (by kernel_rfl) (by kernel_rfl))) (d_ix (d_var (pe_var (i := 6) rfl (Or.inl (by kernel_rfl)) (by kernel_rfl) (by kernel_rfl))) (d_int) (fun _ _ => rfl)) (fun _ _ => rfl)) (d_int) (fun _ _ => rfl)) (d_ix (d_ix (d_var (pe_var (i := 1) rfl (Or.inl (by kernel_rfl)) (by kernel_rfl) (by kernel_rfl))) (d_ix (d_var (pe_var (i := 6) rfl (Or.inl (by kernel_rfl)) (by kernel_rfl) (by kernel_rfl))) (d_int) (fun _ _ => rfl)) (fun _ _ => rfl)) (d_int) (fun _ _ => rfl))) (dw_or1 (t_w (dw_and (t_gt hu (d_var (pe_var (i := 5) rfl (Or.inl (by kernel_rfl)) (by kernel_rfl) (by kernel_rfl))) (d_int)) (dw_and1 (t_geO hu (d_sl (d_ix (d_var (pe_var (i := 2) rfl (Or.inl (by kernel_rfl)) (by kernel_rfl) (by kernel_rfl))) (d_sub (d_var (pe_var (i := 5) rfl (Or.inl (by kernel_rfl)) (by kernel_rfl) (by kernel_rfl))) (d_int)) (fun _ _ => rfl)) (do_none) (do_some (d_int))) (d_sl (d_var (pe_var (i := 6) rfl (Or.inl (by kernel_rfl)) (by kernel_rfl) (by kernel_rfl))) (do_none) (do_some (d_int)))))))))) (dss_one (ds_ret (d_bl))) (dss_nil)) (dss_cons (ds_asg (d_sub (d_ix (d_var (pe_var (i := 3) rfl (Or.inl (by kernel_rfl)) (by kernel_rfl) (by kernel_rfl))) (d_ix (d_var (pe_var (i := 6) rfl (Or.inl (by kernel_rfl)) (by kernel_rfl) (by kernel_rfl))) (d_int) (fun _ _ => rfl)) (fun _ _ => rfl)) (d_ix (d_var (pe_var (i := 6) rfl (Or.inl (by kernel_rfl)) (by kernel_rfl) (by kernel_rfl))) (d_int) (fun _ _ => rfl))) (dg_set (d_var (pe_var (i := 3) rfl (Or.inl (by kernel_rfl)) (by kernel_rfl) (by kernel_rfl))) (d_ix (d_var (pe_var (i := 6) rfl (Or.inl (by kernel_rfl)) (by kernel_rfl) (by kernel_rfl))) (d_int) (fun _ _ => rfl)))) (dss_one (ds_asg (d_sub (d_ix (d_var (pe_var (i := 4) rfl (Or.inl (by kernel_rfl)) (by kernel_rfl) (by kernel_rfl))) (d_ix (d_var (pe_var (i := 6) rfl (Or.inl (by kernel_rfl)) (by kernel_rfl) (by kernel_rfl))) (d_int) (fun _ _ => rfl)) (fun _ _ => rfl)) (d_ix (d_var (pe_var (i := 6) rfl (Or.inl (by kernel_rfl)) (by kernel_rfl) (by kernel_rfl))) (d_int) (fun _ _ => rfl))) (dg_set (d_var (pe_var (i := 4) rfl (Or.inl (by kernel_rfl)) (by kernel_rfl) (by kernel_rfl))) (d_ix (d_var (pe_var (i := 6) rfl (Or.inl (by kernel_rfl)) (by kernel_rfl) (by kernel_rfl))) (d_int) (fun _ _ => rfl))))))))) (dss_one (ds_ret (d_and (d_callB (cr_all rfl) fit_all (gl (by kernel_rfl)) T.b_all (by kernel_rfl) (da_cons (d_comp (own := [("_law_one", 7)]) rfl sc_law_is_dealing.nd (di_seq (d_fz (d_var (pe_var (i := 3) rfl (Or.inl (by kernel_rfl)) (by kernel_rfl) (by kernel_rfl))))) (blkOk_by (by kernel_rfl)) (by simp [slotsP, slotsPs]) (fun _ _ _ _ _ => pt_nm sc_law_is_dealing.nd rfl (Or.inl (by kernel_rfl)) (Or.inr (by kernel_rfl))) (fun _ _ _ _ _ => dts_nil) (fun _ _ _ _ _ => d_ge hu (d_var (pe_var (i := 7) rfl (Or.inl (by kernel_rfl)) (by kernel_rfl) (by kernel_rfl))) (d_int))) (da_nil)) (by decide) (by kernel_rfl)) (d_one (d_callB (cr_all rfl) fit_all (gl (by kernel_rfl)) T.b_all (by kernel_rfl) (da_cons (d_comp (own := [("_law_one", 7)]) rfl sc_law_is_dealing.nd (di_seq (d_fz (d_var (pe_var (i := 4) rfl (Or.inl (by kernel_rfl)) (by kernel_rfl) (by kernel_rfl))))) (blkOk_by (by kernel_rfl)) (by simp [slotsP, slotsPs]) (fun _ _ _ _ _ => pt_nm sc_law_is_dealing.nd rfl (Or.inl (by kernel_rfl)) (Or.inr (by kernel_rfl))) (fun _ _ _ _ _ => dts_nil) (fun _ _ _ _ _ => d_eq hu (d_var (pe_var (i := 7) rfl (Or.inl (by kernel_rfl)) (by kernel_rfl) (by kernel_rfl))) (d_int))) (da_nil)) (by decide) (by kernel_rfl))))))))
theorem sc_law_moved : FnScope ["_law_purse_here", "_law_deal_of", "_law_sent", "_law_much", "_law_rest", "_law_found", "_law_at", "_law_out", "_law_back", "_law_old", "_law_many", "_law_one", "_law_other", "_law_more", "_law_key"] ["_law_purse_here", "_law_deal_of", "_law_sent"] (defScope s_law_moved) := ⟨by kernel_rfl, by kernel_rfl, by kernel_rfl, by decide +kernel, rfl, by decide +kernel, by decide +kernel⟩
def b_law_moved : FS := sSeq (sIf (tOr2 (tV (e2 kEq (eVar 1) (eTup (aNil)))) (tV (e2 kEq (eVar 2) (eLst (aNil))))) (sRet (eVar 1)) (sNil)) (sSeq (sPar (aCons (eFn m_law_take (aCons (eVar 0) (aCons (eCall kLen (aCons (eVar 1) (aNil))) (aNil))) []) (aCons (eFn m_law_take (aCons (eVar 0) (aCons (eCall kLen (aCons (eVar 2) (aNil))) (aNil))) []) (aNil))) [6, 7]) (sSeq (sAsg (e2 kIx (eVar 1) (eVar 6)) (gPt (.tp [.nm 8, .nm 9, .nm 10]))) (sSeq (sAsg (e2 kAdd (eC (.int 1)) (eFn m_law_take (aCons (eVar 0) (aCons (eVar 10) (aNil))) [])) (gPt (.nm 3))) (sSeq (sAsg (e2 kMul (eLst (aCons (eTup (aCons (eVar 8) (aCons (eVar 9) (aCons (e2 kSub (eVar 10) (eVar 3)) (aNil))))) (aNil))) (eCall kInt (aCons (e2 kGt (eVar 10) (eVar 3)) (aNil)))) (gPt (.nm 4))) (sSeq (sAsg (eDNewT) (gPt (.nm 5))) (sSeq (sFor (iSeq (e2 kAdd (e2 kAdd (e2 kAdd (eCall kList (aCons (eSl (eVar 1) (oNone) (oSome (eVar 6))) (aNil))) (eVar 4)) (eLst (aCons (eTup (aCons (eVar 8) (aCons (eVar 7) (aCons (eVar 3) (aNil))))) (aNil)))) (eCall kList (aCons (eSl (eVar 1) (oSome (e2 kAdd (eVar 6) (eC (.int 1)))) (oNone)) (aNil))))) (.tp [.nm 11, .nm 12, .nm 13]) (sDPut (e2 kAdd (eDGet2 (eVar 5) (eTup (aCons (eVar 11) (aCons (eVar 12) (aNil)))) (eC (.int 0))) (eVar 13)) (eVar 5) (eTup (aCons (eVar 11) (aCons (eVar 12) (aNil)))))) (sRet (eCall kTuple (aCons (eComp (iSeq (eCall kSortDT (aCons (eVar 5) (aNil)))) (.nm 14) (tYesD) (e2 kAdd (eVar 14) (eTup (aCons (e2 kDIx (eVar 5) (eVar 14)) (aNil)))) [14]) (aNil))))))))))
def m_law_moved : FF := run0 true b_law_moved 15
theorem ok_law_moved (T : Txt K mg) {fd : FuncData} (F : FunD K "_law_moved" "_law_moved" (defArgs s_law_moved) (defBody s_law_moved) (defScope s_law_moved) [] [] (He.ga K "_law_moved") fd) : FnOk P w K mg base CX0 2 (He.ga K "_law_moved") fd ["_law_purse_here", "_law_deal_of", "_law_sent"] (SpD K (["_law_purse_here", "_law_deal_of", "_law_sent"] : List Str).length m_law_moved) := by
  obtain ⟨fd_law_take, F_law_take⟩ := T.F_law_take
  have G_law_take := ok_law_take (P := P) (w := w) (base := base) T F_law_take
  refine fn_D (b := true) F sc_law_moved (fun cdv A outer s H E hr => ?_)
  have hu := hr.units
  exact dss_cons (ds_if (t_w (dw_or (t_eq hu (d_var (pe_var (i := 1) rfl (Or.inl (by kernel_rfl)) (by kernel_rfl) (by kernel_rfl))) (d_tup (da_nil))) (dw_or1 (t_eq hu (d_var (pe_var (i := 2) rfl (Or.inl (by kernel_rfl)) (by kernel_rfl) (by kernel_rfl))) (d_lst (da_nil)))))) (dss_one (ds_ret (d_var (pe_var (i := 1) rfl (Or.inl (by kernel_rfl)) (by kernel_rfl) (by kernel_rfl))))) (dss_nil)) (dss_cons (ds_par2 (i := 6) (j := 7) rfl sc_law_moved.nd rfl rfl (by decide) (by kernel_rfl) (by kernel_rfl) (da_cons (d_fn G_law_take (hr.mono (by decide)) (gl (by kernel_rfl)) T.g_law_take F_law_take.kp (L2.FunD.bindsN F_law_take (ps := ["_law_purse_here", "_law_many"]) (fun _ _ _ _ _ _ us hl => match us, hl with | [_, _], _ => rfl)) .nil (fun _ _ => reps_nil) rfl (al_cons (al_cons (al_nil))) (da_cons (d_var (pe_var (i := 0) rfl (Or.inl (by kernel_rfl)) (by kernel_rfl) (by kernel_rfl))) (da_cons (d_callB call_len fit_len (gl (by kernel_rfl)) T.b_len (by kernel_rfl) (da_cons (d_var (pe_var (i := 1) rfl (Or.inl (by kernel_rfl)) (by kernel_rfl) (by kernel_rfl))) (da_nil)) (by decide) (by kernel_rfl)) (da_nil))) (by kernel_rfl)) (da_cons (d_fn G_law_take (hr.mono (by decide)) (gl (by kernel_rfl)) T.g_law_take F_law_take.kp (L2.FunD.bindsN F_law_take (ps := ["_law_purse_here", "_law_many"]) (fun _ _ _ _ _ _ us hl => match us, hl with | [_, _], _ => rfl)) .nil (fun _ _ => reps_nil) rfl (al_cons (al_cons (al_nil))) (da_cons (d_var (pe_var (i := 0) rfl (Or.inl (by kernel_rfl)) (by kernel_rfl) (by kernel_rfl))) (da_cons (d_callB call_len fit_len (gl (by kernel_rfl)) T.b_len (by kernel_rfl) (da_cons (d_var (pe_var (i := 2) rfl (Or.inl (by kernel_rfl)) (by kernel_rfl) (by kernel_rfl))) (da_nil)) (by decide) (by kernel_rfl)) (da_nil))) (by kernel_rfl)) (da_nil))) (by kernel_rfl)) (dss_cons (ds_asg (d_ix (d_var (pe_var (i := 1) rfl (Or.inl (by kernel_rfl)) (by kernel_rfl) (by kernel_rfl))) (d_var (pe_var (i := 6) rfl (Or.inl (by kernel_rfl)) (by kernel_rfl) (by kernel_rfl))) (fun _ _ => rfl)) (dg_pt (pg_tup rfl (pts_cons (pt_nm sc_law_moved.nd rfl (Or.inl (by kernel_rfl)) (Or.inl rfl)) (pts_cons (pt_nm sc_law_moved.nd rfl (Or.inl (by kernel_rfl)) (Or.inl rfl)) (pts_cons (pt_nm sc_law_moved.nd rfl (Or.inl (by kernel_rfl)) (Or.inl rfl)) (pts_nil))))))) (dss_cons (ds_asg (d_add (d_int) (d_fn G_law_take (hr.mono (by decide)) (gl (by kernel_rfl)) T.g_law_take F_law_take.kp (L2.FunD.bindsN F_law_take (ps := ["_law_purse_here", "_law_many"]) (fun _ _ _ _ _ _ us hl => match us, hl with | [_, _], _ => rfl)) .nil (fun _ _ => reps_nil) rfl (al_cons (al_cons (al_nil))) (da_cons (d_var (pe_var (i := 0) rfl (Or.inl (by kernel_rfl)) (by kernel_rfl) (by kernel_rfl))) (da_cons (d_var (pe_var (i := 10) rfl (Or.inl (by kernel_rfl)) (by kernel_rfl) (by kernel_rfl))) (da_nil))) (by kernel_rfl))) (dg_pt (pt_nm sc_law_moved.nd rfl (Or.inl (by kernel_rfl)) (Or.inl rfl))) (by kernel_rfl)) (dss_cons (ds_asg (d_mul (d_lst (da_cons (d_tup (da_cons (d_var (pe_var (i := 8) rfl (Or.inl (by kernel_rfl)) (by kernel_rfl) (by kernel_rfl))) (da_cons (d_var (pe_var (i := 9) rfl (Or.inl (by kernel_rfl)) (by kernel_rfl) (by kernel_rfl))) (da_cons (d_sub (d_var (pe_var (i := 10) rfl (Or.inl (by kernel_rfl)) (by kernel_rfl) (by kernel_rfl))) (d_var (pe_var (i := 3) rfl (Or.inl (by kernel_rfl)) (by kernel_rfl) (by kernel_rfl)))) (da_nil))))) (da_nil))) (d_callT call_int1 fit_int (gl (by kernel_rfl)) T.b_int (by kernel_rfl) (da_cons (d_gt hu (d_var (pe_var (i := 10) rfl (Or.inl (by kernel_rfl)) (by kernel_rfl) (by kernel_rfl))) (d_var (pe_var (i := 3) rfl (Or.inl (by kernel_rfl)) (by kernel_rfl) (by kernel_rfl)))) (da_nil)) (by decide) (by kernel_rfl))) (dg_pt (pt_nm sc_law_moved.nd rfl (Or.inl (by kernel_rfl)) (Or.inl rfl))) (by kernel_rfl)) (dss_cons (ds_asg (d_dnewT) (dg_pt (pt_nm sc_law_moved.nd rfl (Or.inr (by kernel_rfl)) (Or.inl rfl))) (by kernel_rfl)) (dss_cons (ds_for PassesOwn.never rfl (di_seq (d_add (d_add (d_add (d_callT call_list_of fit_list (gl (by kernel_rfl)) T.b_list (by kernel_rfl) (da_cons (d_sl (d_var (pe_var (i := 1) rfl (Or.inl (by kernel_rfl)) (by kernel_rfl) (by kernel_rfl))) (do_none) (do_some (d_var (pe_var (i := 6) rfl (Or.inl (by kernel_rfl)) (by kernel_rfl) (by kernel_rfl))))) (da_nil)) (by decide) (by kernel_rfl)) (d_var (pe_var (i := 4) rfl (Or.inl (by kernel_rfl)) (by kernel_rfl) (by kernel_rfl)))) (d_lst (da_cons (d_tup (da_cons (d_var (pe_var (i := 8) rfl (Or.inl (by kernel_rfl)) (by kernel_rfl) (by kernel_rfl))) (da_cons (d_var (pe_var (i := 7) rfl (Or.inl (by kernel_rfl)) (by kernel_rfl) (by kernel_rfl))) (da_cons (d_var (pe_var (i := 3) rfl (Or.inl (by kernel_rfl)) (by kernel_rfl) (by kernel_rfl))) (da_nil))))) (da_nil)))) (d_callT call_list_of fit_list (gl (by kernel_rfl)) T.b_list (by kernel_rfl) (da_cons (d_sl (d_var (pe_var (i := 1) rfl (Or.inl (by kernel_rfl)) (by kernel_rfl) (by kernel_rfl))) (do_some (d_add (d_var (pe_var (i := 6) rfl (Or.inl (by kernel_rfl)) (by kernel_rfl) (by kernel_rfl))) (d_int))) (do_none)) (da_nil)) (by decide) (by kernel_rfl)))) (pg_tup rfl (pts_cons (pt_nm sc_law_moved.nd rfl (Or.inl (by kernel_rfl)) (Or.inl rfl)) (pts_cons (pt_nm sc_law_moved.nd rfl (Or.inl (by kernel_rfl)) (Or.inl rfl)) (pts_cons (pt_nm sc_law_moved.nd rfl (Or.inl (by kernel_rfl)) (Or.inl rfl)) (pts_nil))))) (dss_one (ds_dput hu (d_add (d_dget2 hu (d_var (pe_var (i := 5) rfl (Or.inr (Or.inl (by kernel_rfl))) (by kernel_rfl) (by kernel_rfl))) (d_tup (da_cons (d_var (pe_var (i := 11) rfl (Or.inl (by kernel_rfl)) (by kernel_rfl) (by kernel_rfl))) (da_cons (d_var (pe_var (i := 12) rfl (Or.inl (by kernel_rfl)) (by kernel_rfl) (by kernel_rfl))) (da_nil)))) (d_int) ⟨rfl, rfl, rfl, rfl⟩) (d_var (pe_var (i := 13) rfl (Or.inl (by kernel_rfl)) (by kernel_rfl) (by kernel_rfl)))) (d_var (pe_var (i := 5) rfl (Or.inr (Or.inl (by kernel_rfl))) (by kernel_rfl) (by kernel_rfl))) (d_tup (da_cons (d_var (pe_var (i := 11) rfl (Or.inl (by kernel_rfl)) (by kernel_rfl) (by kernel_rfl))) (da_cons (d_var (pe_var (i := 12) rfl (Or.inl (by kernel_rfl)) (by kernel_rfl) (by kernel_rfl))) (da_nil)))) rfl))) (dss_one (ds_ret (d_callT call_tuple_of fit_tuple (gl (by kernel_rfl)) T.b_tuple (by kernel_rfl) (da_cons (d_comp (own := [("_law_key", 14)]) rfl sc_law_moved.nd (di_seq (d_callB (cr_sortDT rfl hu) fit_sortDT (gl (by kernel_rfl)) T.b_sorted (by kernel_rfl) (da_cons (d_var (pe_var (i := 5) rfl (Or.inr (Or.inl (by kernel_rfl))) (by kernel_rfl) (by kernel_rfl))) (da_nil)) (by decide) (by kernel_rfl))) (blkOk_by (by kernel_rfl)) (by simp [slotsP, slotsPs]) (fun _ _ _ _ _ => pt_nm sc_law_moved.nd rfl (Or.inl (by kernel_rfl)) (Or.inr (by kernel_rfl))) (fun _ _ _ _ _ => dts_nil) (fun _ _ _ _ _ => d_add (d_var (pe_var (i := 14) rfl (Or.inl (by kernel_rfl)) (by kernel_rfl) (by kernel_rfl))) (d_tup (da_cons (d_dix hu (d_var (pe_var (i := 5) rfl (Or.inr (Or.inl (by kernel_rfl))) (by kernel_rfl) (by kernel_rfl))) (d_var (pe_var (i := 14) rfl (Or.inl (by kernel_rfl)) (by kernel_rfl) (by kernel_rfl))) (fun _ _ => rfl)) (da_nil))))) (da_nil)) (by decide) (by kernel_rfl))))))))))
theorem sc_law_bent : FnScope ["_law_purse_here", "_law_old", "_law_pick", "_law_some", "_law_at", "_law_part", "_law_rows"] ["_law_purse_here", "_law_old"] (defScope s_law_bent) := ⟨by kernel_rfl, by kernel_rfl, by kernel_rfl, by decide +kernel, rfl, by decide +kernel, by decide +kernel⟩
def b_law_bent (g : FF) : FS := sSeq (sIf (tAnd2 (tV (eCall kIsi (aCons (eVar 1) (aCons (eC (.ty "tuple")) (aNil))))) (tAnd2 (tV (e2 kGt (eCall kLen (aCons (eVar 1) (aNil))) (eC (.int 0)))) (tV (e2 kGt (eFn m_law_take (aCons (eVar 0) (aCons (eC (.int 4)) (aNil))) []) (eC (.int 0)))))) (sSeq (sAsg (eFn m_law_take (aCons (eVar 0) (aCons (eCall kLen (aCons (eVar 1) (aNil))) (aNil))) []) (gPt (.nm 4))) (sSeq (sAsg (eFn g (aCons (eVar 0) (aCons (e2 kIx (eVar 1) (eVar 4)) (aNil))) []) (gPt (.nm 5))) (sRet (e2 kAdd (e2 kAdd (eSl (eVar 1) (oNone) (oSome (eVar 4))) (eTup (aCons (eVar 5) (aNil)))) (eSl (eVar 1) (oSome (e2 kAdd (eVar 4) (eC (.int 1)))) (oNone)))))) (sNil)) (sSeq (sAsg (eFn m_law_take (aCons (eVar 0) (aCons (eC (.int 7)) (aNil))) []) (gPt (.nm 2))) (sSeq (sIf (tAnd2 (tV (eCall kIsi (aCons (eVar 1) (aCons (eC (.ty "tuple")) (aNil))))) (tAnd2 (tV (e2 kGt (eCall kLen (aCons (eVar 1) (aNil))) (eC (.int 0)))) (tV (e2 kLt (eVar 2) (eC (.int 5)))))) (sSeq (sAsg (eFn m_law_take (aCons (eVar 0) (aCons (eCall kLen (aCons (eVar 1) (aNil))) (aNil))) []) (gPt (.nm 4))) (sSeq (sAsg (eLst (aCons (e2 kAdd (eSl (eVar 1) (oNone) (oSome (eVar 4))) (eSl (eVar 1) (oSome (e2 kAdd (eVar 4) (eC (.int 1)))) (oNone))) (aCons (e2 kAdd (e2 kAdd (eSl (eVar 1) (oNone) (oSome (eVar 4))) (eTup (aCons (e2 kIx (eVar 1) (eVar 4)) (aNil)))) (eSl (eVar 1) (oSome (eVar 4)) (oNone))) (aCons (eRev (eVar 1)) (aCons (e2 kAdd (eSl (eVar 1) (oSome (eC (.int 1))) (oNone)) (eSl (eVar 1) (oNone) (oSome (eC (.int 1))))) (aCons (eCall kList (aCons (eVar 1) (aNil))) (aNil))))))) (gPt (.nm 6))) (sRet (e2 kIx (eVar 6) (eVar 2))))) (sNil)) (sSeq (sIf (tAnd2 (tV (eCall kIsi (aCons (eVar 1) (aCons (eC (.ty "int")) (aNil))))) (tV (e2 kLt (eVar 2) (eC (.int 5))))) (sRet (e2 kIx (eLst (aCons (e2 kAdd (eVar 1) (eC (.int 1))) (aCons (e2 kSub (eVar 1) (eC (.int 1))) (aCons (e2 kSub (eC (.int 0)) (eVar 1)) (aCons (e2 kEq (eVar 1) (eC (.int 1))) (aCons (e2 kAdd (eVar 1) (eC (.int 2))) (aNil))))))) (eVar 2))) (sNil)) (sSeq (sAsg (eLst (aCons (eC .non) (aCons (eC (.bl true)) (aCons (eC (.bl false)) (aCons (eC (.int 0)) (aCons (e2 kSub (eC (.int 0)) (eC (.int 1))) (aCons (eC (.str "1")) (aCons (eTup (aNil)) (aCons (eLst (aNil)) (aCons (eD0) (aCons (eTup (aCons (eC (.int 0)) (aCons (eC (.int 0)) (aCons (eC (.int 1)) (aNil))))) (aCons (eLst (aCons (eVar 1) (aNil))) (aCons (eTup (aCons (eVar 1) (aNil))) (aCons (eTup (aCons (eLst (aNil)) (aNil))) (aCons (eTup (aCons (eVar 1) (aCons (eD0) (aNil)))) (aNil)))))))))))))))) (gPt (.nm 3))) (sRet (e2 kIx (eVar 3) (eFn m_law_take (aCons (eVar 0) (aCons (eC (.int 14)) (aNil))) [])))))))
def m_law_bent : Nat → FF
  | 0 => run0 true (fun _ _ => .no) 7
  | j + 1 => run0 true (b_law_bent (m_law_bent j)) 7
theorem ok_law_bent (j : Nat) (T : Txt K mg) {fd : FuncData} (F : FunD K "_law_bent" "_law_bent" (defArgs s_law_bent) (defBody s_law_bent) (defScope s_law_bent) [] [] (He.ga K "_law_bent") fd) : FnOk P w K mg base CX0 (2 + j) (He.ga K "_law_bent") fd ["_law_purse_here", "_law_old"] (SpD K (["_law_purse_here", "_law_old"] : List Str).length (m_law_bent j)) := by
  obtain ⟨fd_law_take, F_law_take⟩ := T.F_law_take
  have G_law_take := ok_law_take (P := P) (w := w) (base := base) T F_law_take
  induction j with
  | zero => exact fn_D (k := 1) (b := true) F sc_law_bent (fun cdv A outer s H E hr => dss_never)
  | succ j G_law_bent =>
  have F_law_bent := F
  refine fn_D (k := 2 + j) (b := true) F sc_law_bent (fun cdv A outer s H E hr => ?_)
  have hu := hr.units
  exact dss_cons (ds_if (t_w (dw_and (t_val (d_callB opr_isi fit_isi (gl (by kernel_rfl)) T.b_isinstance (by kernel_rfl) (da_cons (d_var (pe_var (i := 1) rfl (Or.inl (by kernel_rfl)) (by kernel_rfl) (by kernel_rfl))) (da_cons (d_ty (T := "tuple") (gl (by kernel_rfl)) T.b_tuple (by kernel_rfl)) (da_nil))) (by decide) (by kernel_rfl))) (dw_and (t_gt hu (d_callB call_len fit_len (gl (by kernel_rfl)) T.b_len (by kernel_rfl) (da_cons (d_var (pe_var (i := 1) rfl (Or.inl (by kernel_rfl)) (by kernel_rfl) (by kernel_rfl))) (da_nil)) (by decide) (by kernel_rfl)) (d_int)) (dw_and1 (t_gt hu (d_fn G_law_take (hr.mono (by omega)) (gl (by kernel_rfl)) T.g_law_take F_law_take.kp (L2.FunD.bindsN F_law_take (ps := ["_law_purse_here", "_law_many"]) (fun _ _ _ _ _ _ us hl => match us, hl with | [_, _], _ => rfl)) .nil (fun _ _ => reps_nil) rfl (al_cons (al_cons (al_nil))) (da_cons (d_var (pe_var (i := 0) rfl (Or.inl (by kernel_rfl)) (by kernel_rfl) (by kernel_rfl))) (da_cons (d_int) (da_nil))) (by kernel_rfl)) (d_int)))))) (dss_cons (ds_asg (d_fn G_law_take (hr.mono (by omega)) (gl (by kernel_rfl)) T.g_law_take F_law_take.kp (L2.FunD.bindsN F_law_take (ps := ["_law_purse_here", "_law_many"]) (fun _ _ _ _ _ _ us hl => match us, hl with | [_, _], _ => rfl)) .nil (fun _ _ => reps_nil) rfl (al_cons (al_cons (al_nil))) (da_cons (d_var (pe_var (i := 0) rfl (Or.inl (by kernel_rfl)) (by kernel_rfl) (by kernel_rfl))) (da_cons (d_callB call_len fit_len (gl (by kernel_rfl)) T.b_len (by kernel_rfl) (da_cons (d_var (pe_var (i := 1) rfl (Or.inl (by kernel_rfl)) (by kernel_rfl) (by kernel_rfl))) (da_nil)) (by decide) (by kernel_rfl)) (da_nil))) (by kernel_rfl)) (dg_pt (pt_nm sc_law_bent.nd rfl (Or.inl (by kernel_rfl)) (Or.inl rfl))) (by kernel_rfl)) (dss_cons (ds_asg (d_fn G_law_bent (hr.mono (by omega)) (gl (by kernel_rfl)) T.g_law_bent F_law_bent.kp (L2.FunD.bindsN F_law_bent (ps := ["_law_purse_here", "_law_old"]) (fun _ _ _ _ _ _ us hl => match us, hl with | [_, _], _ => rfl)) .nil (fun _ _ => reps_nil) rfl (al_cons (al_cons (al_nil))) (da_cons (d_var (pe_var (i := 0) rfl (Or.inl (by kernel_rfl)) (by kernel_rfl) (by kernel_rfl))) (da_cons (d_ix (d_var (pe_var (i := 1) rfl (Or.inl (by kernel_rfl)) (by kernel_rfl) (by kernel_rfl))) (d_var (pe_var (i := 4) rfl (Or.inl (by kernel_rfl)) (by kernel_rfl) (by kernel_rfl))) (fun _ _ => rfl)) (da_nil))) (by kernel_rfl)) (dg_pt (pt_nm sc_law_bent.nd rfl (Or.inl (by kernel_rfl)) (Or.inl rfl))) (by kernel_rfl)) (dss_one (ds_ret (d_add (d_add (d_sl (d_var (pe_var (i := 1) rfl (Or.inl (by kernel_rfl)) (by kernel_rfl) (by kernel_rfl))) (do_none) (do_some (d_var (pe_var (i := 4) rfl (Or.inl (by kernel_rfl)) (by kernel_rfl) (by kernel_rfl))))) (d_tup (da_cons (d_var (pe_var (i := 5) rfl (Or.inl (by kernel_rfl)) (by kernel_rfl) (by kernel_rfl))) (da_nil)))) (d_sl (d_var (pe_var (i := 1) rfl (Or.inl (by kernel_rfl)) (by kernel_rfl) (by kernel_rfl))) (do_some (d_add (d_var (pe_var (i := 4) rfl (Or.inl (by kernel_rfl)) (by kernel_rfl) (by kernel_rfl))) (d_int))) (do_none))))))) (dss_nil)) (dss_cons (ds_asg (d_fn G_law_take (hr.mono (by omega)) (gl (by kernel_rfl)) T.g_law_take F_law_take.kp (L2.FunD.bindsN F_law_take (ps := ["_law_purse_here", "_law_many"]) (fun _ _ _ _ _ _ us hl => match us, hl with | [_, _], _ => rfl)) .nil (fun _ _ => reps_nil) rfl (al_cons (al_cons (al_nil))) (da_cons (d_var (pe_var (i := 0) rfl (Or.inl (by kernel_rfl)) (by kernel_rfl) (by kernel_rfl))) (da_cons (d_int) (da_nil))) (by kernel_rfl)) (dg_pt (pt_nm sc_law_bent.nd rfl (Or.inl (by kernel_rfl)) (Or.inl rfl))) (by kernel_rfl)) (dss_cons (ds_if (t_w (dw_and (t_val (d_callB opr_isi fit_isi (gl (by kernel_rfl)) T.b_isinstance (by kernel_rfl) (da_cons (d_var (pe_var (i := 1) rfl (Or.inl (by kernel_rfl)) (by kernel_rfl) (by kernel_rfl))) (da_cons (d_ty (T := "tuple") (gl (by kernel_rfl)) T.b_tuple (by kernel_rfl)) (da_nil))) (by decide) (by kernel_rfl))) (dw_and (t_gt hu (d_callB call_len fit_len (gl (by kernel_rfl)) T.b_len (by kernel_rfl) (da_cons (d_var (pe_var (i := 1) rfl (Or.inl (by kernel_rfl)) (by kernel_rfl) (by kernel_rfl))) (da_nil)) (by decide) (by kernel_rfl)) (d_int)) (dw_and1 (t_lt hu (d_var (pe_var (i := 2) rfl (Or.inl (by kernel_rfl)) (by kernel_rfl) (by kernel_rfl))) (d_int)))))) (dss_cons (ds_asg (d_fn G_law_take (hr.mono (by omega)) (gl (by kernel_rfl)) T.g_law_take F_law_take.kp (L2.FunD.bindsN F_law_take (ps := ["_law_purse_here", "_law_many"]) (fun _ _ _ _ _ _ us hl => match us, hl with | [_, _], _ => rfl)) .nil (fun _ _ => reps_nil) rfl (al_cons (al_cons (al_nil))) (da_cons (d_var (pe_var (i := 0) rfl (Or.inl (by kernel_rfl)) (by kernel_rfl) (by kernel_rfl))) (da_cons (d_callB call_len fit_len (gl (by kernel_rfl)) T.b_len (by kernel_rfl) (da_cons (d_var (pe_var (i := 1) rfl (Or.inl (by kernel_rfl)) (by kernel_rfl) (by kernel_rfl))) (da_nil)) (by decide) (by kernel_rfl)) (da_nil))) (by kernel_rfl)) (dg_pt (pt_nm sc_law_bent.nd rfl (Or.inl (by kernel_rfl)) (Or.inl rfl))) (by kernel_rfl)) (dss_cons (ds_asg (d_lst (da_cons (d_add (d_sl (d_var (pe_var (i := 1) rfl (Or.inl (by kernel_rfl)) (by kernel_rfl) (by kernel_rfl))) (do_none) (do_some (d_var (pe_var (i := 4) rfl (Or.inl (by kernel_rfl)) (by kernel_rfl) (by kernel_rfl))))) (d_sl (d_var (pe_var (i := 1) rfl (Or.inl (by kernel_rfl)) (by kernel_rfl) (by kernel_rfl))) (do_some (d_add (d_var (pe_var (i := 4) rfl (Or.inl (by kernel_rfl)) (by kernel_rfl) (by kernel_rfl))) (d_int))) (do_none))) (da_cons (d_add (d_add (d_sl (d_var (pe_var (i := 1) rfl (Or.inl (by kernel_rfl)) (by kernel_rfl) (by kernel_rfl))) (do_none) (do_some (d_var (pe_var (i := 4) rfl (Or.inl (by kernel_rfl)) (by kernel_rfl) (by kernel_rfl))))) (d_tup (da_cons (d_ix (d_var (pe_var (i := 1) rfl (Or.inl (by kernel_rfl)) (by kernel_rfl) (by kernel_rfl))) (d_var (pe_var (i := 4) rfl (Or.inl (by kernel_rfl)) (by kernel_rfl) (by kernel_rfl))) (fun _ _ => rfl)) (da_nil)))) (d_sl (d_var (pe_var (i := 1) rfl (Or.inl (by kernel_rfl)) (by kernel_rfl) (by kernel_rfl))) (do_some (d_var (pe_var (i := 4) rfl (Or.inl (by kernel_rfl)) (by kernel_rfl) (by kernel_rfl)))) (do_none))) (da_cons (d_rev (d_var (pe_var (i := 1) rfl (Or.inl (by kernel_rfl)) (by kernel_rfl) (by kernel_rfl)))) (da_cons (d_add (d_sl (d_var (pe_var (i := 1) rfl (Or.inl (by kernel_rfl)) (by kernel_rfl) (by kernel_rfl))) (do_some (d_int)) (do_none)) (d_sl (d_var (pe_var (i := 1) rfl (Or.inl (by kernel_rfl)) (by kernel_rfl) (by kernel_rfl))) (do_none) (do_some (d_int)))) (da_cons (d_callT call_list_of fit_list (gl (by kernel_rfl)) T.b_list (by kernel_rfl) (da_cons (d_var (pe_var (i := 1) rfl (Or.inl (by kernel_rfl)) (by kernel_rfl) (by kernel_rfl))) (da_nil)) (by decide) (by kernel_rfl)) (da_nil))))))) (dg_pt (pt_nm sc_law_bent.nd rfl (Or.inl (by kernel_rfl)) (Or.inl rfl))) (by kernel_rfl)) (dss_one (ds_ret (d_ix (d_var (pe_var (i := 6) rfl (Or.inl (by kernel_rfl)) (by kernel_rfl) (by kernel_rfl))) (d_var (pe_var (i := 2) rfl (Or.inl (by kernel_rfl)) (by kernel_rfl) (by kernel_rfl))) (fun _ _ => rfl)))))) (dss_nil)) (dss_cons (ds_if (t_w (dw_and (t_val (d_callB opr_isi fit_isi (gl (by kernel_rfl)) T.b_isinstance (by kernel_rfl) (da_cons (d_var (pe_var (i := 1) rfl (Or.inl (by kernel_rfl)) (by kernel_rfl) (by kernel_rfl))) (da_cons (d_ty (T := "int") (gl (by kernel_rfl)) T.b_int (by kernel_rfl)) (da_nil))) (by decide) (by kernel_rfl))) (dw_and1 (t_lt hu (d_var (pe_var (i := 2) rfl (Or.inl (by kernel_rfl)) (by kernel_rfl) (by kernel_rfl))) (d_int))))) (dss_one (ds_ret (d_ix (d_lst (da_cons (d_add (d_var (pe_var (i := 1) rfl (Or.inl (by kernel_rfl)) (by kernel_rfl) (by kernel_rfl))) (d_int)) (da_cons (d_sub (d_var (pe_var (i := 1) rfl (Or.inl (by kernel_rfl)) (by kernel_rfl) (by kernel_rfl))) (d_int)) (da_cons (d_sub (d_int) (d_var (pe_var (i := 1) rfl (Or.inl (by kernel_rfl)) (by kernel_rfl) (by kernel_rfl)))) (da_cons (d_eq hu (d_var (pe_var (i := 1) rfl (Or.inl (by kernel_rfl)) (by kernel_rfl) (by kernel_rfl))) (d_int)) (da_cons (d_add (d_var (pe_var (i := 1) rfl (Or.inl (by kernel_rfl)) (by kernel_rfl) (by kernel_rfl))) (d_int)) (da_nil))))))) (d_var (pe_var (i := 2) rfl (Or.inl (by kernel_rfl)) (by kernel_rfl) (by kernel_rfl))) (fun _ _ => rfl)))) (dss_nil)) (dss_cons (ds_asg (d_lst (da_cons (d_non) (da_cons (d_bl) (da_cons (d_bl) (da_cons (d_int) (da_cons (d_sub (d_int) (d_int)) (da_cons (d_str) (da_cons (d_tup (da_nil)) (da_cons (d_lst (da_nil)) (da_cons (d_d0) (da_cons (d_tup (da_cons (d_int) (da_cons (d_int) (da_cons (d_int) (da_nil))))) (da_cons (d_lst (da_cons (d_var (pe_var (i := 1) rfl (Or.inl (by kernel_rfl)) (by kernel_rfl) (by kernel_rfl))) (da_nil))) (da_cons (d_tup (da_cons (d_var (pe_var (i := 1) rfl (Or.inl (by kernel_rfl)) (by kernel_rfl) (by kernel_rfl))) (da_nil))) (da_cons (d_tup (da_cons (d_lst (da_nil)) (da_nil))) (da_cons (d_tup (da_cons (d_var (pe_var (i := 1) rfl (Or.inl (by kernel_rfl)) (by kernel_rfl) (by kernel_rfl))) (da_cons (d_d0) (da_nil)))) (da_nil)))))))))))))))) (dg_pt (pt_nm sc_law_bent.nd rfl (Or.inl (by kernel_rfl)) (Or.inl rfl))) (by kernel_rfl)) (dss_one (ds_ret (d_ix (d_var (pe_var (i := 3) rfl (Or.inl (by kernel_rfl)) (by kernel_rfl) (by kernel_rfl))) (d_fn G_law_take (hr.mono (by omega)) (gl (by kernel_rfl)) T.g_law_take F_law_take.kp (L2.FunD.bindsN F_law_take (ps := ["_law_purse_here", "_law_many"]) (fun _ _ _ _ _ _ us hl => match us, hl with | [_, _], _ => rfl)) .nil (fun _ _ => reps_nil) rfl (al_cons (al_cons (al_nil))) (da_cons (d_var (pe_var (i := 0) rfl (Or.inl (by kernel_rfl)) (by kernel_rfl) (by kernel_rfl))) (da_cons (d_int) (da_nil))) (by kernel_rfl)) (fun _ _ => rfl))))))))
theorem sc_is_whole : FnScope ["thing"] ["thing"] (defScope s_is_whole) := ⟨by kernel_rfl, by kernel_rfl, by kernel_rfl, by decide +kernel, rfl, by decide +kernel, by decide +kernel⟩
def b_is_whole : FS := sRet (bAnd (eCall kIsi (aCons (eVar 0) (aCons (eC (.ty "int")) (aNil)))) (bNot (eCall kIsi (aCons (eVar 0) (aCons (eC (.ty "bool")) (aNil))))))
def m_is_whole : FF := run0 true b_is_whole 1
theorem ok_is_whole (T : Txt K mg) {fd : FuncData} (F : FunD K "is_whole" "is_whole" (defArgs s_is_whole) (defBody s_is_whole) (defScope s_is_whole) [] [] (He.ga K "is_whole") fd) : FnOk P w K mg base CX0 1 (He.ga K "is_whole") fd ["thing"] (SpD K (["thing"] : List Str).length m_is_whole) := by
  refine fn_D (b := true) F sc_is_whole (fun cdv A outer s H E hr => ?_)
  have hu := hr.units
  exact dss_one (ds_ret (d_and (d_callB opr_isi fit_isi (gl (by kernel_rfl)) T.b_isinstance (by kernel_rfl) (da_cons (d_var (pe_var (i := 0) rfl (Or.inl (by kernel_rfl)) (by kernel_rfl) (by kernel_rfl))) (da_cons (d_ty (T := "int") (gl (by kernel_rfl)) T.b_int (by kernel_rfl)) (da_nil))) (by decide) (by kernel_rfl)) (d_one (d_not (d_callB opr_isi fit_isi (gl (by kernel_rfl)) T.b_isinstance (by kernel_rfl) (da_cons (d_var (pe_var (i := 0) rfl (Or.inl (by kernel_rfl)) (by kernel_rfl) (by kernel_rfl))) (da_cons (d_ty (T := "bool") (gl (by kernel_rfl)) T.b_bool (by kernel_rfl)) (da_nil))) (by decide) (by kernel_rfl))))))
theorem sc_is_within : FnScope ["thing", "low", "high"] ["thing", "low", "high"] (defScope s_is_within) := ⟨by kernel_rfl, by kernel_rfl, by kernel_rfl, by decide +kernel, rfl, by decide +kernel, by decide +kernel⟩
def b_is_within : FS := sRet (bAnd (eFn m_is_whole (aCons (eVar 0) (aNil)) []) (e3 kLe kLe (eVar 1) (eVar 0) (eVar 2)))
def m_is_within : FF := run0 true b_is_within 3
theorem ok_is_within (T : Txt K mg) {fd : FuncData} (F : FunD K "is_within" "is_within" (defArgs s_is_within) (defBody s_is_within) (defScope s_is_within) [] [] (He.ga K "is_within") fd) : FnOk P w K mg base CX0 2 (He.ga K "is_within") fd ["thing", "low", "high"] (SpD K (["thing", "low", "high"] : List Str).length m_is_within) := by
  obtain ⟨fd_is_whole, F_is_whole⟩ := T.F_is_whole
  have G_is_whole := ok_is_whole (P := P) (w := w) (base := base) T F_is_whole
  refine fn_D (b := true) F sc_is_within (fun cdv A outer s H E hr => ?_)
  have hu := hr.units
  exact dss_one (ds_ret (d_and (d_fn G_is_whole (hr.mono (by decide)) (gl (by kernel_rfl)) T.g_is_whole F_is_whole.kp (L2.FunD.bindsN F_is_whole (ps := ["thing"]) (fun _ _ _ _ _ _ us hl => match us, hl with | [_], _ => rfl)) .nil (fun _ _ => reps_nil) rfl (al_cons (al_nil)) (da_cons (d_var (pe_var (i := 0) rfl (Or.inl (by kernel_rfl)) (by kernel_rfl) (by kernel_rfl))) (da_nil)) (by kernel_rfl)) (d_one (d_leLe hu (d_var (pe_var (i := 1) rfl (Or.inl (by kernel_rfl)) (by kernel_rfl) (by kernel_rfl))) (d_var (pe_var (i := 0) rfl (Or.inl (by kernel_rfl)) (by kernel_rfl) (by kernel_rfl))) (d_var (pe_var (i := 2) rfl (Or.inl (by kernel_rfl)) (by kernel_rfl) (by kernel_rfl)))))))
theorem sc_is_amount : FnScope ["thing"] ["thing"] (defScope s_is_amount) := ⟨by kernel_rfl, by kernel_rfl, by kernel_rfl, by decide +kernel, rfl, by decide +kernel, by decide +kernel⟩
def b_is_amount : FS := sRet (eFn m_is_within (aCons (eVar 0) (aCons (eC (.int 0)) (aCons (eC (.int 9999)) (aNil)))) [])
def m_is_amount : FF := run0 true b_is_amount 1
theorem ok_is_amount (T : Txt K mg) {fd : FuncData} (F : FunD K "is_amount" "is_amount" (defArgs s_is_amount) (defBody s_is_amount) (defScope s_is_amount) [] [] (He.ga K "is_amount") fd) : FnOk P w K mg base CX0 3 (He.ga K "is_amount") fd ["thing"] (SpD K (["thing"] : List Str).length m_is_amount) := by
  obtain ⟨fd_is_within, F_is_within⟩ := T.F_is_within
  have G_is_within := ok_is_within (P := P) (w := w) (base := base) T F_is_within
  obtain ⟨t_MOST_AMOUNT, i_MOST_AMOUNT⟩ := T.i_MOST_AMOUNT
  refine fn_D (b := true) F sc_is_amount (fun cdv A outer s H E hr => ?_)
  have hu := hr.units
  exact dss_one (ds_ret (d_fn G_is_within (hr.mono (by decide)) (gl (by kernel_rfl)) T.g_is_within F_is_within.kp (L2.FunD.bindsN F_is_within (ps := ["thing", "low", "high"]) (fun _ _ _ _ _ _ us hl => match us, hl with | [_, _, _], _ => rfl)) .nil (fun _ _ => reps_nil) rfl (al_cons (al_cons (al_cons (al_nil)))) (da_cons (d_var (pe_var (i := 0) rfl (Or.inl (by kernel_rfl)) (by kernel_rfl) (by kernel_rfl))) (da_cons (d_int) (da_cons (d_c (pe_glob (v := .int 9999) (gl (by kernel_rfl)) i_MOST_AMOUNT ⟨_, rfl⟩ (by kernel_rfl)) (fun _ _ => rep_int)) (da_nil)))) (by kernel_rfl)))
theorem sc_is_day : FnScope ["thing"] ["thing"] (defScope s_is_day) := ⟨by kernel_rfl, by kernel_rfl, by kernel_rfl, by decide +kernel, rfl, by decide +kernel, by decide +kernel⟩
def b_is_day : FS := sRet (eFn m_is_within (aCons (eVar 0) (aCons (eC (.int 0)) (aCons (eC (.int 9999)) (aNil)))) [])
def m_is_day : FF := run0 true b_is_day 1
theorem ok_is_day (T : Txt K mg) {fd : FuncData} (F : FunD K "is_day" "is_day" (defArgs s_is_day) (defBody s_is_day) (defScope s_is_day) [] [] (He.ga K "is_day") fd) : FnOk P w K mg base CX0 3 (He.ga K "is_day") fd ["thing"] (SpD K (["thing"] : List Str).length m_is_day) := by
  obtain ⟨fd_is_within, F_is_within⟩ := T.F_is_within
  have G_is_within := ok_is_within (P := P) (w := w) (base := base) T F_is_within
  obtain ⟨t_LAST_DAY, i_LAST_DAY⟩ := T.i_LAST_DAY
  refine fn_D (b := true) F sc_is_day (fun cdv A outer s H E hr => ?_)
  have hu := hr.units
  exact dss_one (ds_ret (d_fn G_is_within (hr.mono (by decide)) (gl (by kernel_rfl)) T.g_is_within F_is_within.kp (L2.FunD.bindsN F_is_within (ps := ["thing", "low", "high"]) (fun _ _ _ _ _ _ us hl => match us, hl with | [_, _, _], _ => rfl)) .nil (fun _ _ => reps_nil) rfl (al_cons (al_cons (al_cons (al_nil)))) (da_cons (d_var (pe_var (i := 0) rfl (Or.inl (by kernel_rfl)) (by kernel_rfl) (by kernel_rfl))) (da_cons (d_int) (da_cons (d_c (pe_glob (v := .int 9999) (gl (by kernel_rfl)) i_LAST_DAY ⟨_, rfl⟩ (by kernel_rfl)) (fun _ _ => rep_int)) (da_nil)))) (by kernel_rfl)))
theorem sc_is_out : FnScope ["thing", "earlier"] ["thing", "earlier"] (defScope s_is_out) := ⟨by kernel_rfl, by kernel_rfl, by kernel_rfl, by decide +kernel, rfl, by decide +kernel, by decide +kernel⟩
def b_is_out : FS := sSeq (sIf (tOr2 (tNot1 (tV (eCall kIsi (aCons (eVar 0) (aCons (eC (.ty "tuple")) (aNil)))))) (tOr2 (tV (e2 kNe (eCall kLen (aCons (eVar 0) (aNil))) (eC (.int 3)))) (tOr2 (tNot1 (tV (eFn m_is_day (aCons (e2 kIx (eVar 0) (eC (.int 0))) (aNil)) []))) (tV (e2 kLe (e2 kIx (eVar 0) (eC (.int 0))) (eVar 1)))))) (sRet (eC (.bl false))) (sNil)) (sRet (bAnd (eFn m_is_within (aCons (e2 kIx (eVar 0) (eC (.int 1))) (aCons (eC (.int 1)) (aCons (eC (.int 99999)) (aNil)))) []) (eFn m_is_amount (aCons (e2 kIx (eVar 0) (eC (.int 2))) (aNil)) [])))
def m_is_out : FF := run0 true b_is_out 2
theorem ok_is_out (T : Txt K mg) {fd : FuncData} (F : FunD K "is_out" "is_out" (defArgs s_is_out) (defBody s_is_out) (defScope s_is_out) [] [] (He.ga K "is_out") fd) : FnOk P w K mg base CX0 4 (He.ga K "is_out") fd ["thing", "earlier"] (SpD K (["thing", "earlier"] : List Str).length m_is_out) := by
  obtain ⟨fd_is_amount, F_is_amount⟩ := T.F_is_amount
  have G_is_amount := ok_is_amount (P := P) (w := w) (base := base) T F_is_amount
  obtain ⟨fd_is_day, F_is_day⟩ := T.F_is_day
  have G_is_day := ok_is_day (P := P) (w := w) (base := base) T F_is_day
  obtain ⟨fd_is_within, F_is_within⟩ := T.F_is_within
  have G_is_within := ok_is_within (P := P) (w := w) (base := base) T F_is_within
  obtain ⟨t_MOST_MANY, i_MOST_MANY⟩ := T.i_MOST_MANY
  refine fn_D (b := true) F sc_is_out (fun cdv A outer s H E hr => ?_)
  have hu := hr.units
  exact dss_cons (ds_if (t_w (dw_or (t_not (t_val (d_callB opr_isi fit_isi (gl (by kernel_rfl)) T.b_isinstance (by kernel_rfl) (da_cons (d_var (pe_var (i := 0) rfl (Or.inl (by kernel_rfl)) (by kernel_rfl) (by kernel_rfl))) (da_cons (d_ty (T := "tuple") (gl (by kernel_rfl)) T.b_tuple (by kernel_rfl)) (da_nil))) (by decide) (by kernel_rfl)))) (dw_or (t_ne hu (d_callB call_len fit_len (gl (by kernel_rfl)) T.b_len (by kernel_rfl) (da_cons (d_var (pe_var (i := 0) rfl (Or.inl (by kernel_rfl)) (by kernel_rfl) (by kernel_rfl))) (da_nil)) (by decide) (by kernel_rfl)) (d_int)) (dw_or (t_not (t_val (d_fn G_is_day (hr.mono (by decide)) (gl (by kernel_rfl)) T.g_is_day F_is_day.kp (L2.FunD.bindsN F_is_day (ps := ["thing"]) (fun _ _ _ _ _ _ us hl => match us, hl with | [_], _ => rfl)) .nil (fun _ _ => reps_nil) rfl (al_cons (al_nil)) (da_cons (d_ix (d_var (pe_var (i := 0) rfl (Or.inl (by kernel_rfl)) (by kernel_rfl) (by kernel_rfl))) (d_int) (fun _ _ => rfl)) (da_nil)) (by kernel_rfl)))) (dw_or1 (t_le hu (d_ix (d_var (pe_var (i := 0) rfl (Or.inl (by kernel_rfl)) (by kernel_rfl) (by kernel_rfl))) (d_int) (fun _ _ => rfl)) (d_var (pe_var (i := 1) rfl (Or.inl (by kernel_rfl)) (by kernel_rfl) (by kernel_rfl))))))))) (dss_one (ds_ret (d_bl))) (dss_nil)) (dss_one (ds_ret (d_and (d_fn G_is_within (hr.mono (by decide)) (gl (by kernel_rfl)) T.g_is_within F_is_within.kp (L2.FunD.bindsN F_is_within (ps := ["thing", "low", "high"]) (fun _ _ _ _ _ _ us hl => match us, hl with | [_, _, _], _ => rfl)) .nil (fun _ _ => reps_nil) rfl (al_cons (al_cons (al_cons (al_nil)))) (da_cons (d_ix (d_var (pe_var (i := 0) rfl (Or.inl (by kernel_rfl)) (by kernel_rfl) (by kernel_rfl))) (d_int) (fun _ _ => rfl)) (da_cons (d_int) (da_cons (d_c (pe_glob (v := .int 99999) (gl (by kernel_rfl)) i_MOST_MANY ⟨_, rfl⟩ (by kernel_rfl)) (fun _ _ => rep_int)) (da_nil)))) (by kernel_rfl)) (d_one (d_fn G_is_amount (hr.mono (by decide)) (gl (by kernel_rfl)) T.g_is_amount F_is_amount.kp (L2.FunD.bindsN F_is_amount (ps := ["thing"]) (fun _ _ _ _ _ _ us hl => match us, hl with | [_], _ => rfl)) .nil (fun _ _ => reps_nil) rfl (al_cons (al_nil)) (da_cons (d_ix (d_var (pe_var (i := 0) rfl (Or.inl (by kernel_rfl)) (by kernel_rfl) (by kernel_rfl))) (d_int) (fun _ _ => rfl)) (da_nil)) (by kernel_rfl))))))
theorem sc_check_outs : FnScope ["things", "earlier", "number", "thing"] ["things"] (defScope s_check_outs) := ⟨by kernel_rfl, by kernel_rfl, by kernel_rfl, by decide +kernel, rfl, by decide +kernel, by decide +kernel⟩
def b_check_outs : FS := sSeq (sIf (tNot1 (tV (eCall kIsi (aCons (eVar 0) (aCons (eTup (aCons (eC (.ty "list")) (aCons (eC (.ty "tuple")) (aNil)))) (aNil)))))) (sNever) (sNil)) (sSeq (sAsg (e2 kSub (eC (.int 0)) (eC (.int 1))) (gPt (.nm 1))) (sFor (iEnum (eVar 0)) (.tp [.nm 2, .nm 3]) (sSeq (sIf (tNot1 (tV (eFn m_is_out (aCons (eVar 3) (aCons (eVar 1) (aNil))) []))) (sNever) (sNil)) (sAsg (e2 kIx (eVar 3) (eC (.int 0))) (gPt (.nm 1))))))
def m_check_outs : FF := run0 true b_check_outs 4
theorem ok_check_outs (T : Txt K mg) {fd : FuncData} (F : FunD K "check_outs" "check_outs" (defArgs s_check_outs) (defBody s_check_outs) (defScope s_check_outs) [] [] (He.ga K "check_outs") fd) : FnOk P w K mg base CX0 5 (He.ga K "check_outs") fd ["things"] (SpD K (["things"] : List Str).length m_check_outs) := by
  obtain ⟨fd_is_out, F_is_out⟩ := T.F_is_out
  have G_is_out := ok_is_out (P := P) (w := w) (base := base) T F_is_out
  refine fn_D (b := true) F sc_check_outs (fun cdv A outer s H E hr => ?_)
  have hu := hr.units
  exact dss_cons (ds_if (t_not (t_val (d_callB opr_isi fit_isi (gl (by kernel_rfl)) T.b_isinstance (by kernel_rfl) (da_cons (d_var (pe_var (i := 0) rfl (Or.inl (by kernel_rfl)) (by kernel_rfl) (by kernel_rfl))) (da_cons (d_tup (da_cons (d_ty (T := "list") (gl (by kernel_rfl)) T.b_list (by kernel_rfl)) (da_cons (d_ty (T := "tuple") (gl (by kernel_rfl)) T.b_tuple (by kernel_rfl)) (da_nil)))) (da_nil))) (by decide) (by kernel_rfl)))) (dss_one (ds_never)) (dss_nil)) (dss_cons (ds_asg (d_sub (d_int) (d_int)) (dg_pt (pt_nm sc_check_outs.nd rfl (Or.inl (by kernel_rfl)) (Or.inl rfl))) (by kernel_rfl)) (dss_one (ds_for PassesOwn.never rfl (di_enum (gl (by kernel_rfl)) T.b_enumerate (d_var (pe_var (i := 0) rfl (Or.inl (by kernel_rfl)) (by kernel_rfl) (by kernel_rfl)))) (pg_tup rfl (pts_cons (pt_nm sc_check_outs.nd rfl (Or.inl (by kernel_rfl)) (Or.inl rfl)) (pts_cons (pt_nm sc_check_outs.nd rfl (Or.inl (by kernel_rfl)) (Or.inl rfl)) (pts_nil)))) (dss_cons (ds_if (t_not (t_val (d_fn G_is_out (hr.mono (by decide)) (gl (by kernel_rfl)) T.g_is_out F_is_out.kp (L2.FunD.bindsN F_is_out (ps := ["thing", "earlier"]) (fun _ _ _ _ _ _ us hl => match us, hl with | [_, _], _ => rfl)) .nil (fun _ _ => reps_nil) rfl (al_cons (al_cons (al_nil))) (da_cons (d_var (pe_var (i := 3) rfl (Or.inl (by kernel_rfl)) (by kernel_rfl) (by kernel_rfl))) (da_cons (d_var (pe_var (i := 1) rfl (Or.inl (by kernel_rfl)) (by kernel_rfl) (by kernel_rfl))) (da_nil))) (by kernel_rfl)))) (dss_one (ds_never)) (dss_nil)) (dss_one (ds_asg (d_ix (d_var (pe_var (i := 3) rfl (Or.inl (by kernel_rfl)) (by kernel_rfl) (by kernel_rfl))) (d_int) (fun _ _ => rfl)) (dg_pt (pt_nm sc_check_outs.nd rfl (Or.inl (by kernel_rfl)) (Or.inl rfl))) (by kernel_rfl)))))))
theorem sc_is_back : FnScope ["thing", "earlier"] ["thing", "earlier"] (defScope s_is_back) := ⟨by kernel_rfl, by kernel_rfl, by kernel_rfl, by decide +kernel, rfl, by decide +kernel, by decide +kernel⟩
def b_is_back : FS := sSeq (sIf (tOr2 (tNot1 (tV (eCall kIsi (aCons (eVar 0) (aCons (eC (.ty "tuple")) (aNil)))))) (tOr2 (tV (e2 kNe (eCall kLen (aCons (eVar 0) (aNil))) (eC (.int 2)))) (tOr2 (tNot1 (tV (eFn m_is_day (aCons (e2 kIx (eVar 0) (eC (.int 0))) (aNil)) []))) (tV (e2 kLt (e2 kIx (eVar 0) (eC (.int 0))) (eVar 1)))))) (sRet (eC (.bl false))) (sNil)) (sRet (eFn m_is_within (aCons (e2 kIx (eVar 0) (eC (.int 1))) (aCons (eC (.int 1)) (aCons (eC (.int 99999)) (aNil)))) []))
def m_is_back : FF := run0 true b_is_back 2
theorem ok_is_back (T : Txt K mg) {fd : FuncData} (F : FunD K "is_back" "is_back" (defArgs s_is_back) (defBody s_is_back) (defScope s_is_back) [] [] (He.ga K "is_back") fd) : FnOk P w K mg base CX0 4 (He.ga K "is_back") fd ["thing", "earlier"] (SpD K (["thing", "earlier"] : List Str).length m_is_back) := by
  obtain ⟨fd_is_day, F_is_day⟩ := T.F_is_day
  have G_is_day := ok_is_day (P := P) (w := w) (base := base) T F_is_day
  obtain ⟨fd_is_within, F_is_within⟩ := T.F_is_within
  have G_is_within := ok_is_within (P := P) (w := w) (base := base) T F_is_within
  obtain ⟨t_MOST_MANY, i_MOST_MANY⟩ := T.i_MOST_MANY
  refine fn_D (b := true) F sc_is_back (fun cdv A outer s H E hr => ?_)
  have hu := hr.units
  exact dss_cons (ds_if (t_w (dw_or (t_not (t_val (d_callB opr_isi fit_isi (gl (by kernel_rfl)) T.b_isinstance (by kernel_rfl) (da_cons (d_var (pe_var (i := 0) rfl (Or.inl (by kernel_rfl)) (by kernel_rfl) (by kernel_rfl))) (da_cons (d_ty (T := "tuple") (gl (by kernel_rfl)) T.b_tuple (by kernel_rfl)) (da_nil))) (by decide) (by kernel_rfl)))) (dw_or (t_ne hu (d_callB call_len fit_len (gl (by kernel_rfl)) T.b_len (by kernel_rfl) (da_cons (d_var (pe_var (i := 0) rfl (Or.inl (by kernel_rfl)) (by kernel_rfl) (by kernel_rfl))) (da_nil)) (by decide) (by kernel_rfl)) (d_int)) (dw_or (t_not (t_val (d_fn G_is_day (hr.mono (by decide)) (gl (by kernel_rfl)) T.g_is_day F_is_day.kp (L2.FunD.bindsN F_is_day (ps := ["thing"]) (fun _ _ _ _ _ _ us hl => match us, hl with | [_], _ => rfl)) .nil (fun _ _ => reps_nil) rfl (al_cons (al_nil)) (da_cons (d_ix (d_var (pe_var (i := 0) rfl (Or.inl (by kernel_rfl)) (by kernel_rfl) (by kernel_rfl))) (d_int) (fun _ _ => rfl)) (da_nil)) (by kernel_rfl)))) (dw_or1 (t_lt hu (d_ix (d_var (pe_var (i := 0) rfl (Or.inl (by kernel_rfl)) (by kernel_rfl) (by kernel_rfl))) (d_int) (fun _ _ => rfl)) (d_var (pe_var (i := 1) rfl (Or.inl (by kernel_rfl)) (by kernel_rfl) (by kernel_rfl))))))))) (dss_one (ds_ret (d_bl))) (dss_nil)) (dss_one (ds_ret (d_fn G_is_within (hr.mono (by decide)) (gl (by kernel_rfl)) T.g_is_within F_is_within.kp (L2.FunD.bindsN F_is_within (ps := ["thing", "low", "high"]) (fun _ _ _ _ _ _ us hl => match us, hl with | [_, _, _], _ => rfl)) .nil (fun _ _ => reps_nil) rfl (al_cons (al_cons (al_cons (al_nil)))) (da_cons (d_ix (d_var (pe_var (i := 0) rfl (Or.inl (by kernel_rfl)) (by kernel_rfl) (by kernel_rfl))) (d_int) (fun _ _ => rfl)) (da_cons (d_int) (da_cons (d_c (pe_glob (v := .int 99999) (gl (by kernel_rfl)) i_MOST_MANY ⟨_, rfl⟩ (by kernel_rfl)) (fun _ _ => rep_int)) (da_nil)))) (by kernel_rfl))))
theorem sc_check_backs : FnScope ["things", "earlier", "number", "thing"] ["things"] (defScope s_check_backs) := ⟨by kernel_rfl, by kernel_rfl, by kernel_rfl, by decide +kernel, rfl, by decide +kernel, by decide +kernel⟩
def b_check_backs : FS := sSeq (sIf (tNot1 (tV (eCall kIsi (aCons (eVar 0) (aCons (eTup (aCons (eC (.ty "list")) (aCons (eC (.ty "tuple")) (aNil)))) (aNil)))))) (sNever) (sNil)) (sSeq (sAsg (eC (.int 0)) (gPt (.nm 1))) (sFor (iEnum (eVar 0)) (.tp [.nm 2, .nm 3]) (sSeq (sIf (tNot1 (tV (eFn m_is_back (aCons (eVar 3) (aCons (eVar 1) (aNil))) []))) (sNever) (sNil)) (sAsg (e2 kIx (eVar 3) (eC (.int 0))) (gPt (.nm 1))))))
def m_check_backs : FF := run0 true b_check_backs 4
theorem ok_check_backs (T : Txt K mg) {fd : FuncData} (F : FunD K "check_backs" "check_backs" (defArgs s_check_backs) (defBody s_check_backs) (defScope s_check_backs) [] [] (He.ga K "check_backs") fd) : FnOk P w K mg base CX0 5 (He.ga K "check_backs") fd ["things"] (SpD K (["things"] : List Str).length m_check_backs) := by
  obtain ⟨fd_is_back, F_is_back⟩ := T.F_is_back
  have G_is_back := ok_is_back (P := P) (w := w) (base := base) T F_is_back
  refine fn_D (b := true) F sc_check_backs (fun cdv A outer s H E hr => ?_)
  have hu := hr.units
  exact dss_cons (ds_if (t_not (t_val (d_callB opr_isi fit_isi (gl (by kernel_rfl)) T.b_isinstance (by kernel_rfl) (da_cons (d_var (pe_var (i := 0) rfl (Or.inl (by kernel_rfl)) (by kernel_rfl) (by kernel_rfl))) (da_cons (d_tup (da_cons (d_ty (T := "list") (gl (by kernel_rfl)) T.b_list (by kernel_rfl)) (da_cons (d_ty (T := "tuple") (gl (by kernel_rfl)) T.b_tuple (by kernel_rfl)) (da_nil)))) (da_nil))) (by decide) (by kernel_rfl)))) (dss_one (ds_never)) (dss_nil)) (dss_cons (ds_asg (d_int) (dg_pt (pt_nm sc_check_backs.nd rfl (Or.inl (by kernel_rfl)) (Or.inl rfl))) (by kernel_rfl)) (dss_one (ds_for PassesOwn.never rfl (di_enum (gl (by kernel_rfl)) T.b_enumerate (d_var (pe_var (i := 0) rfl (Or.inl (by kernel_rfl)) (by kernel_rfl) (by kernel_rfl)))) (pg_tup rfl (pts_cons (pt_nm sc_check_backs.nd rfl (Or.inl (by kernel_rfl)) (Or.inl rfl)) (pts_cons (pt_nm sc_check_backs.nd rfl (Or.inl (by kernel_rfl)) (Or.inl rfl)) (pts_nil)))) (dss_cons (ds_if (t_not (t_val (d_fn G_is_back (hr.mono (by decide)) (gl (by kernel_rfl)) T.g_is_back F_is_back.kp (L2.FunD.bindsN F_is_back (ps := ["thing", "earlier"]) (fun _ _ _ _ _ _ us hl => match us, hl with | [_, _], _ => rfl)) .nil (fun _ _ => reps_nil) rfl (al_cons (al_cons (al_nil))) (da_cons (d_var (pe_var (i := 3) rfl (Or.inl (by kernel_rfl)) (by kernel_rfl) (by kernel_rfl))) (da_cons (d_var (pe_var (i := 1) rfl (Or.inl (by kernel_rfl)) (by kernel_rfl) (by kernel_rfl))) (da_nil))) (by kernel_rfl)))) (dss_one (ds_never)) (dss_nil)) (dss_one (ds_asg (d_ix (d_var (pe_var (i := 3) rfl (Or.inl (by kernel_rfl)) (by kernel_rfl) (by kernel_rfl))) (d_int) (fun _ _ => rfl)) (dg_pt (pt_nm sc_check_backs.nd rfl (Or.inl (by kernel_rfl)) (Or.inl rfl))) (by kernel_rfl)))))))
theorem sc_is_part : FnScope ["outs", "backs", "thing"] ["outs", "backs", "thing"] (defScope s_is_part) := ⟨by kernel_rfl, by kernel_rfl, by kernel_rfl, by decide +kernel, rfl, by decide +kernel, by decide +kernel⟩
def b_is_part : FS := sSeq (sIf (tOr2 (tNot1 (tV (eCall kIsi (aCons (eVar 2) (aCons (eC (.ty "tuple")) (aNil)))))) (tOr2 (tV (e2 kNe (eCall kLen (aCons (eVar 2) (aNil))) (eC (.int 3)))) (tNot1 (tV (eFn m_is_within (aCons (e2 kIx (eVar 2) (eC (.int 0))) (aCons (eC (.int 0)) (aCons (e2 kSub (eCall kLen (aCons (eVar 1) (aNil))) (eC (.int 1))) (aNil)))) []))))) (sRet (eC (.bl false))) (sNil)) (sSeq (sIf (tOr2 (tNot1 (tV (eFn m_is_within (aCons (e2 kIx (eVar 2) (eC (.int 1))) (aCons (eC (.int 0)) (aCons (e2 kSub (eCall kLen (aCons (eVar 0) (aNil))) (eC (.int 1))) (aNil)))) []))) (tNot1 (tV (eFn m_is_within (aCons (e2 kIx (eVar 2) (eC (.int 2))) (aCons (eC (.int 1)) (aCons (e2 kMul (eC (.int 99999)) (eCall kLen (aCons (eVar 0) (aNil)))) (aNil)))) [])))) (sRet (eC (.bl false))) (sNil)) (sRet (e2 kLe (e2 kIx (e2 kIx (eVar 0) (e2 kIx (eVar 2) (eC (.int 1)))) (eC (.int 0))) (e2 kIx (e2 kIx (eVar 1) (e2 kIx (eVar 2) (eC (.int 0)))) (eC (.int 0))))))
def m_is_part : FF := run0 true b_is_part 3
theorem ok_is_part (T : Txt K mg) {fd : FuncData} (F : FunD K "is_part" "is_part" (defArgs s_is_part) (defBody s_is_part) (defScope s_is_part) [] [] (He.ga K "is_part") fd) : FnOk P w K mg base CX0 3 (He.ga K "is_part") fd ["outs", "backs", "thing"] (SpD K (["outs", "backs", "thing"] : List Str).length m_is_part) := by
  obtain ⟨fd_is_within, F_is_within⟩ := T.F_is_within
  have G_is_within := ok_is_within (P := P) (w := w) (base := base) T F_is_within
  obtain ⟨t_MOST_MANY, i_MOST_MANY⟩ := T.i_MOST_MANY
  refine fn_D (b := true) F sc_is_part (fun cdv A outer s H E hr => ?_)
  have hu := hr.units
  exact dss_cons (ds_if (t_w (dw_or (t_not (t_val (d_callB opr_isi fit_isi (gl (by kernel_rfl)) T.b_isinstance (by kernel_rfl) (da_cons (d_var (pe_var (i := 2) rfl (Or.inl (by kernel_rfl)) (by kernel_rfl) (by kernel_rfl))) (da_cons (d_ty (T := "tuple") (gl (by kernel_rfl)) T.b_tuple (by kernel_rfl)) (da_nil))) (by decide) (by kernel_rfl)))) (dw_or (t_ne hu (d_callB call_len fit_len (gl (by kernel_rfl)) T.b_len (by kernel_rfl) (da_cons (d_var (pe_var (i := 2) rfl (Or.inl (by kernel_rfl)) (by kernel_rfl) (by kernel_rfl))) (da_nil)) (by decide) (by kernel_rfl)) (d_int)) (dw_or1 (t_not (t_val (d_fn G_is_within (hr.mono (by decide)) (gl (by kernel_rfl)) T.g_is_within F_is_within.kp (L2.FunD.bindsN F_is_within (ps := ["thing", "low", "high"]) (fun _ _ _ _ _ _ us hl => match us, hl with | [_, _, _], _ => rfl)) .nil (fun _ _ => reps_nil) rfl (al_cons (al_cons (al_cons (al_nil)))) (da_cons (d_ix (d_var (pe_var (i := 2) rfl (Or.inl (by kernel_rfl)) (by kernel_rfl) (by kernel_rfl))) (d_int) (fun _ _ => rfl)) (da_cons (d_int) (da_cons (d_sub (d_callB call_len fit_len (gl (by kernel_rfl)) T.b_len (by kernel_rfl) (da_cons (d_var (pe_var (i := 1) rfl (Or.inl (by kernel_rfl)) (by kernel_rfl) (by kernel_rfl))) (da_nil)) (by decide) (by kernel_rfl)) (d_int)) (da_nil)))) (by kernel_rfl)))))))) (dss_one (ds_ret (d_bl))) (dss_nil)) (dss_cons (ds_if (t_w (dw_or (t_not (t_val (d_fn G_is_within (hr.mono (by decide)) (gl (by kernel_rfl)) T.g_is_within F_is_within.kp (L2.FunD.bindsN F_is_within (ps := ["thing", "low", "high"]) (fun _ _ _ _ _ _ us hl => match us, hl with | [_, _, _], _ => rfl)) .nil (fun _ _ => reps_nil) rfl (al_cons (al_cons (al_cons (al_nil)))) (da_cons (d_ix (d_var (pe_var (i := 2) rfl (Or.inl (by kernel_rfl)) (by kernel_rfl) (by kernel_rfl))) (d_int) (fun _ _ => rfl)) (da_cons (d_int) (da_cons (d_sub (d_callB call_len fit_len (gl (by kernel_rfl)) T.b_len (by kernel_rfl) (da_cons (d_var (pe_var (i := 0) rfl (Or.inl (by kernel_rfl)) (by kernel_rfl) (by kernel_rfl))) (da_nil)) (by decide) (by kernel_rfl)) (d_int)) (da_nil)))) (by kernel_rfl)))) (dw_or1 (t_not (t_val (d_fn G_is_within (hr.mono (by decide)) (gl (by kernel_rfl)) T.g_is_within F_is_within.kp (L2.FunD.bindsN F_is_within (ps := ["thing", "low", "high"]) (fun _ _ _ _ _ _ us hl => match us, hl with | [_, _, _], _ => rfl)) .nil (fun _ _ => reps_nil) rfl (al_cons (al_cons (al_cons (al_nil)))) (da_cons (d_ix (d_var (pe_var (i := 2) rfl (Or.inl (by kernel_rfl)) (by kernel_rfl) (by kernel_rfl))) (d_int) (fun _ _ => rfl)) (da_cons (d_int) (da_cons (d_mul (d_c (pe_glob (v := .int 99999) (gl (by kernel_rfl)) i_MOST_MANY ⟨_, rfl⟩ (by kernel_rfl)) (fun _ _ => rep_int)) (d_callB call_len fit_len (gl (by kernel_rfl)) T.b_len (by kernel_rfl) (da_cons (d_var (pe_var (i := 0) rfl (Or.inl (by kernel_rfl)) (by kernel_rfl) (by kernel_rfl))) (da_nil)) (by decide) (by kernel_rfl))) (da_nil)))) (by kernel_rfl))))))) (dss_one (ds_ret (d_bl))) (dss_nil)) (dss_one (ds_ret (d_le hu (d_ix (d_ix (d_var (pe_var (i := 0) rfl (Or.inl (by kernel_rfl)) (by kernel_rfl) (by kernel_rfl))) (d_ix (d_var (pe_var (i := 2) rfl (Or.inl (by kernel_rfl)) (by kernel_rfl) (by kernel_rfl))) (d_int) (fun _ _ => rfl)) (fun _ _ => rfl)) (d_int) (fun _ _ => rfl)) (d_ix (d_ix (d_var (pe_var (i := 1) rfl (Or.inl (by kernel_rfl)) (by kernel_rfl) (by kernel_rfl))) (d_ix (d_var (pe_var (i := 2) rfl (Or.inl (by kernel_rfl)) (by kernel_rfl) (by kernel_rfl))) (d_int) (fun _ _ => rfl)) (fun _ _ => rfl)) (d_int) (fun _ _ => rfl))))))
theorem sc_deals_all : FnScope ["outs", "backs", "thing", "k", "out", "row", "part", "back"] ["outs", "backs", "thing"] (defScope s_deals_all) := ⟨by kernel_rfl, by kernel_rfl, by kernel_rfl, by decide +kernel, rfl, by decide +kernel, by decide +kernel⟩
def b_deals_all : FS := sSeq (sIf (tOr2 (tNot1 (tV (eCall kIsi (aCons (eVar 2) (aCons (eC (.ty "tuple")) (aNil)))))) (tNot1 (tV (eCall kAll (aCons (eComp (iSeq (eVar 2)) (.nm 6) (tYesD) (eFn m_is_part (aCons (eVar 0) (aCons (eVar 1) (aCons (eVar 6) (aNil)))) []) [6]) (aNil)))))) (sRet (eC (.bl false))) (sNil)) (sSeq (sIf (tNot1 (tV (eCall kAll (aCons (eComp (iRange1 (e2 kSub (eCall kLen (aCons (eVar 2) (aNil))) (eC (.int 1)))) (.nm 3) (tYesD) (e2 kLtO (eSl (e2 kIx (eVar 2) (eVar 3)) (oNone) (oSome (eC (.int 2)))) (eSl (e2 kIx (eVar 2) (e2 kAdd (eVar 3) (eC (.int 1)))) (oNone) (oSome (eC (.int 2))))) [3]) (aNil))))) (sRet (eC (.bl false))) (sNil)) (sSeq (sIf (tNot1 (tV (eCall kAll (aCons (eComp (iEnum (eVar 1)) (.tp [.nm 7, .nm 5]) (tYesD) (e2 kEq (e2 kIx (eVar 5) (eC (.int 1))) (eCall kSum (aCons (eComp (iSeq (eVar 2)) (.nm 6) (tV (e2 kEq (e2 kIx (eVar 6) (eC (.int 0))) (eVar 7))) (e2 kIx (eVar 6) (eC (.int 2))) [6]) (aNil)))) [7, 5]) (aNil))))) (sRet (eC (.bl false))) (sNil)) (sRet (eCall kAll (aCons (eComp (iEnum (eVar 0)) (.tp [.nm 4, .nm 5]) (tYesD) (e2 kGe (e2 kIx (eVar 5) (eC (.int 1))) (eCall kSum (aCons (eComp (iSeq (eVar 2)) (.nm 6) (tV (e2 kEq (e2 kIx (eVar 6) (eC (.int 1))) (eVar 4))) (e2 kIx (eVar 6) (eC (.int 2))) [6]) (aNil)))) [4, 5]) (aNil))))))
def m_deals_all : FF := run0 true b_deals_all 8
theorem ok_deals_all (T : Txt K mg) {fd : FuncData} (F : FunD K "deals_all" "deals_all" (defArgs s_deals_all) (defBody s_deals_all) (defScope s_deals_all) [] [] (He.ga K "deals_all") fd) : FnOk P w K mg base CX0 4 (He.ga K "deals_all") fd ["outs", "backs", "thing"] (SpD K (["outs", "backs", "thing"] : List Str).length m_deals_all) := by
  obtain ⟨fd_is_part, F_is_part⟩ := T.F_is_part
  have G_is_part := ok_is_part (P := P) (w := w) (base := base) T F_is_part
  refine fn_D (b := true) F sc_deals_all (fun cdv A outer s H E hr => ?_)
  have hu := hr.units
  exact dss_cons (ds_if (t_w (dw_or (t_not (t_val (d_callB opr_isi fit_isi (gl (by kernel_rfl)) T.b_isinstance (by kernel_rfl) (da_cons (d_var (pe_var (i := 2) rfl (Or.inr (Or.inl (by kernel_rfl))) (by kernel_rfl) (by kernel_rfl))) (da_cons (d_ty (T := "tuple") (gl (by kernel_rfl)) T.b_tuple (by kernel_rfl)) (da_nil))) (by decide) (by kernel_rfl)))) (dw_or1 (t_not (t_val (d_callB (cr_all rfl) fit_all (gl (by kernel_rfl)) T.b_all (by kernel_rfl) (da_cons (d_comp (own := [("part", 6)]) rfl sc_deals_all.nd (di_seq (d_var (pe_var (i := 2) rfl (Or.inr (Or.inl (by kernel_rfl))) (by kernel_rfl) (by kernel_rfl)))) (blkOk_by (by kernel_rfl)) (by simp [slotsP, slotsPs]) (fun _ _ _ _ _ => pt_nm sc_deals_all.nd rfl (Or.inl (by kernel_rfl)) (Or.inr (by kernel_rfl))) (fun _ _ _ _ _ => dts_nil) (fun _ _ _ _ _ => d_fn G_is_part (hr.mono (by decide)) (gl (by kernel_rfl)) T.g_is_part F_is_part.kp (L2.FunD.bindsN F_is_part (ps := ["outs", "backs", "thing"]) (fun _ _ _ _ _ _ us hl => match us, hl with | [_, _, _], _ => rfl)) .nil (fun _ _ => reps_nil) rfl (al_cons (al_cons (al_cons (al_nil)))) (da_cons (d_var (pe_var (i := 0) rfl (Or.inr (Or.inl (by kernel_rfl))) (by kernel_rfl) (by kernel_rfl))) (da_cons (d_var (pe_var (i := 1) rfl (Or.inr (Or.inl (by kernel_rfl))) (by kernel_rfl) (by kernel_rfl))) (da_cons (d_var (pe_var (i := 6) rfl (Or.inl (by kernel_rfl)) (by kernel_rfl) (by kernel_rfl))) (da_nil)))) (by kernel_rfl))) (da_nil)) (by decide) (by kernel_rfl))))))) (dss_one (ds_ret (d_bl))) (dss_nil)) (dss_cons (ds_if (t_not (t_val (d_callB (cr_all rfl) fit_all (gl (by kernel_rfl)) T.b_all (by kernel_rfl) (da_cons (d_comp (own := [("k", 3)]) rfl sc_deals_all.nd (di_range1 (gl (by kernel_rfl)) T.b_range (d_sub (d_callB call_len fit_len (gl (by kernel_rfl)) T.b_len (by kernel_rfl) (da_cons (d_var (pe_var (i := 2) rfl (Or.inr (Or.inl (by kernel_rfl))) (by kernel_rfl) (by kernel_rfl))) (da_nil)) (by decide) (by kernel_rfl)) (d_int))) (blkOk_by (by kernel_rfl)) (by simp [slotsP, slotsPs]) (fun _ _ _ _ _ => pt_nm sc_deals_all.nd rfl (Or.inl (by kernel_rfl)) (Or.inr (by kernel_rfl))) (fun _ _ _ _ _ => dts_nil) (fun _ _ _ _ _ => d_ltO hu (d_sl (d_ix (d_var (pe_var (i := 2) rfl (Or.inr (Or.inl (by kernel_rfl))) (by kernel_rfl) (by kernel_rfl))) (d_var (pe_var (i := 3) rfl (Or.inl (by kernel_rfl)) (by kernel_rfl) (by kernel_rfl))) (fun _ _ => rfl)) (do_none) (do_some (d_int))) (d_sl (d_ix (d_var (pe_var (i := 2) rfl (Or.inr (Or.inl (by kernel_rfl))) (by kernel_rfl) (by kernel_rfl))) (d_add (d_var (pe_var (i := 3) rfl (Or.inl (by kernel_rfl)) (by kernel_rfl) (by kernel_rfl))) (d_int)) (fun _ _ => rfl)) (do_none) (do_some (d_int))))) (da_nil)) (by decide) (by kernel_rfl)))) (dss_one (ds_ret (d_bl))) (dss_nil)) (dss_cons (ds_if (t_not (t_val (d_callB (cr_all rfl) fit_all (gl (by kernel_rfl)) T.b_all (by kernel_rfl) (da_cons (d_comp (own := [("back", 7), ("row", 5)]) rfl sc_deals_all.nd (di_enum (gl (by kernel_rfl)) T.b_enumerate (d_var (pe_var (i := 1) rfl (Or.inr (Or.inl (by kernel_rfl))) (by kernel_rfl) (by kernel_rfl)))) (blkOk_by (by kernel_rfl)) (by simp [slotsP, slotsPs]) (fun _ _ _ _ _ => pg_tup rfl (pts_cons (pt_nm sc_deals_all.nd rfl (Or.inr (by kernel_rfl)) (Or.inl (by kernel_rfl))) (pts_cons (pt_nm sc_deals_all.nd rfl (Or.inl (by kernel_rfl)) (Or.inr (by kernel_rfl))) (pts_nil)))) (fun _ _ _ _ _ => dts_nil) (fun _ _ _ _ _ => d_eq hu (d_ix (d_var (pe_var (i := 5) rfl (Or.inl (by kernel_rfl)) (by kernel_rfl) (by kernel_rfl))) (d_int) (fun _ _ => rfl)) (d_callB (cr_sum rfl) fit_sum (gl (by kernel_rfl)) T.b_sum (by kernel_rfl) (da_cons (d_comp (own := [("part", 6)]) rfl sc_deals_all.nd (di_seq (d_var (pe_var (i := 2) rfl (Or.inr (Or.inl (by kernel_rfl))) (by kernel_rfl) (by kernel_rfl)))) (blkOk_by (by kernel_rfl)) (by simp [slotsP, slotsPs]) (fun _ _ _ _ _ => pt_nm sc_deals_all.nd rfl (Or.inl (by kernel_rfl)) (Or.inr (by kernel_rfl))) (fun _ _ _ _ _ => pts_one' (t_eq hu (d_ix (d_var (pe_var (i := 6) rfl (Or.inl (by kernel_rfl)) (by kernel_rfl) (by kernel_rfl))) (d_int) (fun _ _ => rfl)) (d_var (pe_var (i := 7) rfl (Or.inr (Or.inl (by kernel_rfl))) (by kernel_rfl) (by kernel_rfl))))) (fun _ _ _ _ _ => d_ix (d_var (pe_var (i := 6) rfl (Or.inl (by kernel_rfl)) (by kernel_rfl) (by kernel_rfl))) (d_int) (fun _ _ => rfl))) (da_nil)) (by decide) (by kernel_rfl)))) (da_nil)) (by decide) (by kernel_rfl)))) (dss_one (ds_ret (d_bl))) (dss_nil)) (dss_one (ds_ret (d_callB (cr_all rfl) fit_all (gl (by kernel_rfl)) T.b_all (by kernel_rfl) (da_cons (d_comp (own := [("out", 4), ("row", 5)]) rfl sc_deals_all.nd (di_enum (gl (by kernel_rfl)) T.b_enumerate (d_var (pe_var (i := 0) rfl (Or.inr (Or.inl (by kernel_rfl))) (by kernel_rfl) (by kernel_rfl)))) (blkOk_by (by kernel_rfl)) (by simp [slotsP, slotsPs]) (fun _ _ _ _ _ => pg_tup rfl (pts_cons (pt_nm sc_deals_all.nd rfl (Or.inr (by kernel_rfl)) (Or.inl (by kernel_rfl))) (pts_cons (pt_nm sc_deals_all.nd rfl (Or.inl (by kernel_rfl)) (Or.inr (by kernel_rfl))) (pts_nil)))) (fun _ _ _ _ _ => dts_nil) (fun _ _ _ _ _ => d_ge hu (d_ix (d_var (pe_var (i := 5) rfl (Or.inl (by kernel_rfl)) (by kernel_rfl) (by kernel_rfl))) (d_int) (fun _ _ => rfl)) (d_callB (cr_sum rfl) fit_sum (gl (by kernel_rfl)) T.b_sum (by kernel_rfl) (da_cons (d_comp (own := [("part", 6)]) rfl sc_deals_all.nd (di_seq (d_var (pe_var (i := 2) rfl (Or.inr (Or.inl (by kernel_rfl))) (by kernel_rfl) (by kernel_rfl)))) (blkOk_by (by kernel_rfl)) (by simp [slotsP, slotsPs]) (fun _ _ _ _ _ => pt_nm sc_deals_all.nd rfl (Or.inl (by kernel_rfl)) (Or.inr (by kernel_rfl))) (fun _ _ _ _ _ => pts_one' (t_eq hu (d_ix (d_var (pe_var (i := 6) rfl (Or.inl (by kernel_rfl)) (by kernel_rfl) (by kernel_rfl))) (d_int) (fun _ _ => rfl)) (d_var (pe_var (i := 4) rfl (Or.inr (Or.inl (by kernel_rfl))) (by kernel_rfl) (by kernel_rfl))))) (fun _ _ _ _ _ => d_ix (d_var (pe_var (i := 6) rfl (Or.inl (by kernel_rfl)) (by kernel_rfl) (by kernel_rfl))) (d_int) (fun _ _ => rfl))) (da_nil)) (by decide) (by kernel_rfl)))) (da_nil)) (by decide) (by kernel_rfl))))))
theorem sc_is_dealing : FnScope ["outs", "backs", "thing"] ["outs", "backs", "thing"] (defScope s_is_dealing) := ⟨by kernel_rfl, by kernel_rfl, by kernel_rfl, by decide +kernel, rfl, by decide +kernel, by decide +kernel⟩
def b_is_dealing : FS := sSeq (sExpr (eFn m_check_outs (aCons (eVar 0) (aNil)) [])) (sSeq (sExpr (eFn m_check_backs (aCons (eVar 1) (aNil)) [])) (sRet (eFn m_deals_all (aCons (eVar 0) (aCons (eVar 1) (aCons (eVar 2) (aNil)))) [])))
def m_is_dealing : FF := run0 true b_is_dealing 3
theorem ok_is_dealing (T : Txt K mg) {fd : FuncData} (F : FunD K "is_dealing" "is_dealing" (defArgs s_is_dealing) (defBody s_is_dealing) (defScope s_is_dealing) [] [] (He.ga K "is_dealing") fd) : FnOk P w K mg base CX0 6 (He.ga K "is_dealing") fd ["outs", "backs", "thing"] (SpD K (["outs", "backs", "thing"] : List Str).length m_is_dealing) := by
  obtain ⟨fd_check_backs, F_check_backs⟩ := T.F_check_backs
  have G_check_backs := ok_check_backs (P := P) (w := w) (base := base) T F_check_backs
  obtain ⟨fd_check_outs, F_check_outs⟩ := T.F_check_outs
  have G_check_outs := ok_check_outs (P := P) (w := w) (base := base) T F_check_outs
  obtain ⟨fd_deals_all, F_deals_all⟩ := T.F_deals_all
  have G_deals_all := ok_deals_all (P := P) (w := w) (base := base) T F_deals_all
  refine fn_D (b := true) F sc_is_dealing (fun cdv A outer s H E hr => ?_)
  have hu := hr.units
  exact dss_cons (ds_expr (d_fn G_check_outs (hr.mono (by decide)) (gl (by kernel_rfl)) T.g_check_outs F_check_outs.kp (L2.FunD.bindsN F_check_outs (ps := ["things"]) (fun _ _ _ _ _ _ us hl => match us, hl with | [_], _ => rfl)) .nil (fun _ _ => reps_nil) rfl (al_cons (al_nil)) (da_cons (d_var (pe_var (i := 0) rfl (Or.inl (by kernel_rfl)) (by kernel_rfl) (by kernel_rfl))) (da_nil)) (by kernel_rfl))) (dss_cons (ds_expr (d_fn G_check_backs (hr.mono (by decide)) (gl (by kernel_rfl)) T.g_check_backs F_check_backs.kp (L2.FunD.bindsN F_check_backs (ps := ["things"]) (fun _ _ _ _ _ _ us hl => match us, hl with | [_], _ => rfl)) .nil (fun _ _ => reps_nil) rfl (al_cons (al_nil)) (da_cons (d_var (pe_var (i := 1) rfl (Or.inl (by kernel_rfl)) (by kernel_rfl) (by kernel_rfl))) (da_nil)) (by kernel_rfl))) (dss_one (ds_ret (d_fn G_deals_all (hr.mono (by decide)) (gl (by kernel_rfl)) T.g_deals_all F_deals_all.kp (L2.FunD.bindsN F_deals_all (ps := ["outs", "backs", "thing"]) (fun _ _ _ _ _ _ us hl => match us, hl with | [_, _, _], _ => rfl)) .nil (fun _ _ => reps_nil) rfl (al_cons (al_cons (al_cons (al_nil)))) (da_cons (d_var (pe_var (i := 0) rfl (Or.inl (by kernel_rfl)) (by kernel_rfl) (by kernel_rfl))) (da_cons (d_var (pe_var (i := 1) rfl (Or.inl (by kernel_rfl)) (by kernel_rfl) (by kernel_rfl))) (da_cons (d_var (pe_var (i := 2) rfl (Or.inl (by kernel_rfl)) (by kernel_rfl) (by kernel_rfl))) (da_nil)))) (by kernel_rfl)))))
theorem sc_law_right : FnScope ["_law_purse_here", "_law_sent", "_law_came", "_law_good", "_law_some", "_law_lines", "_law_it", "_law_far", "_law_beyond", "_law_most", "_law_much", "_law_way", "_law_told", "_law_turn", "_law_row"] ["_law_purse_here"] (defScope s_law_right) := ⟨by kernel_rfl, by kernel_rfl, by kernel_rfl, by decide +kernel, rfl, by decide +kernel, by decide +kernel⟩
def b_law_right : FS := sSeq (sPar (aCons (e2 kIx (eLst (aCons (eC (.int 7)) (aCons (eC (.int 19)) (aNil)))) (eCall kInt (aCons (e2 kEq (eFn m_law_take (aCons (eVar 0) (aCons (eC (.int 8)) (aNil))) []) (eC (.int 3))) (aNil)))) (aCons (e2 kIx (eLst (aCons (eC (.int 4)) (aCons (eC (.int 40)) (aCons (eC (.int 999)) (aNil))))) (eFn m_law_take (aCons (eVar 0) (aCons (eC (.int 3)) (aNil))) [])) (aCons (eFn m_law_take (aCons (eVar 0) (aCons (eC (.int 3)) (aNil))) []) (aNil)))) [9, 10, 11]) (sSeq (sAsg (eFn m_law_outs (aCons (eVar 0) (aCons (eFn m_law_take (aCons (eVar 0) (aCons (eVar 9) (aNil))) []) (aCons (eVar 10) (aNil)))) []) (gPt (.nm 1))) (sSeq (sAsg (eFn m_law_backs (aCons (eVar 0) (aCons (eVar 1) (aCons (eFn m_law_take (aCons (eVar 0) (aCons (eVar 9) (aNil))) []) (aNil)))) []) (gPt (.nm 2))) (sSeq (sAsg (eFn m_law_dealt (aCons (eVar 1) (aCons (eVar 2) (aCons (eFn m_law_any_ranks (aCons (eVar 0) (aCons (eVar 1) (aNil))) []) (aNil)))) []) (gPt (.nm 3))) (sSeq (sAsg (e2 kAdd (eLst (aCons (eVar 3) (aCons (eFn m_law_moved (aCons (eVar 0) (aCons (eVar 3) (aCons (eVar 1) (aNil)))) []) (aNil)))) (eComp (iRange1 (eC (.int 6))) (.nm 13) (tYesD) (eFn (m_law_bent 4) (aCons (eVar 0) (aCons (eVar 3) (aNil))) []) [13])) (gPt (.nm 4))) (sSeq (sAsg (e2 kIx (eLst (aCons (eVar 1) (aCons (eCall kTuple (aCons (eVar 1) (aNil))) (aNil)))) (e2 kMod (eVar 11) (eC (.int 2)))) (gPt (.nm 5))) (sSeq (sFor (iSeq (e2 kAdd (eVar 4) (eLst (aCons (eTup (aNil)) (aCons (eC .non) (aCons (e2 kAdd (eVar 3) (eSl (eVar 3) (oNone) (oSome (eC (.int 1))))) (aNil))))))) (.nm 6) (sSeq (sIf (tV (e2 kLt (eVar 11) (eC (.int 2)))) (sAsg (eFn m_is_dealing (aCons (eVar 5) (aCons (eCall kTuple (aCons (eVar 2) (aNil))) (aCons (eVar 6) (aNil)))) []) (gPt (.nm 12))) (sAsg (eFnK m_is_dealing aNil (aCons (eVar 6) (aCons (eVar 2) (aCons (eVar 5) (aNil)))) (@kw0)) (gPt (.nm 12)))) (sIf (tOr2 (tNot1 (tV (eCall kIsi (aCons (eVar 12) (aCons (eC (.ty "bool")) (aNil)))))) (tV (e2 kNe (eVar 12) (eFn m_law_is_dealing (aCons (eVar 1) (aCons (eVar 2) (aCons (eVar 6) (aNil)))) [])))) (sRet (eC (.bl false))) (sNil)))) (sSeq (sAsg (eCall kMaxL (aCons (e2 kAdd (eComp (iSeq (e2 kAdd (eVar 1) (eVar 2))) (.nm 14) (tYesD) (e2 kIx (eVar 14) (eC (.int 0))) [14]) (eLst (aCons (eC (.int 5)) (aNil)))) (aNil))) (gPt (.nm 7))) (sSeq (sAsg (e2 kAdd (eVar 2) (eLst (aCons (eTup (aCons (eVar 7) (aCons (e2 kSub (e2 kAdd (eCall kSum (aCons (eComp (iSeq (eVar 1)) (.nm 14) (tYesD) (e2 kIx (eVar 14) (eC (.int 1))) [14]) (aNil))) (eC (.int 1))) (eCall kSum (aCons (eComp (iSeq (eVar 2)) (.nm 14) (tYesD) (e2 kIx (eVar 14) (eC (.int 1))) [14]) (aNil)))) (aNil)))) (aNil)))) (gPt (.nm 8))) (sSeq (sIf (tV (eCall kAny (aCons (eComp (iSeq (eVar 4)) (.nm 6) (tYesD) (e2 (kIsB true) (eFn m_is_dealing (aCons (eVar 1) (aCons (eVar 8) (aCons (eVar 6) (aNil)))) []) (eC (.bl false))) [6]) (aNil)))) (sRet (eC (.bl false))) (sNil)) (sRet (bAnd (eFn m_law_is_dealing (aCons (eVar 1) (aCons (eVar 2) (aCons (eVar 3) (aNil)))) []) (e2 kEq (eCall kList (aCons (eVar 5) (aNil))) (eVar 1)))))))))))))
def m_law_right : FF := run0 true b_law_right 15
theorem ok_law_right (T : Txt K mg) {fd : FuncData} (F : FunD K "_law_right" "_law_right" (defArgs s_law_right) (defBody s_law_right) (defScope s_law_right) [] [] (He.ga K "_law_right") fd) : FnOk P w K mg base CX0 7 (He.ga K "_law_right") fd ["_law_purse_here"] (SpD K (["_law_purse_here"] : List Str).length m_law_right) := by
  obtain ⟨fd_law_any_ranks, F_law_any_ranks⟩ := T.F_law_any_ranks
  have G_law_any_ranks := ok_law_any_ranks (P := P) (w := w) (base := base) T F_law_any_ranks
  obtain ⟨fd_law_backs, F_law_backs⟩ := T.F_law_backs
  have G_law_backs := ok_law_backs (P := P) (w := w) (base := base) T F_law_backs
  obtain ⟨fd_law_bent, F_law_bent⟩ := T.F_law_bent
  have G_law_bent := ok_law_bent (P := P) (w := w) (base := base) 4 T F_law_bent
  obtain ⟨fd_law_dealt, F_law_dealt⟩ := T.F_law_dealt
  have G_law_dealt := ok_law_dealt (P := P) (w := w) (base := base) T F_law_dealt
  obtain ⟨fd_law_is_dealing, F_law_is_dealing⟩ := T.F_law_is_dealing
  have G_law_is_dealing := ok_law_is_dealing (P := P) (w := w) (base := base) T F_law_is_dealing
  obtain ⟨fd_law_moved, F_law_moved⟩ := T.F_law_moved
  have G_law_moved := ok_law_moved (P := P) (w := w) (base := base) T F_law_moved
  obtain ⟨fd_law_outs, F_law_outs⟩ := T.F_law_outs
  have G_law_outs := ok_law_outs (P := P) (w := w) (base := base) T F_law_outs
  obtain ⟨fd_law_take, F_law_take⟩ := T.F_law_take
  have G_law_take := ok_law_take (P := P) (w := w) (base := base) T F_law_take
  obtain ⟨fd_is_dealing, F_is_dealing⟩ := T.F_is_dealing
  have G_is_dealing := ok_is_dealing (P := P) (w := w) (base := base) T F_is_dealing
  refine fn_D (b := true) F sc_law_right (fun cdv A outer s H E hr => ?_)
  have hu := hr.units
  exact dss_cons (ds_par3 (i := 9) (j := 10) (l := 11) rfl sc_law_right.nd rfl rfl rfl (by decide) (by decide) (by decide) (by kernel_rfl) (by kernel_rfl) (by kernel_rfl) (da_cons (d_ix (d_lst (da_cons (d_int) (da_cons (d_int) (da_nil)))) (d_callT call_int1 fit_int (gl (by kernel_rfl)) T.b_int (by kernel_rfl) (da_cons (d_eq hu (d_fn G_law_take (hr.mono (by decide)) (gl (by kernel_rfl)) T.g_law_take F_law_take.kp (L2.FunD.bindsN F_law_take (ps := ["_law_purse_here", "_law_many"]) (fun _ _ _ _ _ _ us hl => match us, hl with | [_, _], _ => rfl)) .nil (fun _ _ => reps_nil) rfl (al_cons (al_cons (al_nil))) (da_cons (d_var (pe_var (i := 0) rfl (Or.inr (Or.inl (by kernel_rfl))) (by kernel_rfl) (by kernel_rfl))) (da_cons (d_int) (da_nil))) (by kernel_rfl)) (d_int)) (da_nil)) (by decide) (by kernel_rfl)) (fun _ _ => rfl)) (da_cons (d_ix (d_lst (da_cons (d_int) (da_cons (d_int) (da_cons (d_int) (da_nil))))) (d_fn G_law_take (hr.mono (by decide)) (gl (by kernel_rfl)) T.g_law_take F_law_take.kp (L2.FunD.bindsN F_law_take (ps := ["_law_purse_here", "_law_many"]) (fun _ _ _ _ _ _ us hl => match us, hl with | [_, _], _ => rfl)) .nil (fun _ _ => reps_nil) rfl (al_cons (al_cons (al_nil))) (da_cons (d_var (pe_var (i := 0) rfl (Or.inr (Or.inl (by kernel_rfl))) (by kernel_rfl) (by kernel_rfl))) (da_cons (d_int) (da_nil))) (by kernel_rfl)) (fun _ _ => rfl)) (da_cons (d_fn G_law_take (hr.mono (by decide)) (gl (by kernel_rfl)) T.g_law_take F_law_take.kp (L2.FunD.bindsN F_law_take (ps := ["_law_purse_here", "_law_many"]) (fun _ _ _ _ _ _ us hl => match us, hl with | [_, _], _ => rfl)) .nil (fun _ _ => reps_nil) rfl (al_cons (al_cons (al_nil))) (da_cons (d_var (pe_var (i := 0) rfl (Or.inr (Or.inl (by kernel_rfl))) (by kernel_rfl) (by kernel_rfl))) (da_cons (d_int) (da_nil))) (by kernel_rfl)) (da_nil)))) (by kernel_rfl)) (dss_cons (ds_asg (d_fn G_law_outs (hr.mono (by decide)) (gl (by kernel_rfl)) T.g_law_outs F_law_outs.kp (L2.FunD.bindsN F_law_outs (ps := ["_law_purse_here", "_law_many", "_law_most"]) (fun _ _ _ _ _ _ us hl => match us, hl with | [_, _, _], _ => rfl)) .nil (fun _ _ => reps_nil) rfl (al_cons (al_cons (al_cons (al_nil)))) (da_cons (d_var (pe_var (i := 0) rfl (Or.inr (Or.inl (by kernel_rfl))) (by kernel_rfl) (by kernel_rfl))) (da_cons (d_fn G_law_take (hr.mono (by decide)) (gl (by kernel_rfl)) T.g_law_take F_law_take.kp (L2.FunD.bindsN F_law_take (ps := ["_law_purse_here", "_law_many"]) (fun _ _ _ _ _ _ us hl => match us, hl with | [_, _], _ => rfl)) .nil (fun _ _ => reps_nil) rfl (al_cons (al_cons (al_nil))) (da_cons (d_var (pe_var (i := 0) rfl (Or.inr (Or.inl (by kernel_rfl))) (by kernel_rfl) (by kernel_rfl))) (da_cons (d_var (pe_var (i := 9) rfl (Or.inl (by kernel_rfl)) (by kernel_rfl) (by kernel_rfl))) (da_nil))) (by kernel_rfl)) (da_cons (d_var (pe_var (i := 10) rfl (Or.inl (by kernel_rfl)) (by kernel_rfl) (by kernel_rfl))) (da_nil)))) (by kernel_rfl)) (dg_pt (pt_nm sc_law_right.nd rfl (Or.inr (by kernel_rfl)) (Or.inl rfl))) (by kernel_rfl)) (dss_cons (ds_asg (d_fn G_law_backs (hr.mono (by decide)) (gl (by kernel_rfl)) T.g_law_backs F_law_backs.kp (L2.FunD.bindsN F_law_backs (ps := ["_law_purse_here", "_law_sent", "_law_many"]) (fun _ _ _ _ _ _ us hl => match us, hl with | [_, _, _], _ => rfl)) .nil (fun _ _ => reps_nil) rfl (al_cons (al_cons (al_cons (al_nil)))) (da_cons (d_var (pe_var (i := 0) rfl (Or.inr (Or.inl (by kernel_rfl))) (by kernel_rfl) (by kernel_rfl))) (da_cons (d_var (pe_var (i := 1) rfl (Or.inr (Or.inl (by kernel_rfl))) (by kernel_rfl) (by kernel_rfl))) (da_cons (d_fn G_law_take (hr.mono (by decide)) (gl (by kernel_rfl)) T.g_law_take F_law_take.kp (L2.FunD.bindsN F_law_take (ps := ["_law_purse_here", "_law_many"]) (fun _ _ _ _ _ _ us hl => match us, hl with | [_, _], _ => rfl)) .nil (fun _ _ => reps_nil) rfl (al_cons (al_cons (al_nil))) (da_cons (d_var (pe_var (i := 0) rfl (Or.inr (Or.inl (by kernel_rfl))) (by kernel_rfl) (by kernel_rfl))) (da_cons (d_var (pe_var (i := 9) rfl (Or.inl (by kernel_rfl)) (by kernel_rfl) (by kernel_rfl))) (da_nil))) (by kernel_rfl)) (da_nil)))) (by kernel_rfl)) (dg_pt (pt_nm sc_law_right.nd rfl (Or.inl (by kernel_rfl)) (Or.inl rfl))) (by kernel_rfl)) (dss_cons (ds_asg (d_fn G_law_dealt (hr.mono (by decide)) (gl (by kernel_rfl)) T.g_law_dealt F_law_dealt.kp (L2.FunD.bindsN F_law_dealt (ps := ["_law_sent", "_law_came", "_law_ranks"]) (fun _ _ _ _ _ _ us hl => match us, hl with | [_, _, _], _ => rfl)) .nil (fun _ _ => reps_nil) rfl (al_cons (al_cons (al_cons (al_nil)))) (da_cons (d_var (pe_var (i := 1) rfl (Or.inr (Or.inl (by kernel_rfl))) (by kernel_rfl) (by kernel_rfl))) (da_cons (d_var (pe_var (i := 2) rfl (Or.inl (by kernel_rfl)) (by kernel_rfl) (by kernel_rfl))) (da_cons (d_fn G_law_any_ranks (hr.mono (by decide)) (gl (by kernel_rfl)) T.g_law_any_ranks F_law_any_ranks.kp (L2.FunD.bindsN F_law_any_ranks (ps := ["_law_purse_here", "_law_sent"]) (fun _ _ _ _ _ _ us hl => match us, hl with | [_, _], _ => rfl)) .nil (fun _ _ => reps_nil) rfl (al_cons (al_cons (al_nil))) (da_cons (d_var (pe_var (i := 0) rfl (Or.inr (Or.inl (by kernel_rfl))) (by kernel_rfl) (by kernel_rfl))) (da_cons (d_var (pe_var (i := 1) rfl (Or.inr (Or.inl (by kernel_rfl))) (by kernel_rfl) (by kernel_rfl))) (da_nil))) (by kernel_rfl)) (da_nil)))) (by kernel_rfl)) (dg_pt (pt_nm sc_law_right.nd rfl (Or.inr (by kernel_rfl)) (Or.inl rfl))) (by kernel_rfl)) (dss_cons (ds_asg (d_add (d_lst (da_cons (d_var (pe_var (i := 3) rfl (Or.inr (Or.inl (by kernel_rfl))) (by kernel_rfl) (by kernel_rfl))) (da_cons (d_fn G_law_moved (hr.mono (by decide)) (gl (by kernel_rfl)) T.g_law_moved F_law_moved.kp (L2.FunD.bindsN F_law_moved (ps := ["_law_purse_here", "_law_deal_of", "_law_sent"]) (fun _ _ _ _ _ _ us hl => match us, hl with | [_, _, _], _ => rfl)) .nil (fun _ _ => reps_nil) rfl (al_cons (al_cons (al_cons (al_nil)))) (da_cons (d_var (pe_var (i := 0) rfl (Or.inr (Or.inl (by kernel_rfl))) (by kernel_rfl) (by kernel_rfl))) (da_cons (d_var (pe_var (i := 3) rfl (Or.inr (Or.inl (by kernel_rfl))) (by kernel_rfl) (by kernel_rfl))) (da_cons (d_var (pe_var (i := 1) rfl (Or.inr (Or.inl (by kernel_rfl))) (by kernel_rfl) (by kernel_rfl))) (da_nil)))) (by kernel_rfl)) (da_nil)))) (d_comp (own := [("_law_turn", 13)]) rfl sc_law_right.nd (di_range1 (gl (by kernel_rfl)) T.b_range (d_int)) (blkOk_by (by kernel_rfl)) (by simp [slotsP, slotsPs]) (fun _ _ _ _ _ => pt_nm sc_law_right.nd rfl (Or.inl (by kernel_rfl)) (Or.inr (by kernel_rfl))) (fun _ _ _ _ _ => dts_nil) (fun _ _ _ _ _ => d_fn G_law_bent (hr.mono (by decide)) (gl (by kernel_rfl)) T.g_law_bent F_law_bent.kp (L2.FunD.bindsN F_law_bent (ps := ["_law_purse_here", "_law_old"]) (fun _ _ _ _ _ _ us hl => match us, hl with | [_, _], _ => rfl)) .nil (fun _ _ => reps_nil) rfl (al_cons (al_cons (al_nil))) (da_cons (d_var (pe_var (i := 0) rfl (Or.inr (Or.inl (by kernel_rfl))) (by kernel_rfl) (by kernel_rfl))) (da_cons (d_var (pe_var (i := 3) rfl (Or.inr (Or.inl (by kernel_rfl))) (by kernel_rfl) (by kernel_rfl))) (da_nil))) (by kernel_rfl)))) (dg_pt (pt_nm sc_law_right.nd rfl (Or.inl (by kernel_rfl)) (Or.inl rfl))) (by kernel_rfl)) (dss_cons (ds_asg (d_ix (d_lst (da_cons (d_var (pe_var (i := 1) rfl (Or.inr (Or.inl (by kernel_rfl))) (by kernel_rfl) (by kernel_rfl))) (da_cons (d_callT call_tuple_of fit_tuple (gl (by kernel_rfl)) T.b_tuple (by kernel_rfl) (da_cons (d_var (pe_var (i := 1) rfl (Or.inr (Or.inl (by kernel_rfl))) (by kernel_rfl) (by kernel_rfl))) (da_nil)) (by decide) (by kernel_rfl)) (da_nil)))) (d_mod (d_var (pe_var (i := 11) rfl (Or.inl (by kernel_rfl)) (by kernel_rfl) (by kernel_rfl))) (d_int)) (fun _ _ => rfl)) (dg_pt (pt_nm sc_law_right.nd rfl (Or.inl (by kernel_rfl)) (Or.inl rfl))) (by kernel_rfl)) (dss_cons (ds_for PassesOwn.never rfl (di_seq (d_add (d_var (pe_var (i := 4) rfl (Or.inl (by kernel_rfl)) (by kernel_rfl) (by kernel_rfl))) (d_lst (da_cons (d_tup (da_nil)) (da_cons (d_non) (da_cons (d_add (d_var (pe_var (i := 3) rfl (Or.inr (Or.inl (by kernel_rfl))) (by kernel_rfl) (by kernel_rfl))) (d_sl (d_var (pe_var (i := 3) rfl (Or.inr (Or.inl (by kernel_rfl))) (by kernel_rfl) (by kernel_rfl))) (do_none) (do_some (d_int)))) (da_nil))))))) (pt_nm sc_law_right.nd rfl (Or.inl (by kernel_rfl)) (Or.inl rfl)) (dss_cons (ds_if (t_lt hu (d_var (pe_var (i := 11) rfl (Or.inl (by kernel_rfl)) (by kernel_rfl) (by kernel_rfl))) (d_int)) (dss_one (ds_asg (d_fn G_is_dealing (hr.mono (by decide)) (gl (by kernel_rfl)) T.g_is_dealing F_is_dealing.kp (L2.FunD.bindsN F_is_dealing (ps := ["outs", "backs", "thing"]) (fun _ _ _ _ _ _ us hl => match us, hl with | [_, _, _], _ => rfl)) .nil (fun _ _ => reps_nil) rfl (al_cons (al_cons (al_cons (al_nil)))) (da_cons (d_var (pe_var (i := 5) rfl (Or.inl (by kernel_rfl)) (by kernel_rfl) (by kernel_rfl))) (da_cons (d_callT call_tuple_of fit_tuple (gl (by kernel_rfl)) T.b_tuple (by kernel_rfl) (da_cons (d_var (pe_var (i := 2) rfl (Or.inl (by kernel_rfl)) (by kernel_rfl) (by kernel_rfl))) (da_nil)) (by decide) (by kernel_rfl)) (da_cons (d_var (pe_var (i := 6) rfl (Or.inl (by kernel_rfl)) (by kernel_rfl) (by kernel_rfl))) (da_nil)))) (by kernel_rfl)) (dg_pt (pt_nm sc_law_right.nd rfl (Or.inl (by kernel_rfl)) (Or.inl rfl))) (by kernel_rfl))) (dss_one (ds_asg (d_fnK0 (t := @kw0) mix_kw0 rfl G_is_dealing (hr.mono (by decide)) (gl (by kernel_rfl)) T.g_is_dealing F_is_dealing.kp (kb_kw0 F_is_dealing) al_n3 (dk_cons (d_var (pe_var (i := 6) rfl (Or.inl (by kernel_rfl)) (by kernel_rfl) (by kernel_rfl))) (dk_cons (d_var (pe_var (i := 2) rfl (Or.inl (by kernel_rfl)) (by kernel_rfl) (by kernel_rfl))) (dk_cons (d_var (pe_var (i := 5) rfl (Or.inl (by kernel_rfl)) (by kernel_rfl) (by kernel_rfl))) (dk_nil)))) (by kernel_rfl) (by kernel_rfl) (by kernel_rfl)) (dg_pt (pt_nm sc_law_right.nd rfl (Or.inl (by kernel_rfl)) (Or.inl rfl))) (by kernel_rfl)))) (dss_one (ds_if (t_w (dw_or (t_not (t_val (d_callB opr_isi fit_isi (gl (by kernel_rfl)) T.b_isinstance (by kernel_rfl) (da_cons (d_var (pe_var (i := 12) rfl (Or.inl (by kernel_rfl)) (by kernel_rfl) (by kernel_rfl))) (da_cons (d_ty (T := "bool") (gl (by kernel_rfl)) T.b_bool (by kernel_rfl)) (da_nil))) (by decide) (by kernel_rfl)))) (dw_or1 (t_ne hu (d_var (pe_var (i := 12) rfl (Or.inl (by kernel_rfl)) (by kernel_rfl) (by kernel_rfl))) (d_fn G_law_is_dealing (hr.mono (by decide)) (gl (by kernel_rfl)) T.g_law_is_dealing F_law_is_dealing.kp (L2.FunD.bindsN F_law_is_dealing (ps := ["_law_sent", "_law_came", "_law_it"]) (fun _ _ _ _ _ _ us hl => match us, hl with | [_, _, _], _ => rfl)) .nil (fun _ _ => reps_nil) rfl (al_cons (al_cons (al_cons (al_nil)))) (da_cons (d_var (pe_var (i := 1) rfl (Or.inr (Or.inl (by kernel_rfl))) (by kernel_rfl) (by kernel_rfl))) (da_cons (d_var (pe_var (i := 2) rfl (Or.inl (by kernel_rfl)) (by kernel_rfl) (by kernel_rfl))) (da_cons (d_var (pe_var (i := 6) rfl (Or.inl (by kernel_rfl)) (by kernel_rfl) (by kernel_rfl))) (da_nil)))) (by kernel_rfl)))))) (dss_one (ds_ret (d_bl))) (dss_nil))))) (dss_cons (ds_asg (d_callB (cr_max rfl) fit_maxL (gl (by kernel_rfl)) T.b_max (by kernel_rfl) (da_cons (d_add (d_comp (own := [("_law_row", 14)]) rfl sc_law_right.nd (di_seq (d_add (d_var (pe_var (i := 1) rfl (Or.inr (Or.inl (by kernel_rfl))) (by kernel_rfl) (by kernel_rfl))) (d_var (pe_var (i := 2) rfl (Or.inl (by kernel_rfl)) (by kernel_rfl) (by kernel_rfl))))) (blkOk_by (by kernel_rfl)) (by simp [slotsP, slotsPs]) (fun _ _ _ _ _ => pt_nm sc_law_right.nd rfl (Or.inl (by kernel_rfl)) (Or.inr (by kernel_rfl))) (fun _ _ _ _ _ => dts_nil) (fun _ _ _ _ _ => d_ix (d_var (pe_var (i := 14) rfl (Or.inl (by kernel_rfl)) (by kernel_rfl) (by kernel_rfl))) (d_int) (fun _ _ => rfl))) (d_lst (da_cons (d_int) (da_nil)))) (da_nil)) (by decide) (by kernel_rfl)) (dg_pt (pt_nm sc_law_right.nd rfl (Or.inl (by kernel_rfl)) (Or.inl rfl))) (by kernel_rfl)) (dss_cons (ds_asg (d_add (d_var (pe_var (i := 2) rfl (Or.inl (by kernel_rfl)) (by kernel_rfl) (by kernel_rfl))) (d_lst (da_cons (d_tup (da_cons (d_var (pe_var (i := 7) rfl (Or.inl (by kernel_rfl)) (by kernel_rfl) (by kernel_rfl))) (da_cons (d_sub (d_add (d_callB (cr_sum rfl) fit_sum (gl (by kernel_rfl)) T.b_sum (by kernel_rfl) (da_cons (d_comp (own := [("_law_row", 14)]) rfl sc_law_right.nd (di_seq (d_var (pe_var (i := 1) rfl (Or.inr (Or.inl (by kernel_rfl))) (by kernel_rfl) (by kernel_rfl)))) (blkOk_by (by kernel_rfl)) (by simp [slotsP, slotsPs]) (fun _ _ _ _ _ => pt_nm sc_law_right.nd rfl (Or.inl (by kernel_rfl)) (Or.inr (by kernel_rfl))) (fun _ _ _ _ _ => dts_nil) (fun _ _ _ _ _ => d_ix (d_var (pe_var (i := 14) rfl (Or.inl (by kernel_rfl)) (by kernel_rfl) (by kernel_rfl))) (d_int) (fun _ _ => rfl))) (da_nil)) (by decide) (by kernel_rfl)) (d_int)) (d_callB (cr_sum rfl) fit_sum (gl (by kernel_rfl)) T.b_sum (by kernel_rfl) (da_cons (d_comp (own := [("_law_row", 14)]) rfl sc_law_right.nd (di_seq (d_var (pe_var (i := 2) rfl (Or.inl (by kernel_rfl)) (by kernel_rfl) (by kernel_rfl)))) (blkOk_by (by kernel_rfl)) (by simp [slotsP, slotsPs]) (fun _ _ _ _ _ => pt_nm sc_law_right.nd rfl (Or.inl (by kernel_rfl)) (Or.inr (by kernel_rfl))) (fun _ _ _ _ _ => dts_nil) (fun _ _ _ _ _ => d_ix (d_var (pe_var (i := 14) rfl (Or.inl (by kernel_rfl)) (by kernel_rfl) (by kernel_rfl))) (d_int) (fun _ _ => rfl))) (da_nil)) (by decide) (by kernel_rfl))) (da_nil)))) (da_nil)))) (dg_pt (pt_nm sc_law_right.nd rfl (Or.inr (by kernel_rfl)) (Or.inl rfl))) (by kernel_rfl)) (dss_cons (ds_if (t_val (d_callB (cr_any rfl) fit_any (gl (by kernel_rfl)) T.b_any (by kernel_rfl) (da_cons (d_comp (own := [("_law_it", 6)]) rfl sc_law_right.nd (di_seq (d_var (pe_var (i := 4) rfl (Or.inl (by kernel_rfl)) (by kernel_rfl) (by kernel_rfl)))) (blkOk_by (by kernel_rfl)) (by simp [slotsP, slotsPs]) (fun _ _ _ _ _ => pt_nm sc_law_right.nd rfl (Or.inl (by kernel_rfl)) (Or.inr (by kernel_rfl))) (fun _ _ _ _ _ => dts_nil) (fun _ _ _ _ _ => d_notB (d_fn G_is_dealing (hr.mono (by decide)) (gl (by kernel_rfl)) T.g_is_dealing F_is_dealing.kp (L2.FunD.bindsN F_is_dealing (ps := ["outs", "backs", "thing"]) (fun _ _ _ _ _ _ us hl => match us, hl with | [_, _, _], _ => rfl)) .nil (fun _ _ => reps_nil) rfl (al_cons (al_cons (al_cons (al_nil)))) (da_cons (d_var (pe_var (i := 1) rfl (Or.inr (Or.inl (by kernel_rfl))) (by kernel_rfl) (by kernel_rfl))) (da_cons (d_var (pe_var (i := 8) rfl (Or.inr (Or.inl (by kernel_rfl))) (by kernel_rfl) (by kernel_rfl))) (da_cons (d_var (pe_var (i := 6) rfl (Or.inl (by kernel_rfl)) (by kernel_rfl) (by kernel_rfl))) (da_nil)))) (by kernel_rfl)) (d_bl))) (da_nil)) (by decide) (by kernel_rfl))) (dss_one (ds_ret (d_bl))) (dss_nil)) (dss_one (ds_ret (d_and (d_fn G_law_is_dealing (hr.mono (by decide)) (gl (by kernel_rfl)) T.g_law_is_dealing F_law_is_dealing.kp (L2.FunD.bindsN F_law_is_dealing (ps := ["_law_sent", "_law_came", "_law_it"]) (fun _ _ _ _ _ _ us hl => match us, hl with | [_, _, _], _ => rfl)) .nil (fun _ _ => reps_nil) rfl (al_cons (al_cons (al_cons (al_nil)))) (da_cons (d_var (pe_var (i := 1) rfl (Or.inr (Or.inl (by kernel_rfl))) (by kernel_rfl) (by kernel_rfl))) (da_cons (d_var (pe_var (i := 2) rfl (Or.inl (by kernel_rfl)) (by kernel_rfl) (by kernel_rfl))) (da_cons (d_var (pe_var (i := 3) rfl (Or.inr (Or.inl (by kernel_rfl))) (by kernel_rfl) (by kernel_rfl))) (da_nil)))) (by kernel_rfl)) (d_one (d_eq hu (d_callT call_list_of fit_list (gl (by kernel_rfl)) T.b_list (by kernel_rfl) (da_cons (d_var (pe_var (i := 5) rfl (Or.inl (by kernel_rfl)) (by kernel_rfl) (by kernel_rfl))) (da_nil)) (by decide) (by kernel_rfl)) (d_var (pe_var (i := 1) rfl (Or.inr (Or.inl (by kernel_rfl))) (by kernel_rfl) (by kernel_rfl)))))))))))))))))
theorem sc_law_purse : FnScope ["_law_cell_here", "_law_digits"] ["_law_cell_here"] (defScope s_law_purse) := ⟨by kernel_rfl, by kernel_rfl, by kernel_rfl, by decide +kernel, rfl, by decide +kernel, by decide +kernel⟩
def b_law_purse : FS := sSeq (sAsg (eC (.int 0)) (gPt (.nm 1))) (sSeq (sIf (tOr2 (tV (e2 kLt (eVar 0) (eC (.int 0)))) (tV (e2 kGe (eVar 0) (e2 kPow (eC (.int 10)) (eC (.int 18)))))) (sAsg (eCall kAbs (aCons (eVar 0) (aNil))) (gPt (.nm 1))) (sNil)) (sRet (eLstM (aCons (e2 kMod (eVar 0) (eC (.int 2147483423))) (aCons (eVar 1) (aCons (eC (.int 0)) (aNil)))))))
def m_law_purse : FF := run0 false b_law_purse 2
theorem ok_law_purse (T : Txt K mg) {fd : FuncData} (F : FunD K "_law_purse" "_law_purse" (defArgs s_law_purse) (defBody s_law_purse) (defScope s_law_purse) [] [] (He.ga K "_law_purse") fd) : FnOk P w K mg base CX0 1 (He.ga K "_law_purse") fd ["_law_cell_here"] (SpD K (["_law_cell_here"] : List Str).length m_law_purse) := by
  refine fn_D (b := false) F sc_law_purse (fun cdv A outer s H E hr => ?_)
  have hu := hr.units
  exact dss_cons (ds_asg (d_int) (dg_pt (pt_nm sc_law_purse.nd rfl (Or.inl (by kernel_rfl)) (Or.inl rfl))) (by kernel_rfl)) (dss_cons (ds_if (t_w (dw_or (t_lt hu (d_var (pe_var (i := 0) rfl (Or.inl (by kernel_rfl)) (by kernel_rfl) (by kernel_rfl))) (d_int)) (dw_or1 (t_ge hu (d_var (pe_var (i := 0) rfl (Or.inl (by kernel_rfl)) (by kernel_rfl) (by kernel_rfl))) (d_pow (d_int) (d_int)))))) (dss_one (ds_asg (d_callB call_abs fit_abs (gl (by kernel_rfl)) T.b_abs (by kernel_rfl) (da_cons (d_var (pe_var (i := 0) rfl (Or.inl (by kernel_rfl)) (by kernel_rfl) (by kernel_rfl))) (da_nil)) (by decide) (by kernel_rfl)) (dg_pt (pt_nm sc_law_purse.nd rfl (Or.inl (by kernel_rfl)) (Or.inl rfl))) (by kernel_rfl))) (dss_nil)) (dss_one (ds_ret (d_lstM (da_cons (d_mod (d_var (pe_var (i := 0) rfl (Or.inl (by kernel_rfl)) (by kernel_rfl) (by kernel_rfl))) (d_int)) (da_cons (d_var (pe_var (i := 1) rfl (Or.inl (by kernel_rfl)) (by kernel_rfl) (by kernel_rfl))) (da_cons (d_int) (da_nil))))))))
theorem sc_law_cell : FnScope ["_law_script", "_law_k"] ["_law_script", "_law_k"] (defScope s_law_cell) := ⟨by kernel_rfl, by kernel_rfl, by kernel_rfl, by decide +kernel, rfl, by decide +kernel, by decide +kernel⟩
def b_law_cell : FS := sSeq (sIf (tV (e2 kLt (eVar 1) (eCall kLen (aCons (eVar 0) (aNil))))) (sRet (e2 kIx (eVar 0) (eVar 1))) (sNil)) (sRet (e2 kAdd (e2 kAdd (e2 kMul (eCall kSum (aCons (eSl (eVar 0) (oNone) (oSome (eC (.int 3)))) (aNil))) (eC (.int 7013))) (e2 kMul (eC (.int 120011)) (e2 kAdd (eVar 1) (eC (.int 1))))) (eC (.int 17))))
def m_law_cell : FF := run0 true b_law_cell 2
theorem ok_law_cell (T : Txt K mg) {fd : FuncData} (F : FunD K "_law_cell" "_law_cell" (defArgs s_law_cell) (defBody s_law_cell) (defScope s_law_cell) [] [] (He.ga K "_law_cell") fd) : FnOk P w K mg base CX0 1 (He.ga K "_law_cell") fd ["_law_script", "_law_k"] (SpD K (["_law_script", "_law_k"] : List Str).length m_law_cell) := by
  refine fn_D (b := true) F sc_law_cell (fun cdv A outer s H E hr => ?_)
  have hu := hr.units
  exact dss_cons (ds_if (t_lt hu (d_var (pe_var (i := 1) rfl (Or.inl (by kernel_rfl)) (by kernel_rfl) (by kernel_rfl))) (d_callB call_len fit_len (gl (by kernel_rfl)) T.b_len (by kernel_rfl) (da_cons (d_var (pe_var (i := 0) rfl (Or.inl (by kernel_rfl)) (by kernel_rfl) (by kernel_rfl))) (da_nil)) (by decide) (by kernel_rfl))) (dss_one (ds_ret (d_ix (d_var (pe_var (i := 0) rfl (Or.inl (by kernel_rfl)) (by kernel_rfl) (by kernel_rfl))) (d_var (pe_var (i := 1) rfl (Or.inl (by kernel_rfl)) (by kernel_rfl) (by kernel_rfl))) (fun _ _ => rfl)))) (dss_nil)) (dss_one (ds_ret (d_add (d_add (d_mul (d_callB (cr_sum rfl) fit_sum (gl (by kernel_rfl)) T.b_sum (by kernel_rfl) (da_cons (d_sl (d_var (pe_var (i := 0) rfl (Or.inl (by kernel_rfl)) (by kernel_rfl) (by kernel_rfl))) (do_none) (do_some (d_int))) (da_nil)) (by decide) (by kernel_rfl)) (d_int)) (d_mul (d_int) (d_add (d_var (pe_var (i := 1) rfl (Or.inl (by kernel_rfl)) (by kernel_rfl) (by kernel_rfl))) (d_int)))) (d_int))))
theorem sc_law : FnScope ["_law_script", "_law_k"] ["_law_script"] (defScope s_law) := ⟨by kernel_rfl, by kernel_rfl, by kernel_rfl, by decide +kernel, rfl, by decide +kernel, by decide +kernel⟩
def b_law : FS := sRet (eCall kAll (aCons (eComp (iRange1 (eCall kMax2 (aCons (eC (.int 1)) (aCons (eCall kMin2 (aCons (eC (.int 4)) (aCons (eCall kLen (aCons (eVar 0) (aNil))) (aNil)))) (aNil))))) (.nm 1) (tYesD) (eFn m_law_right (aCons (eFn m_law_purse (aCons (eFn m_law_cell (aCons (eVar 0) (aCons (eVar 1) (aNil))) []) (aNil)) []) (aNil)) []) [1]) (aNil)))
def m_law : FF := run0 true b_law 2
theorem ok_law (T : Txt K mg) {fd : FuncData} (F : FunD K "law" "law" (defArgs s_law) (defBody s_law) (defScope s_law) [] [] (He.ga K "law") fd) : FnOk P w K mg base CX0 8 (He.ga K "law") fd ["_law_script"] (SpD K (["_law_script"] : List Str).length m_law) := by
  obtain ⟨fd_law_cell, F_law_cell⟩ := T.F_law_cell
  have G_law_cell := ok_law_cell (P := P) (w := w) (base := base) T F_law_cell
  obtain ⟨fd_law_purse, F_law_purse⟩ := T.F_law_purse
  have G_law_purse := ok_law_purse (P := P) (w := w) (base := base) T F_law_purse
  obtain ⟨fd_law_right, F_law_right⟩ := T.F_law_right
  have G_law_right := ok_law_right (P := P) (w := w) (base := base) T F_law_right
  refine fn_D (b := true) F sc_law (fun cdv A outer s H E hr => ?_)
  have hu := hr.units
  exact dss_one (ds_ret (d_callB (cr_all rfl) fit_all (gl (by kernel_rfl)) T.b_all (by kernel_rfl) (da_cons (d_comp (own := [("_law_k", 1)]) rfl sc_law.nd (di_range1 (gl (by kernel_rfl)) T.b_range (d_callB (call_max2 rfl) fit_max2 (gl (by kernel_rfl)) T.b_max (by kernel_rfl) (da_cons (d_int) (da_cons (d_callB (call_min2 rfl) fit_min2 (gl (by kernel_rfl)) T.b_min (by kernel_rfl) (da_cons (d_int) (da_cons (d_callB call_len fit_len (gl (by kernel_rfl)) T.b_len (by kernel_rfl) (da_cons (d_var (pe_var (i := 0) rfl (Or.inr (Or.inl (by kernel_rfl))) (by kernel_rfl) (by kernel_rfl))) (da_nil)) (by decide) (by kernel_rfl)) (da_nil))) (by decide) (by kernel_rfl)) (da_nil))) (by decide) (by kernel_rfl))) (blkOk_by (by kernel_rfl)) (by simp [slotsP, slotsPs]) (fun _ _ _ _ _ => pt_nm sc_law.nd rfl (Or.inl (by kernel_rfl)) (Or.inr (by kernel_rfl))) (fun _ _ _ _ _ => dts_nil) (fun _ _ _ _ _ => d_fn G_law_right (hr.mono (by decide)) (gl (by kernel_rfl)) T.g_law_right F_law_right.kp (L2.FunD.bindsN F_law_right (ps := ["_law_purse_here"]) (fun _ _ _ _ _ _ us hl => match us, hl with | [_], _ => rfl)) .nil (fun _ _ => reps_nil) rfl (al_cons (al_nil)) (da_cons (d_fn G_law_purse (hr.mono (by decide)) (gl (by kernel_rfl)) T.g_law_purse F_law_purse.kp (L2.FunD.bindsN F_law_purse (ps := ["_law_cell_here"]) (fun _ _ _ _ _ _ us hl => match us, hl with | [_], _ => rfl)) .nil (fun _ _ => reps_nil) rfl (al_cons (al_nil)) (da_cons (d_fn G_law_cell (hr.mono (by decide)) (gl (by kernel_rfl)) T.g_law_cell F_law_cell.kp (L2.FunD.bindsN F_law_cell (ps := ["_law_script", "_law_k"]) (fun _ _ _ _ _ _ us hl => match us, hl with | [_, _], _ => rfl)) .nil (fun _ _ => reps_nil) rfl (al_cons (al_cons (al_nil))) (da_cons (d_var (pe_var (i := 0) rfl (Or.inr (Or.inl (by kernel_rfl))) (by kernel_rfl) (by kernel_rfl))) (da_cons (d_var (pe_var (i := 1) rfl (Or.inl (by kernel_rfl)) (by kernel_rfl) (by kernel_rfl))) (da_nil))) (by kernel_rfl)) (da_nil)) (by kernel_rfl)) (da_nil)) (by kernel_rfl))) (da_nil)) (by decide) (by kernel_rfl)))
end
end K16

namespace K16
open PySem L2 Qd

def Pu (S : Sto) (k : Nat) : Prop := ∃ a b c : Int, S.m[k]? = some (some (.lst [.int a, .int b, .int c]))
/-- of what stood, only the purse is changed -/
structure Fr (S S' : Sto) (k : Nat) : Prop where
  len : S.m.length ≤ S'.m.length
  at_ : ∀ j, j < S.m.length → j ≠ k → S'.m[j]? = S.m[j]?
  pu : Pu S' k
theorem Fr.refl {S : Sto} {k : Nat} (h : Pu S k) : Fr S S k := ⟨Nat.le_refl _, fun _ _ _ => rfl, h⟩
theorem Fr.trans {S S' S'' : Sto} {k : Nat} (h : Fr S S' k) (h' : Fr S' S'' k) : Fr S S'' k := ⟨Nat.le_trans h.len h'.len, fun j l e => (h'.at_ j (Nat.lt_of_lt_of_le l h.len) e).trans (h.at_ j l e), h'.pu⟩
theorem Pu.lt {S : Sto} {k : Nat} (h : Pu S k) : k < S.m.length := by
  obtain ⟨a, b, c, e⟩ := h
  exact (List.getElem?_eq_some_iff.mp e).1
theorem Pu.put {S : Sto} {k : Nat} (h : Pu S k) (a b c : Int) : Fr S (S.put k (.lst [.int a, .int b, .int c])) k :=
  ⟨by simp [put_m], fun j l e => by rw [put_m, List.getElem?_set_ne (Ne.symm e)], ⟨a, b, c, by rw [put_m, List.getElem?_set_self h.lt]⟩⟩
theorem Fr.back {S S' : Sto} {k : Nat} (h : Fr S S' k) (hk : k < S.m.length) : Fr S (S'.back S.m.length) k := by
  have e : ∀ j, j < S.m.length → (S'.back S.m.length).m[j]? = S'.m[j]? := fun j l => by rw [back_m, List.getElem?_take_of_lt l]
  refine ⟨by rw [back_m, List.length_take]; have := h.len; omega, fun j l q => by rw [e j l]; exact h.at_ j l q, ?_⟩
  obtain ⟨a, b, c, z⟩ := h.pu
  exact ⟨a, b, c, by rw [e k hk]; exact z⟩
theorem Fr.push {S S' : Sto} {k : Nat} (h : Fr S S' k) (d : D) : Fr S (S'.push d) k := by
  have e : ∀ j, j < S'.m.length → (S'.push d).m[j]? = S'.m[j]? := fun j l => by
    rw [push_m, List.append_assoc, List.getElem?_append_left l]
  refine ⟨by rw [push_m]; simp; have := h.len; omega, fun j l q => by rw [e j (Nat.lt_of_lt_of_le l h.len)]; exact h.at_ j l q, ?_⟩
  obtain ⟨a, b, c, z⟩ := h.pu
  exact ⟨a, b, c, by rw [e k h.pu.lt]; exact z⟩
theorem push_at {S : Sto} {d : D} : (S.push d).m[S.next]? = some (some d) := by
  have : S.next = (S.m ++ List.replicate S.g none).length := by simp [Sto.next]
  rw [push_m, this, List.getElem?_append_right (Nat.le_refl _)]; simp
theorem push_old {S : Sto} {d : D} {j : Nat} (l : j < S.m.length) : (S.push d).m[j]? = S.m[j]? := by
  rw [push_m, List.append_assoc, List.getElem?_append_left l]
theorem Fr.putO {S S' : Sto} {k j : Nat} (h : Fr S S' k) (hj : S.m.length ≤ j) (hk : k < S.m.length) (d : D) : Fr S (S'.put j d) k := by
  have e : ∀ i, i ≠ j → (S'.put j d).m[i]? = S'.m[i]? := fun i q => by rw [put_m, List.getElem?_set_ne (Ne.symm q)]
  refine ⟨by rw [put_m, List.length_set]; exact h.len, fun i l q => by rw [e i (by omega)]; exact h.at_ i l q, ?_⟩
  obtain ⟨a, b, c, z⟩ := h.pu
  exact ⟨a, b, c, by rw [e k (by omega)]; exact z⟩
theorem Fr.dropO {S S' : Sto} {k j : Nat} (h : Fr S S' k) (hj : S.m.length ≤ j) (hk : k < S.m.length) : Fr S (S'.drop j) k := by
  have e : ∀ i, i ≠ j → (S'.drop j).m[i]? = S'.m[i]? := fun i q => by rw [drop_m, List.getElem?_set_ne (Ne.symm q)]
  refine ⟨by rw [drop_m, List.length_set]; exact h.len, fun i l q => by rw [e i (by omega)]; exact h.at_ i l q, ?_⟩
  obtain ⟨a, b, c, z⟩ := h.pu
  exact ⟨a, b, c, by rw [e k (by omega)]; exact z⟩
theorem Fr.keep {S S' : Sto} {k j : Nat} {d : D} (h : Fr S S' k) (hj : S.m[j]? = some (some d)) (hk : j ≠ k) : S'.m[j]? = some (some d) := by
  rw [h.at_ j (List.getElem?_eq_some_iff.mp hj).1 hk]; exact hj
theorem mulOk_r {i j : Int} (h : -1000000000000000000 < j) (h2 : j < 1000000000000000000) : mulOk i j = true := by
  unfold mulOk
  simp only [Bool.or_eq_true, Bool.and_eq_true, decide_eq_true_eq]
  right
  constructor <;> omega
theorem mulOk_l {i j : Int} (h : -1000000000000000000 < i) (h2 : i < 1000000000000000000) : mulOk i j = true := by
  unfold mulOk
  simp only [Bool.or_eq_true, Bool.and_eq_true, decide_eq_true_eq]
  left
  constructor <;> omega
theorem take_W {S : Sto} {k : Nat} {n : Int} {Q : D → Sto → Prop} (h : Pu S k) (hn : 0 < n) (hn2 : n < 1073741824) (q : ∀ r S', 0 ≤ r → r < n → Fr S S' k → Q (.int r) S') : W (m_law_take [.obj k, .int n] S) Q := by
  have hl := h.lt
  obtain ⟨a, b, c, e⟩ := id h
  unfold m_law_take
  rw [W_run]
  unfold b_law_take
  simp only [W_fz, W_ixO, ixN_30, ixN_31, ixN_32, W_seq, W_asg, W_expr, W_ret, W_sif, W_par, W_never, W_nil, W_c, W_e2, W_call, W_anil, W_acons, W_tup, W_lst, W_lstM, W_tV, W_and, W_or, W_not, W_bAnd, W_bOr, W_bNot, W_eif, W_isN, W_notN, W_fn, W_fnK, W_pt, W_for, W_iseq, W_ienum, W_izip, W_comp, W_compG, W_compM, W_kI, W_yes, W_addI, W_addL, W_addT, W_mulI, W_ltI, W_ixL, W_ixT, W_ixS, atI_0, atI_1, atI_2, atI_3, atI_4, W_len_L, W_len_T, W_len_S, W_sum, W_all, W_any, W_min2, W_max2, W_abs, W_intI, W_intB, W_tupT, W_tupL, W_listT, W_listL, W_sl, W_oN, W_oS, W_slT, W_slL, W_slS, W_r1, W_app, W_set, W_gm, W_g0, W_g1, W_isiI, W_isiT, W_isiL, W_e3, Ws_nx, Ws_rt, W_ok, true_and, and_true, if_true, if_false, List.append_nil, frOf, bindP, bindPs, List.map_cons, List.map_nil, decide_eq_true_eq, Bool.false_eq_true, Bool.not_true, Bool.not_false, Bool.and_eq_true, W_var, List.getElem?_cons_zero, List.getElem?_cons_succ, List.set_cons_zero, List.set_cons_succ, rho0, List.length_cons, List.length_nil, List.replicate_succ, List.replicate_zero, List.cons_append, List.nil_append, List.append_eq, Nat.reduceAdd, Nat.reduceSub, wipeD, List.map_cons, List.map_nil, e, put_m, List.getElem?_set_self hl, List.length_set, List.set_set]
  have p1 := Int.emod_nonneg a (show (45013 : Int) ≠ 0 by decide)
  have p2 := Int.emod_lt_of_pos a (show (0 : Int) < 45013 by decide)
  refine ⟨by decide, mulOk_r (by omega) (by omega), mulOk_l (by decide) (by decide), by decide, ?_⟩
  split
  · refine ⟨hn, ⟨hn, hn2⟩, q _ _ (Int.emod_nonneg _ (by omega)) (Int.emod_lt_of_pos _ hn) (Fr.back ?_ hl)⟩
    exact ((h.put _ _ _).trans ((h.put _ _ _).pu.put _ _ _)).trans (((h.put _ _ _).trans ((h.put _ _ _).pu.put _ _ _)).pu.put _ _ _)
  · refine ⟨⟨by decide, by decide⟩, hn, q _ _ (Int.emod_nonneg _ (by omega)) (Int.emod_lt_of_pos _ hn) (Fr.back ?_ hl)⟩
    exact (h.put _ _ _).trans ((h.put _ _ _).pu.put _ _ _)
theorem purse_W {S : Sto} {v : Int} {Q : D → Sto → Prop} (q : ∀ S', S.m.length ≤ S'.m.length → (∀ j, j < S.m.length → S'.m[j]? = S.m[j]?) → Pu S' S.next → Q (.obj S.next) S') : W (m_law_purse [.int v] S) Q := by
  unfold m_law_purse
  rw [W_run]
  unfold b_law_purse
  simp only [W_fz, W_ixO, ixN_30, ixN_31, ixN_32, W_seq, W_asg, W_expr, W_ret, W_sif, W_par, W_never, W_nil, W_c, W_e2, W_call, W_anil, W_acons, W_tup, W_lst, W_lstM, W_tV, W_and, W_or, W_not, W_bAnd, W_bOr, W_bNot, W_eif, W_isN, W_notN, W_fn, W_fnK, W_pt, W_for, W_iseq, W_ienum, W_izip, W_comp, W_compG, W_compM, W_kI, W_yes, W_addI, W_addL, W_addT, W_mulI, W_ltI, W_ixL, W_ixT, W_ixS, atI_0, atI_1, atI_2, atI_3, atI_4, W_len_L, W_len_T, W_len_S, W_sum, W_all, W_any, W_min2, W_max2, W_abs, W_intI, W_intB, W_tupT, W_tupL, W_listT, W_listL, W_sl, W_oN, W_oS, W_slT, W_slL, W_slS, W_r1, W_app, W_set, W_gm, W_g0, W_g1, W_isiI, W_isiT, W_isiL, W_e3, Ws_nx, Ws_rt, W_ok, true_and, and_true, if_true, if_false, List.append_nil, frOf, bindP, bindPs, List.map_cons, List.map_nil, decide_eq_true_eq, Bool.false_eq_true, Bool.not_true, Bool.not_false, Bool.and_eq_true, W_var, List.getElem?_cons_zero, List.getElem?_cons_succ, List.set_cons_zero, List.set_cons_succ, rho0, List.length_cons, List.length_nil, List.replicate_succ, List.replicate_zero, List.cons_append, List.nil_append, List.append_eq, Nat.reduceAdd, Nat.reduceSub, wipeD, List.map_cons, List.map_nil]
  have fin : ∀ a b c : Int, Q (.obj S.next) (S.push (.lst [.int a, .int b, .int c])) := fun a b c =>
    q _ (by rw [push_m]; simp) (fun j l => push_old l) ⟨a, b, c, push_at⟩
  split
  · exact ⟨by decide, by decide, fin _ _ _⟩
  · refine ⟨⟨⟨by decide, by decide⟩, by decide⟩, ?_⟩
    split
    · exact ⟨by decide, by decide, fin _ _ _⟩
    · exact ⟨by decide, by decide, fin _ _ _⟩
theorem cell_W {S : Sto} {ns : List Int} {k : Int} {Q : D → Sto → Prop} (hk : 0 ≤ k) (hk2 : k < 1000) (q : ∀ v, Q (.int v) S) : W (m_law_cell [.scr (ns.map .int), .int k] S) Q := by
  unfold m_law_cell
  rw [W_run]
  unfold b_law_cell
  obtain ⟨ms, hm⟩ := cut_int ns none (some 3)
  simp only [W_fz, W_ixO, ixN_30, ixN_31, ixN_32, W_seq, W_asg, W_expr, W_ret, W_sif, W_par, W_never, W_nil, W_c, W_e2, W_call, W_anil, W_acons, W_tup, W_lst, W_lstM, W_tV, W_and, W_or, W_not, W_bAnd, W_bOr, W_bNot, W_eif, W_isN, W_notN, W_fn, W_fnK, W_pt, W_for, W_iseq, W_ienum, W_izip, W_comp, W_compG, W_compM, W_kI, W_yes, W_addI, W_addL, W_addT, W_mulI, W_ltI, W_ixL, W_ixT, W_ixS, atI_0, atI_1, atI_2, atI_3, atI_4, W_len_L, W_len_T, W_len_S, W_sum, W_all, W_any, W_min2, W_max2, W_abs, W_intI, W_intB, W_tupT, W_tupL, W_listT, W_listL, W_sl, W_oN, W_oS, W_slT, W_slL, W_slS, W_r1, W_app, W_set, W_gm, W_g0, W_g1, W_isiI, W_isiT, W_isiL, W_e3, Ws_nx, Ws_rt, W_ok, true_and, and_true, if_true, if_false, List.append_nil, frOf, bindP, bindPs, List.map_cons, List.map_nil, decide_eq_true_eq, Bool.false_eq_true, Bool.not_true, Bool.not_false, Bool.and_eq_true, W_var, List.getElem?_cons_zero, List.getElem?_cons_succ, List.set_cons_zero, List.set_cons_succ, rho0, List.length_cons, List.length_nil, List.replicate_succ, List.replicate_zero, List.cons_append, List.nil_append, List.append_eq, Nat.reduceAdd, Nat.reduceSub, wipeD, List.map_cons, List.map_nil, back_same, hm]
  split
  · rename_i h
    obtain ⟨x, _, e⟩ := pick (f := D.int) hk (show k < ns.length by simpa using h)
    rw [e]
    exact q _
  · exact ⟨mulOk_r (by decide) (by decide), mulOk_l (by decide) (by decide), q _⟩

/-! ### what is sent -/
def encO (r : Int × Int × Int) : D := .tup [.int r.1, .int r.2.1, .int r.2.2]
structure OutsOk (rows : List (Int × Int × Int)) : Prop where
  len : rows.length ≤ 19
  day : rows.Pairwise fun a b => a.1 < b.1
  row : ∀ r ∈ rows, 0 ≤ r.1 ∧ r.1 ≤ 8500 ∧ 1 ≤ r.2.1 ∧ r.2.1 ≤ 99999 ∧ 0 ≤ r.2.2 ∧ r.2.2 ≤ 9999
theorem outs_W {S : Sto} {k : Nat} {many most : Int} {Q : D → Sto → Prop} (h : Pu S k) (hm : 0 ≤ many) (hm2 : many ≤ 18) (ht : 1 ≤ most) (ht2 : most ≤ 99999)
    (q : ∀ rows S', OutsOk rows → (∀ r ∈ rows, r.2.1 ≤ most) → Fr S S' k → Q (.lst (rows.map encO)) S') : W (m_law_outs [.obj k, .int many, .int most] S) Q := by
  have hl := h.lt
  unfold m_law_outs
  rw [W_run]
  unfold b_law_outs
  simp only [W_fz, W_ixO, ixN_30, ixN_31, ixN_32, W_seq, W_asg, W_expr, W_ret, W_sif, W_par, W_never, W_nil, W_c, W_e2, W_call, W_anil, W_acons, W_tup, W_lst, W_lstM, W_tV, W_and, W_or, W_not, W_bAnd, W_bOr, W_bNot, W_eif, W_isN, W_notN, W_fn, W_fnK, W_pt, W_for, W_iseq, W_ienum, W_izip, W_comp, W_compG, W_compM, W_kI, W_yes, W_addI, W_addL, W_addT, W_mulI, W_ltI, W_ixL, W_ixT, W_ixS, atI_0, atI_1, atI_2, atI_3, atI_4, W_len_L, W_len_T, W_len_S, W_sum, W_all, W_any, W_min2, W_max2, W_abs, W_intI, W_intB, W_tupT, W_tupL, W_listT, W_listL, W_sl, W_oN, W_oS, W_slT, W_slL, W_slS, W_r1, W_app, W_set, W_gm, W_g0, W_g1, W_isiI, W_isiT, W_isiL, W_e3, Ws_nx, Ws_rt, W_ok, true_and, and_true, if_true, if_false, List.append_nil, frOf, bindP, bindPs, List.map_cons, List.map_nil, decide_eq_true_eq, Bool.false_eq_true, Bool.not_true, Bool.not_false, Bool.and_eq_true, W_var, List.getElem?_cons_zero, List.getElem?_cons_succ, List.set_cons_zero, List.set_cons_succ, rho0, List.length_cons, List.length_nil, List.replicate_succ, List.replicate_zero, List.cons_append, List.nil_append, List.append_eq, Nat.reduceAdd, Nat.reduceSub, wipeD, List.map_cons, List.map_nil]
  refine ⟨by decide, take_W ((Fr.refl h).push _).pu (by decide) (by decide) fun r1 S1 a1 b1 f1 => ⟨by decide, take_W f1.pu (by decide) (by decide) fun r2 S2 a2 b2 f2 => ?_⟩⟩
  refine W_pickI (xs := [0, r1]) (fun x => 0 ≤ x ∧ x ≤ 49) (by simp; omega) a2 b2 fun w0 hw => ⟨small62_of (by omega) (by omega), ?_⟩
  have g2 : Fr S S2 k := (((Fr.refl h).push _).trans f1).trans f2
  have gj : S2.m[S.next]? = some (some (.lst (([] : List (Int × Int × Int)).map encO))) := f2.keep (f1.keep push_at (by unfold Sto.next; omega)) (by unfold Sto.next; omega)
  have hj : S.m.length ≤ S.next := by unfold Sto.next; omega
  refine W_loop (fun ds ρ S' => ∃ (rows : List (Int × Int × Int)) (w : Int) (x3 x6 : Option D), ds.length + rows.length = many.toNat ∧ ρ = [some (.obj k), some (.int many), some (.int most), x3, some (.obj S.next), some (.int w), x6] ∧ Fr S S' k ∧
    S'.m[S.next]? = some (some (.lst (rows.map encO))) ∧ 0 ≤ w ∧ (many ≤ 12 → w ≤ 49 + 700 * (rows.length : Int)) ∧ (12 < many → w ≤ 49 + 9 * (rows.length : Int)) ∧ rows.Pairwise (fun a b => a.1 < b.1) ∧
    ∀ r ∈ rows, (r.1 < w ∧ 0 ≤ r.1 ∧ r.1 ≤ 8500 ∧ 1 ≤ r.2.1 ∧ r.2.1 ≤ 99999 ∧ 0 ≤ r.2.2 ∧ r.2.2 ≤ 9999) ∧ r.2.1 ≤ most) ⟨[], w0, none, none, by simp [rangeD], rfl, g2, gj, hw.1, fun _ => by simp; omega, fun _ => by simp; omega, .nil, fun _ h => by simp at h⟩ ?_ ?_
  · rintro d ds ρ S3 ⟨rows, w, x3, x6, hlen, rfl, g3, g3j, hw0, hw1, hw2, hp, hr⟩
    refine ⟨_, rfl, ?_⟩
    have hne : S.next ≠ k := by omega
    simp only [W_fz, W_ixO, ixN_30, ixN_31, ixN_32, W_seq, W_asg, W_expr, W_ret, W_sif, W_par, W_never, W_nil, W_c, W_e2, W_call, W_anil, W_acons, W_tup, W_lst, W_lstM, W_tV, W_and, W_or, W_not, W_bAnd, W_bOr, W_bNot, W_eif, W_isN, W_notN, W_fn, W_fnK, W_pt, W_for, W_iseq, W_ienum, W_izip, W_comp, W_compG, W_compM, W_kI, W_yes, W_addI, W_addL, W_addT, W_mulI, W_ltI, W_ixL, W_ixT, W_ixS, atI_0, atI_1, atI_2, atI_3, atI_4, W_len_L, W_len_T, W_len_S, W_sum, W_all, W_any, W_min2, W_max2, W_abs, W_intI, W_intB, W_tupT, W_tupL, W_listT, W_listL, W_sl, W_oN, W_oS, W_slT, W_slL, W_slS, W_r1, W_app, W_set, W_gm, W_g0, W_g1, W_isiI, W_isiT, W_isiL, W_e3, Ws_nx, Ws_rt, W_ok, true_and, and_true, if_true, if_false, List.append_nil, frOf, bindP, bindPs, List.map_cons, List.map_nil, decide_eq_true_eq, Bool.false_eq_true, Bool.not_true, Bool.not_false, Bool.and_eq_true, W_var, List.getElem?_cons_zero, List.getElem?_cons_succ, List.set_cons_zero, List.set_cons_succ, rho0, List.length_cons, List.length_nil, List.replicate_succ, List.replicate_zero, List.cons_append, List.nil_append, List.append_eq, Nat.reduceAdd, Nat.reduceSub, wipeD, List.map_cons, List.map_nil]
    refine take_W g3.pu (by decide) (by decide) fun r4 S4 a4 b4 f4 => take_W f4.pu (by decide) (by decide) fun r5 S5 a5 b5 f5 => ⟨by decide, take_W f5.pu (by decide) (by decide) fun r6 S6 a6 b6 f6 => ?_⟩
    refine W_pickI (xs := [0, 8, 8, r4, r5]) (fun x => 0 ≤ x ∧ x ≤ 9999) (by simp; omega) a6 b6 fun am ham => ?_
    have g6 := ((g3.trans f4).trans f5).trans f6
    have g6j := f6.keep (f5.keep (f4.keep g3j hne) hne) hne
    refine ⟨by rw [g6j], take_W g6.pu (by omega) (by omega) fun r7 S7 a7 b7 f7 => ?_⟩
    have g7j := f7.keep g6j hne
    refine ⟨by decide, ?_⟩
    rw [g7j]
    simp only
    have hc : ∃ c : Int, atI [D.int 700, D.int 9] (if 12 < many then 1 else 0) = some (.int c) ∧ (many ≤ 12 → c = 700) ∧ (12 < many → c = 9) := by
      split
      · exact ⟨9, atI_1, fun h => by omega, fun _ => rfl⟩
      · exact ⟨700, atI_0, fun _ => rfl, fun h => by omega⟩
    obtain ⟨c, ec, c1, c2⟩ := hc
    rw [ec]
    simp only
    simp only [List.length_cons] at hlen
    have g8 : Fr S (S7.put S.next (.lst (rows.map encO ++ [D.tup [D.int w, D.int (1 + r7), D.int am]]))) k := (g6.trans f7).putO hj hl _
    have g8j : (S7.put S.next (.lst (rows.map encO ++ [D.tup [D.int w, D.int (1 + r7), D.int am]]))).m[S.next]? = some (some (.lst ((rows ++ [(w, 1 + r7, am)]).map encO))) := by
      rw [put_m, List.getElem?_set_self (List.getElem?_eq_some_iff.mp g7j).1, List.map_append]; rfl
    have hc9 : 9 ≤ c ∧ c ≤ 700 := by omega
    refine ⟨by rw [List.length_map]; unfold line; omega, by decide, by decide, take_W g8.pu (by decide) (by decide) fun r8 S8 a8 b8 f8 => ?_⟩
    refine W_pickI (xs := [1, 4, c]) (fun x => 1 ≤ x ∧ x ≤ c) (by simp; omega) a8 b8 fun st hst => take_W f8.pu (by omega) (by omega) fun r9 S9 a9 b9 f9 => ?_
    rw [W_addI]
    refine ⟨rows ++ [(w, 1 + r7, am)], w + 1 + r9, _, _, by simp; omega, rfl, (g8.trans f8).trans f9, f9.keep (f8.keep g8j hne) hne, by omega, fun q => ?_, fun q => ?_, ?_, fun r hr' => ?_⟩
    · have := hw1 q; have := c1 q; simp; omega
    · have := hw2 q; have := c2 q; simp; omega
    · rw [List.pairwise_append]
      refine ⟨hp, List.pairwise_singleton _ _, fun a ha b hb => ?_⟩
      rw [List.mem_singleton] at hb; subst hb
      exact (hr a ha).1.1
    · rw [List.mem_append, List.mem_singleton] at hr'
      rcases hr' with hr' | rfl
      · have := hr r hr'; omega
      · simp only; omega
  · rintro ρ S3 ⟨rows, w, x3, x6, hlen, rfl, g3, g3j, hw0, hw1, hw2, hp, hr⟩
    simp only [W_var, List.getElem?_cons_zero, List.getElem?_cons_succ, List.set_cons_zero, List.set_cons_succ, rho0, List.length_cons, List.length_nil, List.replicate_succ, List.replicate_zero, List.cons_append, List.nil_append, List.append_eq, Nat.reduceAdd, Nat.reduceSub, wipeD, List.map_cons, List.map_nil]
    rw [g3j]
    simp only
    exact q rows _ ⟨by simp at hlen; omega, hp, fun r hr' => (hr r hr').1.2⟩ (fun r hr' => (hr r hr').2) ((g3.dropO hj hl).back hl)

/-! ### what came back -/
def encB (r : Int × Int) : D := .tup [.int r.1, .int r.2]
def avail (sent : List (Int × Int × Int)) (w : Int) : Int := ((sent.filter fun r => decide (r.1 ≤ w)).map fun r => r.2.1).sum
structure BacksOk (sent : List (Int × Int × Int)) (bs : List (Int × Int)) (gone least : Int) : Prop where
  day : bs.Pairwise fun a b => a.1 ≤ b.1
  row : ∀ r ∈ bs, 0 ≤ r.1 ∧ r.1 ≤ least ∧ 1 ≤ r.2 ∧ r.2 ≤ 99999
  gone : gone = (bs.map fun r => r.2).sum
  have_ : ∀ pre b post, bs = pre ++ b :: post → (pre.map fun r => r.2).sum + b.2 ≤ avail sent b.1
theorem sum_le {c : Int} (hc : 0 ≤ c) : ∀ l : List Int, (∀ x ∈ l, x ≤ c) → l.sum ≤ c * (l.length : Int)
  | [], _ => by simp
  | x :: l, h => by
    have h1 := sum_le hc l fun y hy => h y (List.mem_cons_of_mem _ hy)
    have h2 := h x List.mem_cons_self
    simp only [List.sum_cons, List.length_cons]
    have : c * ((l.length + 1 : Nat) : Int) = c * (l.length : Int) + c := by rw [Int.natCast_add, Int.mul_add]; simp
    omega
theorem sum_nonneg : ∀ l : List Int, (∀ x ∈ l, 0 ≤ x) → 0 ≤ l.sum
  | [], _ => by simp
  | x :: l, h => by
    have h1 := sum_nonneg l fun y hy => h y (List.mem_cons_of_mem _ hy)
    have h2 := h x List.mem_cons_self
    simp only [List.sum_cons]; omega
theorem avail_le {sent : List (Int × Int × Int)} (h : OutsOk sent) (w : Int) : avail sent w ≤ 2000000 := by
  have h1 := sum_le (c := 99999) (by decide) ((sent.filter fun r => decide (r.1 ≤ w)).map fun r => r.2.1) fun x hx => by
    rw [List.mem_map] at hx
    obtain ⟨r, hr, rfl⟩ := hx
    have := h.row r (List.mem_filter.mp hr).1
    omega
  have h2 : ((sent.filter fun r => decide (r.1 ≤ w)).map fun r => r.2.1).length ≤ 19 := by
    rw [List.length_map]; exact Nat.le_trans (List.length_filter_le _ _) h.len
  unfold avail
  omega
theorem BacksOk.snoc {sent : List (Int × Int × Int)} {bs : List (Int × Int)} {gone least w m : Int} (h : BacksOk sent bs gone least) (h0 : 0 ≤ least) (h1 : least ≤ w) (m1 : 1 ≤ m) (m2 : m ≤ 99999) (ha : gone + m ≤ avail sent w) : BacksOk sent (bs ++ [(w, m)]) (gone + m) w := by
  refine ⟨?_, fun r hr => ?_, ?_, fun pre b post e => ?_⟩
  · rw [List.pairwise_append]
    refine ⟨h.day, List.pairwise_singleton _ _, fun a ha b hb => ?_⟩
    rw [List.mem_singleton] at hb; subst hb
    have := (h.row a ha).2.1
    simp only; omega
  · rw [List.mem_append, List.mem_singleton] at hr
    rcases hr with hr | rfl
    · have := h.row r hr; omega
    · simp only; omega
  · rw [List.map_append, List.sum_append, ← h.gone]; simp
  · rcases List.eq_nil_or_concat post with rfl | ⟨init, z, rfl⟩
    · obtain ⟨e1, e2⟩ := List.append_inj' e rfl
      cases e2
      rw [← e1, ← h.gone]; exact ha
    · have e' : bs ++ [(w, m)] = (pre ++ b :: init) ++ [z] := by rw [e]; simp
      obtain ⟨e1, _⟩ := List.append_inj' e' rfl
      exact h.have_ pre b init e1
theorem backs_W {S : Sto} {k : Nat} {many : Int} {sent : List (Int × Int × Int)} {Q : D → Sto → Prop} (h : Pu S k) (ho : OutsOk sent) (hm : 0 ≤ many) (hm2 : many ≤ 18)
    (q : ∀ bs gone least S', bs.length ≤ 18 → least ≤ 9999 → BacksOk sent bs gone least → Fr S S' k → Q (.lst (bs.map encB)) S') : W (m_law_backs [.obj k, .lst (sent.map encO), .int many] S) Q := by
  have hl := h.lt
  unfold m_law_backs
  rw [W_run]
  unfold b_law_backs
  simp only [W_fz, W_ixO, ixN_30, ixN_31, ixN_32, W_seq, W_asg, W_expr, W_ret, W_sif, W_par, W_never, W_nil, W_c, W_e2, W_call, W_anil, W_acons, W_tup, W_lst, W_lstM, W_tV, W_and, W_or, W_not, W_bAnd, W_bOr, W_bNot, W_eif, W_isN, W_notN, W_fn, W_fnK, W_pt, W_for, W_iseq, W_ienum, W_izip, W_comp, W_compG, W_compM, W_kI, W_yes, W_addI, W_addL, W_addT, W_mulI, W_ltI, W_ixL, W_ixT, W_ixS, atI_0, atI_1, atI_2, atI_3, atI_4, W_len_L, W_len_T, W_len_S, W_sum, W_all, W_any, W_min2, W_max2, W_abs, W_intI, W_intB, W_tupT, W_tupL, W_listT, W_listL, W_sl, W_oN, W_oS, W_slT, W_slL, W_slS, W_r1, W_app, W_set, W_gm, W_g0, W_g1, W_isiI, W_isiT, W_isiL, W_e3, Ws_nx, Ws_rt, W_ok, true_and, and_true, if_true, if_false, List.append_nil, frOf, bindP, bindPs, List.map_cons, List.map_nil, decide_eq_true_eq, Bool.false_eq_true, Bool.not_true, Bool.not_false, Bool.and_eq_true, W_var, List.getElem?_cons_zero, List.getElem?_cons_succ, List.set_cons_zero, List.set_cons_succ, rho0, List.length_cons, List.length_nil, List.replicate_succ, List.replicate_zero, List.cons_append, List.nil_append, List.append_eq, Nat.reduceAdd, Nat.reduceSub, wipeD, List.map_cons, List.map_nil]
  have hj : S.m.length ≤ S.next := by unfold Sto.next; omega
  have hne : S.next ≠ k := by omega
  have hln := ho.len
  refine ⟨by decide, by decide, small62_of (by omega) (by omega), ?_⟩
  refine W_loop (fun ds ρ S' => ∃ (bs : List (Int × Int)) (gone least : Int) (x3 x7 x8 x9 x10 x11 : Option D), ds.length + bs.length ≤ many.toNat ∧ ρ = [some (.obj k), some (.lst (sent.map encO)), some (.int many), x3, some (.obj S.next), some (.int gone), some (.int least), x7, x8, x9, x10, x11] ∧ Fr S S' k ∧
    S'.m[S.next]? = some (some (.lst (bs.map encB))) ∧ 0 ≤ least ∧ least ≤ 8500 + 30 * ((many.toNat - ds.length : Nat) : Int) ∧ BacksOk sent bs gone least) ⟨[], 0, 0, _, _, _, _, _, _, by simp [rangeD], rfl, (Fr.refl h).push _, push_at, by decide, by omega, ⟨.nil, fun _ h => by simp at h, rfl, fun _ _ _ h => by simp at h⟩⟩ ?_ ?_
  · rintro d ds ρ S3 ⟨bs, gone, least, x3, x7, x8, x9, x10, x11, hlen, rfl, g3, g3j, hl0, hl1, hb⟩
    refine ⟨_, rfl, ?_⟩
    simp only [List.length_cons] at hlen hl1
    simp only [W_fz, W_ixO, ixN_30, ixN_31, ixN_32, W_seq, W_asg, W_expr, W_ret, W_sif, W_par, W_never, W_nil, W_c, W_e2, W_call, W_anil, W_acons, W_tup, W_lst, W_lstM, W_tV, W_and, W_or, W_not, W_bAnd, W_bOr, W_bNot, W_eif, W_isN, W_notN, W_fn, W_fnK, W_pt, W_for, W_iseq, W_ienum, W_izip, W_comp, W_compG, W_compM, W_kI, W_yes, W_addI, W_addL, W_addT, W_mulI, W_ltI, W_ixL, W_ixT, W_ixS, atI_0, atI_1, atI_2, atI_3, atI_4, W_len_L, W_len_T, W_len_S, W_sum, W_all, W_any, W_min2, W_max2, W_abs, W_intI, W_intB, W_tupT, W_tupL, W_listT, W_listL, W_sl, W_oN, W_oS, W_slT, W_slL, W_slS, W_r1, W_app, W_set, W_gm, W_g0, W_g1, W_isiI, W_isiT, W_isiL, W_e3, Ws_nx, Ws_rt, W_ok, true_and, and_true, if_true, if_false, List.append_nil, frOf, bindP, bindPs, List.map_cons, List.map_nil, decide_eq_true_eq, Bool.false_eq_true, Bool.not_true, Bool.not_false, Bool.and_eq_true, W_var, List.getElem?_cons_zero, List.getElem?_cons_succ, List.set_cons_zero, List.set_cons_succ, rho0, List.length_cons, List.length_nil, List.replicate_succ, List.replicate_zero, List.cons_append, List.nil_append, List.append_eq, Nat.reduceAdd, Nat.reduceSub, wipeD, List.map_cons, List.map_nil]
    refine ⟨by rw [List.length_map]; unfold line; omega, W_eq (comp_map encO (fun r => decide (least ≤ r.1)) (fun r => .int r.1) sent [] (fun x hx => ⟨_, rfl, rfl, fun _ => rfl⟩)) ?_⟩
    have ed : ∀ l : List (Int × Int × Int), ([] : List D) ++ l.map (fun r => D.int r.1) = (l.map fun r => r.1).map D.int := fun l => by simp
    rw [ed]
    have hd1 : ∀ x ∈ (sent.filter fun r => decide (least ≤ r.1)).map fun r => r.1, least ≤ x ∧ x ≤ 8500 := fun x hx => by
      rw [List.mem_map] at hx
      obtain ⟨r, hr, rfl⟩ := hx
      obtain ⟨h1, h2⟩ := List.mem_filter.mp hr
      have := ho.row r h1
      simp only [decide_eq_true_eq] at h2
      omega
    have hd2 : ((sent.filter fun r => decide (least ≤ r.1)).map fun r => r.1).length ≤ 19 := by
      rw [List.length_map]; exact Nat.le_trans (List.length_filter_le _ _) hln
    generalize ((sent.filter fun r => decide (least ≤ r.1)).map fun r => r.1) = days at hd1 hd2 ⊢
    have ea : days.map D.int ++ [D.int least] = (days ++ [least]).map D.int := by simp
    rw [List.length_map, ea]
    refine ⟨by decide, by unfold line; omega, take_W g3.pu (by omega) (by omega) fun r1 S4 a4 b4 f4 => W_pickI (fun x => least ≤ x ∧ (x ≤ 8500 ∨ x = least)) (fun x hx => ?_) a4 (by simp; omega) fun x hx => ⟨by decide, take_W f4.pu (by decide) (by decide) fun r2 S5 a5 b5 f5 => W_pickI (xs := [0, 0, 1, 30]) (fun y => 0 ≤ y ∧ y ≤ 30) (by simp) a5 b5 fun y hy => ?_⟩⟩
    · rw [List.mem_append, List.mem_singleton] at hx
      rcases hx with hx | rfl
      · have := hd1 x hx; omega
      · omega
    rw [W_addI]
    refine ⟨by rw [List.length_map]; unfold line; omega, W_eq (comp_map encO (fun r => decide (r.1 ≤ x + y)) (fun r => .int r.2.1) sent [] (fun x hx => ⟨_, rfl, rfl, fun _ => rfl⟩)) ?_⟩
    have es : ∀ l : List (Int × Int × Int), ([] : List D) ++ l.map (fun r => D.int r.2.1) = (l.map fun r => r.2.1).map D.int := fun l => by simp
    rw [es, W_sum]
    rw [show ((sent.filter fun r => decide (r.1 ≤ x + y)).map fun r => r.2.1).sum = avail sent (x + y) from rfl]
    have hav := avail_le ho (x + y)
    have hg : 0 ≤ gone := by
      rw [hb.gone]
      exact sum_nonneg _ fun z hz => by
        rw [List.mem_map] at hz
        obtain ⟨r, hr, rfl⟩ := hz
        have := hb.row r hr; omega
    have g5 := (g3.trans f4).trans f5
    have g5j := f5.keep (f4.keep g3j hne) hne
    simp only [W_fz, W_ixO, ixN_30, ixN_31, ixN_32, W_seq, W_asg, W_expr, W_ret, W_sif, W_par, W_never, W_nil, W_c, W_e2, W_call, W_anil, W_acons, W_tup, W_lst, W_lstM, W_tV, W_and, W_or, W_not, W_bAnd, W_bOr, W_bNot, W_eif, W_isN, W_notN, W_fn, W_fnK, W_pt, W_for, W_iseq, W_ienum, W_izip, W_comp, W_compG, W_compM, W_kI, W_yes, W_addI, W_addL, W_addT, W_mulI, W_ltI, W_ixL, W_ixT, W_ixS, atI_0, atI_1, atI_2, atI_3, atI_4, W_len_L, W_len_T, W_len_S, W_sum, W_all, W_any, W_min2, W_max2, W_abs, W_intI, W_intB, W_tupT, W_tupL, W_listT, W_listL, W_sl, W_oN, W_oS, W_slT, W_slL, W_slS, W_r1, W_app, W_set, W_gm, W_g0, W_g1, W_isiI, W_isiT, W_isiL, W_e3, Ws_nx, Ws_rt, W_ok, true_and, and_true, if_true, if_false, List.append_nil, frOf, bindP, bindPs, List.map_cons, List.map_nil, decide_eq_true_eq, Bool.false_eq_true, Bool.not_true, Bool.not_false, Bool.and_eq_true]
    split
    · rename_i hpos
      refine take_W g5.pu (by omega) (by omega) fun r3 S6 a6 b6 f6 => ⟨by decide, take_W f6.pu (by decide) (by decide) fun r4 S7 a7 b7 f7 => W_pickI (xs := [1, avail sent (x + y) - gone, 1 + r3]) (fun m => 1 ≤ m ∧ m ≤ avail sent (x + y) - gone) (by simp; omega) a7 b7 fun m hm' => ?_⟩
      have g7 := (g5.trans f6).trans f7
      have g7j := f7.keep (f6.keep g5j hne) hne
      simp only [W_fz, W_ixO, ixN_30, ixN_31, ixN_32, W_seq, W_asg, W_expr, W_ret, W_sif, W_par, W_never, W_nil, W_c, W_e2, W_call, W_anil, W_acons, W_tup, W_lst, W_lstM, W_tV, W_and, W_or, W_not, W_bAnd, W_bOr, W_bNot, W_eif, W_isN, W_notN, W_fn, W_fnK, W_pt, W_for, W_iseq, W_ienum, W_izip, W_comp, W_compG, W_compM, W_kI, W_yes, W_addI, W_addL, W_addT, W_mulI, W_ltI, W_ixL, W_ixT, W_ixS, atI_0, atI_1, atI_2, atI_3, atI_4, W_len_L, W_len_T, W_len_S, W_sum, W_all, W_any, W_min2, W_max2, W_abs, W_intI, W_intB, W_tupT, W_tupL, W_listT, W_listL, W_sl, W_oN, W_oS, W_slT, W_slL, W_slS, W_r1, W_app, W_set, W_gm, W_g0, W_g1, W_isiI, W_isiT, W_isiL, W_e3, Ws_nx, Ws_rt, W_ok, true_and, and_true, if_true, if_false, List.append_nil, frOf, bindP, bindPs, List.map_cons, List.map_nil, decide_eq_true_eq, Bool.false_eq_true, Bool.not_true, Bool.not_false, Bool.and_eq_true, W_var, List.getElem?_cons_zero, List.getElem?_cons_succ, List.set_cons_zero, List.set_cons_succ, rho0, List.length_cons, List.length_nil, List.replicate_succ, List.replicate_zero, List.cons_append, List.nil_append, List.append_eq, Nat.reduceAdd, Nat.reduceSub, wipeD, List.map_cons, List.map_nil, g7j]
      have hm3 : ∃ m' : Int, (if m < 99999 then m else 99999) = m' ∧ 1 ≤ m' ∧ m' ≤ 99999 ∧ m' ≤ avail sent (x + y) - gone := by
        split
        · exact ⟨_, rfl, by omega, by omega, by omega⟩
        · exact ⟨_, rfl, by omega, by omega, by omega⟩
      obtain ⟨m', e', m1, m2, m3⟩ := hm3
      rw [e']
      have g8j : (S7.put S.next (.lst (bs.map encB ++ [D.tup [D.int (x + y), D.int m']]))).m[S.next]? = some (some (.lst ((bs ++ [(x + y, m')]).map encB))) := by
        rw [put_m, List.getElem?_set_self (List.getElem?_eq_some_iff.mp g7j).1, List.map_append]; rfl
      refine ⟨by decide, by rw [List.length_map]; unfold line; omega, by decide, bs ++ [(x + y, m')], gone + m', x + y, _, _, _, _, _, _, by simp; omega, rfl, g7.putO hj hl _, g8j, by omega, by omega, hb.snoc hl0 (by omega) m1 m2 (by omega)⟩
    · exact ⟨bs, gone, least, _, _, _, _, _, _, by omega, rfl, g5, g5j, hl0, by omega, hb⟩
  · rintro ρ S3 ⟨bs, gone, least, x3, x7, x8, x9, x10, x11, hlen, rfl, g3, g3j, hl0, hl1, hb⟩
    simp only [W_var, List.getElem?_cons_zero, List.getElem?_cons_succ, List.set_cons_zero, List.set_cons_succ, rho0, List.length_cons, List.length_nil, List.replicate_succ, List.replicate_zero, List.cons_append, List.nil_append, List.append_eq, Nat.reduceAdd, Nat.reduceSub, wipeD, List.map_cons, List.map_nil]
    rw [g3j]
    simp only
    exact q bs gone least _ (by omega) (by omega) hb ((g3.dropO hj hl).back hl)

/-! ### the dealing by ranks -/
def cap (sent : List (Int × Int × Int)) (k : Nat) : Int := (sent.getD k (0, 0, 0)).2.1
def dayO (sent : List (Int × Int × Int)) (k : Nat) : Int := (sent.getD k (0, 0, 0)).1
def dayB (came : List (Int × Int)) (b : Nat) : Int := (came.getD b (0, 0)).1
def sumK (parts : List (Int × Int × Int)) (k : Int) : Int := ((parts.filter fun p => decide (p.2.1 = k)).map fun p => p.2.2).sum
def sumB (parts : List (Int × Int × Int)) (b : Int) : Int := ((parts.filter fun p => decide (p.1 = b)).map fun p => p.2.2).sum
def total (parts : List (Int × Int × Int)) : Int := (parts.map fun p => p.2.2).sum
def frD (sent parts : List (Int × Int × Int)) : List D := (List.range sent.length).map fun k => .int (cap sent k - sumK parts (k : Int))
structure DInv (sent : List (Int × Int × Int)) (came : List (Int × Int)) (hi : Nat) (parts : List (Int × Int × Int)) : Prop where
  key : ∀ p ∈ parts, ∃ b k : Nat, p.1 = b ∧ p.2.1 = k ∧ b < hi ∧ k < sent.length ∧ 1 ≤ p.2.2 ∧ p.2.2 ≤ 99999 ∧ dayO sent k ≤ dayB came b
  dist : parts.Pairwise fun a b => ¬ (a.1 = b.1 ∧ a.2.1 = b.2.1)
  free : ∀ k : Nat, k < sent.length → sumK parts (k : Int) ≤ cap sent k
theorem sumK_snoc (parts : List (Int × Int × Int)) (b k m j : Int) : sumK (parts ++ [(b, k, m)]) j = sumK parts j + if k = j then m else 0 := by
  unfold sumK
  rw [List.filter_append, List.map_append, List.sum_append]
  congr 1
  by_cases e : k = j
  · rw [if_pos e, List.filter_cons_of_pos (by simpa using e)]; simp
  · rw [if_neg e, List.filter_cons_of_neg (by simpa using e)]; simp
theorem sumB_snoc (parts : List (Int × Int × Int)) (b k m j : Int) : sumB (parts ++ [(b, k, m)]) j = sumB parts j + if b = j then m else 0 := by
  unfold sumB
  rw [List.filter_append, List.map_append, List.sum_append]
  congr 1
  by_cases e : b = j
  · rw [if_pos e, List.filter_cons_of_pos (by simpa using e)]; simp
  · rw [if_neg e, List.filter_cons_of_neg (by simpa using e)]; simp
theorem total_snoc (parts : List (Int × Int × Int)) (b k m : Int) : total (parts ++ [(b, k, m)]) = total parts + m := by
  unfold total; simp
/-- the sum over names told once -/
theorem sumK_le : ∀ (parts : List (Int × Int × Int)) (ks : List Nat), (∀ p ∈ parts, 0 ≤ p.2.2) → ks.Nodup → (ks.map fun k => sumK parts ((k : Nat) : Int)).sum ≤ total parts
  | [], ks, _, _ => by
    have : ∀ ks : List Nat, (ks.map fun k => sumK [] ((k : Nat) : Int)).sum = 0 := fun ks => by
      induction ks with
      | nil => rfl
      | cons k ks ih => simp only [List.map_cons, List.sum_cons]; rw [ih]; rfl
    rw [this]; exact Int.le_refl _
  | p :: parts, ks, h, nd => by
    have ih := sumK_le parts ks (fun q hq => h q (List.mem_cons_of_mem _ hq)) nd
    have hp := h p List.mem_cons_self
    have e : ∀ j : Int, sumK (p :: parts) j = (if p.2.1 = j then p.2.2 else 0) + sumK parts j := fun j => by
      unfold sumK
      by_cases e : p.2.1 = j
      · rw [if_pos e, List.filter_cons_of_pos (by simpa using e)]; simp
      · rw [if_neg e, List.filter_cons_of_neg (by simpa using e)]; simp
    have e2 : ∀ ks : List Nat, (ks.map fun k => sumK (p :: parts) ((k : Nat) : Int)).sum = (ks.map fun k : Nat => if p.2.1 = (k : Int) then p.2.2 else 0).sum + (ks.map fun k => sumK parts ((k : Nat) : Int)).sum := fun ks => by
      induction ks with
      | nil => rfl
      | cons k ks ih =>
        rw [List.map_cons, List.sum_cons, ih, e]
        simp only [List.map_cons, List.sum_cons]; omega
    have e3 : ∀ ks : List Nat, (∀ k ∈ ks, p.2.1 ≠ ((k : Nat) : Int)) → (ks.map fun k : Nat => if p.2.1 = (k : Int) then p.2.2 else 0).sum = 0 := fun ks hk => by
      induction ks with
      | nil => rfl
      | cons k ks ih =>
        simp only [List.map_cons, List.sum_cons, ih fun j hj => hk j (List.mem_cons_of_mem _ hj), if_neg (hk k List.mem_cons_self)]; rfl
    have e4 : ∀ ks : List Nat, ks.Nodup → (ks.map fun k : Nat => if p.2.1 = (k : Int) then p.2.2 else 0).sum ≤ p.2.2 := fun ks nd => by
      induction ks with
      | nil => exact hp
      | cons k ks ih =>
        rw [List.nodup_cons] at nd
        simp only [List.map_cons, List.sum_cons]
        by_cases z : p.2.1 = (k : Int)
        · rw [if_pos z, e3 ks fun j hj q => nd.1 (by have : j = k := by omega
                                                     exact this ▸ hj)]; omega
        · rw [if_neg z]; have := ih nd.2; omega
    rw [e2]
    have := e4 ks nd
    have t : total (p :: parts) = p.2.2 + total parts := by unfold total; simp
    omega
theorem range_get {α : Type} (xs : List α) (d : α) : (List.range xs.length).map (fun k => xs.getD k d) = xs := by
  apply List.ext_getElem (by simp)
  intro i h1 h2
  simp [h2]
theorem avail_ks (sent : List (Int × Int × Int)) (w : Int) : avail sent w = (((List.range sent.length).filter fun k => decide (dayO sent k ≤ w)).map fun k => cap sent k).sum := by
  unfold avail
  conv => lhs; rw [← range_get sent (0, 0, 0)]
  rw [List.filter_map, List.map_map]
  rfl
/-- enough is free -/
theorem enough {sent : List (Int × Int × Int)} {came : List (Int × Int)} {hi : Nat} {parts : List (Int × Int × Int)} (h : DInv sent came hi parts) (w m : Int) (ha : total parts + m ≤ avail sent w) :
    m ≤ (((List.range sent.length).filter fun k => decide (dayO sent k ≤ w)).map fun k => cap sent k - sumK parts ((k : Nat) : Int)).sum := by
  have h1 := sumK_le parts ((List.range sent.length).filter fun k => decide (dayO sent k ≤ w)) (fun p hp => by obtain ⟨_, _, _, _, _, _, h1, _⟩ := h.key p hp; omega) (List.nodup_range.filter _)
  rw [avail_ks] at ha
  have e : ∀ ks : List Nat, (ks.map fun k => cap sent k - sumK parts ((k : Nat) : Int)).sum = (ks.map fun k => cap sent k).sum - (ks.map fun k => sumK parts ((k : Nat) : Int)).sum := fun ks => by
    induction ks with
    | nil => rfl
    | cons k ks ih => simp only [List.map_cons, List.sum_cons, ih]; omega
  rw [e]; omega
theorem frD_set {sent parts : List (Int × Int × Int)} {k : Nat} (b m : Int) (hk : k < sent.length) : (frD sent parts).set k (.int (cap sent k - sumK parts (k : Int) - m)) = frD sent (parts ++ [(b, (k : Int), m)]) := by
  unfold frD
  apply List.ext_getElem (by simp)
  intro i h1 h2
  simp only [List.getElem_set, List.getElem_map, List.getElem_range]
  rw [sumK_snoc]
  by_cases e : k = i
  · subst e; rw [if_pos rfl, if_pos rfl]; congr 1; omega
  · rw [if_neg e, if_neg (by omega)]; congr 1; omega
structure DealOk (sent : List (Int × Int × Int)) (came : List (Int × Int)) (deal : List (Int × Int × Int)) : Prop where
  inv : DInv sent came came.length deal
  srt : deal.Pairwise fun a b => HT.lexLt [a.1, a.2.1] [b.1, b.2.1] = true
  back : ∀ b : Nat, b < came.length → sumB deal (b : Int) = (came.getD b (0, 0)).2
theorem perm_sum {l l' : List Int} (h : l.Perm l') : l.sum = l'.sum := by
  induction h with
  | nil => rfl
  | cons x _ ih => simp only [List.sum_cons, ih]
  | swap x y l => simp only [List.sum_cons]; omega
  | trans _ _ ih1 ih2 => exact ih1.trans ih2
def toL (p : Int × Int × Int) : List Int := [p.1, p.2.1, p.2.2]
theorem encO_T (p : Int × Int × Int) : encO p = encT (toL p) := rfl
theorem deal_sorted {sent : List (Int × Int × Int)} {came : List (Int × Int)} {parts : List (Int × Int × Int)} (h : DInv sent came came.length parts) (hb : ∀ b : Nat, b < came.length → sumB parts (b : Int) = (came.getD b (0, 0)).2) :
    ∃ deal, (parts.map toL).mergeSort lexLe = deal.map toL ∧ DealOk sent came deal := by
  refine ⟨parts.mergeSort fun a b => lexLe (toL a) (toL b), (List.map_mergeSort (r := fun a b => lexLe (toL a) (toL b)) (s := lexLe) (f := toL) fun a _ b _ => rfl).symm, ?_⟩
  have p : (parts.mergeSort fun a b => lexLe (toL a) (toL b)).Perm parts := List.mergeSort_perm _ _
  have hd : (parts.mergeSort fun a b => lexLe (toL a) (toL b)).Pairwise fun a b => ¬ (a.1 = b.1 ∧ a.2.1 = b.2.1) := p.symm.pairwise h.dist fun {a b} q r => q ⟨r.1.symm, r.2.symm⟩
  have hs : (parts.mergeSort fun a b => lexLe (toL a) (toL b)).Pairwise fun a b => lexLe (toL a) (toL b) = true := List.pairwise_mergeSort (le := fun a b => lexLe (toL a) (toL b)) (fun a b c => lexLe_trans _ _ _) (fun a b => lexLe_total _ _) parts
  refine ⟨⟨fun q hq => h.key q (p.mem_iff.mp hq), hd, fun k hk => ?_⟩, ?_, fun b hb' => ?_⟩
  · rw [show sumK (parts.mergeSort fun a b => lexLe (toL a) (toL b)) (k : Int) = sumK parts (k : Int) from perm_sum ((p.filter _).map _)]
    exact h.free k hk
  · refine (hs.and hd).imp fun {a b} q => ?_
    obtain ⟨q1, q2⟩ := q
    unfold lexLe toL at q1
    simp only [HT.lexLt_cons, HT.lexLt_nil_nil] at q1 ⊢
    by_cases e : a.1 = b.1
    · have e2 : a.2.1 ≠ b.2.1 := fun z => q2 ⟨e, z⟩
      rw [if_pos e.symm, if_neg (Ne.symm e2)] at q1
      rw [if_pos e, if_neg e2]
      simp only [Bool.not_eq_true', decide_eq_false_iff_not] at q1
      exact decide_eq_true (by omega)
    · rw [if_neg (Ne.symm e)] at q1
      rw [if_neg e]
      simp only [Bool.not_eq_true', decide_eq_false_iff_not] at q1
      exact decide_eq_true (by omega)
  · rw [show sumB (parts.mergeSort fun a b => lexLe (toL a) (toL b)) (b : Int) = sumB parts (b : Int) from perm_sum ((p.filter _).map _)]
    exact hb b hb'

def Std (S S' : Sto) (sent parts : List (Int × Int × Int)) : Prop := S.m.length ≤ S'.m.length ∧ (∀ j, j < S.m.length → S'.m[j]? = S.m[j]?) ∧ S'.m[S.next]? = some (some (.lst (frD sent parts))) ∧ S'.m[S.next + 1]? = some (some (.lst (parts.map encO)))
theorem dealt_W {S : Sto} {sent : List (Int × Int × Int)} {came : List (Int × Int)} {gone least : Int} {ranks : List Int} {Q : D → Sto → Prop} (ho : OutsOk sent) (hb : BacksOk sent came gone least) (hc : came.length ≤ 18) (hr : ranks.length = sent.length)
    (q : ∀ deal S', deal.length ≤ 400 → DealOk sent came deal → S'.m = S.m → Q (.tup (deal.map encO)) S') : W (m_law_dealt [.lst (sent.map encO), .lst (came.map encB), .lst (ranks.map .int)] S) Q := by
  have hln := ho.len
  unfold m_law_dealt
  rw [W_run]
  unfold b_law_dealt
  simp only [W_fz, W_ixO, ixN_30, ixN_31, ixN_32, W_seq, W_asg, W_expr, W_ret, W_sif, W_par, W_never, W_nil, W_c, W_e2, W_call, W_anil, W_acons, W_tup, W_lst, W_lstM, W_tV, W_and, W_or, W_not, W_bAnd, W_bOr, W_bNot, W_eif, W_isN, W_notN, W_fn, W_fnK, W_pt, W_for, W_iseq, W_ienum, W_izip, W_comp, W_compG, W_compM, W_kI, W_yes, W_addI, W_addL, W_addT, W_mulI, W_ltI, W_ixL, W_ixT, W_ixS, atI_0, atI_1, atI_2, atI_3, atI_4, W_len_L, W_len_T, W_len_S, W_sum, W_all, W_any, W_min2, W_max2, W_abs, W_intI, W_intB, W_tupT, W_tupL, W_listT, W_listL, W_sl, W_oN, W_oS, W_slT, W_slL, W_slS, W_r1, W_app, W_set, W_gm, W_g0, W_g1, W_isiI, W_isiT, W_isiL, W_e3, Ws_nx, Ws_rt, W_ok, true_and, and_true, if_true, if_false, List.append_nil, frOf, bindP, bindPs, List.map_cons, List.map_nil, decide_eq_true_eq, Bool.false_eq_true, Bool.not_true, Bool.not_false, Bool.and_eq_true, W_var, List.getElem?_cons_zero, List.getElem?_cons_succ, List.set_cons_zero, List.set_cons_succ, rho0, List.length_cons, List.length_nil, List.replicate_succ, List.replicate_zero, List.cons_append, List.nil_append, List.append_eq, Nat.reduceAdd, Nat.reduceSub, wipeD, List.map_cons, List.map_nil]
  refine ⟨by rw [List.length_map]; unfold line; omega, W_eq (comp_map encO (fun _ => true) (fun r => .int r.2.1) sent [] (fun x hx => ⟨_, rfl, rfl, fun _ => rfl⟩)) ?_⟩
  simp only [W_fz, W_ixO, ixN_30, ixN_31, ixN_32, W_seq, W_asg, W_expr, W_ret, W_sif, W_par, W_never, W_nil, W_c, W_e2, W_call, W_anil, W_acons, W_tup, W_lst, W_lstM, W_tV, W_and, W_or, W_not, W_bAnd, W_bOr, W_bNot, W_eif, W_isN, W_notN, W_fn, W_fnK, W_pt, W_for, W_iseq, W_ienum, W_izip, W_comp, W_compG, W_compM, W_kI, W_yes, W_addI, W_addL, W_addT, W_mulI, W_ltI, W_ixL, W_ixT, W_ixS, atI_0, atI_1, atI_2, atI_3, atI_4, W_len_L, W_len_T, W_len_S, W_sum, W_all, W_any, W_min2, W_max2, W_abs, W_intI, W_intB, W_tupT, W_tupL, W_listT, W_listL, W_sl, W_oN, W_oS, W_slT, W_slL, W_slS, W_r1, W_app, W_set, W_gm, W_g0, W_g1, W_isiI, W_isiT, W_isiL, W_e3, Ws_nx, Ws_rt, W_ok, true_and, and_true, if_true, if_false, List.append_nil, frOf, bindP, bindPs, List.map_cons, List.map_nil, decide_eq_true_eq, Bool.false_eq_true, Bool.not_true, Bool.not_false, Bool.and_eq_true, W_var, List.getElem?_cons_zero, List.getElem?_cons_succ, List.set_cons_zero, List.set_cons_succ, rho0, List.length_cons, List.length_nil, List.replicate_succ, List.replicate_zero, List.cons_append, List.nil_append, List.append_eq, Nat.reduceAdd, Nat.reduceSub, wipeD, List.map_cons, List.map_nil]
  refine ⟨by decide, ?_⟩
  have hj : S.m.length ≤ S.next := by unfold Sto.next; omega
  have hn1 : ∀ d, (S.push d).next = S.next + 1 := fun d => by unfold Sto.next Sto.push; simp; omega
  rw [hn1]
  refine W_loop (fun ds ρ S' => ∃ (pre post : List (Int × Int)) (parts : List (Int × Int × Int)) (x5 x6 x7 x8 x9 x10 : Option D), came = pre ++ post ∧ ds = enumD pre.length (post.map encB) ∧
    ρ = [some (.lst (sent.map encO)), some (.lst (came.map encB)), some (.lst (ranks.map .int)), some (.obj S.next), some (.obj (S.next + 1)), x5, x6, x7, x8, x9, x10] ∧ Std S S' sent parts ∧ DInv sent came pre.length parts ∧
    (∀ b : Nat, b < pre.length → sumB parts (b : Int) = (came.getD b (0, 0)).2) ∧ total parts = (pre.map fun r => r.2).sum ∧ parts.length ≤ 19 * pre.length) ⟨[], came, [], _, _, _, _, _, _, rfl, rfl, rfl, ⟨?_, ?_, ?_, ?_⟩, ⟨fun p h => by simp at h, .nil, fun k hk => ?_⟩, fun b h => by simp at h, rfl, by simp⟩ ?_ ?_
  · rw [push_m, push_m]; simp
  · intro j l
    rw [push_old (by rw [push_m]; simp; omega), push_old l]
  · rw [push_old (by rw [push_m]; simp [Sto.next]), push_at]
    congr 3
    rw [List.filter_eq_self.mpr fun _ _ => rfl]
    unfold frD
    conv => lhs; rw [← range_get sent (0, 0, 0)]
    rw [List.map_map]
    apply List.map_congr_left
    intro k _
    simp [cap, sumK]
  · have := push_at (S := S.push (.lst (([] : List D) ++ (sent.filter fun _ => true).map fun r => D.int r.2.1))) (d := .lst [])
    rw [hn1] at this
    exact this
  · have := ho.row (sent.getD k (0, 0, 0)) (by simp [hk])
    show (0 : Int) ≤ _
    unfold cap; omega
  · rintro d ds ρ S3 ⟨pre, post, parts, x5, x6, x7, x8, x9, x10, ec, ed, rfl, st, inv, hsb, ht, hpl⟩
    cases post with
    | nil => simp [enumD] at ed
    | cons b post =>
      simp only [List.map_cons, enumD, List.cons.injEq] at ed
      obtain ⟨rfl, rfl⟩ := ed
      refine ⟨_, rfl, ?_⟩
      have hbp := hb.have_ pre b post ec
      have hcl : pre.length < came.length := by rw [ec]; simp
      have hcb : came.getD pre.length (0, 0) = b := by rw [ec]; simp
      simp only [W_fz, W_ixO, ixN_30, ixN_31, ixN_32, W_seq, W_asg, W_expr, W_ret, W_sif, W_par, W_never, W_nil, W_c, W_e2, W_call, W_anil, W_acons, W_tup, W_lst, W_lstM, W_tV, W_and, W_or, W_not, W_bAnd, W_bOr, W_bNot, W_eif, W_isN, W_notN, W_fn, W_fnK, W_pt, W_for, W_iseq, W_ienum, W_izip, W_comp, W_compG, W_compM, W_kI, W_yes, W_addI, W_addL, W_addT, W_mulI, W_ltI, W_ixL, W_ixT, W_ixS, atI_0, atI_1, atI_2, atI_3, atI_4, W_len_L, W_len_T, W_len_S, W_sum, W_all, W_any, W_min2, W_max2, W_abs, W_intI, W_intB, W_tupT, W_tupL, W_listT, W_listL, W_sl, W_oN, W_oS, W_slT, W_slL, W_slS, W_r1, W_app, W_set, W_gm, W_g0, W_g1, W_isiI, W_isiT, W_isiL, W_e3, Ws_nx, Ws_rt, W_ok, true_and, and_true, if_true, if_false, List.append_nil, frOf, bindP, bindPs, List.map_cons, List.map_nil, decide_eq_true_eq, Bool.false_eq_true, Bool.not_true, Bool.not_false, Bool.and_eq_true, W_var, List.getElem?_cons_zero, List.getElem?_cons_succ, List.set_cons_zero, List.set_cons_succ, rho0, List.length_cons, List.length_nil, List.replicate_succ, List.replicate_zero, List.cons_append, List.nil_append, List.append_eq, Nat.reduceAdd, Nat.reduceSub, wipeD, List.map_cons, List.map_nil, encB, List.length_map]
      rw [rangeD_0]
      refine ⟨small62_of (by omega) (by omega), by simp; unfold line; omega, W_eq (comp_mapW (fun k : Nat => D.int (k : Int)) (fun k => decide (dayO sent k ≤ b.1)) (fun k => encT [ranks.getD k 0, (k : Int)]) (List.range sent.length) [] (fun k hk => ⟨_, rfl, ?_, fun _ => ?_⟩)) ?_⟩
      · rw [List.mem_range] at hk
        simp only [W_fz, W_ixO, ixN_30, ixN_31, ixN_32, W_seq, W_asg, W_expr, W_ret, W_sif, W_par, W_never, W_nil, W_c, W_e2, W_call, W_anil, W_acons, W_tup, W_lst, W_lstM, W_tV, W_and, W_or, W_not, W_bAnd, W_bOr, W_bNot, W_eif, W_isN, W_notN, W_fn, W_fnK, W_pt, W_for, W_iseq, W_ienum, W_izip, W_comp, W_compG, W_compM, W_kI, W_yes, W_addI, W_addL, W_addT, W_mulI, W_ltI, W_ixL, W_ixT, W_ixS, atI_0, atI_1, atI_2, atI_3, atI_4, W_len_L, W_len_T, W_len_S, W_sum, W_all, W_any, W_min2, W_max2, W_abs, W_intI, W_intB, W_tupT, W_tupL, W_listT, W_listL, W_sl, W_oN, W_oS, W_slT, W_slL, W_slS, W_r1, W_app, W_set, W_gm, W_g0, W_g1, W_isiI, W_isiT, W_isiL, W_e3, Ws_nx, Ws_rt, W_ok, true_and, and_true, if_true, if_false, List.append_nil, frOf, bindP, bindPs, List.map_cons, List.map_nil, decide_eq_true_eq, Bool.false_eq_true, Bool.not_true, Bool.not_false, Bool.and_eq_true, W_var, List.getElem?_cons_zero, List.getElem?_cons_succ, List.set_cons_zero, List.set_cons_succ, rho0, List.length_cons, List.length_nil, List.replicate_succ, List.replicate_zero, List.cons_append, List.nil_append, List.append_eq, Nat.reduceAdd, Nat.reduceSub, wipeD, List.map_cons, List.map_nil, atI_get (0, 0, 0) hk, encO]
        rfl
      · rw [List.mem_range] at hk
        simp only [W_fz, W_ixO, ixN_30, ixN_31, ixN_32, W_seq, W_asg, W_expr, W_ret, W_sif, W_par, W_never, W_nil, W_c, W_e2, W_call, W_anil, W_acons, W_tup, W_lst, W_lstM, W_tV, W_and, W_or, W_not, W_bAnd, W_bOr, W_bNot, W_eif, W_isN, W_notN, W_fn, W_fnK, W_pt, W_for, W_iseq, W_ienum, W_izip, W_comp, W_compG, W_compM, W_kI, W_yes, W_addI, W_addL, W_addT, W_mulI, W_ltI, W_ixL, W_ixT, W_ixS, atI_0, atI_1, atI_2, atI_3, atI_4, W_len_L, W_len_T, W_len_S, W_sum, W_all, W_any, W_min2, W_max2, W_abs, W_intI, W_intB, W_tupT, W_tupL, W_listT, W_listL, W_sl, W_oN, W_oS, W_slT, W_slL, W_slS, W_r1, W_app, W_set, W_gm, W_g0, W_g1, W_isiI, W_isiT, W_isiL, W_e3, Ws_nx, Ws_rt, W_ok, true_and, and_true, if_true, if_false, List.append_nil, frOf, bindP, bindPs, List.map_cons, List.map_nil, decide_eq_true_eq, Bool.false_eq_true, Bool.not_true, Bool.not_false, Bool.and_eq_true, W_var, List.getElem?_cons_zero, List.getElem?_cons_succ, List.set_cons_zero, List.set_cons_succ, rho0, List.length_cons, List.length_nil, List.replicate_succ, List.replicate_zero, List.cons_append, List.nil_append, List.append_eq, Nat.reduceAdd, Nat.reduceSub, wipeD, List.map_cons, List.map_nil, atI_get (0 : Int) (show k < ranks.length by omega)]
        exact ⟨by decide, rfl⟩
      have ek : ∀ ks : List Nat, ([] : List D) ++ ks.map (fun k => encT [ranks.getD k 0, (k : Int)]) = (ks.map fun k => [ranks.getD k 0, (k : Int)]).map encT := fun ks => by simp [List.map_map]
      rw [ek, W_sortT (fun x hx => by
        rw [List.mem_map] at hx
        obtain ⟨k, _, rfl⟩ := hx
        simp)]
      simp only
      have hpm : ((List.range sent.length).filter fun k => decide (dayO sent k ≤ b.1)).mergeSort (fun a b => lexLe [ranks.getD a 0, (a : Int)] [ranks.getD b 0, (b : Int)]) |>.Perm ((List.range sent.length).filter fun k => decide (dayO sent k ≤ b.1)) := List.mergeSort_perm _ _
      have hms : (((List.range sent.length).filter fun k => decide (dayO sent k ≤ b.1)).map fun k => [ranks.getD k 0, (k : Int)]).mergeSort lexLe = (((List.range sent.length).filter fun k => decide (dayO sent k ≤ b.1)).mergeSort (fun a b => lexLe [ranks.getD a 0, (a : Int)] [ranks.getD b 0, (b : Int)])).map fun k => [ranks.getD k 0, (k : Int)] :=
        (List.map_mergeSort (r := fun a b => lexLe [ranks.getD a 0, (a : Int)] [ranks.getD b 0, (b : Int)]) (s := lexLe) (f := fun k : Nat => [ranks.getD k 0, (k : Int)]) fun a _ b _ => rfl).symm
      rw [hms]
      have hen := enough inv b.1 b.2 (by rw [ht]; exact hbp)
      rw [← perm_sum (hpm.map fun k => cap sent k - sumK parts ((k : Nat) : Int))] at hen
      have hnd := hpm.symm.nodup (List.nodup_range.filter _)
      have hin : ∀ k ∈ ((List.range sent.length).filter fun k => decide (dayO sent k ≤ b.1)).mergeSort (fun a b => lexLe [ranks.getD a 0, (a : Int)] [ranks.getD b 0, (b : Int)]), k < sent.length ∧ dayO sent k ≤ b.1 := fun k hk => by
        have := hpm.mem_iff.mp hk
        simpa using this
      have hll := hpm.length_eq
      have hll2 := List.length_filter_le (fun k => decide (dayO sent k ≤ b.1)) (List.range sent.length)
      rw [List.length_range] at hll2
      generalize ((List.range sent.length).filter fun k => decide (dayO sent k ≤ b.1)).mergeSort (fun a b => lexLe [ranks.getD a 0, (a : Int)] [ranks.getD b 0, (b : Int)]) = ks at hen hnd hin hll ⊢
      have hb1 := hb.row b (by rw [ec]; simp)
      have hs0 : sumB parts (pre.length : Int) = 0 := by
        unfold sumB
        rw [List.filter_eq_nil_iff.mpr fun p hp => ?_]
        · rfl
        · obtain ⟨b', k', h1, _, h3, _⟩ := inv.key p hp
          simp only [decide_eq_true_eq]; omega
      refine W_loop (fun ds ρ S' => ∃ (l : List Nat) (wanted : Int) (parts : List (Int × Int × Int)) (x8 x9 x10 : Option D), ds = (l.map fun k => [ranks.getD k 0, (k : Int)]).map encT ∧
        ρ = [some (.lst (sent.map encO)), some (.lst (came.map encB)), some (.lst (ranks.map .int)), some (.obj S.next), some (.obj (S.next + 1)), some (.int (pre.length : Int)), some (.tup [.int b.1, .int b.2]), some (.int wanted), x8, x9, x10] ∧
        Std S S' sent parts ∧ l.Nodup ∧ (∀ k ∈ l, k < sent.length ∧ dayO sent k ≤ b.1) ∧ 0 ≤ wanted ∧ wanted ≤ (l.map fun k => cap sent k - sumK parts ((k : Nat) : Int)).sum ∧ DInv sent came (pre.length + 1) parts ∧ (∀ p ∈ parts, p.1 = (pre.length : Int) → ∀ k ∈ l, p.2.1 ≠ ((k : Nat) : Int)) ∧
        (∀ b : Nat, b < pre.length → sumB parts (b : Int) = (came.getD b (0, 0)).2) ∧ sumB parts (pre.length : Int) + wanted = b.2 ∧ total parts + wanted = (pre.map fun r => r.2).sum + b.2 ∧ parts.length + l.length ≤ 19 * pre.length + 19)
        ⟨ks, b.2, parts, _, _, _, rfl, rfl, st, hnd, hin, by omega, hen, ⟨fun p hp => ?_, inv.dist, inv.free⟩, fun p hp e => ?_, hsb, by omega, by omega, by omega⟩ ?_ ?_
      · obtain ⟨b', k', h1, h2, h3, h4⟩ := inv.key p hp
        exact ⟨b', k', h1, h2, by omega, h4⟩
      · obtain ⟨b', k', h1, h2, h3, h4⟩ := inv.key p hp
        omega
      · rintro d ds ρ S4 ⟨l, wanted, parts, x8, x9, x10, ed, rfl, st, hnd, hin, hw0, hw, inv, hnk, hsb, hsn, htt, hpl⟩
        cases l with
        | nil => simp at ed
        | cons k l =>
          simp only [List.map_cons, List.cons.injEq] at ed
          obtain ⟨rfl, rfl⟩ := ed
          refine ⟨_, rfl, ?_⟩
          obtain ⟨st1, st2, st3, st4⟩ := st
          have hk := hin k List.mem_cons_self
          rw [List.nodup_cons] at hnd
          have hfk : atI (frD sent parts) (k : Int) = some (.int (cap sent k - sumK parts (k : Int))) := by
            unfold frD
            rw [atI_map, atI_nat (by simpa using hk.1)]; simp
          have hfl : (frD sent parts).length = sent.length := by simp [frD]
          simp only [W_fz, W_ixO, ixN_30, ixN_31, ixN_32, W_seq, W_asg, W_expr, W_ret, W_sif, W_par, W_never, W_nil, W_c, W_e2, W_call, W_anil, W_acons, W_tup, W_lst, W_lstM, W_tV, W_and, W_or, W_not, W_bAnd, W_bOr, W_bNot, W_eif, W_isN, W_notN, W_fn, W_fnK, W_pt, W_for, W_iseq, W_ienum, W_izip, W_comp, W_compG, W_compM, W_kI, W_yes, W_addI, W_addL, W_addT, W_mulI, W_ltI, W_ixL, W_ixT, W_ixS, atI_0, atI_1, atI_2, atI_3, atI_4, W_len_L, W_len_T, W_len_S, W_sum, W_all, W_any, W_min2, W_max2, W_abs, W_intI, W_intB, W_tupT, W_tupL, W_listT, W_listL, W_sl, W_oN, W_oS, W_slT, W_slL, W_slS, W_r1, W_app, W_set, W_gm, W_g0, W_g1, W_isiI, W_isiT, W_isiL, W_e3, Ws_nx, Ws_rt, W_ok, true_and, and_true, if_true, if_false, List.append_nil, frOf, bindP, bindPs, List.map_cons, List.map_nil, decide_eq_true_eq, Bool.false_eq_true, Bool.not_true, Bool.not_false, Bool.and_eq_true, W_var, List.getElem?_cons_zero, List.getElem?_cons_succ, List.set_cons_zero, List.set_cons_succ, rho0, List.length_cons, List.length_nil, List.replicate_succ, List.replicate_zero, List.cons_append, List.nil_append, List.append_eq, Nat.reduceAdd, Nat.reduceSub, wipeD, List.map_cons, List.map_nil, st3, hfk, st4, hfl, ixN_nat hk.1, put_m]
          have hf0 := inv.free k hk.1
          have hsB0 : 0 ≤ sumB parts (pre.length : Int) := sum_nonneg _ fun x hx => by
            rw [List.mem_map] at hx
            obtain ⟨p, hp, rfl⟩ := hx
            obtain ⟨_, _, _, _, _, _, h1, _⟩ := inv.key p (List.mem_filter.mp hp).1
            omega
          have hmx : ∃ m : Int, (if cap sent k - sumK parts (k : Int) < wanted then cap sent k - sumK parts (k : Int) else wanted) = m ∧ 0 ≤ m ∧ m ≤ wanted ∧ m ≤ cap sent k - sumK parts (k : Int) ∧ (m = wanted ∨ m = cap sent k - sumK parts (k : Int)) := by
            split
            · exact ⟨_, rfl, by omega, by omega, by omega, .inr rfl⟩
            · exact ⟨_, rfl, by omega, by omega, by omega, .inl rfl⟩
          obtain ⟨m, em, m0, m1, m2, m3⟩ := hmx
          rw [em]
          simp only [List.map_cons, List.sum_cons] at hw
          have hl0 : 0 ≤ (l.map fun k => cap sent k - sumK parts ((k : Nat) : Int)).sum := sum_nonneg _ fun x hx => by
            rw [List.mem_map] at hx
            obtain ⟨j, hj', rfl⟩ := hx
            have := inv.free j (hin j (List.mem_cons_of_mem _ hj')).1
            omega
          simp only [List.length_cons] at hpl
          by_cases hm : 0 < m
          · rw [if_pos hm]
            simp only [W_fz, W_ixO, ixN_30, ixN_31, ixN_32, W_seq, W_asg, W_expr, W_ret, W_sif, W_par, W_never, W_nil, W_c, W_e2, W_call, W_anil, W_acons, W_tup, W_lst, W_lstM, W_tV, W_and, W_or, W_not, W_bAnd, W_bOr, W_bNot, W_eif, W_isN, W_notN, W_fn, W_fnK, W_pt, W_for, W_iseq, W_ienum, W_izip, W_comp, W_compG, W_compM, W_kI, W_yes, W_addI, W_addL, W_addT, W_mulI, W_ltI, W_ixL, W_ixT, W_ixS, atI_0, atI_1, atI_2, atI_3, atI_4, W_len_L, W_len_T, W_len_S, W_sum, W_all, W_any, W_min2, W_max2, W_abs, W_intI, W_intB, W_tupT, W_tupL, W_listT, W_listL, W_sl, W_oN, W_oS, W_slT, W_slL, W_slS, W_r1, W_app, W_set, W_gm, W_g0, W_g1, W_isiI, W_isiT, W_isiL, W_e3, Ws_nx, Ws_rt, W_ok, true_and, and_true, if_true, if_false, List.append_nil, frOf, bindP, bindPs, List.map_cons, List.map_nil, decide_eq_true_eq, Bool.false_eq_true, Bool.not_true, Bool.not_false, Bool.and_eq_true, W_var, List.getElem?_cons_zero, List.getElem?_cons_succ, List.set_cons_zero, List.set_cons_succ, rho0, List.length_cons, List.length_nil, List.replicate_succ, List.replicate_zero, List.cons_append, List.nil_append, List.append_eq, Nat.reduceAdd, Nat.reduceSub, wipeD, List.map_cons, List.map_nil, put_m, List.getElem?_set_ne (show S.next + 1 ≠ S.next by omega), st3, hfk, hfl, ixN_nat hk.1, List.length_map]
            rw [frD_set (pre.length : Int) m hk.1]
            have he : ∀ l : List Nat, k ∉ l → (l.map fun k' => cap sent k' - sumK (parts ++ [((pre.length : Int), (k : Int), m)]) ((k' : Nat) : Int)) = l.map fun k' => cap sent k' - sumK parts ((k' : Nat) : Int) := fun l hl => List.map_congr_left fun j hj' => by
              rw [sumK_snoc, if_neg fun (z : (k : Int) = (j : Int)) => hl (by
                have : k = j := by omega
                exact this ▸ hj')]
              omega
            refine ⟨by decide, by unfold line; omega, by decide, rfl, l, wanted - m, parts ++ [((pre.length : Int), (k : Int), m)], _, _, _, rfl, rfl, ⟨?_, ?_, ?_, ?_⟩, hnd.2, fun j hj' => hin j (List.mem_cons_of_mem _ hj'), by omega, ?_, ⟨fun p hp => ?_, ?_, fun j hj' => ?_⟩, fun p hp e j hj' => ?_, fun b' hb' => ?_, ?_, ?_, by simp; omega⟩
            · simp only [put_m, List.length_set]; exact st1
            · intro j hj'
              rw [put_m, put_m, List.getElem?_set_ne (by omega), List.getElem?_set_ne (by omega)]
              exact st2 j hj'
            · rw [put_m, List.getElem?_set_self (by rw [put_m, List.length_set]; exact (List.getElem?_eq_some_iff.mp st3).1)]
            · rw [put_m, put_m, List.getElem?_set_ne (by omega), List.getElem?_set_self (List.getElem?_eq_some_iff.mp st4).1, List.map_append]
              rfl
            · rw [he l hnd.1]; omega
            · rw [List.mem_append, List.mem_singleton] at hp
              rcases hp with hp | rfl
              · exact inv.key p hp
              · refine ⟨pre.length, k, rfl, rfl, by omega, hk.1, by simp only; omega, by simp only; omega, ?_⟩
                unfold dayB
                rw [hcb]; exact hk.2
            · rw [List.pairwise_append]
              refine ⟨inv.dist, List.pairwise_singleton _ _, fun a ha b' hb' => ?_⟩
              rw [List.mem_singleton] at hb'; subst hb'
              exact fun z => hnk a ha z.1 k List.mem_cons_self z.2
            · rw [sumK_snoc]
              have := inv.free j hj'
              split
              · have : k = j := by omega
                subst this; omega
              · omega
            · rw [List.mem_append, List.mem_singleton] at hp
              rcases hp with hp | rfl
              · exact hnk p hp e j (List.mem_cons_of_mem _ hj')
              · intro (z : (k : Int) = (j : Int))
                have : k = j := by omega
                exact hnd.1 (this ▸ hj')
            · rw [sumB_snoc, if_neg (by omega)]
              have := hsb b' hb'
              omega
            · rw [sumB_snoc, if_pos rfl]; omega
            · rw [total_snoc]; omega
          · rw [if_neg hm]
            exact ⟨l, wanted, parts, _, _, _, rfl, rfl, ⟨st1, st2, st3, st4⟩, hnd.2, fun j hj' => hin j (List.mem_cons_of_mem _ hj'), hw0, by omega, inv, fun p hp e j hj' => hnk p hp e j (List.mem_cons_of_mem _ hj'), hsb, hsn, htt, by omega⟩
      · rintro ρ S4 ⟨l, wanted, parts, x8, x9, x10, ed, rfl, st, hnd, hin, hw0, hw, inv, hnk, hsb, hsn, htt, hpl⟩
        have el : l = [] := by
          cases l with
          | nil => rfl
          | cons k l => simp at ed
        subst el
        have hw' : wanted ≤ 0 := hw
        have e0 : wanted = 0 := by omega
        subst e0
        refine ⟨pre ++ [b], post, parts, _, _, _, _, _, _, by rw [ec]; simp, by simp, rfl, st, by simpa using inv, fun b' hb' => ?_, by simp; omega, by simp at hpl ⊢; omega⟩
        simp only [List.length_append, List.length_cons, List.length_nil] at hb'
        by_cases e : b' = pre.length
        · subst e; rw [hcb]; omega
        · exact hsb b' (by omega)
  · rintro ρ S3 ⟨pre, post, parts, x5, x6, x7, x8, x9, x10, ec, ed, rfl, st, inv, hsb, ht, hpl⟩
    have ep : post = [] := by
      cases post with
      | nil => rfl
      | cons b post => simp [enumD] at ed
    subst ep
    rw [List.append_nil] at ec
    subst ec
    obtain ⟨st1, st2, st3, st4⟩ := st
    obtain ⟨deal, hdl, hok⟩ := deal_sorted inv hsb
    have hlen : deal.length = parts.length := by
      have := congrArg List.length hdl
      simpa using this.symm
    simp only [W_var, List.getElem?_cons_zero, List.getElem?_cons_succ, List.set_cons_zero, List.set_cons_succ, rho0, List.length_cons, List.length_nil, List.replicate_succ, List.replicate_zero, List.cons_append, List.nil_append, List.append_eq, Nat.reduceAdd, Nat.reduceSub, wipeD, List.map_cons, List.map_nil]
    have e1 : parts.map encO = (parts.map toL).map encT := by rw [List.map_map]; rfl
    rw [e1] at st4
    rw [W_sortTO st4 (fun x hx => by
      rw [List.mem_map] at hx
      obtain ⟨p, _, rfl⟩ := hx
      simp [toL]), hdl, W_tupL]
    have e2 : (deal.map toL).map encT = deal.map encO := by rw [List.map_map]; rfl
    rw [e2]
    refine q deal _ (by omega) hok ?_
    rw [back_m]
    apply List.ext_getElem?
    intro j
    by_cases hj' : j < S.m.length
    · rw [List.getElem?_take_of_lt hj']; exact st2 j hj'
    · rw [List.getElem?_eq_none (by rw [List.length_take]; omega), List.getElem?_eq_none (by omega)]
end K16


namespace K16
open PySem L2 Qd

/-! ### things handed in -/
mutual
def dtD : D → Bool
  | .tup ds => dtDs ds
  | .non => true
  | .bl _ => true
  | .int _ => true
  | .str _ => true
  | .lst _ => true
  | .dk _ _ => true
  | _ => false
def dtDs : List D → Bool
  | [] => true
  | d :: ds => dtD d && dtDs ds
end
theorem dtDs_iff {ds : List D} : dtDs ds = true ↔ ∀ d ∈ ds, dtD d = true := by
  induction ds with
  | nil => simp [dtDs]
  | cons d ds ih => simp [dtDs, ih]
def tyS : D → String
  | .non => "NoneType"
  | .bl _ => "bool"
  | .int _ => "int"
  | .str _ => "str"
  | .tup _ => "tuple"
  | .lst _ => "list"
  | _ => "dict"
theorem ty_dt {S : Sto} {d : D} (h : dtD d = true) : tyOf S d = some (tyS d) := by
  cases d <;> first
    | rfl
    | (simp [dtD] at h)
theorem W_isiD {S : Sto} {Q : D → Sto → Prop} {d : D} {n : String} (h : dtD d = true) : W (kIsi [d, .ty n] S) Q = (knownTy n = true ∧ Q (.bl (isaB (tyS d) n)) S) := by
  show W (match (D.ty n), tyOf S d with
    | .ty T, some a => chk (knownTy T) (.ok (.bl (isaB a T)) S)
    | .tup cs, some a => (match tysD cs with
      | some Ts => chk (Ts.all knownTy) (.ok (.bl (Ts.any (isaB a))) S)
      | none => .no)
    | _, _ => .no) Q = _
  rw [ty_dt h]
  exact W_chk
def isInt : D → Bool
  | .int _ => true
  | _ => false
def isTup : D → Bool
  | .tup _ => true
  | _ => false
theorem isa_int {d : D} (h : dtD d = true) : (isaB (tyS d) "int" && !isaB (tyS d) "bool") = isInt d := by
  cases d <;> first
    | (simp only [tyS, isInt]; decide)
    | (simp [dtD] at h)
theorem isa_tup {d : D} (h : dtD d = true) : isaB (tyS d) "tuple" = isTup d := by
  cases d <;> first
    | (simp only [tyS, isTup]; decide)
    | (simp [dtD] at h)
theorem whole_D {S : Sto} {d : D} (h : dtD d = true) : m_is_whole [d] S = .ok (.bl (isInt d)) S := of_W (by
  unfold m_is_whole
  rw [W_run]
  unfold b_is_whole
  simp only [W_fz, W_ixO, ixN_30, ixN_31, ixN_32, W_seq, W_asg, W_expr, W_ret, W_sif, W_par, W_never, W_nil, W_c, W_e2, W_call, W_anil, W_acons, W_tup, W_lst, W_lstM, W_tV, W_and, W_or, W_not, W_bAnd, W_bOr, W_bNot, W_eif, W_isN, W_notN, W_fn, W_fnK, W_pt, W_for, W_iseq, W_ienum, W_izip, W_comp, W_compG, W_compM, W_kI, W_yes, W_addI, W_addL, W_addT, W_mulI, W_ltI, W_ixL, W_ixT, W_ixS, atI_0, atI_1, atI_2, atI_3, atI_4, W_len_L, W_len_T, W_len_S, W_sum, W_all, W_any, W_min2, W_max2, W_abs, W_intI, W_intB, W_tupT, W_tupL, W_listT, W_listL, W_sl, W_oN, W_oS, W_slT, W_slL, W_slS, W_r1, W_app, W_set, W_gm, W_g0, W_g1, W_isiI, W_isiT, W_isiL, W_e3, Ws_nx, Ws_rt, W_ok, true_and, and_true, if_true, if_false, List.append_nil, frOf_l, frOf_t, frOf_s, kn_t, kn_i, kn_b, kn_l, kn_s, kn_d, isa_tt, isa_ii, isa_ib, isa_ll, isa_lt, isa_tl, W_isiL2, W_isiT2, W_allT, W_sumI, W_allM, W_sumM, cut2, W_ltT2, W_neI, W_eqI, bindP, bindPs, List.map_cons, List.map_nil, decide_eq_true_eq, Bool.false_eq_true, Bool.not_true, Bool.not_false, Bool.and_eq_true, W_var, List.getElem?_cons_zero, List.getElem?_cons_succ, List.set_cons_zero, List.set_cons_succ, rho0, List.length_cons, List.length_nil, List.replicate_succ, List.replicate_zero, List.cons_append, List.nil_append, List.append_eq, Nat.reduceAdd, Nat.reduceSub, wipeD, List.map_cons, List.map_nil, W_isiD h, back_same]
  rw [← isa_int h]
  cases isaB (tyS d) "int" <;> simp)
theorem number_D {S : Sto} {d : D} (h : dtD d = true) : m_law_number [d] S = .ok (.bl (isInt d)) S := of_W (by
  unfold m_law_number
  rw [W_run]
  unfold b_law_number
  simp only [W_fz, W_ixO, ixN_30, ixN_31, ixN_32, W_seq, W_asg, W_expr, W_ret, W_sif, W_par, W_never, W_nil, W_c, W_e2, W_call, W_anil, W_acons, W_tup, W_lst, W_lstM, W_tV, W_and, W_or, W_not, W_bAnd, W_bOr, W_bNot, W_eif, W_isN, W_notN, W_fn, W_fnK, W_pt, W_for, W_iseq, W_ienum, W_izip, W_comp, W_compG, W_compM, W_kI, W_yes, W_addI, W_addL, W_addT, W_mulI, W_ltI, W_ixL, W_ixT, W_ixS, atI_0, atI_1, atI_2, atI_3, atI_4, W_len_L, W_len_T, W_len_S, W_sum, W_all, W_any, W_min2, W_max2, W_abs, W_intI, W_intB, W_tupT, W_tupL, W_listT, W_listL, W_sl, W_oN, W_oS, W_slT, W_slL, W_slS, W_r1, W_app, W_set, W_gm, W_g0, W_g1, W_isiI, W_isiT, W_isiL, W_e3, Ws_nx, Ws_rt, W_ok, true_and, and_true, if_true, if_false, List.append_nil, frOf_l, frOf_t, frOf_s, kn_t, kn_i, kn_b, kn_l, kn_s, kn_d, isa_tt, isa_ii, isa_ib, isa_ll, isa_lt, isa_tl, W_isiL2, W_isiT2, W_allT, W_sumI, W_allM, W_sumM, cut2, W_ltT2, W_neI, W_eqI, bindP, bindPs, List.map_cons, List.map_nil, decide_eq_true_eq, Bool.false_eq_true, Bool.not_true, Bool.not_false, Bool.and_eq_true, W_var, List.getElem?_cons_zero, List.getElem?_cons_succ, List.set_cons_zero, List.set_cons_succ, rho0, List.length_cons, List.length_nil, List.replicate_succ, List.replicate_zero, List.cons_append, List.nil_append, List.append_eq, Nat.reduceAdd, Nat.reduceSub, wipeD, List.map_cons, List.map_nil, W_isiD h, back_same]
  rw [← isa_int h]
  cases isaB (tyS d) "int" <;> simp)
def inB (d : D) (lo hi : Int) : Bool := match d with
  | .int i => decide (lo ≤ i) && decide (i ≤ hi)
  | _ => false
theorem within_D {S : Sto} {d : D} {lo hi : Int} (h : dtD d = true) : m_is_within [d, .int lo, .int hi] S = .ok (.bl (inB d lo hi)) S := of_W (by
  unfold m_is_within
  rw [W_run]
  unfold b_is_within
  simp only [W_fz, W_ixO, ixN_30, ixN_31, ixN_32, W_seq, W_asg, W_expr, W_ret, W_sif, W_par, W_never, W_nil, W_c, W_e2, W_call, W_anil, W_acons, W_tup, W_lst, W_lstM, W_tV, W_and, W_or, W_not, W_bAnd, W_bOr, W_bNot, W_eif, W_isN, W_notN, W_fn, W_fnK, W_pt, W_for, W_iseq, W_ienum, W_izip, W_comp, W_compG, W_compM, W_kI, W_yes, W_addI, W_addL, W_addT, W_mulI, W_ltI, W_ixL, W_ixT, W_ixS, atI_0, atI_1, atI_2, atI_3, atI_4, W_len_L, W_len_T, W_len_S, W_sum, W_all, W_any, W_min2, W_max2, W_abs, W_intI, W_intB, W_tupT, W_tupL, W_listT, W_listL, W_sl, W_oN, W_oS, W_slT, W_slL, W_slS, W_r1, W_app, W_set, W_gm, W_g0, W_g1, W_isiI, W_isiT, W_isiL, W_e3, Ws_nx, Ws_rt, W_ok, true_and, and_true, if_true, if_false, List.append_nil, frOf_l, frOf_t, frOf_s, kn_t, kn_i, kn_b, kn_l, kn_s, kn_d, isa_tt, isa_ii, isa_ib, isa_ll, isa_lt, isa_tl, W_isiL2, W_isiT2, W_allT, W_sumI, W_allM, W_sumM, cut2, W_ltT2, W_neI, W_eqI, bindP, bindPs, List.map_cons, List.map_nil, decide_eq_true_eq, Bool.false_eq_true, Bool.not_true, Bool.not_false, Bool.and_eq_true, W_var, List.getElem?_cons_zero, List.getElem?_cons_succ, List.set_cons_zero, List.set_cons_succ, rho0, List.length_cons, List.length_nil, List.replicate_succ, List.replicate_zero, List.cons_append, List.nil_append, List.append_eq, Nat.reduceAdd, Nat.reduceSub, wipeD, List.map_cons, List.map_nil, whole_D h, back_same]
  cases d with
  | int i =>
    simp only [isInt, inB, if_true, W_fz, W_ixO, ixN_30, ixN_31, ixN_32, W_seq, W_asg, W_expr, W_ret, W_sif, W_par, W_never, W_nil, W_c, W_e2, W_call, W_anil, W_acons, W_tup, W_lst, W_lstM, W_tV, W_and, W_or, W_not, W_bAnd, W_bOr, W_bNot, W_eif, W_isN, W_notN, W_fn, W_fnK, W_pt, W_for, W_iseq, W_ienum, W_izip, W_comp, W_compG, W_compM, W_kI, W_yes, W_addI, W_addL, W_addT, W_mulI, W_ltI, W_ixL, W_ixT, W_ixS, atI_0, atI_1, atI_2, atI_3, atI_4, W_len_L, W_len_T, W_len_S, W_sum, W_all, W_any, W_min2, W_max2, W_abs, W_intI, W_intB, W_tupT, W_tupL, W_listT, W_listL, W_sl, W_oN, W_oS, W_slT, W_slL, W_slS, W_r1, W_app, W_set, W_gm, W_g0, W_g1, W_isiI, W_isiT, W_isiL, W_e3, Ws_nx, Ws_rt, W_ok, true_and, and_true, if_true, if_false, List.append_nil, frOf_l, frOf_t, frOf_s, kn_t, kn_i, kn_b, kn_l, kn_s, kn_d, isa_tt, isa_ii, isa_ib, isa_ll, isa_lt, isa_tl, W_isiL2, W_isiT2, W_allT, W_sumI, W_allM, W_sumM, cut2, W_ltT2, W_neI, W_eqI, bindP, bindPs, List.map_cons, List.map_nil, decide_eq_true_eq, Bool.false_eq_true, Bool.not_true, Bool.not_false, Bool.and_eq_true, W_var, List.getElem?_cons_zero, List.getElem?_cons_succ, List.set_cons_zero, List.set_cons_succ, rho0, List.length_cons, List.length_nil, List.replicate_succ, List.replicate_zero, List.cons_append, List.nil_append, List.append_eq, Nat.reduceAdd, Nat.reduceSub, wipeD, List.map_cons, List.map_nil]
    cases z : decide (lo ≤ i) <;> simp [z, back_same]
  | _ => simp [isInt, inB, back_same])
theorem within_ok {i lo hi : Int} {S : Sto} (h1 : lo ≤ i) (h2 : i ≤ hi) : m_is_within [.int i, .int lo, .int hi] S = .ok (.bl true) S := by
  rw [within_D rfl]; simp [inB, h1, h2]
theorem amount_ok {i : Int} {S : Sto} (h1 : 0 ≤ i) (h2 : i ≤ 9999) : m_is_amount [.int i] S = .ok (.bl true) S := of_W (by
  unfold m_is_amount
  rw [W_run]
  unfold b_is_amount
  simp only [W_fz, W_ixO, ixN_30, ixN_31, ixN_32, W_seq, W_asg, W_expr, W_ret, W_sif, W_par, W_never, W_nil, W_c, W_e2, W_call, W_anil, W_acons, W_tup, W_lst, W_lstM, W_tV, W_and, W_or, W_not, W_bAnd, W_bOr, W_bNot, W_eif, W_isN, W_notN, W_fn, W_fnK, W_pt, W_for, W_iseq, W_ienum, W_izip, W_comp, W_compG, W_compM, W_kI, W_yes, W_addI, W_addL, W_addT, W_mulI, W_ltI, W_ixL, W_ixT, W_ixS, atI_0, atI_1, atI_2, atI_3, atI_4, W_len_L, W_len_T, W_len_S, W_sum, W_all, W_any, W_min2, W_max2, W_abs, W_intI, W_intB, W_tupT, W_tupL, W_listT, W_listL, W_sl, W_oN, W_oS, W_slT, W_slL, W_slS, W_r1, W_app, W_set, W_gm, W_g0, W_g1, W_isiI, W_isiT, W_isiL, W_e3, Ws_nx, Ws_rt, W_ok, true_and, and_true, if_true, if_false, List.append_nil, frOf_l, frOf_t, frOf_s, kn_t, kn_i, kn_b, kn_l, kn_s, kn_d, isa_tt, isa_ii, isa_ib, isa_ll, isa_lt, isa_tl, W_isiL2, W_isiT2, W_allT, W_sumI, W_allM, W_sumM, cut2, W_ltT2, W_neI, W_eqI, bindP, bindPs, List.map_cons, List.map_nil, decide_eq_true_eq, Bool.false_eq_true, Bool.not_true, Bool.not_false, Bool.and_eq_true, W_var, List.getElem?_cons_zero, List.getElem?_cons_succ, List.set_cons_zero, List.set_cons_succ, rho0, List.length_cons, List.length_nil, List.replicate_succ, List.replicate_zero, List.cons_append, List.nil_append, List.append_eq, Nat.reduceAdd, Nat.reduceSub, wipeD, List.map_cons, List.map_nil, within_ok h1 h2, back_same]
  try exact ⟨rfl, rfl⟩)
theorem day_ok {i : Int} {S : Sto} (h1 : 0 ≤ i) (h2 : i ≤ 9999) : m_is_day [.int i] S = .ok (.bl true) S := of_W (by
  unfold m_is_day
  rw [W_run]
  unfold b_is_day
  simp only [W_fz, W_ixO, ixN_30, ixN_31, ixN_32, W_seq, W_asg, W_expr, W_ret, W_sif, W_par, W_never, W_nil, W_c, W_e2, W_call, W_anil, W_acons, W_tup, W_lst, W_lstM, W_tV, W_and, W_or, W_not, W_bAnd, W_bOr, W_bNot, W_eif, W_isN, W_notN, W_fn, W_fnK, W_pt, W_for, W_iseq, W_ienum, W_izip, W_comp, W_compG, W_compM, W_kI, W_yes, W_addI, W_addL, W_addT, W_mulI, W_ltI, W_ixL, W_ixT, W_ixS, atI_0, atI_1, atI_2, atI_3, atI_4, W_len_L, W_len_T, W_len_S, W_sum, W_all, W_any, W_min2, W_max2, W_abs, W_intI, W_intB, W_tupT, W_tupL, W_listT, W_listL, W_sl, W_oN, W_oS, W_slT, W_slL, W_slS, W_r1, W_app, W_set, W_gm, W_g0, W_g1, W_isiI, W_isiT, W_isiL, W_e3, Ws_nx, Ws_rt, W_ok, true_and, and_true, if_true, if_false, List.append_nil, frOf_l, frOf_t, frOf_s, kn_t, kn_i, kn_b, kn_l, kn_s, kn_d, isa_tt, isa_ii, isa_ib, isa_ll, isa_lt, isa_tl, W_isiL2, W_isiT2, W_allT, W_sumI, W_allM, W_sumM, cut2, W_ltT2, W_neI, W_eqI, bindP, bindPs, List.map_cons, List.map_nil, decide_eq_true_eq, Bool.false_eq_true, Bool.not_true, Bool.not_false, Bool.and_eq_true, W_var, List.getElem?_cons_zero, List.getElem?_cons_succ, List.set_cons_zero, List.set_cons_succ, rho0, List.length_cons, List.length_nil, List.replicate_succ, List.replicate_zero, List.cons_append, List.nil_append, List.append_eq, Nat.reduceAdd, Nat.reduceSub, wipeD, List.map_cons, List.map_nil, within_ok h1 h2, back_same]
  try exact ⟨rfl, rfl⟩)
/-- three whole numbers -/
def isT3 (d : D) : Bool := match d with
  | .tup ds => decide (ds.length = 3) && ds.all isInt
  | _ => false
theorem numbers_D {S : Sto} {d : D} (h : dtD d = true) : m_law_numbers [d, .int 3] S = .ok (.bl (isT3 d)) S := of_W (by
  unfold m_law_numbers
  rw [W_run]
  unfold b_law_numbers
  simp only [W_fz, W_ixO, ixN_30, ixN_31, ixN_32, W_seq, W_asg, W_expr, W_ret, W_sif, W_par, W_never, W_nil, W_c, W_e2, W_call, W_anil, W_acons, W_tup, W_lst, W_lstM, W_tV, W_and, W_or, W_not, W_bAnd, W_bOr, W_bNot, W_eif, W_isN, W_notN, W_fn, W_fnK, W_pt, W_for, W_iseq, W_ienum, W_izip, W_comp, W_compG, W_compM, W_kI, W_yes, W_addI, W_addL, W_addT, W_mulI, W_ltI, W_ixL, W_ixT, W_ixS, atI_0, atI_1, atI_2, atI_3, atI_4, W_len_L, W_len_T, W_len_S, W_sum, W_all, W_any, W_min2, W_max2, W_abs, W_intI, W_intB, W_tupT, W_tupL, W_listT, W_listL, W_sl, W_oN, W_oS, W_slT, W_slL, W_slS, W_r1, W_app, W_set, W_gm, W_g0, W_g1, W_isiI, W_isiT, W_isiL, W_e3, Ws_nx, Ws_rt, W_ok, true_and, and_true, if_true, if_false, List.append_nil, frOf_l, frOf_t, frOf_s, kn_t, kn_i, kn_b, kn_l, kn_s, kn_d, isa_tt, isa_ii, isa_ib, isa_ll, isa_lt, isa_tl, W_isiL2, W_isiT2, W_allT, W_sumI, W_allM, W_sumM, cut2, W_ltT2, W_neI, W_eqI, bindP, bindPs, List.map_cons, List.map_nil, decide_eq_true_eq, Bool.false_eq_true, Bool.not_true, Bool.not_false, Bool.and_eq_true, W_var, List.getElem?_cons_zero, List.getElem?_cons_succ, List.set_cons_zero, List.set_cons_succ, rho0, List.length_cons, List.length_nil, List.replicate_succ, List.replicate_zero, List.cons_append, List.nil_append, List.append_eq, Nat.reduceAdd, Nat.reduceSub, wipeD, List.map_cons, List.map_nil, W_isiD h, isa_tup h, back_same]
  cases d with
  | tup ds =>
    simp only [isTup, if_true, W_fz, W_ixO, ixN_30, ixN_31, ixN_32, W_seq, W_asg, W_expr, W_ret, W_sif, W_par, W_never, W_nil, W_c, W_e2, W_call, W_anil, W_acons, W_tup, W_lst, W_lstM, W_tV, W_and, W_or, W_not, W_bAnd, W_bOr, W_bNot, W_eif, W_isN, W_notN, W_fn, W_fnK, W_pt, W_for, W_iseq, W_ienum, W_izip, W_comp, W_compG, W_compM, W_kI, W_yes, W_addI, W_addL, W_addT, W_mulI, W_ltI, W_ixL, W_ixT, W_ixS, atI_0, atI_1, atI_2, atI_3, atI_4, W_len_L, W_len_T, W_len_S, W_sum, W_all, W_any, W_min2, W_max2, W_abs, W_intI, W_intB, W_tupT, W_tupL, W_listT, W_listL, W_sl, W_oN, W_oS, W_slT, W_slL, W_slS, W_r1, W_app, W_set, W_gm, W_g0, W_g1, W_isiI, W_isiT, W_isiL, W_e3, Ws_nx, Ws_rt, W_ok, true_and, and_true, if_true, if_false, List.append_nil, frOf_l, frOf_t, frOf_s, kn_t, kn_i, kn_b, kn_l, kn_s, kn_d, isa_tt, isa_ii, isa_ib, isa_ll, isa_lt, isa_tl, W_isiL2, W_isiT2, W_allT, W_sumI, W_allM, W_sumM, cut2, W_ltT2, W_neI, W_eqI, bindP, bindPs, List.map_cons, List.map_nil, decide_eq_true_eq, Bool.false_eq_true, Bool.not_true, Bool.not_false, Bool.and_eq_true, W_var, List.getElem?_cons_zero, List.getElem?_cons_succ, List.set_cons_zero, List.set_cons_succ, rho0, List.length_cons, List.length_nil, List.replicate_succ, List.replicate_zero, List.cons_append, List.nil_append, List.append_eq, Nat.reduceAdd, Nat.reduceSub, wipeD, List.map_cons, List.map_nil, isT3]
    by_cases e : ds.length = 3
    · have e2 : ((ds.length : Int) = 3) := by omega
      simp only [e2, e, decide_true, W_fz, W_ixO, ixN_30, ixN_31, ixN_32, W_seq, W_asg, W_expr, W_ret, W_sif, W_par, W_never, W_nil, W_c, W_e2, W_call, W_anil, W_acons, W_tup, W_lst, W_lstM, W_tV, W_and, W_or, W_not, W_bAnd, W_bOr, W_bNot, W_eif, W_isN, W_notN, W_fn, W_fnK, W_pt, W_for, W_iseq, W_ienum, W_izip, W_comp, W_compG, W_compM, W_kI, W_yes, W_addI, W_addL, W_addT, W_mulI, W_ltI, W_ixL, W_ixT, W_ixS, atI_0, atI_1, atI_2, atI_3, atI_4, W_len_L, W_len_T, W_len_S, W_sum, W_all, W_any, W_min2, W_max2, W_abs, W_intI, W_intB, W_tupT, W_tupL, W_listT, W_listL, W_sl, W_oN, W_oS, W_slT, W_slL, W_slS, W_r1, W_app, W_set, W_gm, W_g0, W_g1, W_isiI, W_isiT, W_isiL, W_e3, Ws_nx, Ws_rt, W_ok, true_and, and_true, if_true, if_false, List.append_nil, frOf_l, frOf_t, frOf_s, kn_t, kn_i, kn_b, kn_l, kn_s, kn_d, isa_tt, isa_ii, isa_ib, isa_ll, isa_lt, isa_tl, W_isiL2, W_isiT2, W_allT, W_sumI, W_allM, W_sumM, cut2, W_ltT2, W_neI, W_eqI, bindP, bindPs, List.map_cons, List.map_nil, decide_eq_true_eq, Bool.false_eq_true, Bool.not_true, Bool.not_false, Bool.and_eq_true, W_var, List.getElem?_cons_zero, List.getElem?_cons_succ, List.set_cons_zero, List.set_cons_succ, rho0, List.length_cons, List.length_nil, List.replicate_succ, List.replicate_zero, List.cons_append, List.nil_append, List.append_eq, Nat.reduceAdd, Nat.reduceSub, wipeD, List.map_cons, List.map_nil]
      have hm : comp (.nm 2) tYesD (eFn m_law_number (aCons (eVar 2) aNil) []) [some (.tup ds), some (.int 3), none] (ds.map id) S [] = .ok ([] ++ (ds.filter fun _ => true).map fun d => .bl (isInt d)) S :=
        comp_map id (fun _ => true) (fun d => .bl (isInt d)) ds [] fun x hx => ⟨_, rfl, rfl, fun _ => of_W (by
          have hx' : dtD x = true := dtDs_iff.mp (by simpa [dtD] using h) x hx
          simp only [W_fz, W_ixO, ixN_30, ixN_31, ixN_32, W_seq, W_asg, W_expr, W_ret, W_sif, W_par, W_never, W_nil, W_c, W_e2, W_call, W_anil, W_acons, W_tup, W_lst, W_lstM, W_tV, W_and, W_or, W_not, W_bAnd, W_bOr, W_bNot, W_eif, W_isN, W_notN, W_fn, W_fnK, W_pt, W_for, W_iseq, W_ienum, W_izip, W_comp, W_compG, W_compM, W_kI, W_yes, W_addI, W_addL, W_addT, W_mulI, W_ltI, W_ixL, W_ixT, W_ixS, atI_0, atI_1, atI_2, atI_3, atI_4, W_len_L, W_len_T, W_len_S, W_sum, W_all, W_any, W_min2, W_max2, W_abs, W_intI, W_intB, W_tupT, W_tupL, W_listT, W_listL, W_sl, W_oN, W_oS, W_slT, W_slL, W_slS, W_r1, W_app, W_set, W_gm, W_g0, W_g1, W_isiI, W_isiT, W_isiL, W_e3, Ws_nx, Ws_rt, W_ok, true_and, and_true, if_true, if_false, List.append_nil, frOf_l, frOf_t, frOf_s, kn_t, kn_i, kn_b, kn_l, kn_s, kn_d, isa_tt, isa_ii, isa_ib, isa_ll, isa_lt, isa_tl, W_isiL2, W_isiT2, W_allT, W_sumI, W_allM, W_sumM, cut2, W_ltT2, W_neI, W_eqI, bindP, bindPs, List.map_cons, List.map_nil, decide_eq_true_eq, Bool.false_eq_true, Bool.not_true, Bool.not_false, Bool.and_eq_true, W_var, List.getElem?_cons_zero, List.getElem?_cons_succ, List.set_cons_zero, List.set_cons_succ, rho0, List.length_cons, List.length_nil, List.replicate_succ, List.replicate_zero, List.cons_append, List.nil_append, List.append_eq, Nat.reduceAdd, Nat.reduceSub, wipeD, List.map_cons, List.map_nil, number_D hx', id])⟩
      rw [List.map_id] at hm
      refine ⟨by unfold line; omega, W_eq hm ?_⟩
      simp only [W_fz, W_ixO, ixN_30, ixN_31, ixN_32, W_seq, W_asg, W_expr, W_ret, W_sif, W_par, W_never, W_nil, W_c, W_e2, W_call, W_anil, W_acons, W_tup, W_lst, W_lstM, W_tV, W_and, W_or, W_not, W_bAnd, W_bOr, W_bNot, W_eif, W_isN, W_notN, W_fn, W_fnK, W_pt, W_for, W_iseq, W_ienum, W_izip, W_comp, W_compG, W_compM, W_kI, W_yes, W_addI, W_addL, W_addT, W_mulI, W_ltI, W_ixL, W_ixT, W_ixS, atI_0, atI_1, atI_2, atI_3, atI_4, W_len_L, W_len_T, W_len_S, W_sum, W_all, W_any, W_min2, W_max2, W_abs, W_intI, W_intB, W_tupT, W_tupL, W_listT, W_listL, W_sl, W_oN, W_oS, W_slT, W_slL, W_slS, W_r1, W_app, W_set, W_gm, W_g0, W_g1, W_isiI, W_isiT, W_isiL, W_e3, Ws_nx, Ws_rt, W_ok, true_and, and_true, if_true, if_false, List.append_nil, frOf_l, frOf_t, frOf_s, kn_t, kn_i, kn_b, kn_l, kn_s, kn_d, isa_tt, isa_ii, isa_ib, isa_ll, isa_lt, isa_tl, W_isiL2, W_isiT2, W_allT, W_sumI, W_allM, W_sumM, cut2, W_ltT2, W_neI, W_eqI, bindP, bindPs, List.map_cons, List.map_nil, decide_eq_true_eq, Bool.false_eq_true, Bool.not_true, Bool.not_false, Bool.and_eq_true, W_var, List.getElem?_cons_zero, List.getElem?_cons_succ, List.set_cons_zero, List.set_cons_succ, rho0, List.length_cons, List.length_nil, List.replicate_succ, List.replicate_zero, List.cons_append, List.nil_append, List.append_eq, Nat.reduceAdd, Nat.reduceSub, wipeD, List.map_cons, List.map_nil, filter_all, W_allB, back_same, Bool.true_and]
    · have e2 : ¬ ((ds.length : Int) = 3) := by omega
      simp [e2, e, back_same]
  | _ => simp [isTup, isT3, back_same])
theorem out_ok {r : Int × Int × Int} {e : Int} {S : Sto} (h0 : 0 ≤ r.1) (h1 : r.1 ≤ 9999) (h2 : e < r.1) (h3 : 1 ≤ r.2.1) (h4 : r.2.1 ≤ 99999) (h5 : 0 ≤ r.2.2) (h6 : r.2.2 ≤ 9999) : m_is_out [encO r, .int e] S = .ok (.bl true) S := of_W (by
  unfold m_is_out
  rw [W_run]
  unfold b_is_out encO
  simp only [W_fz, W_ixO, ixN_30, ixN_31, ixN_32, W_seq, W_asg, W_expr, W_ret, W_sif, W_par, W_never, W_nil, W_c, W_e2, W_call, W_anil, W_acons, W_tup, W_lst, W_lstM, W_tV, W_and, W_or, W_not, W_bAnd, W_bOr, W_bNot, W_eif, W_isN, W_notN, W_fn, W_fnK, W_pt, W_for, W_iseq, W_ienum, W_izip, W_comp, W_compG, W_compM, W_kI, W_yes, W_addI, W_addL, W_addT, W_mulI, W_ltI, W_ixL, W_ixT, W_ixS, atI_0, atI_1, atI_2, atI_3, atI_4, W_len_L, W_len_T, W_len_S, W_sum, W_all, W_any, W_min2, W_max2, W_abs, W_intI, W_intB, W_tupT, W_tupL, W_listT, W_listL, W_sl, W_oN, W_oS, W_slT, W_slL, W_slS, W_r1, W_app, W_set, W_gm, W_g0, W_g1, W_isiI, W_isiT, W_isiL, W_e3, Ws_nx, Ws_rt, W_ok, true_and, and_true, if_true, if_false, List.append_nil, frOf_l, frOf_t, frOf_s, kn_t, kn_i, kn_b, kn_l, kn_s, kn_d, isa_tt, isa_ii, isa_ib, isa_ll, isa_lt, isa_tl, W_isiL2, W_isiT2, W_allT, W_sumI, W_allM, W_sumM, cut2, W_ltT2, W_neI, W_eqI, bindP, bindPs, List.map_cons, List.map_nil, decide_eq_true_eq, Bool.false_eq_true, Bool.not_true, Bool.not_false, Bool.and_eq_true, W_var, List.getElem?_cons_zero, List.getElem?_cons_succ, List.set_cons_zero, List.set_cons_succ, rho0, List.length_cons, List.length_nil, List.replicate_succ, List.replicate_zero, List.cons_append, List.nil_append, List.append_eq, Nat.reduceAdd, Nat.reduceSub, wipeD, List.map_cons, List.map_nil, day_ok h0 h1, within_ok h3 h4, amount_ok h5 h6, back_same]
  rw [if_neg (by decide), if_neg (by omega)]
  trivial)
theorem back_ok {r : Int × Int} {e : Int} {S : Sto} (h0 : 0 ≤ r.1) (h1 : r.1 ≤ 9999) (h2 : e ≤ r.1) (h3 : 1 ≤ r.2) (h4 : r.2 ≤ 99999) : m_is_back [encB r, .int e] S = .ok (.bl true) S := of_W (by
  unfold m_is_back
  rw [W_run]
  unfold b_is_back encB
  simp only [W_fz, W_ixO, ixN_30, ixN_31, ixN_32, W_seq, W_asg, W_expr, W_ret, W_sif, W_par, W_never, W_nil, W_c, W_e2, W_call, W_anil, W_acons, W_tup, W_lst, W_lstM, W_tV, W_and, W_or, W_not, W_bAnd, W_bOr, W_bNot, W_eif, W_isN, W_notN, W_fn, W_fnK, W_pt, W_for, W_iseq, W_ienum, W_izip, W_comp, W_compG, W_compM, W_kI, W_yes, W_addI, W_addL, W_addT, W_mulI, W_ltI, W_ixL, W_ixT, W_ixS, atI_0, atI_1, atI_2, atI_3, atI_4, W_len_L, W_len_T, W_len_S, W_sum, W_all, W_any, W_min2, W_max2, W_abs, W_intI, W_intB, W_tupT, W_tupL, W_listT, W_listL, W_sl, W_oN, W_oS, W_slT, W_slL, W_slS, W_r1, W_app, W_set, W_gm, W_g0, W_g1, W_isiI, W_isiT, W_isiL, W_e3, Ws_nx, Ws_rt, W_ok, true_and, and_true, if_true, if_false, List.append_nil, frOf_l, frOf_t, frOf_s, kn_t, kn_i, kn_b, kn_l, kn_s, kn_d, isa_tt, isa_ii, isa_ib, isa_ll, isa_lt, isa_tl, W_isiL2, W_isiT2, W_allT, W_sumI, W_allM, W_sumM, cut2, W_ltT2, W_neI, W_eqI, bindP, bindPs, List.map_cons, List.map_nil, decide_eq_true_eq, Bool.false_eq_true, Bool.not_true, Bool.not_false, Bool.and_eq_true, W_var, List.getElem?_cons_zero, List.getElem?_cons_succ, List.set_cons_zero, List.set_cons_succ, rho0, List.length_cons, List.length_nil, List.replicate_succ, List.replicate_zero, List.cons_append, List.nil_append, List.append_eq, Nat.reduceAdd, Nat.reduceSub, wipeD, List.map_cons, List.map_nil, day_ok h0 h1, within_ok h3 h4, back_same]
  rw [if_neg (by decide), if_neg (by omega)]
  trivial)
def Sq {α : Type} (enc : α → D) (rows : List α) (d : D) : Prop := d = .lst (rows.map enc) ∨ d = .tup (rows.map enc)
theorem check_outs_ok {d : D} {rows : List (Int × Int × Int)} {S : Sto} (ho : OutsOk rows) (hd : Sq encO rows d) : m_check_outs [d] S = .ok .non S := of_W (by
  have key : Ws (loop (Pt.tp [Pt.nm 2, Pt.nm 3])
          (sSeq (sIf (tNot1 (tV (eFn m_is_out (aCons (eVar 3) (aCons (eVar 1) aNil)) []))) sNever sNil)
            (sAsg (e2 kIx (eVar 3) (eC (D.int 0))) (gPt (Pt.nm 1))))
          (enumD 0 (rows.map encO)) [some d, some (D.int (0 - 1)), none, none] S)
        (fun x S' => S' = S) fun d S' => d = D.non ∧ S' = S := by
    refine W_loop (fun ds ρ S' => S' = S ∧ ∃ (post : List (Int × Int × Int)) (n : Nat) (e : Int) (x2 x3 : Option D), ds = enumD n (post.map encO) ∧ ρ = [some d, some (.int e), x2, x3] ∧ (∀ r ∈ post, e < r.1 ∧ r ∈ rows) ∧ post.Pairwise fun a b => a.1 < b.1)
      ⟨rfl, rows, 0, _, _, _, rfl, rfl, fun r hr => ⟨by have := ho.row r hr; omega, hr⟩, ho.day⟩ ?_ (fun ρ S' h => h.1)
    rintro d1 ds ρ S' ⟨rfl, post, n, e, x2, x3, ed, rfl, hr, hp⟩
    cases post with
    | nil => simp [enumD] at ed
    | cons r post =>
      simp only [List.map_cons, enumD, List.cons.injEq] at ed
      obtain ⟨rfl, rfl⟩ := ed
      refine ⟨_, rfl, ?_⟩
      obtain ⟨h1, h2⟩ := hr r List.mem_cons_self
      have hb := ho.row r h2
      rw [List.pairwise_cons] at hp
      simp only [W_fz, W_ixO, ixN_30, ixN_31, ixN_32, W_seq, W_asg, W_expr, W_ret, W_sif, W_par, W_never, W_nil, W_c, W_e2, W_call, W_anil, W_acons, W_tup, W_lst, W_lstM, W_tV, W_and, W_or, W_not, W_bAnd, W_bOr, W_bNot, W_eif, W_isN, W_notN, W_fn, W_fnK, W_pt, W_for, W_iseq, W_ienum, W_izip, W_comp, W_compG, W_compM, W_kI, W_yes, W_addI, W_addL, W_addT, W_mulI, W_ltI, W_ixL, W_ixT, W_ixS, atI_0, atI_1, atI_2, atI_3, atI_4, W_len_L, W_len_T, W_len_S, W_sum, W_all, W_any, W_min2, W_max2, W_abs, W_intI, W_intB, W_tupT, W_tupL, W_listT, W_listL, W_sl, W_oN, W_oS, W_slT, W_slL, W_slS, W_r1, W_app, W_set, W_gm, W_g0, W_g1, W_isiI, W_isiT, W_isiL, W_e3, Ws_nx, Ws_rt, W_ok, true_and, and_true, if_true, if_false, List.append_nil, frOf_l, frOf_t, frOf_s, kn_t, kn_i, kn_b, kn_l, kn_s, kn_d, isa_tt, isa_ii, isa_ib, isa_ll, isa_lt, isa_tl, W_isiL2, W_isiT2, W_allT, W_sumI, W_allM, W_sumM, cut2, W_ltT2, W_neI, W_eqI, bindP, bindPs, List.map_cons, List.map_nil, decide_eq_true_eq, Bool.false_eq_true, Bool.not_true, Bool.not_false, Bool.and_eq_true, W_var, List.getElem?_cons_zero, List.getElem?_cons_succ, List.set_cons_zero, List.set_cons_succ, rho0, List.length_cons, List.length_nil, List.replicate_succ, List.replicate_zero, List.cons_append, List.nil_append, List.append_eq, Nat.reduceAdd, Nat.reduceSub, wipeD, List.map_cons, List.map_nil, out_ok hb.1 (show r.1 ≤ 9999 by omega) h1 hb.2.2.1 hb.2.2.2.1 hb.2.2.2.2.1 hb.2.2.2.2.2]
      simp only [W_fz, W_ixO, ixN_30, ixN_31, ixN_32, W_seq, W_asg, W_expr, W_ret, W_sif, W_par, W_never, W_nil, W_c, W_e2, W_call, W_anil, W_acons, W_tup, W_lst, W_lstM, W_tV, W_and, W_or, W_not, W_bAnd, W_bOr, W_bNot, W_eif, W_isN, W_notN, W_fn, W_fnK, W_pt, W_for, W_iseq, W_ienum, W_izip, W_comp, W_compG, W_compM, W_kI, W_yes, W_addI, W_addL, W_addT, W_mulI, W_ltI, W_ixL, W_ixT, W_ixS, atI_0, atI_1, atI_2, atI_3, atI_4, W_len_L, W_len_T, W_len_S, W_sum, W_all, W_any, W_min2, W_max2, W_abs, W_intI, W_intB, W_tupT, W_tupL, W_listT, W_listL, W_sl, W_oN, W_oS, W_slT, W_slL, W_slS, W_r1, W_app, W_set, W_gm, W_g0, W_g1, W_isiI, W_isiT, W_isiL, W_e3, Ws_nx, Ws_rt, W_ok, true_and, and_true, if_true, if_false, List.append_nil, frOf_l, frOf_t, frOf_s, kn_t, kn_i, kn_b, kn_l, kn_s, kn_d, isa_tt, isa_ii, isa_ib, isa_ll, isa_lt, isa_tl, W_isiL2, W_isiT2, W_allT, W_sumI, W_allM, W_sumM, cut2, W_ltT2, W_neI, W_eqI, bindP, bindPs, List.map_cons, List.map_nil, decide_eq_true_eq, Bool.false_eq_true, Bool.not_true, Bool.not_false, Bool.and_eq_true, W_var, List.getElem?_cons_zero, List.getElem?_cons_succ, List.set_cons_zero, List.set_cons_succ, rho0, List.length_cons, List.length_nil, List.replicate_succ, List.replicate_zero, List.cons_append, List.nil_append, List.append_eq, Nat.reduceAdd, Nat.reduceSub, wipeD, List.map_cons, List.map_nil, encO]
      exact ⟨post, n + 1, r.1, _, _, rfl, rfl, fun r' hr' => ⟨hp.1 r' hr', (hr r' (List.mem_cons_of_mem _ hr')).2⟩, hp.2⟩
  unfold m_check_outs
  rw [W_run]
  unfold b_check_outs
  rcases hd with rfl | rfl
  · simp only [W_fz, W_ixO, ixN_30, ixN_31, ixN_32, W_seq, W_asg, W_expr, W_ret, W_sif, W_par, W_never, W_nil, W_c, W_e2, W_call, W_anil, W_acons, W_tup, W_lst, W_lstM, W_tV, W_and, W_or, W_not, W_bAnd, W_bOr, W_bNot, W_eif, W_isN, W_notN, W_fn, W_fnK, W_pt, W_for, W_iseq, W_ienum, W_izip, W_comp, W_compG, W_compM, W_kI, W_yes, W_addI, W_addL, W_addT, W_mulI, W_ltI, W_ixL, W_ixT, W_ixS, atI_0, atI_1, atI_2, atI_3, atI_4, W_len_L, W_len_T, W_len_S, W_sum, W_all, W_any, W_min2, W_max2, W_abs, W_intI, W_intB, W_tupT, W_tupL, W_listT, W_listL, W_sl, W_oN, W_oS, W_slT, W_slL, W_slS, W_r1, W_app, W_set, W_gm, W_g0, W_g1, W_isiI, W_isiT, W_isiL, W_e3, Ws_nx, Ws_rt, W_ok, true_and, and_true, if_true, if_false, List.append_nil, frOf_l, frOf_t, frOf_s, kn_t, kn_i, kn_b, kn_l, kn_s, kn_d, isa_tt, isa_ii, isa_ib, isa_ll, isa_lt, isa_tl, W_isiL2, W_isiT2, W_allT, W_sumI, W_allM, W_sumM, cut2, W_ltT2, W_neI, W_eqI, bindP, bindPs, List.map_cons, List.map_nil, decide_eq_true_eq, Bool.false_eq_true, Bool.not_true, Bool.not_false, Bool.and_eq_true, W_var, List.getElem?_cons_zero, List.getElem?_cons_succ, List.set_cons_zero, List.set_cons_succ, rho0, List.length_cons, List.length_nil, List.replicate_succ, List.replicate_zero, List.cons_append, List.nil_append, List.append_eq, Nat.reduceAdd, Nat.reduceSub, wipeD, List.map_cons, List.map_nil]
    exact ⟨by decide, key.mono (fun _ _ h => by rw [h]; exact back_same) fun _ _ h => by rw [h.2]; exact ⟨h.1, back_same⟩⟩
  · simp only [W_fz, W_ixO, ixN_30, ixN_31, ixN_32, W_seq, W_asg, W_expr, W_ret, W_sif, W_par, W_never, W_nil, W_c, W_e2, W_call, W_anil, W_acons, W_tup, W_lst, W_lstM, W_tV, W_and, W_or, W_not, W_bAnd, W_bOr, W_bNot, W_eif, W_isN, W_notN, W_fn, W_fnK, W_pt, W_for, W_iseq, W_ienum, W_izip, W_comp, W_compG, W_compM, W_kI, W_yes, W_addI, W_addL, W_addT, W_mulI, W_ltI, W_ixL, W_ixT, W_ixS, atI_0, atI_1, atI_2, atI_3, atI_4, W_len_L, W_len_T, W_len_S, W_sum, W_all, W_any, W_min2, W_max2, W_abs, W_intI, W_intB, W_tupT, W_tupL, W_listT, W_listL, W_sl, W_oN, W_oS, W_slT, W_slL, W_slS, W_r1, W_app, W_set, W_gm, W_g0, W_g1, W_isiI, W_isiT, W_isiL, W_e3, Ws_nx, Ws_rt, W_ok, true_and, and_true, if_true, if_false, List.append_nil, frOf_l, frOf_t, frOf_s, kn_t, kn_i, kn_b, kn_l, kn_s, kn_d, isa_tt, isa_ii, isa_ib, isa_ll, isa_lt, isa_tl, W_isiL2, W_isiT2, W_allT, W_sumI, W_allM, W_sumM, cut2, W_ltT2, W_neI, W_eqI, bindP, bindPs, List.map_cons, List.map_nil, decide_eq_true_eq, Bool.false_eq_true, Bool.not_true, Bool.not_false, Bool.and_eq_true, W_var, List.getElem?_cons_zero, List.getElem?_cons_succ, List.set_cons_zero, List.set_cons_succ, rho0, List.length_cons, List.length_nil, List.replicate_succ, List.replicate_zero, List.cons_append, List.nil_append, List.append_eq, Nat.reduceAdd, Nat.reduceSub, wipeD, List.map_cons, List.map_nil]
    exact ⟨by decide, key.mono (fun _ _ h => by rw [h]; exact back_same) fun _ _ h => by rw [h.2]; exact ⟨h.1, back_same⟩⟩)
/-- rows of backs that pass -/
structure RowsOk (rows : List (Int × Int)) : Prop where
  len : rows.length ≤ 19
  day : rows.Pairwise fun a b => a.1 ≤ b.1
  row : ∀ r ∈ rows, 0 ≤ r.1 ∧ r.1 ≤ 9999 ∧ 1 ≤ r.2 ∧ r.2 ≤ 99999
theorem check_backs_ok {d : D} {rows : List (Int × Int)} {S : Sto} (ho : RowsOk rows) (hd : Sq encB rows d) : m_check_backs [d] S = .ok .non S := of_W (by
  have key : Ws (loop (Pt.tp [Pt.nm 2, Pt.nm 3])
          (sSeq (sIf (tNot1 (tV (eFn m_is_back (aCons (eVar 3) (aCons (eVar 1) aNil)) []))) sNever sNil)
            (sAsg (e2 kIx (eVar 3) (eC (D.int 0))) (gPt (Pt.nm 1))))
          (enumD 0 (rows.map encB)) [some d, some (D.int 0), none, none] S)
        (fun x S' => S' = S) fun d S' => d = D.non ∧ S' = S := by
    refine W_loop (fun ds ρ S' => S' = S ∧ ∃ (post : List (Int × Int)) (n : Nat) (e : Int) (x2 x3 : Option D), ds = enumD n (post.map encB) ∧ ρ = [some d, some (.int e), x2, x3] ∧ (∀ r ∈ post, e ≤ r.1 ∧ r ∈ rows) ∧ post.Pairwise fun a b => a.1 ≤ b.1)
      ⟨rfl, rows, 0, _, _, _, rfl, rfl, fun r hr => ⟨by have := ho.row r hr; omega, hr⟩, ho.day⟩ ?_ (fun ρ S' h => h.1)
    rintro d1 ds ρ S' ⟨rfl, post, n, e, x2, x3, ed, rfl, hr, hp⟩
    cases post with
    | nil => simp [enumD] at ed
    | cons r post =>
      simp only [List.map_cons, enumD, List.cons.injEq] at ed
      obtain ⟨rfl, rfl⟩ := ed
      refine ⟨_, rfl, ?_⟩
      obtain ⟨h1, h2⟩ := hr r List.mem_cons_self
      have hb := ho.row r h2
      rw [List.pairwise_cons] at hp
      simp only [W_fz, W_ixO, ixN_30, ixN_31, ixN_32, W_seq, W_asg, W_expr, W_ret, W_sif, W_par, W_never, W_nil, W_c, W_e2, W_call, W_anil, W_acons, W_tup, W_lst, W_lstM, W_tV, W_and, W_or, W_not, W_bAnd, W_bOr, W_bNot, W_eif, W_isN, W_notN, W_fn, W_fnK, W_pt, W_for, W_iseq, W_ienum, W_izip, W_comp, W_compG, W_compM, W_kI, W_yes, W_addI, W_addL, W_addT, W_mulI, W_ltI, W_ixL, W_ixT, W_ixS, atI_0, atI_1, atI_2, atI_3, atI_4, W_len_L, W_len_T, W_len_S, W_sum, W_all, W_any, W_min2, W_max2, W_abs, W_intI, W_intB, W_tupT, W_tupL, W_listT, W_listL, W_sl, W_oN, W_oS, W_slT, W_slL, W_slS, W_r1, W_app, W_set, W_gm, W_g0, W_g1, W_isiI, W_isiT, W_isiL, W_e3, Ws_nx, Ws_rt, W_ok, true_and, and_true, if_true, if_false, List.append_nil, frOf_l, frOf_t, frOf_s, kn_t, kn_i, kn_b, kn_l, kn_s, kn_d, isa_tt, isa_ii, isa_ib, isa_ll, isa_lt, isa_tl, W_isiL2, W_isiT2, W_allT, W_sumI, W_allM, W_sumM, cut2, W_ltT2, W_neI, W_eqI, bindP, bindPs, List.map_cons, List.map_nil, decide_eq_true_eq, Bool.false_eq_true, Bool.not_true, Bool.not_false, Bool.and_eq_true, W_var, List.getElem?_cons_zero, List.getElem?_cons_succ, List.set_cons_zero, List.set_cons_succ, rho0, List.length_cons, List.length_nil, List.replicate_succ, List.replicate_zero, List.cons_append, List.nil_append, List.append_eq, Nat.reduceAdd, Nat.reduceSub, wipeD, List.map_cons, List.map_nil, back_ok hb.1 (show r.1 ≤ 9999 by omega) h1 hb.2.2.1 hb.2.2.2]
      simp only [W_fz, W_ixO, ixN_30, ixN_31, ixN_32, W_seq, W_asg, W_expr, W_ret, W_sif, W_par, W_never, W_nil, W_c, W_e2, W_call, W_anil, W_acons, W_tup, W_lst, W_lstM, W_tV, W_and, W_or, W_not, W_bAnd, W_bOr, W_bNot, W_eif, W_isN, W_notN, W_fn, W_fnK, W_pt, W_for, W_iseq, W_ienum, W_izip, W_comp, W_compG, W_compM, W_kI, W_yes, W_addI, W_addL, W_addT, W_mulI, W_ltI, W_ixL, W_ixT, W_ixS, atI_0, atI_1, atI_2, atI_3, atI_4, W_len_L, W_len_T, W_len_S, W_sum, W_all, W_any, W_min2, W_max2, W_abs, W_intI, W_intB, W_tupT, W_tupL, W_listT, W_listL, W_sl, W_oN, W_oS, W_slT, W_slL, W_slS, W_r1, W_app, W_set, W_gm, W_g0, W_g1, W_isiI, W_isiT, W_isiL, W_e3, Ws_nx, Ws_rt, W_ok, true_and, and_true, if_true, if_false, List.append_nil, frOf_l, frOf_t, frOf_s, kn_t, kn_i, kn_b, kn_l, kn_s, kn_d, isa_tt, isa_ii, isa_ib, isa_ll, isa_lt, isa_tl, W_isiL2, W_isiT2, W_allT, W_sumI, W_allM, W_sumM, cut2, W_ltT2, W_neI, W_eqI, bindP, bindPs, List.map_cons, List.map_nil, decide_eq_true_eq, Bool.false_eq_true, Bool.not_true, Bool.not_false, Bool.and_eq_true, W_var, List.getElem?_cons_zero, List.getElem?_cons_succ, List.set_cons_zero, List.set_cons_succ, rho0, List.length_cons, List.length_nil, List.replicate_succ, List.replicate_zero, List.cons_append, List.nil_append, List.append_eq, Nat.reduceAdd, Nat.reduceSub, wipeD, List.map_cons, List.map_nil, encB]
      exact ⟨post, n + 1, r.1, _, _, rfl, rfl, fun r' hr' => ⟨hp.1 r' hr', (hr r' (List.mem_cons_of_mem _ hr')).2⟩, hp.2⟩
  unfold m_check_backs
  rw [W_run]
  unfold b_check_backs
  rcases hd with rfl | rfl
  · simp only [W_fz, W_ixO, ixN_30, ixN_31, ixN_32, W_seq, W_asg, W_expr, W_ret, W_sif, W_par, W_never, W_nil, W_c, W_e2, W_call, W_anil, W_acons, W_tup, W_lst, W_lstM, W_tV, W_and, W_or, W_not, W_bAnd, W_bOr, W_bNot, W_eif, W_isN, W_notN, W_fn, W_fnK, W_pt, W_for, W_iseq, W_ienum, W_izip, W_comp, W_compG, W_compM, W_kI, W_yes, W_addI, W_addL, W_addT, W_mulI, W_ltI, W_ixL, W_ixT, W_ixS, atI_0, atI_1, atI_2, atI_3, atI_4, W_len_L, W_len_T, W_len_S, W_sum, W_all, W_any, W_min2, W_max2, W_abs, W_intI, W_intB, W_tupT, W_tupL, W_listT, W_listL, W_sl, W_oN, W_oS, W_slT, W_slL, W_slS, W_r1, W_app, W_set, W_gm, W_g0, W_g1, W_isiI, W_isiT, W_isiL, W_e3, Ws_nx, Ws_rt, W_ok, true_and, and_true, if_true, if_false, List.append_nil, frOf_l, frOf_t, frOf_s, kn_t, kn_i, kn_b, kn_l, kn_s, kn_d, isa_tt, isa_ii, isa_ib, isa_ll, isa_lt, isa_tl, W_isiL2, W_isiT2, W_allT, W_sumI, W_allM, W_sumM, cut2, W_ltT2, W_neI, W_eqI, bindP, bindPs, List.map_cons, List.map_nil, decide_eq_true_eq, Bool.false_eq_true, Bool.not_true, Bool.not_false, Bool.and_eq_true, W_var, List.getElem?_cons_zero, List.getElem?_cons_succ, List.set_cons_zero, List.set_cons_succ, rho0, List.length_cons, List.length_nil, List.replicate_succ, List.replicate_zero, List.cons_append, List.nil_append, List.append_eq, Nat.reduceAdd, Nat.reduceSub, wipeD, List.map_cons, List.map_nil]
    exact ⟨by decide, key.mono (fun _ _ h => by rw [h]; exact back_same) fun _ _ h => by rw [h.2]; exact ⟨h.1, back_same⟩⟩
  · simp only [W_fz, W_ixO, ixN_30, ixN_31, ixN_32, W_seq, W_asg, W_expr, W_ret, W_sif, W_par, W_never, W_nil, W_c, W_e2, W_call, W_anil, W_acons, W_tup, W_lst, W_lstM, W_tV, W_and, W_or, W_not, W_bAnd, W_bOr, W_bNot, W_eif, W_isN, W_notN, W_fn, W_fnK, W_pt, W_for, W_iseq, W_ienum, W_izip, W_comp, W_compG, W_compM, W_kI, W_yes, W_addI, W_addL, W_addT, W_mulI, W_ltI, W_ixL, W_ixT, W_ixS, atI_0, atI_1, atI_2, atI_3, atI_4, W_len_L, W_len_T, W_len_S, W_sum, W_all, W_any, W_min2, W_max2, W_abs, W_intI, W_intB, W_tupT, W_tupL, W_listT, W_listL, W_sl, W_oN, W_oS, W_slT, W_slL, W_slS, W_r1, W_app, W_set, W_gm, W_g0, W_g1, W_isiI, W_isiT, W_isiL, W_e3, Ws_nx, Ws_rt, W_ok, true_and, and_true, if_true, if_false, List.append_nil, frOf_l, frOf_t, frOf_s, kn_t, kn_i, kn_b, kn_l, kn_s, kn_d, isa_tt, isa_ii, isa_ib, isa_ll, isa_lt, isa_tl, W_isiL2, W_isiT2, W_allT, W_sumI, W_allM, W_sumM, cut2, W_ltT2, W_neI, W_eqI, bindP, bindPs, List.map_cons, List.map_nil, decide_eq_true_eq, Bool.false_eq_true, Bool.not_true, Bool.not_false, Bool.and_eq_true, W_var, List.getElem?_cons_zero, List.getElem?_cons_succ, List.set_cons_zero, List.set_cons_succ, rho0, List.length_cons, List.length_nil, List.replicate_succ, List.replicate_zero, List.cons_append, List.nil_append, List.append_eq, Nat.reduceAdd, Nat.reduceSub, wipeD, List.map_cons, List.map_nil]
    exact ⟨by decide, key.mono (fun _ _ h => by rw [h]; exact back_same) fun _ _ h => by rw [h.2]; exact ⟨h.1, back_same⟩⟩)
end K16


namespace K16
open PySem L2 Qd

section
variable {S : Sto} {Q : D → Sto → Prop} {a b c d : Int}
theorem data_lt2 : PySem.W.dataLt (.tuple [.int a, .int b]) (.tuple [.int c, .int d]) = HT.lexLt [a, b] [c, d] := by
  rw [PySem.W.dataLt_tuple]
  exact lex_ints [a, b] [c, d]
theorem W_ltO2 : W (kLtO (.tup [.int a, .int b]) (.tup [.int c, .int d]) S) Q = Q (.bl (HT.lexLt [a, b] [c, d])) S := by
  show W (chk true (.ok (.bl (PySem.W.dataLt (.tuple [.int a, .int b]) (.tuple [.int c, .int d]))) S)) Q = _
  rw [data_lt2]; rfl
theorem W_geO2 : W (kGeO (.tup [.int a, .int b]) (.tup [.int c, .int d]) S) Q = Q (.bl (!HT.lexLt [a, b] [c, d])) S := by
  show W (chk true (.ok (.bl (!PySem.W.dataLt (.tuple [.int a, .int b]) (.tuple [.int c, .int d]))) S)) Q = _
  rw [data_lt2]; rfl
end
def dayLe (sent : List (Int × Int × Int)) (came : List (Int × Int)) (x y : D) : Bool := match x, y with
  | .int i, .int j => decide (dayO sent j.toNat ≤ dayB came i.toNat)
  | _, _ => false
def isPart (sent : List (Int × Int × Int)) (came : List (Int × Int)) (d : D) : Bool := match d with
  | .tup [x, y, z] => inB x 0 ((came.length : Int) - 1) && (inB y 0 ((sent.length : Int) - 1) && (inB z 1 (99999 * (sent.length : Int)) && dayLe sent came x y))
  | _ => false
theorem len3 {ds : List D} (h : ds.length = 3) : ∃ x y z, ds = [x, y, z] := by
  match ds, h with
  | [x, y, z], _ => exact ⟨x, y, z, rfl⟩
theorem isPart_len {sent : List (Int × Int × Int)} {came : List (Int × Int)} {ds : List D} (h : ds.length ≠ 3) : isPart sent came (.tup ds) = false := by
  match ds, h with
  | [], _ => rfl
  | [_], _ => rfl
  | [_, _], _ => rfl
  | [_, _, _], h => exact absurd rfl h
  | _ :: _ :: _ :: _ :: _, _ => rfl
theorem inB_int {x : D} {lo hi : Int} (h : inB x lo hi = true) : ∃ i, x = .int i ∧ lo ≤ i ∧ i ≤ hi := by
  cases x with
  | int i => simp only [inB, Bool.and_eq_true, decide_eq_true_eq] at h; exact ⟨i, rfl, h.1, h.2⟩
  | _ => simp [inB] at h
theorem part_D {sent : List (Int × Int × Int)} {came : List (Int × Int)} {outs backs d : D} {S : Sto} (ho : Sq encO sent outs) (hb : Sq encB came backs) (h : dtD d = true) : m_is_part [outs, backs, d] S = .ok (.bl (isPart sent came d)) S := of_W (by
  have lo : ∀ (S : Sto) (Q : D → Sto → Prop), W (kLen [outs] S) Q = Q (.int sent.length) S := fun S Q => by rcases ho with rfl | rfl <;> simp only [W_len_L, W_len_T, List.length_map]
  have lb : ∀ (S : Sto) (Q : D → Sto → Prop), W (kLen [backs] S) Q = Q (.int came.length) S := fun S Q => by rcases hb with rfl | rfl <;> simp only [W_len_L, W_len_T, List.length_map]
  have io : ∀ (j : Int) (S : Sto) (Q : D → Sto → Prop), W (kIx outs (.int j) S) Q = match atI (sent.map encO) j with | some d => Q d S | none => False := fun j S Q => by
    rcases ho with rfl | rfl
    · exact W_ixL
    · exact W_ixT
  have ib : ∀ (j : Int) (S : Sto) (Q : D → Sto → Prop), W (kIx backs (.int j) S) Q = match atI (came.map encB) j with | some d => Q d S | none => False := fun j S Q => by
    rcases hb with rfl | rfl
    · exact W_ixL
    · exact W_ixT
  unfold m_is_part
  rw [W_run]
  unfold b_is_part
  simp only [W_fz, W_ixO, ixN_30, ixN_31, ixN_32, W_seq, W_asg, W_expr, W_ret, W_sif, W_par, W_never, W_nil, W_c, W_e2, W_call, W_anil, W_acons, W_tup, W_lst, W_lstM, W_tV, W_and, W_or, W_not, W_bAnd, W_bOr, W_bNot, W_eif, W_isN, W_notN, W_fn, W_fnK, W_pt, W_for, W_iseq, W_ienum, W_izip, W_comp, W_compG, W_compM, W_kI, W_yes, W_addI, W_addL, W_addT, W_mulI, W_ltI, W_ixL, W_ixT, W_ixS, atI_0, atI_1, atI_2, atI_3, atI_4, W_len_L, W_len_T, W_len_S, W_sum, W_all, W_any, W_min2, W_max2, W_abs, W_intI, W_intB, W_tupT, W_tupL, W_listT, W_listL, W_sl, W_oN, W_oS, W_slT, W_slL, W_slS, W_r1, W_app, W_set, W_gm, W_g0, W_g1, W_isiI, W_isiT, W_isiL, W_e3, Ws_nx, Ws_rt, W_ok, true_and, and_true, if_true, if_false, List.append_nil, frOf_l, frOf_t, frOf_s, kn_t, kn_i, kn_b, kn_l, kn_s, kn_d, isa_tt, isa_ii, isa_ib, isa_ll, isa_lt, isa_tl, W_isiL2, W_isiT2, W_allT, W_sumI, W_allM, W_sumM, cut2, W_ltT2, W_neI, W_eqI, bindP, bindPs, List.map_cons, List.map_nil, decide_eq_true_eq, Bool.false_eq_true, Bool.not_true, Bool.not_false, Bool.and_eq_true, W_var, List.getElem?_cons_zero, List.getElem?_cons_succ, List.set_cons_zero, List.set_cons_succ, rho0, List.length_cons, List.length_nil, List.replicate_succ, List.replicate_zero, List.cons_append, List.nil_append, List.append_eq, Nat.reduceAdd, Nat.reduceSub, wipeD, List.map_cons, List.map_nil, W_isiD h, isa_tup h, back_same]
  cases d with
  | tup ds =>
    simp only [isTup, W_fz, W_ixO, ixN_30, ixN_31, ixN_32, W_seq, W_asg, W_expr, W_ret, W_sif, W_par, W_never, W_nil, W_c, W_e2, W_call, W_anil, W_acons, W_tup, W_lst, W_lstM, W_tV, W_and, W_or, W_not, W_bAnd, W_bOr, W_bNot, W_eif, W_isN, W_notN, W_fn, W_fnK, W_pt, W_for, W_iseq, W_ienum, W_izip, W_comp, W_compG, W_compM, W_kI, W_yes, W_addI, W_addL, W_addT, W_mulI, W_ltI, W_ixL, W_ixT, W_ixS, atI_0, atI_1, atI_2, atI_3, atI_4, W_len_L, W_len_T, W_len_S, W_sum, W_all, W_any, W_min2, W_max2, W_abs, W_intI, W_intB, W_tupT, W_tupL, W_listT, W_listL, W_sl, W_oN, W_oS, W_slT, W_slL, W_slS, W_r1, W_app, W_set, W_gm, W_g0, W_g1, W_isiI, W_isiT, W_isiL, W_e3, Ws_nx, Ws_rt, W_ok, true_and, and_true, if_true, if_false, List.append_nil, frOf_l, frOf_t, frOf_s, kn_t, kn_i, kn_b, kn_l, kn_s, kn_d, isa_tt, isa_ii, isa_ib, isa_ll, isa_lt, isa_tl, W_isiL2, W_isiT2, W_allT, W_sumI, W_allM, W_sumM, cut2, W_ltT2, W_neI, W_eqI, bindP, bindPs, List.map_cons, List.map_nil, decide_eq_true_eq, Bool.false_eq_true, Bool.not_true, Bool.not_false, Bool.and_eq_true, W_var, List.getElem?_cons_zero, List.getElem?_cons_succ, List.set_cons_zero, List.set_cons_succ, rho0, List.length_cons, List.length_nil, List.replicate_succ, List.replicate_zero, List.cons_append, List.nil_append, List.append_eq, Nat.reduceAdd, Nat.reduceSub, wipeD, List.map_cons, List.map_nil]
    by_cases e : ds.length = 3
    · have e2 : ((ds.length : Int) = 3) := by omega
      simp only [e2, decide_true, W_fz, W_ixO, ixN_30, ixN_31, ixN_32, W_seq, W_asg, W_expr, W_ret, W_sif, W_par, W_never, W_nil, W_c, W_e2, W_call, W_anil, W_acons, W_tup, W_lst, W_lstM, W_tV, W_and, W_or, W_not, W_bAnd, W_bOr, W_bNot, W_eif, W_isN, W_notN, W_fn, W_fnK, W_pt, W_for, W_iseq, W_ienum, W_izip, W_comp, W_compG, W_compM, W_kI, W_yes, W_addI, W_addL, W_addT, W_mulI, W_ltI, W_ixL, W_ixT, W_ixS, atI_0, atI_1, atI_2, atI_3, atI_4, W_len_L, W_len_T, W_len_S, W_sum, W_all, W_any, W_min2, W_max2, W_abs, W_intI, W_intB, W_tupT, W_tupL, W_listT, W_listL, W_sl, W_oN, W_oS, W_slT, W_slL, W_slS, W_r1, W_app, W_set, W_gm, W_g0, W_g1, W_isiI, W_isiT, W_isiL, W_e3, Ws_nx, Ws_rt, W_ok, true_and, and_true, if_true, if_false, List.append_nil, frOf_l, frOf_t, frOf_s, kn_t, kn_i, kn_b, kn_l, kn_s, kn_d, isa_tt, isa_ii, isa_ib, isa_ll, isa_lt, isa_tl, W_isiL2, W_isiT2, W_allT, W_sumI, W_allM, W_sumM, cut2, W_ltT2, W_neI, W_eqI, bindP, bindPs, List.map_cons, List.map_nil, decide_eq_true_eq, Bool.false_eq_true, Bool.not_true, Bool.not_false, Bool.and_eq_true, W_var, List.getElem?_cons_zero, List.getElem?_cons_succ, List.set_cons_zero, List.set_cons_succ, rho0, List.length_cons, List.length_nil, List.replicate_succ, List.replicate_zero, List.cons_append, List.nil_append, List.append_eq, Nat.reduceAdd, Nat.reduceSub, wipeD, List.map_cons, List.map_nil]
      obtain ⟨x, y, z, rfl⟩ := len3 e
      have hd : dtD x = true ∧ dtD y = true ∧ dtD z = true := by simpa [dtD, dtDs] using h
      simp only [W_fz, W_ixO, ixN_30, ixN_31, ixN_32, W_seq, W_asg, W_expr, W_ret, W_sif, W_par, W_never, W_nil, W_c, W_e2, W_call, W_anil, W_acons, W_tup, W_lst, W_lstM, W_tV, W_and, W_or, W_not, W_bAnd, W_bOr, W_bNot, W_eif, W_isN, W_notN, W_fn, W_fnK, W_pt, W_for, W_iseq, W_ienum, W_izip, W_comp, W_compG, W_compM, W_kI, W_yes, W_addI, W_addL, W_addT, W_mulI, W_ltI, W_ixL, W_ixT, W_ixS, atI_0, atI_1, atI_2, atI_3, atI_4, W_len_L, W_len_T, W_len_S, W_sum, W_all, W_any, W_min2, W_max2, W_abs, W_intI, W_intB, W_tupT, W_tupL, W_listT, W_listL, W_sl, W_oN, W_oS, W_slT, W_slL, W_slS, W_r1, W_app, W_set, W_gm, W_g0, W_g1, W_isiI, W_isiT, W_isiL, W_e3, Ws_nx, Ws_rt, W_ok, true_and, and_true, if_true, if_false, List.append_nil, frOf_l, frOf_t, frOf_s, kn_t, kn_i, kn_b, kn_l, kn_s, kn_d, isa_tt, isa_ii, isa_ib, isa_ll, isa_lt, isa_tl, W_isiL2, W_isiT2, W_allT, W_sumI, W_allM, W_sumM, cut2, W_ltT2, W_neI, W_eqI, bindP, bindPs, List.map_cons, List.map_nil, decide_eq_true_eq, Bool.false_eq_true, Bool.not_true, Bool.not_false, Bool.and_eq_true, W_var, List.getElem?_cons_zero, List.getElem?_cons_succ, List.set_cons_zero, List.set_cons_succ, rho0, List.length_cons, List.length_nil, List.replicate_succ, List.replicate_zero, List.cons_append, List.nil_append, List.append_eq, Nat.reduceAdd, Nat.reduceSub, wipeD, List.map_cons, List.map_nil, lb, within_D hd.1, isPart]
      cases hx : inB x 0 ((came.length : Int) - 1) with
      | false => simp [back_same]
      | true =>
        simp only [W_fz, W_ixO, ixN_30, ixN_31, ixN_32, W_seq, W_asg, W_expr, W_ret, W_sif, W_par, W_never, W_nil, W_c, W_e2, W_call, W_anil, W_acons, W_tup, W_lst, W_lstM, W_tV, W_and, W_or, W_not, W_bAnd, W_bOr, W_bNot, W_eif, W_isN, W_notN, W_fn, W_fnK, W_pt, W_for, W_iseq, W_ienum, W_izip, W_comp, W_compG, W_compM, W_kI, W_yes, W_addI, W_addL, W_addT, W_mulI, W_ltI, W_ixL, W_ixT, W_ixS, atI_0, atI_1, atI_2, atI_3, atI_4, W_len_L, W_len_T, W_len_S, W_sum, W_all, W_any, W_min2, W_max2, W_abs, W_intI, W_intB, W_tupT, W_tupL, W_listT, W_listL, W_sl, W_oN, W_oS, W_slT, W_slL, W_slS, W_r1, W_app, W_set, W_gm, W_g0, W_g1, W_isiI, W_isiT, W_isiL, W_e3, Ws_nx, Ws_rt, W_ok, true_and, and_true, if_true, if_false, List.append_nil, frOf_l, frOf_t, frOf_s, kn_t, kn_i, kn_b, kn_l, kn_s, kn_d, isa_tt, isa_ii, isa_ib, isa_ll, isa_lt, isa_tl, W_isiL2, W_isiT2, W_allT, W_sumI, W_allM, W_sumM, cut2, W_ltT2, W_neI, W_eqI, bindP, bindPs, List.map_cons, List.map_nil, decide_eq_true_eq, Bool.false_eq_true, Bool.not_true, Bool.not_false, Bool.and_eq_true, W_var, List.getElem?_cons_zero, List.getElem?_cons_succ, List.set_cons_zero, List.set_cons_succ, rho0, List.length_cons, List.length_nil, List.replicate_succ, List.replicate_zero, List.cons_append, List.nil_append, List.append_eq, Nat.reduceAdd, Nat.reduceSub, wipeD, List.map_cons, List.map_nil, lo, within_D hd.2.1]
        cases hy : inB y 0 ((sent.length : Int) - 1) with
        | false => simp [back_same]
        | true =>
          simp only [W_fz, W_ixO, ixN_30, ixN_31, ixN_32, W_seq, W_asg, W_expr, W_ret, W_sif, W_par, W_never, W_nil, W_c, W_e2, W_call, W_anil, W_acons, W_tup, W_lst, W_lstM, W_tV, W_and, W_or, W_not, W_bAnd, W_bOr, W_bNot, W_eif, W_isN, W_notN, W_fn, W_fnK, W_pt, W_for, W_iseq, W_ienum, W_izip, W_comp, W_compG, W_compM, W_kI, W_yes, W_addI, W_addL, W_addT, W_mulI, W_ltI, W_ixL, W_ixT, W_ixS, atI_0, atI_1, atI_2, atI_3, atI_4, W_len_L, W_len_T, W_len_S, W_sum, W_all, W_any, W_min2, W_max2, W_abs, W_intI, W_intB, W_tupT, W_tupL, W_listT, W_listL, W_sl, W_oN, W_oS, W_slT, W_slL, W_slS, W_r1, W_app, W_set, W_gm, W_g0, W_g1, W_isiI, W_isiT, W_isiL, W_e3, Ws_nx, Ws_rt, W_ok, true_and, and_true, if_true, if_false, List.append_nil, frOf_l, frOf_t, frOf_s, kn_t, kn_i, kn_b, kn_l, kn_s, kn_d, isa_tt, isa_ii, isa_ib, isa_ll, isa_lt, isa_tl, W_isiL2, W_isiT2, W_allT, W_sumI, W_allM, W_sumM, cut2, W_ltT2, W_neI, W_eqI, bindP, bindPs, List.map_cons, List.map_nil, decide_eq_true_eq, Bool.false_eq_true, Bool.not_true, Bool.not_false, Bool.and_eq_true, W_var, List.getElem?_cons_zero, List.getElem?_cons_succ, List.set_cons_zero, List.set_cons_succ, rho0, List.length_cons, List.length_nil, List.replicate_succ, List.replicate_zero, List.cons_append, List.nil_append, List.append_eq, Nat.reduceAdd, Nat.reduceSub, wipeD, List.map_cons, List.map_nil, within_D hd.2.2]
          refine ⟨mulOk_l (by decide) (by decide), ?_⟩
          cases hz : inB z 1 (99999 * (sent.length : Int)) with
          | false => simp [back_same]
          | true =>
            obtain ⟨i, rfl, i0, i1⟩ := inB_int hx
            obtain ⟨j, rfl, j0, j1⟩ := inB_int hy
            obtain ⟨bi, rfl⟩ := Int.eq_ofNat_of_zero_le i0
            obtain ⟨kj, rfl⟩ := Int.eq_ofNat_of_zero_le j0
            have a1 := atI_get (f := encO) (0, 0, 0) (show kj < sent.length by omega)
            have a2 := atI_get (f := encB) (0, 0) (show bi < came.length by omega)
            simp only [W_fz, W_ixO, ixN_30, ixN_31, ixN_32, W_seq, W_asg, W_expr, W_ret, W_sif, W_par, W_never, W_nil, W_c, W_e2, W_call, W_anil, W_acons, W_tup, W_lst, W_lstM, W_tV, W_and, W_or, W_not, W_bAnd, W_bOr, W_bNot, W_eif, W_isN, W_notN, W_fn, W_fnK, W_pt, W_for, W_iseq, W_ienum, W_izip, W_comp, W_compG, W_compM, W_kI, W_yes, W_addI, W_addL, W_addT, W_mulI, W_ltI, W_ixL, W_ixT, W_ixS, atI_0, atI_1, atI_2, atI_3, atI_4, W_len_L, W_len_T, W_len_S, W_sum, W_all, W_any, W_min2, W_max2, W_abs, W_intI, W_intB, W_tupT, W_tupL, W_listT, W_listL, W_sl, W_oN, W_oS, W_slT, W_slL, W_slS, W_r1, W_app, W_set, W_gm, W_g0, W_g1, W_isiI, W_isiT, W_isiL, W_e3, Ws_nx, Ws_rt, W_ok, true_and, and_true, if_true, if_false, List.append_nil, frOf_l, frOf_t, frOf_s, kn_t, kn_i, kn_b, kn_l, kn_s, kn_d, isa_tt, isa_ii, isa_ib, isa_ll, isa_lt, isa_tl, W_isiL2, W_isiT2, W_allT, W_sumI, W_allM, W_sumM, cut2, W_ltT2, W_neI, W_eqI, bindP, bindPs, List.map_cons, List.map_nil, decide_eq_true_eq, Bool.false_eq_true, Bool.not_true, Bool.not_false, Bool.and_eq_true, W_var, List.getElem?_cons_zero, List.getElem?_cons_succ, List.set_cons_zero, List.set_cons_succ, rho0, List.length_cons, List.length_nil, List.replicate_succ, List.replicate_zero, List.cons_append, List.nil_append, List.append_eq, Nat.reduceAdd, Nat.reduceSub, wipeD, List.map_cons, List.map_nil, io, ib, a1, a2]
            simp only [W_fz, W_ixO, ixN_30, ixN_31, ixN_32, W_seq, W_asg, W_expr, W_ret, W_sif, W_par, W_never, W_nil, W_c, W_e2, W_call, W_anil, W_acons, W_tup, W_lst, W_lstM, W_tV, W_and, W_or, W_not, W_bAnd, W_bOr, W_bNot, W_eif, W_isN, W_notN, W_fn, W_fnK, W_pt, W_for, W_iseq, W_ienum, W_izip, W_comp, W_compG, W_compM, W_kI, W_yes, W_addI, W_addL, W_addT, W_mulI, W_ltI, W_ixL, W_ixT, W_ixS, atI_0, atI_1, atI_2, atI_3, atI_4, W_len_L, W_len_T, W_len_S, W_sum, W_all, W_any, W_min2, W_max2, W_abs, W_intI, W_intB, W_tupT, W_tupL, W_listT, W_listL, W_sl, W_oN, W_oS, W_slT, W_slL, W_slS, W_r1, W_app, W_set, W_gm, W_g0, W_g1, W_isiI, W_isiT, W_isiL, W_e3, Ws_nx, Ws_rt, W_ok, true_and, and_true, if_true, if_false, List.append_nil, frOf_l, frOf_t, frOf_s, kn_t, kn_i, kn_b, kn_l, kn_s, kn_d, isa_tt, isa_ii, isa_ib, isa_ll, isa_lt, isa_tl, W_isiL2, W_isiT2, W_allT, W_sumI, W_allM, W_sumM, cut2, W_ltT2, W_neI, W_eqI, bindP, bindPs, List.map_cons, List.map_nil, decide_eq_true_eq, Bool.false_eq_true, Bool.not_true, Bool.not_false, Bool.and_eq_true, W_var, List.getElem?_cons_zero, List.getElem?_cons_succ, List.set_cons_zero, List.set_cons_succ, rho0, List.length_cons, List.length_nil, List.replicate_succ, List.replicate_zero, List.cons_append, List.nil_append, List.append_eq, Nat.reduceAdd, Nat.reduceSub, wipeD, List.map_cons, List.map_nil, encO, encB, dayLe, Int.toNat_natCast, dayO, dayB, Bool.true_and, back_same]
            try rfl
    · have e2 : ¬ ((ds.length : Int) = 3) := by omega
      simp [e2, isPart_len e, back_same]
  | _ => simp [isTup, isPart, back_same])
theorem part_enc {sent : List (Int × Int × Int)} {came : List (Int × Int)} {d : D} (h : isPart sent came d = true) : ∃ p : Int × Int × Int, d = encO p ∧ ∃ b k : Nat, p.1 = b ∧ p.2.1 = k ∧ b < came.length ∧ k < sent.length ∧ 1 ≤ p.2.2 ∧ p.2.2 ≤ 99999 * (sent.length : Int) ∧ dayO sent k ≤ dayB came b := by
  unfold isPart at h
  split at h
  · rename_i x y z
    simp only [Bool.and_eq_true] at h
    obtain ⟨hx, hy, hz, hd⟩ := h
    obtain ⟨i, rfl, i0, i1⟩ := inB_int hx
    obtain ⟨j, rfl, j0, j1⟩ := inB_int hy
    obtain ⟨m, rfl, m0, m1⟩ := inB_int hz
    obtain ⟨bi, rfl⟩ := Int.eq_ofNat_of_zero_le i0
    obtain ⟨kj, rfl⟩ := Int.eq_ofNat_of_zero_le j0
    simp only [dayLe, Int.toNat_natCast, decide_eq_true_eq] at hd
    exact ⟨((bi : Int), (kj : Int), m), rfl, bi, kj, rfl, rfl, by omega, by omega, m0, m1, hd⟩
  · cases h
theorem all_enc {sent : List (Int × Int × Int)} {came : List (Int × Int)} : ∀ {ds : List D}, ds.all (isPart sent came) = true → ∃ deal : List (Int × Int × Int), ds = deal.map encO ∧ ∀ p ∈ deal, ∃ b k : Nat, p.1 = b ∧ p.2.1 = k ∧ b < came.length ∧ k < sent.length ∧ 1 ≤ p.2.2 ∧ p.2.2 ≤ 99999 * (sent.length : Int) ∧ dayO sent k ≤ dayB came b
  | [], _ => ⟨[], rfl, fun _ h => by simp at h⟩
  | d :: ds, h => by
    simp only [List.all_cons, Bool.and_eq_true] at h
    obtain ⟨p, rfl, hp⟩ := part_enc h.1
    obtain ⟨deal, rfl, hd⟩ := all_enc h.2
    exact ⟨p :: deal, rfl, fun q hq => by
      rcases List.mem_cons.mp hq with rfl | hq
      · exact hp
      · exact hd q hq⟩
/-- a dealing, as the document has it -/
structure Good (sent : List (Int × Int × Int)) (came : List (Int × Int)) (deal : List (Int × Int × Int)) : Prop where
  key : ∀ p ∈ deal, ∃ b k : Nat, p.1 = b ∧ p.2.1 = k ∧ b < came.length ∧ k < sent.length ∧ 1 ≤ p.2.2 ∧ dayO sent k ≤ dayB came b
  srt : ∀ i, i + 1 < deal.length → HT.lexLt [(deal.getD i (0, 0, 0)).1, (deal.getD i (0, 0, 0)).2.1] [(deal.getD (i + 1) (0, 0, 0)).1, (deal.getD (i + 1) (0, 0, 0)).2.1] = true
  back : ∀ b : Nat, b < came.length → sumB deal (b : Int) = (came.getD b (0, 0)).2
  free : ∀ k : Nat, k < sent.length → sumK deal (k : Int) ≤ cap sent k
def GoodD (sent : List (Int × Int × Int)) (came : List (Int × Int)) (d : D) : Prop := ∃ deal : List (Int × Int × Int), d = .tup (deal.map encO) ∧ Good sent came deal
theorem encO_inj {a b : Int × Int × Int} (h : encO a = encO b) : a = b := by
  unfold encO at h
  simp only [D.tup.injEq, List.cons.injEq, D.int.injEq, and_true] at h
  obtain ⟨h1, h2, h3⟩ := h
  exact Prod.ext h1 (Prod.ext h2 h3)
theorem map_encO_inj : ∀ {a b : List (Int × Int × Int)}, a.map encO = b.map encO → a = b
  | [], [], _ => rfl
  | [], _ :: _, h => by simp at h
  | _ :: _, [], h => by simp at h
  | x :: a, y :: b, h => by
    simp only [List.map_cons, List.cons.injEq] at h
    rw [encO_inj h.1, map_encO_inj h.2]
theorem part_bound {came : List (Int × Int)} (hc : RowsOk came) {sent deal : List (Int × Int × Int)} (h : Good sent came deal) : ∀ p ∈ deal, p.2.2 ≤ 99999 := fun p hp => by
  obtain ⟨b, k, e1, e2, h1, h2, h3, h4⟩ := h.key p hp
  have hb := h.back b h1
  have hr := (hc.row (came.getD b (0, 0)) (by simp [h1])).2.2.2
  have hle : p.2.2 ≤ sumB deal (b : Int) := by
    unfold sumB
    have hm : p.2.2 ∈ (deal.filter fun p => decide (p.1 = (b : Int))).map fun p => p.2.2 := List.mem_map.mpr ⟨p, List.mem_filter.mpr ⟨hp, by simpa using e1⟩, rfl⟩
    have hn : ∀ x ∈ (deal.filter fun p => decide (p.1 = (b : Int))).map fun p => p.2.2, 0 ≤ x := fun x hx => by
      rw [List.mem_map] at hx
      obtain ⟨q, hq, rfl⟩ := hx
      obtain ⟨_, _, _, _, _, _, h5, _⟩ := h.key q (List.mem_filter.mp hq).1
      omega
    generalize ((deal.filter fun p => decide (p.1 = (b : Int))).map fun p => p.2.2) = l at hm hn
    clear hb hr h
    induction l with
    | nil => simp at hm
    | cons x l ih =>
      simp only [List.sum_cons]
      have h0 := sum_nonneg l fun y hy => hn y (List.mem_cons_of_mem _ hy)
      have hx := hn x List.mem_cons_self
      rcases List.mem_cons.mp hm with e | hm
      · omega
      · have := ih hm fun y hy => hn y (List.mem_cons_of_mem _ hy); omega
  omega
theorem isPart_of {sent : List (Int × Int × Int)} {came : List (Int × Int)} {p : Int × Int × Int} {b k : Nat} (e1 : p.1 = b) (e2 : p.2.1 = k) (h1 : b < came.length) (h2 : k < sent.length) (h3 : 1 ≤ p.2.2) (h4 : p.2.2 ≤ 99999) (h5 : dayO sent k ≤ dayB came b) : isPart sent came (encO p) = true := by
  unfold isPart encO
  simp only [inB, dayLe, e1, e2, Int.toNat_natCast, Bool.and_eq_true, decide_eq_true_eq]
  refine ⟨⟨by omega, by omega⟩, ⟨by omega, by omega⟩, ⟨h3, by omega⟩, h5⟩
theorem goodD_iff {sent deal : List (Int × Int × Int)} {came : List (Int × Int)} : GoodD sent came (.tup (deal.map encO)) ↔ Good sent came deal := by
  refine ⟨fun ⟨d, e, h⟩ => ?_, fun h => ⟨deal, rfl, h⟩⟩
  have : deal = d := map_encO_inj (by simpa using e)
  exact this ▸ h
theorem comp_mapD {p : Pt} {tt : FT} {te : FE} {ρ : Rho} {S : Sto} (b : D → Bool) (f : D → D) (xs : List D) (acc : List D) (h : ∀ x ∈ xs, ∃ ρ1, bindP p x ρ = some ρ1 ∧ tt ρ1 S = .ok (b x) S ∧ (b x = true → te ρ1 S = .ok (f x) S)) :
    comp p tt te ρ xs S acc = .ok (acc ++ (xs.filter b).map f) S := by
  have := comp_map (p := p) (tt := tt) (te := te) (ρ := ρ) (S := S) id b f xs acc h
  rwa [List.map_id] at this
theorem deals_D {sent : List (Int × Int × Int)} {came : List (Int × Int)} {outs backs it : D} {S : Sto} (ho : Sq encO sent outs) (hb : Sq encB came backs) (hc : RowsOk came) (hls : sent.length ≤ 19) (h : dtD it = true) (hl : ∀ ds, it = .tup ds → ds.length ≤ 5000) :
    ∃ r : Bool, m_deals_all [outs, backs, it] S = .ok (.bl r) S ∧ (r = true ↔ GoodD sent came it) := by
  have hlc := hc.len
  have fo : frOf outs = some (sent.map encO) := by rcases ho with rfl | rfl <;> rfl
  have fb : frOf backs = some (came.map encB) := by rcases hb with rfl | rfl <;> rfl
  suffices hw : W (m_deals_all [outs, backs, it] S) fun d S' => ∃ r : Bool, d = .bl r ∧ S' = S ∧ (r = true ↔ GoodD sent came it) by
    obtain ⟨d, S', e, r, rfl, rfl, hr⟩ := W_ex hw
    exact ⟨r, e, hr⟩
  have fin : ∀ r : Bool, (r = true ↔ GoodD sent came it) → ∃ r' : Bool, D.bl r = .bl r' ∧ S.back S.m.length = S ∧ (r' = true ↔ GoodD sent came it) := fun r h => ⟨r, rfl, back_same, h⟩
  unfold m_deals_all
  rw [W_run]
  unfold b_deals_all
  simp only [W_fz, W_ixO, ixN_30, ixN_31, ixN_32, W_seq, W_asg, W_expr, W_ret, W_sif, W_par, W_never, W_nil, W_c, W_e2, W_call, W_anil, W_acons, W_tup, W_lst, W_lstM, W_tV, W_and, W_or, W_not, W_bAnd, W_bOr, W_bNot, W_eif, W_isN, W_notN, W_fn, W_fnK, W_pt, W_for, W_iseq, W_ienum, W_izip, W_comp, W_compG, W_compM, W_kI, W_yes, W_addI, W_addL, W_addT, W_mulI, W_ltI, W_ixL, W_ixT, W_ixS, atI_0, atI_1, atI_2, atI_3, atI_4, W_len_L, W_len_T, W_len_S, W_sum, W_all, W_any, W_min2, W_max2, W_abs, W_intI, W_intB, W_tupT, W_tupL, W_listT, W_listL, W_sl, W_oN, W_oS, W_slT, W_slL, W_slS, W_r1, W_app, W_set, W_gm, W_g0, W_g1, W_isiI, W_isiT, W_isiL, W_e3, Ws_nx, Ws_rt, W_ok, true_and, and_true, if_true, if_false, List.append_nil, frOf_l, frOf_t, frOf_s, kn_t, kn_i, kn_b, kn_l, kn_s, kn_d, isa_tt, isa_ii, isa_ib, isa_ll, isa_lt, isa_tl, W_isiL2, W_isiT2, W_allT, W_sumI, W_allM, W_sumM, cut2, W_ltT2, W_neI, W_eqI, bindP, bindPs, List.map_cons, List.map_nil, decide_eq_true_eq, Bool.false_eq_true, Bool.not_true, Bool.not_false, Bool.and_eq_true, W_var, List.getElem?_cons_zero, List.getElem?_cons_succ, List.set_cons_zero, List.set_cons_succ, rho0, List.length_cons, List.length_nil, List.replicate_succ, List.replicate_zero, List.cons_append, List.nil_append, List.append_eq, Nat.reduceAdd, Nat.reduceSub, wipeD, List.map_cons, List.map_nil, W_isiD h, isa_tup h, back_same]
  cases it with
  | tup ds =>
    have hds := dtDs_iff.mp (by simpa [dtD] using h)
    have hlen := hl ds rfl
    simp only [isTup, W_fz, W_ixO, ixN_30, ixN_31, ixN_32, W_seq, W_asg, W_expr, W_ret, W_sif, W_par, W_never, W_nil, W_c, W_e2, W_call, W_anil, W_acons, W_tup, W_lst, W_lstM, W_tV, W_and, W_or, W_not, W_bAnd, W_bOr, W_bNot, W_eif, W_isN, W_notN, W_fn, W_fnK, W_pt, W_for, W_iseq, W_ienum, W_izip, W_comp, W_compG, W_compM, W_kI, W_yes, W_addI, W_addL, W_addT, W_mulI, W_ltI, W_ixL, W_ixT, W_ixS, atI_0, atI_1, atI_2, atI_3, atI_4, W_len_L, W_len_T, W_len_S, W_sum, W_all, W_any, W_min2, W_max2, W_abs, W_intI, W_intB, W_tupT, W_tupL, W_listT, W_listL, W_sl, W_oN, W_oS, W_slT, W_slL, W_slS, W_r1, W_app, W_set, W_gm, W_g0, W_g1, W_isiI, W_isiT, W_isiL, W_e3, Ws_nx, Ws_rt, W_ok, true_and, and_true, if_true, if_false, List.append_nil, frOf_l, frOf_t, frOf_s, kn_t, kn_i, kn_b, kn_l, kn_s, kn_d, isa_tt, isa_ii, isa_ib, isa_ll, isa_lt, isa_tl, W_isiL2, W_isiT2, W_allT, W_sumI, W_allM, W_sumM, cut2, W_ltT2, W_neI, W_eqI, bindP, bindPs, List.map_cons, List.map_nil, decide_eq_true_eq, Bool.false_eq_true, Bool.not_true, Bool.not_false, Bool.and_eq_true, W_var, List.getElem?_cons_zero, List.getElem?_cons_succ, List.set_cons_zero, List.set_cons_succ, rho0, List.length_cons, List.length_nil, List.replicate_succ, List.replicate_zero, List.cons_append, List.nil_append, List.append_eq, Nat.reduceAdd, Nat.reduceSub, wipeD, List.map_cons, List.map_nil]
    refine ⟨by unfold line; omega, W_eq (comp_mapD (fun _ => true) (fun d => .bl (isPart sent came d)) ds [] (fun x hx => ⟨_, rfl, rfl, fun _ => of_W (by simp only [W_fz, W_ixO, ixN_30, ixN_31, ixN_32, W_seq, W_asg, W_expr, W_ret, W_sif, W_par, W_never, W_nil, W_c, W_e2, W_call, W_anil, W_acons, W_tup, W_lst, W_lstM, W_tV, W_and, W_or, W_not, W_bAnd, W_bOr, W_bNot, W_eif, W_isN, W_notN, W_fn, W_fnK, W_pt, W_for, W_iseq, W_ienum, W_izip, W_comp, W_compG, W_compM, W_kI, W_yes, W_addI, W_addL, W_addT, W_mulI, W_ltI, W_ixL, W_ixT, W_ixS, atI_0, atI_1, atI_2, atI_3, atI_4, W_len_L, W_len_T, W_len_S, W_sum, W_all, W_any, W_min2, W_max2, W_abs, W_intI, W_intB, W_tupT, W_tupL, W_listT, W_listL, W_sl, W_oN, W_oS, W_slT, W_slL, W_slS, W_r1, W_app, W_set, W_gm, W_g0, W_g1, W_isiI, W_isiT, W_isiL, W_e3, Ws_nx, Ws_rt, W_ok, true_and, and_true, if_true, if_false, List.append_nil, frOf_l, frOf_t, frOf_s, kn_t, kn_i, kn_b, kn_l, kn_s, kn_d, isa_tt, isa_ii, isa_ib, isa_ll, isa_lt, isa_tl, W_isiL2, W_isiT2, W_allT, W_sumI, W_allM, W_sumM, cut2, W_ltT2, W_neI, W_eqI, bindP, bindPs, List.map_cons, List.map_nil, decide_eq_true_eq, Bool.false_eq_true, Bool.not_true, Bool.not_false, Bool.and_eq_true, W_var, List.getElem?_cons_zero, List.getElem?_cons_succ, List.set_cons_zero, List.set_cons_succ, rho0, List.length_cons, List.length_nil, List.replicate_succ, List.replicate_zero, List.cons_append, List.nil_append, List.append_eq, Nat.reduceAdd, Nat.reduceSub, wipeD, List.map_cons, List.map_nil, part_D ho hb (hds x hx)])⟩)) ?_⟩
    simp only [W_fz, W_ixO, ixN_30, ixN_31, ixN_32, W_seq, W_asg, W_expr, W_ret, W_sif, W_par, W_never, W_nil, W_c, W_e2, W_call, W_anil, W_acons, W_tup, W_lst, W_lstM, W_tV, W_and, W_or, W_not, W_bAnd, W_bOr, W_bNot, W_eif, W_isN, W_notN, W_fn, W_fnK, W_pt, W_for, W_iseq, W_ienum, W_izip, W_comp, W_compG, W_compM, W_kI, W_yes, W_addI, W_addL, W_addT, W_mulI, W_ltI, W_ixL, W_ixT, W_ixS, atI_0, atI_1, atI_2, atI_3, atI_4, W_len_L, W_len_T, W_len_S, W_sum, W_all, W_any, W_min2, W_max2, W_abs, W_intI, W_intB, W_tupT, W_tupL, W_listT, W_listL, W_sl, W_oN, W_oS, W_slT, W_slL, W_slS, W_r1, W_app, W_set, W_gm, W_g0, W_g1, W_isiI, W_isiT, W_isiL, W_e3, Ws_nx, Ws_rt, W_ok, true_and, and_true, if_true, if_false, List.append_nil, frOf_l, frOf_t, frOf_s, kn_t, kn_i, kn_b, kn_l, kn_s, kn_d, isa_tt, isa_ii, isa_ib, isa_ll, isa_lt, isa_tl, W_isiL2, W_isiT2, W_allT, W_sumI, W_allM, W_sumM, cut2, W_ltT2, W_neI, W_eqI, bindP, bindPs, List.map_cons, List.map_nil, decide_eq_true_eq, Bool.false_eq_true, Bool.not_true, Bool.not_false, Bool.and_eq_true, W_var, List.getElem?_cons_zero, List.getElem?_cons_succ, List.set_cons_zero, List.set_cons_succ, rho0, List.length_cons, List.length_nil, List.replicate_succ, List.replicate_zero, List.cons_append, List.nil_append, List.append_eq, Nat.reduceAdd, Nat.reduceSub, wipeD, List.map_cons, List.map_nil, filter_all, W_allB]
    cases ha : ds.all (isPart sent came) with
    | false =>
      simp only [W_fz, W_ixO, ixN_30, ixN_31, ixN_32, W_seq, W_asg, W_expr, W_ret, W_sif, W_par, W_never, W_nil, W_c, W_e2, W_call, W_anil, W_acons, W_tup, W_lst, W_lstM, W_tV, W_and, W_or, W_not, W_bAnd, W_bOr, W_bNot, W_eif, W_isN, W_notN, W_fn, W_fnK, W_pt, W_for, W_iseq, W_ienum, W_izip, W_comp, W_compG, W_compM, W_kI, W_yes, W_addI, W_addL, W_addT, W_mulI, W_ltI, W_ixL, W_ixT, W_ixS, atI_0, atI_1, atI_2, atI_3, atI_4, W_len_L, W_len_T, W_len_S, W_sum, W_all, W_any, W_min2, W_max2, W_abs, W_intI, W_intB, W_tupT, W_tupL, W_listT, W_listL, W_sl, W_oN, W_oS, W_slT, W_slL, W_slS, W_r1, W_app, W_set, W_gm, W_g0, W_g1, W_isiI, W_isiT, W_isiL, W_e3, Ws_nx, Ws_rt, W_ok, true_and, and_true, if_true, if_false, List.append_nil, frOf_l, frOf_t, frOf_s, kn_t, kn_i, kn_b, kn_l, kn_s, kn_d, isa_tt, isa_ii, isa_ib, isa_ll, isa_lt, isa_tl, W_isiL2, W_isiT2, W_allT, W_sumI, W_allM, W_sumM, cut2, W_ltT2, W_neI, W_eqI, bindP, bindPs, List.map_cons, List.map_nil, decide_eq_true_eq, Bool.false_eq_true, Bool.not_true, Bool.not_false, Bool.and_eq_true, W_var, List.getElem?_cons_zero, List.getElem?_cons_succ, List.set_cons_zero, List.set_cons_succ, rho0, List.length_cons, List.length_nil, List.replicate_succ, List.replicate_zero, List.cons_append, List.nil_append, List.append_eq, Nat.reduceAdd, Nat.reduceSub, wipeD, List.map_cons, List.map_nil]
      refine fin false ⟨by simp, fun ⟨deal, e, hg⟩ => ?_⟩
      have e' : ds = deal.map encO := by simpa using e
      have : ds.all (isPart sent came) = true := by
        rw [e', List.all_eq_true]
        intro x hx
        rw [List.mem_map] at hx
        obtain ⟨p, hp, rfl⟩ := hx
        obtain ⟨b, k, e1, e2, h1, h2, h3, h4⟩ := hg.key p hp
        exact isPart_of e1 e2 h1 h2 h3 (part_bound hc hg p hp) h4
      rw [ha] at this; cases this
    | true =>
      obtain ⟨deal, rfl, hkey⟩ := all_enc ha
      simp only [List.length_map] at hlen
      simp only [W_fz, W_ixO, ixN_30, ixN_31, ixN_32, W_seq, W_asg, W_expr, W_ret, W_sif, W_par, W_never, W_nil, W_c, W_e2, W_call, W_anil, W_acons, W_tup, W_lst, W_lstM, W_tV, W_and, W_or, W_not, W_bAnd, W_bOr, W_bNot, W_eif, W_isN, W_notN, W_fn, W_fnK, W_pt, W_for, W_iseq, W_ienum, W_izip, W_comp, W_compG, W_compM, W_kI, W_yes, W_addI, W_addL, W_addT, W_mulI, W_ltI, W_ixL, W_ixT, W_ixS, atI_0, atI_1, atI_2, atI_3, atI_4, W_len_L, W_len_T, W_len_S, W_sum, W_all, W_any, W_min2, W_max2, W_abs, W_intI, W_intB, W_tupT, W_tupL, W_listT, W_listL, W_sl, W_oN, W_oS, W_slT, W_slL, W_slS, W_r1, W_app, W_set, W_gm, W_g0, W_g1, W_isiI, W_isiT, W_isiL, W_e3, Ws_nx, Ws_rt, W_ok, true_and, and_true, if_true, if_false, List.append_nil, frOf_l, frOf_t, frOf_s, kn_t, kn_i, kn_b, kn_l, kn_s, kn_d, isa_tt, isa_ii, isa_ib, isa_ll, isa_lt, isa_tl, W_isiL2, W_isiT2, W_allT, W_sumI, W_allM, W_sumM, cut2, W_ltT2, W_neI, W_eqI, bindP, bindPs, List.map_cons, List.map_nil, decide_eq_true_eq, Bool.false_eq_true, Bool.not_true, Bool.not_false, Bool.and_eq_true, W_var, List.getElem?_cons_zero, List.getElem?_cons_succ, List.set_cons_zero, List.set_cons_succ, rho0, List.length_cons, List.length_nil, List.replicate_succ, List.replicate_zero, List.cons_append, List.nil_append, List.append_eq, Nat.reduceAdd, Nat.reduceSub, wipeD, List.map_cons, List.map_nil, List.length_map]
      rw [show rangeD 0 ((deal.length : Int) - 1).toNat = (List.range (deal.length - 1)).map fun k => .int (k : Int) from by
        unfold rangeD
        rw [show ((deal.length : Int) - 1).toNat = deal.length - 1 by omega]
        simp]
      refine ⟨small62_of (by omega) (by omega), by simp; unfold line; omega, W_eq (comp_map (fun k : Nat => D.int (k : Int)) (fun _ => true) (fun k => .bl (HT.lexLt [(deal.getD k (0, 0, 0)).1, (deal.getD k (0, 0, 0)).2.1] [(deal.getD (k + 1) (0, 0, 0)).1, (deal.getD (k + 1) (0, 0, 0)).2.1])) (List.range (deal.length - 1)) [] (fun k hk => ⟨_, rfl, rfl, fun _ => of_W ?_⟩)) ?_⟩
      · rw [List.mem_range] at hk
        have a1 := atI_get (f := encO) (0, 0, 0) (show k < deal.length by omega)
        have a2 := atI_succ (f := encO) (0, 0, 0) (show k + 1 < deal.length by omega)
        simp only [W_fz, W_ixO, ixN_30, ixN_31, ixN_32, W_seq, W_asg, W_expr, W_ret, W_sif, W_par, W_never, W_nil, W_c, W_e2, W_call, W_anil, W_acons, W_tup, W_lst, W_lstM, W_tV, W_and, W_or, W_not, W_bAnd, W_bOr, W_bNot, W_eif, W_isN, W_notN, W_fn, W_fnK, W_pt, W_for, W_iseq, W_ienum, W_izip, W_comp, W_compG, W_compM, W_kI, W_yes, W_addI, W_addL, W_addT, W_mulI, W_ltI, W_ixL, W_ixT, W_ixS, atI_0, atI_1, atI_2, atI_3, atI_4, W_len_L, W_len_T, W_len_S, W_sum, W_all, W_any, W_min2, W_max2, W_abs, W_intI, W_intB, W_tupT, W_tupL, W_listT, W_listL, W_sl, W_oN, W_oS, W_slT, W_slL, W_slS, W_r1, W_app, W_set, W_gm, W_g0, W_g1, W_isiI, W_isiT, W_isiL, W_e3, Ws_nx, Ws_rt, W_ok, true_and, and_true, if_true, if_false, List.append_nil, frOf_l, frOf_t, frOf_s, kn_t, kn_i, kn_b, kn_l, kn_s, kn_d, isa_tt, isa_ii, isa_ib, isa_ll, isa_lt, isa_tl, W_isiL2, W_isiT2, W_allT, W_sumI, W_allM, W_sumM, cut2, W_ltT2, W_neI, W_eqI, bindP, bindPs, List.map_cons, List.map_nil, decide_eq_true_eq, Bool.false_eq_true, Bool.not_true, Bool.not_false, Bool.and_eq_true, W_var, List.getElem?_cons_zero, List.getElem?_cons_succ, List.set_cons_zero, List.set_cons_succ, rho0, List.length_cons, List.length_nil, List.replicate_succ, List.replicate_zero, List.cons_append, List.nil_append, List.append_eq, Nat.reduceAdd, Nat.reduceSub, wipeD, List.map_cons, List.map_nil, a1, a2]
        simp only [W_fz, W_ixO, ixN_30, ixN_31, ixN_32, W_seq, W_asg, W_expr, W_ret, W_sif, W_par, W_never, W_nil, W_c, W_e2, W_call, W_anil, W_acons, W_tup, W_lst, W_lstM, W_tV, W_and, W_or, W_not, W_bAnd, W_bOr, W_bNot, W_eif, W_isN, W_notN, W_fn, W_fnK, W_pt, W_for, W_iseq, W_ienum, W_izip, W_comp, W_compG, W_compM, W_kI, W_yes, W_addI, W_addL, W_addT, W_mulI, W_ltI, W_ixL, W_ixT, W_ixS, atI_0, atI_1, atI_2, atI_3, atI_4, W_len_L, W_len_T, W_len_S, W_sum, W_all, W_any, W_min2, W_max2, W_abs, W_intI, W_intB, W_tupT, W_tupL, W_listT, W_listL, W_sl, W_oN, W_oS, W_slT, W_slL, W_slS, W_r1, W_app, W_set, W_gm, W_g0, W_g1, W_isiI, W_isiT, W_isiL, W_e3, Ws_nx, Ws_rt, W_ok, true_and, and_true, if_true, if_false, List.append_nil, frOf_l, frOf_t, frOf_s, kn_t, kn_i, kn_b, kn_l, kn_s, kn_d, isa_tt, isa_ii, isa_ib, isa_ll, isa_lt, isa_tl, W_isiL2, W_isiT2, W_allT, W_sumI, W_allM, W_sumM, cut2, W_ltT2, W_neI, W_eqI, bindP, bindPs, List.map_cons, List.map_nil, decide_eq_true_eq, Bool.false_eq_true, Bool.not_true, Bool.not_false, Bool.and_eq_true, W_var, List.getElem?_cons_zero, List.getElem?_cons_succ, List.set_cons_zero, List.set_cons_succ, rho0, List.length_cons, List.length_nil, List.replicate_succ, List.replicate_zero, List.cons_append, List.nil_append, List.append_eq, Nat.reduceAdd, Nat.reduceSub, wipeD, List.map_cons, List.map_nil, encO, W_ltO2]
        try trivial
      simp only [W_fz, W_ixO, ixN_30, ixN_31, ixN_32, W_seq, W_asg, W_expr, W_ret, W_sif, W_par, W_never, W_nil, W_c, W_e2, W_call, W_anil, W_acons, W_tup, W_lst, W_lstM, W_tV, W_and, W_or, W_not, W_bAnd, W_bOr, W_bNot, W_eif, W_isN, W_notN, W_fn, W_fnK, W_pt, W_for, W_iseq, W_ienum, W_izip, W_comp, W_compG, W_compM, W_kI, W_yes, W_addI, W_addL, W_addT, W_mulI, W_ltI, W_ixL, W_ixT, W_ixS, atI_0, atI_1, atI_2, atI_3, atI_4, W_len_L, W_len_T, W_len_S, W_sum, W_all, W_any, W_min2, W_max2, W_abs, W_intI, W_intB, W_tupT, W_tupL, W_listT, W_listL, W_sl, W_oN, W_oS, W_slT, W_slL, W_slS, W_r1, W_app, W_set, W_gm, W_g0, W_g1, W_isiI, W_isiT, W_isiL, W_e3, Ws_nx, Ws_rt, W_ok, true_and, and_true, if_true, if_false, List.append_nil, frOf_l, frOf_t, frOf_s, kn_t, kn_i, kn_b, kn_l, kn_s, kn_d, isa_tt, isa_ii, isa_ib, isa_ll, isa_lt, isa_tl, W_isiL2, W_isiT2, W_allT, W_sumI, W_allM, W_sumM, cut2, W_ltT2, W_neI, W_eqI, bindP, bindPs, List.map_cons, List.map_nil, decide_eq_true_eq, Bool.false_eq_true, Bool.not_true, Bool.not_false, Bool.and_eq_true, W_var, List.getElem?_cons_zero, List.getElem?_cons_succ, List.set_cons_zero, List.set_cons_succ, rho0, List.length_cons, List.length_nil, List.replicate_succ, List.replicate_zero, List.cons_append, List.nil_append, List.append_eq, Nat.reduceAdd, Nat.reduceSub, wipeD, List.map_cons, List.map_nil, filter_all, W_allB]
      cases h2 : (List.range (deal.length - 1)).all fun x => HT.lexLt [(deal.getD x (0, 0, 0)).1, (deal.getD x (0, 0, 0)).2.1] [(deal.getD (x + 1) (0, 0, 0)).1, (deal.getD (x + 1) (0, 0, 0)).2.1] with
      | false =>
        simp only [W_fz, W_ixO, ixN_30, ixN_31, ixN_32, W_seq, W_asg, W_expr, W_ret, W_sif, W_par, W_never, W_nil, W_c, W_e2, W_call, W_anil, W_acons, W_tup, W_lst, W_lstM, W_tV, W_and, W_or, W_not, W_bAnd, W_bOr, W_bNot, W_eif, W_isN, W_notN, W_fn, W_fnK, W_pt, W_for, W_iseq, W_ienum, W_izip, W_comp, W_compG, W_compM, W_kI, W_yes, W_addI, W_addL, W_addT, W_mulI, W_ltI, W_ixL, W_ixT, W_ixS, atI_0, atI_1, atI_2, atI_3, atI_4, W_len_L, W_len_T, W_len_S, W_sum, W_all, W_any, W_min2, W_max2, W_abs, W_intI, W_intB, W_tupT, W_tupL, W_listT, W_listL, W_sl, W_oN, W_oS, W_slT, W_slL, W_slS, W_r1, W_app, W_set, W_gm, W_g0, W_g1, W_isiI, W_isiT, W_isiL, W_e3, Ws_nx, Ws_rt, W_ok, true_and, and_true, if_true, if_false, List.append_nil, frOf_l, frOf_t, frOf_s, kn_t, kn_i, kn_b, kn_l, kn_s, kn_d, isa_tt, isa_ii, isa_ib, isa_ll, isa_lt, isa_tl, W_isiL2, W_isiT2, W_allT, W_sumI, W_allM, W_sumM, cut2, W_ltT2, W_neI, W_eqI, bindP, bindPs, List.map_cons, List.map_nil, decide_eq_true_eq, Bool.false_eq_true, Bool.not_true, Bool.not_false, Bool.and_eq_true, W_var, List.getElem?_cons_zero, List.getElem?_cons_succ, List.set_cons_zero, List.set_cons_succ, rho0, List.length_cons, List.length_nil, List.replicate_succ, List.replicate_zero, List.cons_append, List.nil_append, List.append_eq, Nat.reduceAdd, Nat.reduceSub, wipeD, List.map_cons, List.map_nil]
        refine fin false ⟨by simp, fun hg => ?_⟩
        have hg := goodD_iff.mp hg
        have : ((List.range (deal.length - 1)).all fun x => HT.lexLt [(deal.getD x (0, 0, 0)).1, (deal.getD x (0, 0, 0)).2.1] [(deal.getD (x + 1) (0, 0, 0)).1, (deal.getD (x + 1) (0, 0, 0)).2.1]) = true := by
          rw [List.all_eq_true]
          intro x hx
          rw [List.mem_range] at hx
          exact hg.srt x (by omega)
        rw [h2] at this; cases this
      | true =>
        simp only [W_fz, W_ixO, ixN_30, ixN_31, ixN_32, W_seq, W_asg, W_expr, W_ret, W_sif, W_par, W_never, W_nil, W_c, W_e2, W_call, W_anil, W_acons, W_tup, W_lst, W_lstM, W_tV, W_and, W_or, W_not, W_bAnd, W_bOr, W_bNot, W_eif, W_isN, W_notN, W_fn, W_fnK, W_pt, W_for, W_iseq, W_ienum, W_izip, W_comp, W_compG, W_compM, W_kI, W_yes, W_addI, W_addL, W_addT, W_mulI, W_ltI, W_ixL, W_ixT, W_ixS, atI_0, atI_1, atI_2, atI_3, atI_4, W_len_L, W_len_T, W_len_S, W_sum, W_all, W_any, W_min2, W_max2, W_abs, W_intI, W_intB, W_tupT, W_tupL, W_listT, W_listL, W_sl, W_oN, W_oS, W_slT, W_slL, W_slS, W_r1, W_app, W_set, W_gm, W_g0, W_g1, W_isiI, W_isiT, W_isiL, W_e3, Ws_nx, Ws_rt, W_ok, true_and, and_true, if_true, if_false, List.append_nil, frOf_l, frOf_t, frOf_s, kn_t, kn_i, kn_b, kn_l, kn_s, kn_d, isa_tt, isa_ii, isa_ib, isa_ll, isa_lt, isa_tl, W_isiL2, W_isiT2, W_allT, W_sumI, W_allM, W_sumM, cut2, W_ltT2, W_neI, W_eqI, bindP, bindPs, List.map_cons, List.map_nil, decide_eq_true_eq, Bool.false_eq_true, Bool.not_true, Bool.not_false, Bool.and_eq_true, W_var, List.getElem?_cons_zero, List.getElem?_cons_succ, List.set_cons_zero, List.set_cons_succ, rho0, List.length_cons, List.length_nil, List.replicate_succ, List.replicate_zero, List.cons_append, List.nil_append, List.append_eq, Nat.reduceAdd, Nat.reduceSub, wipeD, List.map_cons, List.map_nil, List.length_map, fb, fo, enumD_map]
        refine ⟨by simp; unfold line; omega, W_eq (comp_map (fun p : (Int × Int) × Nat => D.tup [.int (p.2 : Int), encB p.1]) (fun _ => true) (fun p => .bl (decide (p.1.2 = sumB deal (p.2 : Int)))) came.zipIdx [] (fun p hp => ⟨_, rfl, rfl, fun _ => of_W ?_⟩)) ?_⟩
        · simp only [W_fz, W_ixO, ixN_30, ixN_31, ixN_32, W_seq, W_asg, W_expr, W_ret, W_sif, W_par, W_never, W_nil, W_c, W_e2, W_call, W_anil, W_acons, W_tup, W_lst, W_lstM, W_tV, W_and, W_or, W_not, W_bAnd, W_bOr, W_bNot, W_eif, W_isN, W_notN, W_fn, W_fnK, W_pt, W_for, W_iseq, W_ienum, W_izip, W_comp, W_compG, W_compM, W_kI, W_yes, W_addI, W_addL, W_addT, W_mulI, W_ltI, W_ixL, W_ixT, W_ixS, atI_0, atI_1, atI_2, atI_3, atI_4, W_len_L, W_len_T, W_len_S, W_sum, W_all, W_any, W_min2, W_max2, W_abs, W_intI, W_intB, W_tupT, W_tupL, W_listT, W_listL, W_sl, W_oN, W_oS, W_slT, W_slL, W_slS, W_r1, W_app, W_set, W_gm, W_g0, W_g1, W_isiI, W_isiT, W_isiL, W_e3, Ws_nx, Ws_rt, W_ok, true_and, and_true, if_true, if_false, List.append_nil, frOf_l, frOf_t, frOf_s, kn_t, kn_i, kn_b, kn_l, kn_s, kn_d, isa_tt, isa_ii, isa_ib, isa_ll, isa_lt, isa_tl, W_isiL2, W_isiT2, W_allT, W_sumI, W_allM, W_sumM, cut2, W_ltT2, W_neI, W_eqI, bindP, bindPs, List.map_cons, List.map_nil, decide_eq_true_eq, Bool.false_eq_true, Bool.not_true, Bool.not_false, Bool.and_eq_true, W_var, List.getElem?_cons_zero, List.getElem?_cons_succ, List.set_cons_zero, List.set_cons_succ, rho0, List.length_cons, List.length_nil, List.replicate_succ, List.replicate_zero, List.cons_append, List.nil_append, List.append_eq, Nat.reduceAdd, Nat.reduceSub, wipeD, List.map_cons, List.map_nil, encB, List.length_map]
          refine ⟨by unfold line; omega, W_eq (comp_map encO (fun q => decide (q.1 = (p.2 : Int))) (fun q => .int q.2.2) deal [] (fun x hx => ⟨_, rfl, of_W (by simp only [W_fz, W_ixO, ixN_30, ixN_31, ixN_32, W_seq, W_asg, W_expr, W_ret, W_sif, W_par, W_never, W_nil, W_c, W_e2, W_call, W_anil, W_acons, W_tup, W_lst, W_lstM, W_tV, W_and, W_or, W_not, W_bAnd, W_bOr, W_bNot, W_eif, W_isN, W_notN, W_fn, W_fnK, W_pt, W_for, W_iseq, W_ienum, W_izip, W_comp, W_compG, W_compM, W_kI, W_yes, W_addI, W_addL, W_addT, W_mulI, W_ltI, W_ixL, W_ixT, W_ixS, atI_0, atI_1, atI_2, atI_3, atI_4, W_len_L, W_len_T, W_len_S, W_sum, W_all, W_any, W_min2, W_max2, W_abs, W_intI, W_intB, W_tupT, W_tupL, W_listT, W_listL, W_sl, W_oN, W_oS, W_slT, W_slL, W_slS, W_r1, W_app, W_set, W_gm, W_g0, W_g1, W_isiI, W_isiT, W_isiL, W_e3, Ws_nx, Ws_rt, W_ok, true_and, and_true, if_true, if_false, List.append_nil, frOf_l, frOf_t, frOf_s, kn_t, kn_i, kn_b, kn_l, kn_s, kn_d, isa_tt, isa_ii, isa_ib, isa_ll, isa_lt, isa_tl, W_isiL2, W_isiT2, W_allT, W_sumI, W_allM, W_sumM, cut2, W_ltT2, W_neI, W_eqI, bindP, bindPs, List.map_cons, List.map_nil, decide_eq_true_eq, Bool.false_eq_true, Bool.not_true, Bool.not_false, Bool.and_eq_true, W_var, List.getElem?_cons_zero, List.getElem?_cons_succ, List.set_cons_zero, List.set_cons_succ, rho0, List.length_cons, List.length_nil, List.replicate_succ, List.replicate_zero, List.cons_append, List.nil_append, List.append_eq, Nat.reduceAdd, Nat.reduceSub, wipeD, List.map_cons, List.map_nil, encO]), fun _ => rfl⟩)) ?_⟩
          simp only [W_fz, W_ixO, ixN_30, ixN_31, ixN_32, W_seq, W_asg, W_expr, W_ret, W_sif, W_par, W_never, W_nil, W_c, W_e2, W_call, W_anil, W_acons, W_tup, W_lst, W_lstM, W_tV, W_and, W_or, W_not, W_bAnd, W_bOr, W_bNot, W_eif, W_isN, W_notN, W_fn, W_fnK, W_pt, W_for, W_iseq, W_ienum, W_izip, W_comp, W_compG, W_compM, W_kI, W_yes, W_addI, W_addL, W_addT, W_mulI, W_ltI, W_ixL, W_ixT, W_ixS, atI_0, atI_1, atI_2, atI_3, atI_4, W_len_L, W_len_T, W_len_S, W_sum, W_all, W_any, W_min2, W_max2, W_abs, W_intI, W_intB, W_tupT, W_tupL, W_listT, W_listL, W_sl, W_oN, W_oS, W_slT, W_slL, W_slS, W_r1, W_app, W_set, W_gm, W_g0, W_g1, W_isiI, W_isiT, W_isiL, W_e3, Ws_nx, Ws_rt, W_ok, true_and, and_true, if_true, if_false, List.append_nil, frOf_l, frOf_t, frOf_s, kn_t, kn_i, kn_b, kn_l, kn_s, kn_d, isa_tt, isa_ii, isa_ib, isa_ll, isa_lt, isa_tl, W_isiL2, W_isiT2, W_allT, W_sumI, W_allM, W_sumM, cut2, W_ltT2, W_neI, W_eqI, bindP, bindPs, List.map_cons, List.map_nil, decide_eq_true_eq, Bool.false_eq_true, Bool.not_true, Bool.not_false, Bool.and_eq_true, W_var, List.getElem?_cons_zero, List.getElem?_cons_succ, List.set_cons_zero, List.set_cons_succ, rho0, List.length_cons, List.length_nil, List.replicate_succ, List.replicate_zero, List.cons_append, List.nil_append, List.append_eq, Nat.reduceAdd, Nat.reduceSub, wipeD, List.map_cons, List.map_nil]
          rfl
        simp only [W_fz, W_ixO, ixN_30, ixN_31, ixN_32, W_seq, W_asg, W_expr, W_ret, W_sif, W_par, W_never, W_nil, W_c, W_e2, W_call, W_anil, W_acons, W_tup, W_lst, W_lstM, W_tV, W_and, W_or, W_not, W_bAnd, W_bOr, W_bNot, W_eif, W_isN, W_notN, W_fn, W_fnK, W_pt, W_for, W_iseq, W_ienum, W_izip, W_comp, W_compG, W_compM, W_kI, W_yes, W_addI, W_addL, W_addT, W_mulI, W_ltI, W_ixL, W_ixT, W_ixS, atI_0, atI_1, atI_2, atI_3, atI_4, W_len_L, W_len_T, W_len_S, W_sum, W_all, W_any, W_min2, W_max2, W_abs, W_intI, W_intB, W_tupT, W_tupL, W_listT, W_listL, W_sl, W_oN, W_oS, W_slT, W_slL, W_slS, W_r1, W_app, W_set, W_gm, W_g0, W_g1, W_isiI, W_isiT, W_isiL, W_e3, Ws_nx, Ws_rt, W_ok, true_and, and_true, if_true, if_false, List.append_nil, frOf_l, frOf_t, frOf_s, kn_t, kn_i, kn_b, kn_l, kn_s, kn_d, isa_tt, isa_ii, isa_ib, isa_ll, isa_lt, isa_tl, W_isiL2, W_isiT2, W_allT, W_sumI, W_allM, W_sumM, cut2, W_ltT2, W_neI, W_eqI, bindP, bindPs, List.map_cons, List.map_nil, decide_eq_true_eq, Bool.false_eq_true, Bool.not_true, Bool.not_false, Bool.and_eq_true, W_var, List.getElem?_cons_zero, List.getElem?_cons_succ, List.set_cons_zero, List.set_cons_succ, rho0, List.length_cons, List.length_nil, List.replicate_succ, List.replicate_zero, List.cons_append, List.nil_append, List.append_eq, Nat.reduceAdd, Nat.reduceSub, wipeD, List.map_cons, List.map_nil, filter_all, W_allB]
        cases h3 : came.zipIdx.all fun p => decide (p.1.2 = sumB deal (p.2 : Int)) with
        | false =>
          simp only [W_fz, W_ixO, ixN_30, ixN_31, ixN_32, W_seq, W_asg, W_expr, W_ret, W_sif, W_par, W_never, W_nil, W_c, W_e2, W_call, W_anil, W_acons, W_tup, W_lst, W_lstM, W_tV, W_and, W_or, W_not, W_bAnd, W_bOr, W_bNot, W_eif, W_isN, W_notN, W_fn, W_fnK, W_pt, W_for, W_iseq, W_ienum, W_izip, W_comp, W_compG, W_compM, W_kI, W_yes, W_addI, W_addL, W_addT, W_mulI, W_ltI, W_ixL, W_ixT, W_ixS, atI_0, atI_1, atI_2, atI_3, atI_4, W_len_L, W_len_T, W_len_S, W_sum, W_all, W_any, W_min2, W_max2, W_abs, W_intI, W_intB, W_tupT, W_tupL, W_listT, W_listL, W_sl, W_oN, W_oS, W_slT, W_slL, W_slS, W_r1, W_app, W_set, W_gm, W_g0, W_g1, W_isiI, W_isiT, W_isiL, W_e3, Ws_nx, Ws_rt, W_ok, true_and, and_true, if_true, if_false, List.append_nil, frOf_l, frOf_t, frOf_s, kn_t, kn_i, kn_b, kn_l, kn_s, kn_d, isa_tt, isa_ii, isa_ib, isa_ll, isa_lt, isa_tl, W_isiL2, W_isiT2, W_allT, W_sumI, W_allM, W_sumM, cut2, W_ltT2, W_neI, W_eqI, bindP, bindPs, List.map_cons, List.map_nil, decide_eq_true_eq, Bool.false_eq_true, Bool.not_true, Bool.not_false, Bool.and_eq_true, W_var, List.getElem?_cons_zero, List.getElem?_cons_succ, List.set_cons_zero, List.set_cons_succ, rho0, List.length_cons, List.length_nil, List.replicate_succ, List.replicate_zero, List.cons_append, List.nil_append, List.append_eq, Nat.reduceAdd, Nat.reduceSub, wipeD, List.map_cons, List.map_nil]
          refine fin false ⟨by simp, fun hg => ?_⟩
          have hg := goodD_iff.mp hg
          have : (came.zipIdx.all fun p => decide (p.1.2 = sumB deal (p.2 : Int))) = true := by
            rw [List.all_eq_true]
            intro p hp
            obtain ⟨hlt, hget⟩ := List.getElem?_eq_some_iff.mp (List.mem_zipIdx_iff_getElem?.mp hp)
            have hs := hg.back p.2 hlt
            rw [getD_get _ hlt, hget] at hs
            exact decide_eq_true hs.symm
          rw [h3] at this; cases this
        | true =>
          simp only [W_fz, W_ixO, ixN_30, ixN_31, ixN_32, W_seq, W_asg, W_expr, W_ret, W_sif, W_par, W_never, W_nil, W_c, W_e2, W_call, W_anil, W_acons, W_tup, W_lst, W_lstM, W_tV, W_and, W_or, W_not, W_bAnd, W_bOr, W_bNot, W_eif, W_isN, W_notN, W_fn, W_fnK, W_pt, W_for, W_iseq, W_ienum, W_izip, W_comp, W_compG, W_compM, W_kI, W_yes, W_addI, W_addL, W_addT, W_mulI, W_ltI, W_ixL, W_ixT, W_ixS, atI_0, atI_1, atI_2, atI_3, atI_4, W_len_L, W_len_T, W_len_S, W_sum, W_all, W_any, W_min2, W_max2, W_abs, W_intI, W_intB, W_tupT, W_tupL, W_listT, W_listL, W_sl, W_oN, W_oS, W_slT, W_slL, W_slS, W_r1, W_app, W_set, W_gm, W_g0, W_g1, W_isiI, W_isiT, W_isiL, W_e3, Ws_nx, Ws_rt, W_ok, true_and, and_true, if_true, if_false, List.append_nil, frOf_l, frOf_t, frOf_s, kn_t, kn_i, kn_b, kn_l, kn_s, kn_d, isa_tt, isa_ii, isa_ib, isa_ll, isa_lt, isa_tl, W_isiL2, W_isiT2, W_allT, W_sumI, W_allM, W_sumM, cut2, W_ltT2, W_neI, W_eqI, bindP, bindPs, List.map_cons, List.map_nil, decide_eq_true_eq, Bool.false_eq_true, Bool.not_true, Bool.not_false, Bool.and_eq_true, W_var, List.getElem?_cons_zero, List.getElem?_cons_succ, List.set_cons_zero, List.set_cons_succ, rho0, List.length_cons, List.length_nil, List.replicate_succ, List.replicate_zero, List.cons_append, List.nil_append, List.append_eq, Nat.reduceAdd, Nat.reduceSub, wipeD, List.map_cons, List.map_nil, List.length_map, fb, fo, enumD_map]
          refine ⟨by simp; unfold line; omega, W_eq (comp_map (fun p : (Int × Int × Int) × Nat => D.tup [.int (p.2 : Int), encO p.1]) (fun _ => true) (fun p => .bl (decide (sumK deal (p.2 : Int) ≤ p.1.2.1))) sent.zipIdx [] (fun p hp => ⟨_, rfl, rfl, fun _ => of_W ?_⟩)) ?_⟩
          · simp only [W_fz, W_ixO, ixN_30, ixN_31, ixN_32, W_seq, W_asg, W_expr, W_ret, W_sif, W_par, W_never, W_nil, W_c, W_e2, W_call, W_anil, W_acons, W_tup, W_lst, W_lstM, W_tV, W_and, W_or, W_not, W_bAnd, W_bOr, W_bNot, W_eif, W_isN, W_notN, W_fn, W_fnK, W_pt, W_for, W_iseq, W_ienum, W_izip, W_comp, W_compG, W_compM, W_kI, W_yes, W_addI, W_addL, W_addT, W_mulI, W_ltI, W_ixL, W_ixT, W_ixS, atI_0, atI_1, atI_2, atI_3, atI_4, W_len_L, W_len_T, W_len_S, W_sum, W_all, W_any, W_min2, W_max2, W_abs, W_intI, W_intB, W_tupT, W_tupL, W_listT, W_listL, W_sl, W_oN, W_oS, W_slT, W_slL, W_slS, W_r1, W_app, W_set, W_gm, W_g0, W_g1, W_isiI, W_isiT, W_isiL, W_e3, Ws_nx, Ws_rt, W_ok, true_and, and_true, if_true, if_false, List.append_nil, frOf_l, frOf_t, frOf_s, kn_t, kn_i, kn_b, kn_l, kn_s, kn_d, isa_tt, isa_ii, isa_ib, isa_ll, isa_lt, isa_tl, W_isiL2, W_isiT2, W_allT, W_sumI, W_allM, W_sumM, cut2, W_ltT2, W_neI, W_eqI, bindP, bindPs, List.map_cons, List.map_nil, decide_eq_true_eq, Bool.false_eq_true, Bool.not_true, Bool.not_false, Bool.and_eq_true, W_var, List.getElem?_cons_zero, List.getElem?_cons_succ, List.set_cons_zero, List.set_cons_succ, rho0, List.length_cons, List.length_nil, List.replicate_succ, List.replicate_zero, List.cons_append, List.nil_append, List.append_eq, Nat.reduceAdd, Nat.reduceSub, wipeD, List.map_cons, List.map_nil, encO, List.length_map]
            refine ⟨by unfold line; omega, W_eq (comp_map encO (fun q => decide (q.2.1 = (p.2 : Int))) (fun q => .int q.2.2) deal [] (fun x hx => ⟨_, rfl, of_W (by simp only [W_fz, W_ixO, ixN_30, ixN_31, ixN_32, W_seq, W_asg, W_expr, W_ret, W_sif, W_par, W_never, W_nil, W_c, W_e2, W_call, W_anil, W_acons, W_tup, W_lst, W_lstM, W_tV, W_and, W_or, W_not, W_bAnd, W_bOr, W_bNot, W_eif, W_isN, W_notN, W_fn, W_fnK, W_pt, W_for, W_iseq, W_ienum, W_izip, W_comp, W_compG, W_compM, W_kI, W_yes, W_addI, W_addL, W_addT, W_mulI, W_ltI, W_ixL, W_ixT, W_ixS, atI_0, atI_1, atI_2, atI_3, atI_4, W_len_L, W_len_T, W_len_S, W_sum, W_all, W_any, W_min2, W_max2, W_abs, W_intI, W_intB, W_tupT, W_tupL, W_listT, W_listL, W_sl, W_oN, W_oS, W_slT, W_slL, W_slS, W_r1, W_app, W_set, W_gm, W_g0, W_g1, W_isiI, W_isiT, W_isiL, W_e3, Ws_nx, Ws_rt, W_ok, true_and, and_true, if_true, if_false, List.append_nil, frOf_l, frOf_t, frOf_s, kn_t, kn_i, kn_b, kn_l, kn_s, kn_d, isa_tt, isa_ii, isa_ib, isa_ll, isa_lt, isa_tl, W_isiL2, W_isiT2, W_allT, W_sumI, W_allM, W_sumM, cut2, W_ltT2, W_neI, W_eqI, bindP, bindPs, List.map_cons, List.map_nil, decide_eq_true_eq, Bool.false_eq_true, Bool.not_true, Bool.not_false, Bool.and_eq_true, W_var, List.getElem?_cons_zero, List.getElem?_cons_succ, List.set_cons_zero, List.set_cons_succ, rho0, List.length_cons, List.length_nil, List.replicate_succ, List.replicate_zero, List.cons_append, List.nil_append, List.append_eq, Nat.reduceAdd, Nat.reduceSub, wipeD, List.map_cons, List.map_nil, encO]), fun _ => rfl⟩)) ?_⟩
            simp only [W_fz, W_ixO, ixN_30, ixN_31, ixN_32, W_seq, W_asg, W_expr, W_ret, W_sif, W_par, W_never, W_nil, W_c, W_e2, W_call, W_anil, W_acons, W_tup, W_lst, W_lstM, W_tV, W_and, W_or, W_not, W_bAnd, W_bOr, W_bNot, W_eif, W_isN, W_notN, W_fn, W_fnK, W_pt, W_for, W_iseq, W_ienum, W_izip, W_comp, W_compG, W_compM, W_kI, W_yes, W_addI, W_addL, W_addT, W_mulI, W_ltI, W_ixL, W_ixT, W_ixS, atI_0, atI_1, atI_2, atI_3, atI_4, W_len_L, W_len_T, W_len_S, W_sum, W_all, W_any, W_min2, W_max2, W_abs, W_intI, W_intB, W_tupT, W_tupL, W_listT, W_listL, W_sl, W_oN, W_oS, W_slT, W_slL, W_slS, W_r1, W_app, W_set, W_gm, W_g0, W_g1, W_isiI, W_isiT, W_isiL, W_e3, Ws_nx, Ws_rt, W_ok, true_and, and_true, if_true, if_false, List.append_nil, frOf_l, frOf_t, frOf_s, kn_t, kn_i, kn_b, kn_l, kn_s, kn_d, isa_tt, isa_ii, isa_ib, isa_ll, isa_lt, isa_tl, W_isiL2, W_isiT2, W_allT, W_sumI, W_allM, W_sumM, cut2, W_ltT2, W_neI, W_eqI, bindP, bindPs, List.map_cons, List.map_nil, decide_eq_true_eq, Bool.false_eq_true, Bool.not_true, Bool.not_false, Bool.and_eq_true, W_var, List.getElem?_cons_zero, List.getElem?_cons_succ, List.set_cons_zero, List.set_cons_succ, rho0, List.length_cons, List.length_nil, List.replicate_succ, List.replicate_zero, List.cons_append, List.nil_append, List.append_eq, Nat.reduceAdd, Nat.reduceSub, wipeD, List.map_cons, List.map_nil]
            rfl
          simp only [W_fz, W_ixO, ixN_30, ixN_31, ixN_32, W_seq, W_asg, W_expr, W_ret, W_sif, W_par, W_never, W_nil, W_c, W_e2, W_call, W_anil, W_acons, W_tup, W_lst, W_lstM, W_tV, W_and, W_or, W_not, W_bAnd, W_bOr, W_bNot, W_eif, W_isN, W_notN, W_fn, W_fnK, W_pt, W_for, W_iseq, W_ienum, W_izip, W_comp, W_compG, W_compM, W_kI, W_yes, W_addI, W_addL, W_addT, W_mulI, W_ltI, W_ixL, W_ixT, W_ixS, atI_0, atI_1, atI_2, atI_3, atI_4, W_len_L, W_len_T, W_len_S, W_sum, W_all, W_any, W_min2, W_max2, W_abs, W_intI, W_intB, W_tupT, W_tupL, W_listT, W_listL, W_sl, W_oN, W_oS, W_slT, W_slL, W_slS, W_r1, W_app, W_set, W_gm, W_g0, W_g1, W_isiI, W_isiT, W_isiL, W_e3, Ws_nx, Ws_rt, W_ok, true_and, and_true, if_true, if_false, List.append_nil, frOf_l, frOf_t, frOf_s, kn_t, kn_i, kn_b, kn_l, kn_s, kn_d, isa_tt, isa_ii, isa_ib, isa_ll, isa_lt, isa_tl, W_isiL2, W_isiT2, W_allT, W_sumI, W_allM, W_sumM, cut2, W_ltT2, W_neI, W_eqI, bindP, bindPs, List.map_cons, List.map_nil, decide_eq_true_eq, Bool.false_eq_true, Bool.not_true, Bool.not_false, Bool.and_eq_true, W_var, List.getElem?_cons_zero, List.getElem?_cons_succ, List.set_cons_zero, List.set_cons_succ, rho0, List.length_cons, List.length_nil, List.replicate_succ, List.replicate_zero, List.cons_append, List.nil_append, List.append_eq, Nat.reduceAdd, Nat.reduceSub, wipeD, List.map_cons, List.map_nil, filter_all, W_allB]
          refine fin _ ?_
          rw [goodD_iff]
          refine ⟨fun h4 => ⟨fun p hp => ?_, fun i hi => ?_, fun b hb => ?_, fun k hk => ?_⟩, fun hg => ?_⟩
          · obtain ⟨b, k, q1, q2, q3, q4, q5, q6, q7⟩ := hkey p hp
            exact ⟨b, k, q1, q2, q3, q4, q5, q7⟩
          · exact List.all_eq_true.mp h2 i (List.mem_range.mpr (by omega))
          · have := List.all_eq_true.mp h3 (came[b], b) (List.mem_zipIdx_iff_getElem?.mpr (by simp [hb]))
            rw [getD_get _ hb]
            exact (of_decide_eq_true this).symm
          · have := List.all_eq_true.mp h4 (sent[k], k) (List.mem_zipIdx_iff_getElem?.mpr (by simp [hk]))
            unfold cap
            rw [getD_get _ hk]
            exact of_decide_eq_true this
          · rw [List.all_eq_true]
            intro p hp
            obtain ⟨hlt, hget⟩ := List.getElem?_eq_some_iff.mp (List.mem_zipIdx_iff_getElem?.mp hp)
            have hs := hg.free p.2 hlt
            unfold cap at hs
            rw [getD_get _ hlt, hget] at hs
            exact decide_eq_true hs
  | _ =>
    simp only [isTup, W_fz, W_ixO, ixN_30, ixN_31, ixN_32, W_seq, W_asg, W_expr, W_ret, W_sif, W_par, W_never, W_nil, W_c, W_e2, W_call, W_anil, W_acons, W_tup, W_lst, W_lstM, W_tV, W_and, W_or, W_not, W_bAnd, W_bOr, W_bNot, W_eif, W_isN, W_notN, W_fn, W_fnK, W_pt, W_for, W_iseq, W_ienum, W_izip, W_comp, W_compG, W_compM, W_kI, W_yes, W_addI, W_addL, W_addT, W_mulI, W_ltI, W_ixL, W_ixT, W_ixS, atI_0, atI_1, atI_2, atI_3, atI_4, W_len_L, W_len_T, W_len_S, W_sum, W_all, W_any, W_min2, W_max2, W_abs, W_intI, W_intB, W_tupT, W_tupL, W_listT, W_listL, W_sl, W_oN, W_oS, W_slT, W_slL, W_slS, W_r1, W_app, W_set, W_gm, W_g0, W_g1, W_isiI, W_isiT, W_isiL, W_e3, Ws_nx, Ws_rt, W_ok, true_and, and_true, if_true, if_false, List.append_nil, frOf_l, frOf_t, frOf_s, kn_t, kn_i, kn_b, kn_l, kn_s, kn_d, isa_tt, isa_ii, isa_ib, isa_ll, isa_lt, isa_tl, W_isiL2, W_isiT2, W_allT, W_sumI, W_allM, W_sumM, cut2, W_ltT2, W_neI, W_eqI, bindP, bindPs, List.map_cons, List.map_nil, decide_eq_true_eq, Bool.false_eq_true, Bool.not_true, Bool.not_false, Bool.and_eq_true, W_var, List.getElem?_cons_zero, List.getElem?_cons_succ, List.set_cons_zero, List.set_cons_succ, rho0, List.length_cons, List.length_nil, List.replicate_succ, List.replicate_zero, List.cons_append, List.nil_append, List.append_eq, Nat.reduceAdd, Nat.reduceSub, wipeD, List.map_cons, List.map_nil]
    first
      | exact fin false ⟨by simp, fun ⟨deal, e, _⟩ => by cases e⟩
      | exact ⟨false, rfl, by simp, fun ⟨deal, e, _⟩ => by cases e⟩
end K16


namespace K16
open PySem L2 Qd

theorem back_eq {S S' : Sto} (h : ∀ j, j < S.m.length → S'.m[j]? = S.m[j]?) : (S'.back S.m.length).m = S.m := by
  rw [back_m]
  apply List.ext_getElem?
  intro j
  by_cases hj : j < S.m.length
  · rw [List.getElem?_take_of_lt hj]; exact h j hj
  · rw [List.getElem?_eq_none (by rw [List.length_take]; omega), List.getElem?_eq_none (by omega)]
theorem t3_enc {d : D} (h : isT3 d = true) : ∃ p : Int × Int × Int, d = encO p := by
  cases d with
  | tup ds =>
    simp only [isT3, Bool.and_eq_true, decide_eq_true_eq] at h
    obtain ⟨x, y, z, rfl⟩ := len3 h.1
    have h2 := h.2
    simp only [List.all_cons, List.all_nil, Bool.and_true, Bool.and_eq_true] at h2
    obtain ⟨h3, h4, h5⟩ := h2
    cases x <;> simp only [isInt, Bool.false_eq_true] at h3
    cases y <;> simp only [isInt, Bool.false_eq_true] at h4
    cases z <;> simp only [isInt, Bool.false_eq_true] at h5
    rename_i a b c
    exact ⟨(a, b, c), rfl⟩
  | _ => simp [isT3] at h
theorem all_T3 : ∀ {ds : List D}, ds.all isT3 = true → ∃ deal : List (Int × Int × Int), ds = deal.map encO
  | [], _ => ⟨[], rfl⟩
  | d :: ds, h => by
    simp only [List.all_cons, Bool.and_eq_true] at h
    obtain ⟨p, rfl⟩ := t3_enc h.1
    obtain ⟨deal, rfl⟩ := all_T3 h.2
    exact ⟨p :: deal, rfl⟩
def waD (came : List (Int × Int)) (parts : List (Int × Int × Int)) : List D := (List.range came.length).map fun b => .int ((came.getD b (0, 0)).2 - sumB parts (b : Int))
theorem waD_set {came : List (Int × Int)} {parts : List (Int × Int × Int)} {b : Nat} (k m : Int) (hb : b < came.length) : (waD came parts).set b (.int ((came.getD b (0, 0)).2 - sumB parts (b : Int) - m)) = waD came (parts ++ [((b : Int), k, m)]) := by
  unfold waD
  apply List.ext_getElem (by simp)
  intro i h1 h2
  simp only [List.getElem_set, List.getElem_map, List.getElem_range]
  rw [sumB_snoc]
  by_cases e : b = i
  · subst e; rw [if_pos rfl, if_pos rfl]; congr 1; omega
  · rw [if_neg e, if_neg (by omega)]; congr 1; omega
def Std2 (S S' : Sto) (sent : List (Int × Int × Int)) (came : List (Int × Int)) (parts : List (Int × Int × Int)) : Prop := (∀ j, j < S.m.length → S'.m[j]? = S.m[j]?) ∧ S'.m[S.next]? = some (some (.lst (frD sent parts))) ∧ S'.m[S.next + 1]? = some (some (.lst (waD came parts)))
def KeyP (sent : List (Int × Int × Int)) (came : List (Int × Int)) (p : Int × Int × Int) : Prop := ∃ b k : Nat, p.1 = b ∧ p.2.1 = k ∧ b < came.length ∧ k < sent.length ∧ 1 ≤ p.2.2 ∧ dayO sent k ≤ dayB came b
theorem judge_W {S : Sto} {sent : List (Int × Int × Int)} {came : List (Int × Int)} {it : D} {Q : D → Sto → Prop} (hls : sent.length ≤ 19) (hlc : came.length ≤ 19) (h : dtD it = true) (hl : ∀ ds, it = .tup ds → ds.length ≤ 5000)
    (q : ∀ (r : Bool) S', (r = true ↔ GoodD sent came it) → S'.m = S.m → Q (.bl r) S') : W (m_law_is_dealing [.lst (sent.map encO), .lst (came.map encB), it] S) Q := by
  unfold m_law_is_dealing
  rw [W_run]
  unfold b_law_is_dealing
  simp only [W_fz, W_ixO, ixN_30, ixN_31, ixN_32, W_seq, W_asg, W_expr, W_ret, W_sif, W_par, W_never, W_nil, W_c, W_e2, W_call, W_anil, W_acons, W_tup, W_lst, W_lstM, W_tV, W_and, W_or, W_not, W_bAnd, W_bOr, W_bNot, W_eif, W_isN, W_notN, W_fn, W_fnK, W_pt, W_for, W_iseq, W_ienum, W_izip, W_comp, W_compG, W_compM, W_kI, W_yes, W_addI, W_addL, W_addT, W_mulI, W_ltI, W_ixL, W_ixT, W_ixS, atI_0, atI_1, atI_2, atI_3, atI_4, W_len_L, W_len_T, W_len_S, W_sum, W_all, W_any, W_min2, W_max2, W_abs, W_intI, W_intB, W_tupT, W_tupL, W_listT, W_listL, W_sl, W_oN, W_oS, W_slT, W_slL, W_slS, W_r1, W_app, W_set, W_gm, W_g0, W_g1, W_isiI, W_isiT, W_isiL, W_e3, Ws_nx, Ws_rt, W_ok, true_and, and_true, if_true, if_false, List.append_nil, frOf_l, frOf_t, frOf_s, kn_t, kn_i, kn_b, kn_l, kn_s, kn_d, isa_tt, isa_ii, isa_ib, isa_ll, isa_lt, isa_tl, W_isiL2, W_isiT2, W_allT, W_sumI, W_allM, W_sumM, cut2, W_ltT2, W_neI, W_eqI, bindP, bindPs, List.map_cons, List.map_nil, decide_eq_true_eq, Bool.false_eq_true, Bool.not_true, Bool.not_false, Bool.and_eq_true, W_var, List.getElem?_cons_zero, List.getElem?_cons_succ, List.set_cons_zero, List.set_cons_succ, rho0, List.length_cons, List.length_nil, List.replicate_succ, List.replicate_zero, List.cons_append, List.nil_append, List.append_eq, Nat.reduceAdd, Nat.reduceSub, wipeD, List.map_cons, List.map_nil, W_isiD h, isa_tup h]
  cases it with
  | tup ds =>
    have hds := dtDs_iff.mp (by simpa [dtD] using h)
    have hlen := hl ds rfl
    simp only [isTup, W_fz, W_ixO, ixN_30, ixN_31, ixN_32, W_seq, W_asg, W_expr, W_ret, W_sif, W_par, W_never, W_nil, W_c, W_e2, W_call, W_anil, W_acons, W_tup, W_lst, W_lstM, W_tV, W_and, W_or, W_not, W_bAnd, W_bOr, W_bNot, W_eif, W_isN, W_notN, W_fn, W_fnK, W_pt, W_for, W_iseq, W_ienum, W_izip, W_comp, W_compG, W_compM, W_kI, W_yes, W_addI, W_addL, W_addT, W_mulI, W_ltI, W_ixL, W_ixT, W_ixS, atI_0, atI_1, atI_2, atI_3, atI_4, W_len_L, W_len_T, W_len_S, W_sum, W_all, W_any, W_min2, W_max2, W_abs, W_intI, W_intB, W_tupT, W_tupL, W_listT, W_listL, W_sl, W_oN, W_oS, W_slT, W_slL, W_slS, W_r1, W_app, W_set, W_gm, W_g0, W_g1, W_isiI, W_isiT, W_isiL, W_e3, Ws_nx, Ws_rt, W_ok, true_and, and_true, if_true, if_false, List.append_nil, frOf_l, frOf_t, frOf_s, kn_t, kn_i, kn_b, kn_l, kn_s, kn_d, isa_tt, isa_ii, isa_ib, isa_ll, isa_lt, isa_tl, W_isiL2, W_isiT2, W_allT, W_sumI, W_allM, W_sumM, cut2, W_ltT2, W_neI, W_eqI, bindP, bindPs, List.map_cons, List.map_nil, decide_eq_true_eq, Bool.false_eq_true, Bool.not_true, Bool.not_false, Bool.and_eq_true, W_var, List.getElem?_cons_zero, List.getElem?_cons_succ, List.set_cons_zero, List.set_cons_succ, rho0, List.length_cons, List.length_nil, List.replicate_succ, List.replicate_zero, List.cons_append, List.nil_append, List.append_eq, Nat.reduceAdd, Nat.reduceSub, wipeD, List.map_cons, List.map_nil]
    refine ⟨by unfold line; omega, W_eq (comp_mapD (fun _ => true) (fun d => .bl (isT3 d)) ds [] (fun x hx => ⟨_, rfl, rfl, fun _ => of_W (by simp only [W_fz, W_ixO, ixN_30, ixN_31, ixN_32, W_seq, W_asg, W_expr, W_ret, W_sif, W_par, W_never, W_nil, W_c, W_e2, W_call, W_anil, W_acons, W_tup, W_lst, W_lstM, W_tV, W_and, W_or, W_not, W_bAnd, W_bOr, W_bNot, W_eif, W_isN, W_notN, W_fn, W_fnK, W_pt, W_for, W_iseq, W_ienum, W_izip, W_comp, W_compG, W_compM, W_kI, W_yes, W_addI, W_addL, W_addT, W_mulI, W_ltI, W_ixL, W_ixT, W_ixS, atI_0, atI_1, atI_2, atI_3, atI_4, W_len_L, W_len_T, W_len_S, W_sum, W_all, W_any, W_min2, W_max2, W_abs, W_intI, W_intB, W_tupT, W_tupL, W_listT, W_listL, W_sl, W_oN, W_oS, W_slT, W_slL, W_slS, W_r1, W_app, W_set, W_gm, W_g0, W_g1, W_isiI, W_isiT, W_isiL, W_e3, Ws_nx, Ws_rt, W_ok, true_and, and_true, if_true, if_false, List.append_nil, frOf_l, frOf_t, frOf_s, kn_t, kn_i, kn_b, kn_l, kn_s, kn_d, isa_tt, isa_ii, isa_ib, isa_ll, isa_lt, isa_tl, W_isiL2, W_isiT2, W_allT, W_sumI, W_allM, W_sumM, cut2, W_ltT2, W_neI, W_eqI, bindP, bindPs, List.map_cons, List.map_nil, decide_eq_true_eq, Bool.false_eq_true, Bool.not_true, Bool.not_false, Bool.and_eq_true, W_var, List.getElem?_cons_zero, List.getElem?_cons_succ, List.set_cons_zero, List.set_cons_succ, rho0, List.length_cons, List.length_nil, List.replicate_succ, List.replicate_zero, List.cons_append, List.nil_append, List.append_eq, Nat.reduceAdd, Nat.reduceSub, wipeD, List.map_cons, List.map_nil, numbers_D (hds x hx)])⟩)) ?_⟩
    simp only [W_fz, W_ixO, ixN_30, ixN_31, ixN_32, W_seq, W_asg, W_expr, W_ret, W_sif, W_par, W_never, W_nil, W_c, W_e2, W_call, W_anil, W_acons, W_tup, W_lst, W_lstM, W_tV, W_and, W_or, W_not, W_bAnd, W_bOr, W_bNot, W_eif, W_isN, W_notN, W_fn, W_fnK, W_pt, W_for, W_iseq, W_ienum, W_izip, W_comp, W_compG, W_compM, W_kI, W_yes, W_addI, W_addL, W_addT, W_mulI, W_ltI, W_ixL, W_ixT, W_ixS, atI_0, atI_1, atI_2, atI_3, atI_4, W_len_L, W_len_T, W_len_S, W_sum, W_all, W_any, W_min2, W_max2, W_abs, W_intI, W_intB, W_tupT, W_tupL, W_listT, W_listL, W_sl, W_oN, W_oS, W_slT, W_slL, W_slS, W_r1, W_app, W_set, W_gm, W_g0, W_g1, W_isiI, W_isiT, W_isiL, W_e3, Ws_nx, Ws_rt, W_ok, true_and, and_true, if_true, if_false, List.append_nil, frOf_l, frOf_t, frOf_s, kn_t, kn_i, kn_b, kn_l, kn_s, kn_d, isa_tt, isa_ii, isa_ib, isa_ll, isa_lt, isa_tl, W_isiL2, W_isiT2, W_allT, W_sumI, W_allM, W_sumM, cut2, W_ltT2, W_neI, W_eqI, bindP, bindPs, List.map_cons, List.map_nil, decide_eq_true_eq, Bool.false_eq_true, Bool.not_true, Bool.not_false, Bool.and_eq_true, W_var, List.getElem?_cons_zero, List.getElem?_cons_succ, List.set_cons_zero, List.set_cons_succ, rho0, List.length_cons, List.length_nil, List.replicate_succ, List.replicate_zero, List.cons_append, List.nil_append, List.append_eq, Nat.reduceAdd, Nat.reduceSub, wipeD, List.map_cons, List.map_nil, filter_all, W_allB]
    cases ha : ds.all isT3 with
    | false =>
      simp only [W_fz, W_ixO, ixN_30, ixN_31, ixN_32, W_seq, W_asg, W_expr, W_ret, W_sif, W_par, W_never, W_nil, W_c, W_e2, W_call, W_anil, W_acons, W_tup, W_lst, W_lstM, W_tV, W_and, W_or, W_not, W_bAnd, W_bOr, W_bNot, W_eif, W_isN, W_notN, W_fn, W_fnK, W_pt, W_for, W_iseq, W_ienum, W_izip, W_comp, W_compG, W_compM, W_kI, W_yes, W_addI, W_addL, W_addT, W_mulI, W_ltI, W_ixL, W_ixT, W_ixS, atI_0, atI_1, atI_2, atI_3, atI_4, W_len_L, W_len_T, W_len_S, W_sum, W_all, W_any, W_min2, W_max2, W_abs, W_intI, W_intB, W_tupT, W_tupL, W_listT, W_listL, W_sl, W_oN, W_oS, W_slT, W_slL, W_slS, W_r1, W_app, W_set, W_gm, W_g0, W_g1, W_isiI, W_isiT, W_isiL, W_e3, Ws_nx, Ws_rt, W_ok, true_and, and_true, if_true, if_false, List.append_nil, frOf_l, frOf_t, frOf_s, kn_t, kn_i, kn_b, kn_l, kn_s, kn_d, isa_tt, isa_ii, isa_ib, isa_ll, isa_lt, isa_tl, W_isiL2, W_isiT2, W_allT, W_sumI, W_allM, W_sumM, cut2, W_ltT2, W_neI, W_eqI, bindP, bindPs, List.map_cons, List.map_nil, decide_eq_true_eq, Bool.false_eq_true, Bool.not_true, Bool.not_false, Bool.and_eq_true, W_var, List.getElem?_cons_zero, List.getElem?_cons_succ, List.set_cons_zero, List.set_cons_succ, rho0, List.length_cons, List.length_nil, List.replicate_succ, List.replicate_zero, List.cons_append, List.nil_append, List.append_eq, Nat.reduceAdd, Nat.reduceSub, wipeD, List.map_cons, List.map_nil]
      refine q false _ ⟨by simp, fun ⟨deal, e, hg⟩ => ?_⟩ (back_eq fun _ _ => rfl)
      have e' : ds = deal.map encO := by simpa using e
      have : ds.all isT3 = true := by
        rw [e', List.all_eq_true]
        intro x hx
        rw [List.mem_map] at hx
        obtain ⟨p, hp, rfl⟩ := hx
        rfl
      rw [ha] at this; cases this
    | true =>
      obtain ⟨deal, rfl⟩ := all_T3 ha
      simp only [List.length_map] at hlen
      simp only [W_fz, W_ixO, ixN_30, ixN_31, ixN_32, W_seq, W_asg, W_expr, W_ret, W_sif, W_par, W_never, W_nil, W_c, W_e2, W_call, W_anil, W_acons, W_tup, W_lst, W_lstM, W_tV, W_and, W_or, W_not, W_bAnd, W_bOr, W_bNot, W_eif, W_isN, W_notN, W_fn, W_fnK, W_pt, W_for, W_iseq, W_ienum, W_izip, W_comp, W_compG, W_compM, W_kI, W_yes, W_addI, W_addL, W_addT, W_mulI, W_ltI, W_ixL, W_ixT, W_ixS, atI_0, atI_1, atI_2, atI_3, atI_4, W_len_L, W_len_T, W_len_S, W_sum, W_all, W_any, W_min2, W_max2, W_abs, W_intI, W_intB, W_tupT, W_tupL, W_listT, W_listL, W_sl, W_oN, W_oS, W_slT, W_slL, W_slS, W_r1, W_app, W_set, W_gm, W_g0, W_g1, W_isiI, W_isiT, W_isiL, W_e3, Ws_nx, Ws_rt, W_ok, true_and, and_true, if_true, if_false, List.append_nil, frOf_l, frOf_t, frOf_s, kn_t, kn_i, kn_b, kn_l, kn_s, kn_d, isa_tt, isa_ii, isa_ib, isa_ll, isa_lt, isa_tl, W_isiL2, W_isiT2, W_allT, W_sumI, W_allM, W_sumM, cut2, W_ltT2, W_neI, W_eqI, bindP, bindPs, List.map_cons, List.map_nil, decide_eq_true_eq, Bool.false_eq_true, Bool.not_true, Bool.not_false, Bool.and_eq_true, W_var, List.getElem?_cons_zero, List.getElem?_cons_succ, List.set_cons_zero, List.set_cons_succ, rho0, List.length_cons, List.length_nil, List.replicate_succ, List.replicate_zero, List.cons_append, List.nil_append, List.append_eq, Nat.reduceAdd, Nat.reduceSub, wipeD, List.map_cons, List.map_nil, List.length_map]
      refine ⟨by unfold line; omega, W_eq (comp_map encO (fun _ => true) (fun r => .int r.2.1) sent [] (fun x hx => ⟨_, rfl, rfl, fun _ => rfl⟩)) ?_⟩
      simp only [W_fz, W_ixO, ixN_30, ixN_31, ixN_32, W_seq, W_asg, W_expr, W_ret, W_sif, W_par, W_never, W_nil, W_c, W_e2, W_call, W_anil, W_acons, W_tup, W_lst, W_lstM, W_tV, W_and, W_or, W_not, W_bAnd, W_bOr, W_bNot, W_eif, W_isN, W_notN, W_fn, W_fnK, W_pt, W_for, W_iseq, W_ienum, W_izip, W_comp, W_compG, W_compM, W_kI, W_yes, W_addI, W_addL, W_addT, W_mulI, W_ltI, W_ixL, W_ixT, W_ixS, atI_0, atI_1, atI_2, atI_3, atI_4, W_len_L, W_len_T, W_len_S, W_sum, W_all, W_any, W_min2, W_max2, W_abs, W_intI, W_intB, W_tupT, W_tupL, W_listT, W_listL, W_sl, W_oN, W_oS, W_slT, W_slL, W_slS, W_r1, W_app, W_set, W_gm, W_g0, W_g1, W_isiI, W_isiT, W_isiL, W_e3, Ws_nx, Ws_rt, W_ok, true_and, and_true, if_true, if_false, List.append_nil, frOf_l, frOf_t, frOf_s, kn_t, kn_i, kn_b, kn_l, kn_s, kn_d, isa_tt, isa_ii, isa_ib, isa_ll, isa_lt, isa_tl, W_isiL2, W_isiT2, W_allT, W_sumI, W_allM, W_sumM, cut2, W_ltT2, W_neI, W_eqI, bindP, bindPs, List.map_cons, List.map_nil, decide_eq_true_eq, Bool.false_eq_true, Bool.not_true, Bool.not_false, Bool.and_eq_true, W_var, List.getElem?_cons_zero, List.getElem?_cons_succ, List.set_cons_zero, List.set_cons_succ, rho0, List.length_cons, List.length_nil, List.replicate_succ, List.replicate_zero, List.cons_append, List.nil_append, List.append_eq, Nat.reduceAdd, Nat.reduceSub, wipeD, List.map_cons, List.map_nil, List.length_map]
      refine ⟨by unfold line; omega, W_eq (comp_map encB (fun _ => true) (fun r => .int r.2) came [] (fun x hx => ⟨_, rfl, rfl, fun _ => rfl⟩)) ?_⟩
      simp only [W_fz, W_ixO, ixN_30, ixN_31, ixN_32, W_seq, W_asg, W_expr, W_ret, W_sif, W_par, W_never, W_nil, W_c, W_e2, W_call, W_anil, W_acons, W_tup, W_lst, W_lstM, W_tV, W_and, W_or, W_not, W_bAnd, W_bOr, W_bNot, W_eif, W_isN, W_notN, W_fn, W_fnK, W_pt, W_for, W_iseq, W_ienum, W_izip, W_comp, W_compG, W_compM, W_kI, W_yes, W_addI, W_addL, W_addT, W_mulI, W_ltI, W_ixL, W_ixT, W_ixS, atI_0, atI_1, atI_2, atI_3, atI_4, W_len_L, W_len_T, W_len_S, W_sum, W_all, W_any, W_min2, W_max2, W_abs, W_intI, W_intB, W_tupT, W_tupL, W_listT, W_listL, W_sl, W_oN, W_oS, W_slT, W_slL, W_slS, W_r1, W_app, W_set, W_gm, W_g0, W_g1, W_isiI, W_isiT, W_isiL, W_e3, Ws_nx, Ws_rt, W_ok, true_and, and_true, if_true, if_false, List.append_nil, frOf_l, frOf_t, frOf_s, kn_t, kn_i, kn_b, kn_l, kn_s, kn_d, isa_tt, isa_ii, isa_ib, isa_ll, isa_lt, isa_tl, W_isiL2, W_isiT2, W_allT, W_sumI, W_allM, W_sumM, cut2, W_ltT2, W_neI, W_eqI, bindP, bindPs, List.map_cons, List.map_nil, decide_eq_true_eq, Bool.false_eq_true, Bool.not_true, Bool.not_false, Bool.and_eq_true, W_var, List.getElem?_cons_zero, List.getElem?_cons_succ, List.set_cons_zero, List.set_cons_succ, rho0, List.length_cons, List.length_nil, List.replicate_succ, List.replicate_zero, List.cons_append, List.nil_append, List.append_eq, Nat.reduceAdd, Nat.reduceSub, wipeD, List.map_cons, List.map_nil, filter_all]
      have hn1 : ∀ d, (S.push d).next = S.next + 1 := fun d => by unfold Sto.next Sto.push; simp; omega
      have hj : S.m.length ≤ S.next := by unfold Sto.next; omega
      rw [hn1]
      have no : ∀ S' : Sto, (∀ j, j < S.m.length → S'.m[j]? = S.m[j]?) → ¬ Good sent came deal → Q (.bl false) (S'.back S.m.length) := fun S' hs hn => q false _ ⟨by simp, fun hg => (hn (goodD_iff.mp hg)).elim⟩ (back_eq hs)
      have ef : (sent.map fun r => D.int r.2.1) = frD sent [] := by
        unfold frD
        conv => lhs; rw [← range_get sent (0, 0, 0)]
        rw [List.map_map]
        apply List.map_congr_left
        intro k _
        simp [cap, sumK]
      have ew : (came.map fun r => D.int r.2) = waD came [] := by
        unfold waD
        conv => lhs; rw [← range_get came (0, 0)]
        rw [List.map_map]
        apply List.map_congr_left
        intro k _
        simp [sumB]
      rw [ef, ew]
      refine W_loop (fun ds ρ S' => ∃ (pre post : List (Int × Int × Int)) (x5 x6 x7 : Option D), deal = pre ++ post ∧ ds = enumD pre.length (post.map encO) ∧
        ρ = [some (.lst (sent.map encO)), some (.lst (came.map encB)), some (.tup (deal.map encO)), some (.obj S.next), some (.obj (S.next + 1)), x5, x6, x7] ∧ Std2 S S' sent came pre ∧ (∀ p ∈ pre, KeyP sent came p) ∧
        ∀ i, i + 1 < pre.length → HT.lexLt [(deal.getD i (0, 0, 0)).1, (deal.getD i (0, 0, 0)).2.1] [(deal.getD (i + 1) (0, 0, 0)).1, (deal.getD (i + 1) (0, 0, 0)).2.1] = true)
        ⟨[], deal, _, _, _, rfl, rfl, rfl, ⟨?_, ?_, ?_⟩, fun p h => by simp at h, fun i h => by simp at h⟩ ?_ ?_
      · intro j l
        rw [push_old (by rw [push_m]; simp; omega), push_old l]
      · rw [push_old (by rw [push_m]; simp [Sto.next]), push_at]
      · have := push_at (S := S.push (.lst (frD sent []))) (d := .lst (waD came []))
        rw [hn1] at this
        exact this
      · rintro d ds ρ S3 ⟨pre, post, x5, x6, x7, ec, ed, rfl, st, hkp, hsr⟩
        cases post with
        | nil => simp [enumD] at ed
        | cons p post =>
          simp only [List.map_cons, enumD, List.cons.injEq] at ed
          obtain ⟨rfl, rfl⟩ := ed
          refine ⟨_, rfl, ?_⟩
          obtain ⟨st1, st3, st4⟩ := st
          have hpd : p ∈ deal := by rw [ec]; simp
          have hpg : deal.getD pre.length (0, 0, 0) = p := by rw [ec]; simp
          have hpl : pre.length < deal.length := by rw [ec]; simp
          simp only [W_fz, W_ixO, ixN_30, ixN_31, ixN_32, W_seq, W_asg, W_expr, W_ret, W_sif, W_par, W_never, W_nil, W_c, W_e2, W_call, W_anil, W_acons, W_tup, W_lst, W_lstM, W_tV, W_and, W_or, W_not, W_bAnd, W_bOr, W_bNot, W_eif, W_isN, W_notN, W_fn, W_fnK, W_pt, W_for, W_iseq, W_ienum, W_izip, W_comp, W_compG, W_compM, W_kI, W_yes, W_addI, W_addL, W_addT, W_mulI, W_ltI, W_ixL, W_ixT, W_ixS, atI_0, atI_1, atI_2, atI_3, atI_4, W_len_L, W_len_T, W_len_S, W_sum, W_all, W_any, W_min2, W_max2, W_abs, W_intI, W_intB, W_tupT, W_tupL, W_listT, W_listL, W_sl, W_oN, W_oS, W_slT, W_slL, W_slS, W_r1, W_app, W_set, W_gm, W_g0, W_g1, W_isiI, W_isiT, W_isiL, W_e3, Ws_nx, Ws_rt, W_ok, true_and, and_true, if_true, if_false, List.append_nil, frOf_l, frOf_t, frOf_s, kn_t, kn_i, kn_b, kn_l, kn_s, kn_d, isa_tt, isa_ii, isa_ib, isa_ll, isa_lt, isa_tl, W_isiL2, W_isiT2, W_allT, W_sumI, W_allM, W_sumM, cut2, W_ltT2, W_neI, W_eqI, bindP, bindPs, List.map_cons, List.map_nil, decide_eq_true_eq, Bool.false_eq_true, Bool.not_true, Bool.not_false, Bool.and_eq_true, W_var, List.getElem?_cons_zero, List.getElem?_cons_succ, List.set_cons_zero, List.set_cons_succ, rho0, List.length_cons, List.length_nil, List.replicate_succ, List.replicate_zero, List.cons_append, List.nil_append, List.append_eq, Nat.reduceAdd, Nat.reduceSub, wipeD, List.map_cons, List.map_nil, encO, List.length_map]
          by_cases c1 : 0 ≤ p.1
          rotate_left
          · simp only [decide_eq_false c1, W_fz, W_ixO, ixN_30, ixN_31, ixN_32, W_seq, W_asg, W_expr, W_ret, W_sif, W_par, W_never, W_nil, W_c, W_e2, W_call, W_anil, W_acons, W_tup, W_lst, W_lstM, W_tV, W_and, W_or, W_not, W_bAnd, W_bOr, W_bNot, W_eif, W_isN, W_notN, W_fn, W_fnK, W_pt, W_for, W_iseq, W_ienum, W_izip, W_comp, W_compG, W_compM, W_kI, W_yes, W_addI, W_addL, W_addT, W_mulI, W_ltI, W_ixL, W_ixT, W_ixS, atI_0, atI_1, atI_2, atI_3, atI_4, W_len_L, W_len_T, W_len_S, W_sum, W_all, W_any, W_min2, W_max2, W_abs, W_intI, W_intB, W_tupT, W_tupL, W_listT, W_listL, W_sl, W_oN, W_oS, W_slT, W_slL, W_slS, W_r1, W_app, W_set, W_gm, W_g0, W_g1, W_isiI, W_isiT, W_isiL, W_e3, Ws_nx, Ws_rt, W_ok, true_and, and_true, if_true, if_false, List.append_nil, frOf_l, frOf_t, frOf_s, kn_t, kn_i, kn_b, kn_l, kn_s, kn_d, isa_tt, isa_ii, isa_ib, isa_ll, isa_lt, isa_tl, W_isiL2, W_isiT2, W_allT, W_sumI, W_allM, W_sumM, cut2, W_ltT2, W_neI, W_eqI, bindP, bindPs, List.map_cons, List.map_nil, decide_eq_true_eq, Bool.false_eq_true, Bool.not_true, Bool.not_false, Bool.and_eq_true, W_var, List.getElem?_cons_zero, List.getElem?_cons_succ, List.set_cons_zero, List.set_cons_succ, rho0, List.length_cons, List.length_nil, List.replicate_succ, List.replicate_zero, List.cons_append, List.nil_append, List.append_eq, Nat.reduceAdd, Nat.reduceSub, wipeD, List.map_cons, List.map_nil]
            exact no _ st1 fun hg => by obtain ⟨b, k, e1, _⟩ := hg.key p hpd; omega
          by_cases c2 : p.1 < (came.length : Int)
          rotate_left
          · simp only [decide_eq_true c1, decide_eq_false c2, W_fz, W_ixO, ixN_30, ixN_31, ixN_32, W_seq, W_asg, W_expr, W_ret, W_sif, W_par, W_never, W_nil, W_c, W_e2, W_call, W_anil, W_acons, W_tup, W_lst, W_lstM, W_tV, W_and, W_or, W_not, W_bAnd, W_bOr, W_bNot, W_eif, W_isN, W_notN, W_fn, W_fnK, W_pt, W_for, W_iseq, W_ienum, W_izip, W_comp, W_compG, W_compM, W_kI, W_yes, W_addI, W_addL, W_addT, W_mulI, W_ltI, W_ixL, W_ixT, W_ixS, atI_0, atI_1, atI_2, atI_3, atI_4, W_len_L, W_len_T, W_len_S, W_sum, W_all, W_any, W_min2, W_max2, W_abs, W_intI, W_intB, W_tupT, W_tupL, W_listT, W_listL, W_sl, W_oN, W_oS, W_slT, W_slL, W_slS, W_r1, W_app, W_set, W_gm, W_g0, W_g1, W_isiI, W_isiT, W_isiL, W_e3, Ws_nx, Ws_rt, W_ok, true_and, and_true, if_true, if_false, List.append_nil, frOf_l, frOf_t, frOf_s, kn_t, kn_i, kn_b, kn_l, kn_s, kn_d, isa_tt, isa_ii, isa_ib, isa_ll, isa_lt, isa_tl, W_isiL2, W_isiT2, W_allT, W_sumI, W_allM, W_sumM, cut2, W_ltT2, W_neI, W_eqI, bindP, bindPs, List.map_cons, List.map_nil, decide_eq_true_eq, Bool.false_eq_true, Bool.not_true, Bool.not_false, Bool.and_eq_true, W_var, List.getElem?_cons_zero, List.getElem?_cons_succ, List.set_cons_zero, List.set_cons_succ, rho0, List.length_cons, List.length_nil, List.replicate_succ, List.replicate_zero, List.cons_append, List.nil_append, List.append_eq, Nat.reduceAdd, Nat.reduceSub, wipeD, List.map_cons, List.map_nil]
            exact no _ st1 fun hg => by obtain ⟨b, k, e1, e2, h1, h2, _⟩ := hg.key p hpd; omega
          by_cases c3 : 0 ≤ p.2.1
          rotate_left
          · simp only [decide_eq_true c1, decide_eq_true c2, decide_eq_false c3, W_fz, W_ixO, ixN_30, ixN_31, ixN_32, W_seq, W_asg, W_expr, W_ret, W_sif, W_par, W_never, W_nil, W_c, W_e2, W_call, W_anil, W_acons, W_tup, W_lst, W_lstM, W_tV, W_and, W_or, W_not, W_bAnd, W_bOr, W_bNot, W_eif, W_isN, W_notN, W_fn, W_fnK, W_pt, W_for, W_iseq, W_ienum, W_izip, W_comp, W_compG, W_compM, W_kI, W_yes, W_addI, W_addL, W_addT, W_mulI, W_ltI, W_ixL, W_ixT, W_ixS, atI_0, atI_1, atI_2, atI_3, atI_4, W_len_L, W_len_T, W_len_S, W_sum, W_all, W_any, W_min2, W_max2, W_abs, W_intI, W_intB, W_tupT, W_tupL, W_listT, W_listL, W_sl, W_oN, W_oS, W_slT, W_slL, W_slS, W_r1, W_app, W_set, W_gm, W_g0, W_g1, W_isiI, W_isiT, W_isiL, W_e3, Ws_nx, Ws_rt, W_ok, true_and, and_true, if_true, if_false, List.append_nil, frOf_l, frOf_t, frOf_s, kn_t, kn_i, kn_b, kn_l, kn_s, kn_d, isa_tt, isa_ii, isa_ib, isa_ll, isa_lt, isa_tl, W_isiL2, W_isiT2, W_allT, W_sumI, W_allM, W_sumM, cut2, W_ltT2, W_neI, W_eqI, bindP, bindPs, List.map_cons, List.map_nil, decide_eq_true_eq, Bool.false_eq_true, Bool.not_true, Bool.not_false, Bool.and_eq_true, W_var, List.getElem?_cons_zero, List.getElem?_cons_succ, List.set_cons_zero, List.set_cons_succ, rho0, List.length_cons, List.length_nil, List.replicate_succ, List.replicate_zero, List.cons_append, List.nil_append, List.append_eq, Nat.reduceAdd, Nat.reduceSub, wipeD, List.map_cons, List.map_nil]
            exact no _ st1 fun hg => by obtain ⟨b, k, e1, e2, h1, h2, _⟩ := hg.key p hpd; omega
          by_cases c4 : p.2.1 < (sent.length : Int)
          rotate_left
          · simp only [decide_eq_true c1, decide_eq_true c2, decide_eq_true c3, decide_eq_false c4, W_fz, W_ixO, ixN_30, ixN_31, ixN_32, W_seq, W_asg, W_expr, W_ret, W_sif, W_par, W_never, W_nil, W_c, W_e2, W_call, W_anil, W_acons, W_tup, W_lst, W_lstM, W_tV, W_and, W_or, W_not, W_bAnd, W_bOr, W_bNot, W_eif, W_isN, W_notN, W_fn, W_fnK, W_pt, W_for, W_iseq, W_ienum, W_izip, W_comp, W_compG, W_compM, W_kI, W_yes, W_addI, W_addL, W_addT, W_mulI, W_ltI, W_ixL, W_ixT, W_ixS, atI_0, atI_1, atI_2, atI_3, atI_4, W_len_L, W_len_T, W_len_S, W_sum, W_all, W_any, W_min2, W_max2, W_abs, W_intI, W_intB, W_tupT, W_tupL, W_listT, W_listL, W_sl, W_oN, W_oS, W_slT, W_slL, W_slS, W_r1, W_app, W_set, W_gm, W_g0, W_g1, W_isiI, W_isiT, W_isiL, W_e3, Ws_nx, Ws_rt, W_ok, true_and, and_true, if_true, if_false, List.append_nil, frOf_l, frOf_t, frOf_s, kn_t, kn_i, kn_b, kn_l, kn_s, kn_d, isa_tt, isa_ii, isa_ib, isa_ll, isa_lt, isa_tl, W_isiL2, W_isiT2, W_allT, W_sumI, W_allM, W_sumM, cut2, W_ltT2, W_neI, W_eqI, bindP, bindPs, List.map_cons, List.map_nil, decide_eq_true_eq, Bool.false_eq_true, Bool.not_true, Bool.not_false, Bool.and_eq_true, W_var, List.getElem?_cons_zero, List.getElem?_cons_succ, List.set_cons_zero, List.set_cons_succ, rho0, List.length_cons, List.length_nil, List.replicate_succ, List.replicate_zero, List.cons_append, List.nil_append, List.append_eq, Nat.reduceAdd, Nat.reduceSub, wipeD, List.map_cons, List.map_nil]
            exact no _ st1 fun hg => by obtain ⟨b, k, e1, e2, h1, h2, _⟩ := hg.key p hpd; omega
          by_cases c5 : p.2.2 < 1
          · simp only [decide_eq_true c1, decide_eq_true c2, decide_eq_true c3, decide_eq_true c4, c5, W_fz, W_ixO, ixN_30, ixN_31, ixN_32, W_seq, W_asg, W_expr, W_ret, W_sif, W_par, W_never, W_nil, W_c, W_e2, W_call, W_anil, W_acons, W_tup, W_lst, W_lstM, W_tV, W_and, W_or, W_not, W_bAnd, W_bOr, W_bNot, W_eif, W_isN, W_notN, W_fn, W_fnK, W_pt, W_for, W_iseq, W_ienum, W_izip, W_comp, W_compG, W_compM, W_kI, W_yes, W_addI, W_addL, W_addT, W_mulI, W_ltI, W_ixL, W_ixT, W_ixS, atI_0, atI_1, atI_2, atI_3, atI_4, W_len_L, W_len_T, W_len_S, W_sum, W_all, W_any, W_min2, W_max2, W_abs, W_intI, W_intB, W_tupT, W_tupL, W_listT, W_listL, W_sl, W_oN, W_oS, W_slT, W_slL, W_slS, W_r1, W_app, W_set, W_gm, W_g0, W_g1, W_isiI, W_isiT, W_isiL, W_e3, Ws_nx, Ws_rt, W_ok, true_and, and_true, if_true, if_false, List.append_nil, frOf_l, frOf_t, frOf_s, kn_t, kn_i, kn_b, kn_l, kn_s, kn_d, isa_tt, isa_ii, isa_ib, isa_ll, isa_lt, isa_tl, W_isiL2, W_isiT2, W_allT, W_sumI, W_allM, W_sumM, cut2, W_ltT2, W_neI, W_eqI, bindP, bindPs, List.map_cons, List.map_nil, decide_eq_true_eq, Bool.false_eq_true, Bool.not_true, Bool.not_false, Bool.and_eq_true, W_var, List.getElem?_cons_zero, List.getElem?_cons_succ, List.set_cons_zero, List.set_cons_succ, rho0, List.length_cons, List.length_nil, List.replicate_succ, List.replicate_zero, List.cons_append, List.nil_append, List.append_eq, Nat.reduceAdd, Nat.reduceSub, wipeD, List.map_cons, List.map_nil]
            exact no _ st1 fun hg => by obtain ⟨b, k, e1, e2, h1, h2, h3, _⟩ := hg.key p hpd; omega
          obtain ⟨b, eb⟩ := Int.eq_ofNat_of_zero_le c1
          obtain ⟨k, ek⟩ := Int.eq_ofNat_of_zero_le c3
          have hb : b < came.length := by omega
          have hk : k < sent.length := by omega
          have a1 := atI_get (f := encO) (0, 0, 0) hk
          have a2 := atI_get (f := encB) (0, 0) hb
          simp only [decide_eq_true c1, decide_eq_true c2, decide_eq_true c3, decide_eq_true c4, c5, W_fz, W_ixO, ixN_30, ixN_31, ixN_32, W_seq, W_asg, W_expr, W_ret, W_sif, W_par, W_never, W_nil, W_c, W_e2, W_call, W_anil, W_acons, W_tup, W_lst, W_lstM, W_tV, W_and, W_or, W_not, W_bAnd, W_bOr, W_bNot, W_eif, W_isN, W_notN, W_fn, W_fnK, W_pt, W_for, W_iseq, W_ienum, W_izip, W_comp, W_compG, W_compM, W_kI, W_yes, W_addI, W_addL, W_addT, W_mulI, W_ltI, W_ixL, W_ixT, W_ixS, atI_0, atI_1, atI_2, atI_3, atI_4, W_len_L, W_len_T, W_len_S, W_sum, W_all, W_any, W_min2, W_max2, W_abs, W_intI, W_intB, W_tupT, W_tupL, W_listT, W_listL, W_sl, W_oN, W_oS, W_slT, W_slL, W_slS, W_r1, W_app, W_set, W_gm, W_g0, W_g1, W_isiI, W_isiT, W_isiL, W_e3, Ws_nx, Ws_rt, W_ok, true_and, and_true, if_true, if_false, List.append_nil, frOf_l, frOf_t, frOf_s, kn_t, kn_i, kn_b, kn_l, kn_s, kn_d, isa_tt, isa_ii, isa_ib, isa_ll, isa_lt, isa_tl, W_isiL2, W_isiT2, W_allT, W_sumI, W_allM, W_sumM, cut2, W_ltT2, W_neI, W_eqI, bindP, bindPs, List.map_cons, List.map_nil, decide_eq_true_eq, Bool.false_eq_true, Bool.not_true, Bool.not_false, Bool.and_eq_true, W_var, List.getElem?_cons_zero, List.getElem?_cons_succ, List.set_cons_zero, List.set_cons_succ, rho0, List.length_cons, List.length_nil, List.replicate_succ, List.replicate_zero, List.cons_append, List.nil_append, List.append_eq, Nat.reduceAdd, Nat.reduceSub, wipeD, List.map_cons, List.map_nil]
          simp only [W_fz, W_ixO, ixN_30, ixN_31, ixN_32, W_seq, W_asg, W_expr, W_ret, W_sif, W_par, W_never, W_nil, W_c, W_e2, W_call, W_anil, W_acons, W_tup, W_lst, W_lstM, W_tV, W_and, W_or, W_not, W_bAnd, W_bOr, W_bNot, W_eif, W_isN, W_notN, W_fn, W_fnK, W_pt, W_for, W_iseq, W_ienum, W_izip, W_comp, W_compG, W_compM, W_kI, W_yes, W_addI, W_addL, W_addT, W_mulI, W_ltI, W_ixL, W_ixT, W_ixS, atI_0, atI_1, atI_2, atI_3, atI_4, W_len_L, W_len_T, W_len_S, W_sum, W_all, W_any, W_min2, W_max2, W_abs, W_intI, W_intB, W_tupT, W_tupL, W_listT, W_listL, W_sl, W_oN, W_oS, W_slT, W_slL, W_slS, W_r1, W_app, W_set, W_gm, W_g0, W_g1, W_isiI, W_isiT, W_isiL, W_e3, Ws_nx, Ws_rt, W_ok, true_and, and_true, if_true, if_false, List.append_nil, frOf_l, frOf_t, frOf_s, kn_t, kn_i, kn_b, kn_l, kn_s, kn_d, isa_tt, isa_ii, isa_ib, isa_ll, isa_lt, isa_tl, W_isiL2, W_isiT2, W_allT, W_sumI, W_allM, W_sumM, cut2, W_ltT2, W_neI, W_eqI, bindP, bindPs, List.map_cons, List.map_nil, decide_eq_true_eq, Bool.false_eq_true, Bool.not_true, Bool.not_false, Bool.and_eq_true, W_var, List.getElem?_cons_zero, List.getElem?_cons_succ, List.set_cons_zero, List.set_cons_succ, rho0, List.length_cons, List.length_nil, List.replicate_succ, List.replicate_zero, List.cons_append, List.nil_append, List.append_eq, Nat.reduceAdd, Nat.reduceSub, wipeD, List.map_cons, List.map_nil, eb, ek, a1, a2]
          by_cases c6 : (came.getD b (0, 0)).1 < (sent.getD k (0, 0, 0)).1
          · simp only [W_fz, W_ixO, ixN_30, ixN_31, ixN_32, W_seq, W_asg, W_expr, W_ret, W_sif, W_par, W_never, W_nil, W_c, W_e2, W_call, W_anil, W_acons, W_tup, W_lst, W_lstM, W_tV, W_and, W_or, W_not, W_bAnd, W_bOr, W_bNot, W_eif, W_isN, W_notN, W_fn, W_fnK, W_pt, W_for, W_iseq, W_ienum, W_izip, W_comp, W_compG, W_compM, W_kI, W_yes, W_addI, W_addL, W_addT, W_mulI, W_ltI, W_ixL, W_ixT, W_ixS, atI_0, atI_1, atI_2, atI_3, atI_4, W_len_L, W_len_T, W_len_S, W_sum, W_all, W_any, W_min2, W_max2, W_abs, W_intI, W_intB, W_tupT, W_tupL, W_listT, W_listL, W_sl, W_oN, W_oS, W_slT, W_slL, W_slS, W_r1, W_app, W_set, W_gm, W_g0, W_g1, W_isiI, W_isiT, W_isiL, W_e3, Ws_nx, Ws_rt, W_ok, true_and, and_true, if_true, if_false, List.append_nil, frOf_l, frOf_t, frOf_s, kn_t, kn_i, kn_b, kn_l, kn_s, kn_d, isa_tt, isa_ii, isa_ib, isa_ll, isa_lt, isa_tl, W_isiL2, W_isiT2, W_allT, W_sumI, W_allM, W_sumM, cut2, W_ltT2, W_neI, W_eqI, bindP, bindPs, List.map_cons, List.map_nil, decide_eq_true_eq, Bool.false_eq_true, Bool.not_true, Bool.not_false, Bool.and_eq_true, W_var, List.getElem?_cons_zero, List.getElem?_cons_succ, List.set_cons_zero, List.set_cons_succ, rho0, List.length_cons, List.length_nil, List.replicate_succ, List.replicate_zero, List.cons_append, List.nil_append, List.append_eq, Nat.reduceAdd, Nat.reduceSub, wipeD, List.map_cons, List.map_nil, encO, encB, c6]
            exact no _ st1 fun hg => by
              obtain ⟨b', k', e1, e2, h1, h2, h3, h4⟩ := hg.key p hpd
              have e3 : b' = b := by omega
              have e4 : k' = k := by omega
              subst e3 e4
              unfold dayO dayB at h4
              omega
          by_cases c7 : 0 < (pre.length : Int)
          · have a3 : atI (deal.map encO) ((pre.length : Int) - 1) = some (encO (deal.getD (pre.length - 1) (0, 0, 0))) := by
              have := atI_get (f := encO) (0, 0, 0) (show pre.length - 1 < deal.length by omega)
              rwa [show ((pre.length - 1 : Nat) : Int) = (pre.length : Int) - 1 by omega] at this
            cases c8 : HT.lexLt [(deal.getD (pre.length - 1) (0, 0, 0)).1, (deal.getD (pre.length - 1) (0, 0, 0)).2.1] [(b : Int), (k : Int)] with
            | false =>
              simp only [W_fz, W_ixO, ixN_30, ixN_31, ixN_32, W_seq, W_asg, W_expr, W_ret, W_sif, W_par, W_never, W_nil, W_c, W_e2, W_call, W_anil, W_acons, W_tup, W_lst, W_lstM, W_tV, W_and, W_or, W_not, W_bAnd, W_bOr, W_bNot, W_eif, W_isN, W_notN, W_fn, W_fnK, W_pt, W_for, W_iseq, W_ienum, W_izip, W_comp, W_compG, W_compM, W_kI, W_yes, W_addI, W_addL, W_addT, W_mulI, W_ltI, W_ixL, W_ixT, W_ixS, atI_0, atI_1, atI_2, atI_3, atI_4, W_len_L, W_len_T, W_len_S, W_sum, W_all, W_any, W_min2, W_max2, W_abs, W_intI, W_intB, W_tupT, W_tupL, W_listT, W_listL, W_sl, W_oN, W_oS, W_slT, W_slL, W_slS, W_r1, W_app, W_set, W_gm, W_g0, W_g1, W_isiI, W_isiT, W_isiL, W_e3, Ws_nx, Ws_rt, W_ok, true_and, and_true, if_true, if_false, List.append_nil, frOf_l, frOf_t, frOf_s, kn_t, kn_i, kn_b, kn_l, kn_s, kn_d, isa_tt, isa_ii, isa_ib, isa_ll, isa_lt, isa_tl, W_isiL2, W_isiT2, W_allT, W_sumI, W_allM, W_sumM, cut2, W_ltT2, W_neI, W_eqI, bindP, bindPs, List.map_cons, List.map_nil, decide_eq_true_eq, Bool.false_eq_true, Bool.not_true, Bool.not_false, Bool.and_eq_true, W_var, List.getElem?_cons_zero, List.getElem?_cons_succ, List.set_cons_zero, List.set_cons_succ, rho0, List.length_cons, List.length_nil, List.replicate_succ, List.replicate_zero, List.cons_append, List.nil_append, List.append_eq, Nat.reduceAdd, Nat.reduceSub, wipeD, List.map_cons, List.map_nil, encO, encB, c6, c7, a3, W_geO2, c8]
              exact no _ st1 fun hg => by
                have := hg.srt (pre.length - 1) (by omega)
                rw [show pre.length - 1 + 1 = pre.length by omega, hpg, eb, ek, c8] at this
                cases this
            | true =>
              simp only [W_fz, W_ixO, ixN_30, ixN_31, ixN_32, W_seq, W_asg, W_expr, W_ret, W_sif, W_par, W_never, W_nil, W_c, W_e2, W_call, W_anil, W_acons, W_tup, W_lst, W_lstM, W_tV, W_and, W_or, W_not, W_bAnd, W_bOr, W_bNot, W_eif, W_isN, W_notN, W_fn, W_fnK, W_pt, W_for, W_iseq, W_ienum, W_izip, W_comp, W_compG, W_compM, W_kI, W_yes, W_addI, W_addL, W_addT, W_mulI, W_ltI, W_ixL, W_ixT, W_ixS, atI_0, atI_1, atI_2, atI_3, atI_4, W_len_L, W_len_T, W_len_S, W_sum, W_all, W_any, W_min2, W_max2, W_abs, W_intI, W_intB, W_tupT, W_tupL, W_listT, W_listL, W_sl, W_oN, W_oS, W_slT, W_slL, W_slS, W_r1, W_app, W_set, W_gm, W_g0, W_g1, W_isiI, W_isiT, W_isiL, W_e3, Ws_nx, Ws_rt, W_ok, true_and, and_true, if_true, if_false, List.append_nil, frOf_l, frOf_t, frOf_s, kn_t, kn_i, kn_b, kn_l, kn_s, kn_d, isa_tt, isa_ii, isa_ib, isa_ll, isa_lt, isa_tl, W_isiL2, W_isiT2, W_allT, W_sumI, W_allM, W_sumM, cut2, W_ltT2, W_neI, W_eqI, bindP, bindPs, List.map_cons, List.map_nil, decide_eq_true_eq, Bool.false_eq_true, Bool.not_true, Bool.not_false, Bool.and_eq_true, W_var, List.getElem?_cons_zero, List.getElem?_cons_succ, List.set_cons_zero, List.set_cons_succ, rho0, List.length_cons, List.length_nil, List.replicate_succ, List.replicate_zero, List.cons_append, List.nil_append, List.append_eq, Nat.reduceAdd, Nat.reduceSub, wipeD, List.map_cons, List.map_nil, encO, encB, c6, c7, a3, W_geO2, c8]
              have hfk : atI (frD sent pre) (k : Int) = some (.int (cap sent k - sumK pre (k : Int))) := by
                unfold frD
                rw [atI_map, atI_nat (by simpa using hk)]; simp
              have hwb : atI (waD came pre) (b : Int) = some (.int ((came.getD b (0, 0)).2 - sumB pre (b : Int))) := by
                unfold waD
                rw [atI_map, atI_nat (by simpa using hb)]; simp
              have hfl : (frD sent pre).length = sent.length := by simp [frD]
              have hwl : (waD came pre).length = came.length := by simp [waD]
              simp only [W_fz, W_ixO, ixN_30, ixN_31, ixN_32, W_seq, W_asg, W_expr, W_ret, W_sif, W_par, W_never, W_nil, W_c, W_e2, W_call, W_anil, W_acons, W_tup, W_lst, W_lstM, W_tV, W_and, W_or, W_not, W_bAnd, W_bOr, W_bNot, W_eif, W_isN, W_notN, W_fn, W_fnK, W_pt, W_for, W_iseq, W_ienum, W_izip, W_comp, W_compG, W_compM, W_kI, W_yes, W_addI, W_addL, W_addT, W_mulI, W_ltI, W_ixL, W_ixT, W_ixS, atI_0, atI_1, atI_2, atI_3, atI_4, W_len_L, W_len_T, W_len_S, W_sum, W_all, W_any, W_min2, W_max2, W_abs, W_intI, W_intB, W_tupT, W_tupL, W_listT, W_listL, W_sl, W_oN, W_oS, W_slT, W_slL, W_slS, W_r1, W_app, W_set, W_gm, W_g0, W_g1, W_isiI, W_isiT, W_isiL, W_e3, Ws_nx, Ws_rt, W_ok, true_and, and_true, if_true, if_false, List.append_nil, frOf_l, frOf_t, frOf_s, kn_t, kn_i, kn_b, kn_l, kn_s, kn_d, isa_tt, isa_ii, isa_ib, isa_ll, isa_lt, isa_tl, W_isiL2, W_isiT2, W_allT, W_sumI, W_allM, W_sumM, cut2, W_ltT2, W_neI, W_eqI, bindP, bindPs, List.map_cons, List.map_nil, decide_eq_true_eq, Bool.false_eq_true, Bool.not_true, Bool.not_false, Bool.and_eq_true, W_var, List.getElem?_cons_zero, List.getElem?_cons_succ, List.set_cons_zero, List.set_cons_succ, rho0, List.length_cons, List.length_nil, List.replicate_succ, List.replicate_zero, List.cons_append, List.nil_append, List.append_eq, Nat.reduceAdd, Nat.reduceSub, wipeD, List.map_cons, List.map_nil, st3, hfk, hfl, ixN_nat hk, put_m, List.getElem?_set_ne (show S.next ≠ S.next + 1 by omega), st4, hwb, hwl, ixN_nat hb]
              refine ⟨pre ++ [p], post, _, _, _, by rw [ec]; simp, by simp, rfl, ⟨?_, ?_, ?_⟩, fun p' hp' => ?_, fun i hi => ?_⟩
              · intro j l
                rw [put_m, put_m, List.getElem?_set_ne (by omega), List.getElem?_set_ne (by omega)]
                exact st1 j l
              · rw [put_m, put_m, List.getElem?_set_ne (by omega), List.getElem?_set_self (List.getElem?_eq_some_iff.mp st3).1, frD_set (b : Int) p.2.2 hk, show ((b : Int), (k : Int), p.2.2) = p from Prod.ext eb.symm (Prod.ext ek.symm rfl)]
              · rw [put_m, List.getElem?_set_self (by rw [put_m, List.length_set]; exact (List.getElem?_eq_some_iff.mp st4).1), waD_set (k : Int) p.2.2 hb, show ((b : Int), (k : Int), p.2.2) = p from Prod.ext eb.symm (Prod.ext ek.symm rfl)]
              · rw [List.mem_append, List.mem_singleton] at hp'
                rcases hp' with hp' | rfl
                · exact hkp p' hp'
                · exact ⟨b, k, eb, ek, hb, hk, by omega, by unfold dayO dayB; omega⟩
              · simp only [List.length_append, List.length_cons, List.length_nil] at hi
                by_cases e : i + 1 = pre.length
                · have e2 : i = pre.length - 1 := by omega
                  rw [e, hpg, e2, eb, ek]
                  exact c8
                · exact hsr i (by omega)
          · simp only [W_fz, W_ixO, ixN_30, ixN_31, ixN_32, W_seq, W_asg, W_expr, W_ret, W_sif, W_par, W_never, W_nil, W_c, W_e2, W_call, W_anil, W_acons, W_tup, W_lst, W_lstM, W_tV, W_and, W_or, W_not, W_bAnd, W_bOr, W_bNot, W_eif, W_isN, W_notN, W_fn, W_fnK, W_pt, W_for, W_iseq, W_ienum, W_izip, W_comp, W_compG, W_compM, W_kI, W_yes, W_addI, W_addL, W_addT, W_mulI, W_ltI, W_ixL, W_ixT, W_ixS, atI_0, atI_1, atI_2, atI_3, atI_4, W_len_L, W_len_T, W_len_S, W_sum, W_all, W_any, W_min2, W_max2, W_abs, W_intI, W_intB, W_tupT, W_tupL, W_listT, W_listL, W_sl, W_oN, W_oS, W_slT, W_slL, W_slS, W_r1, W_app, W_set, W_gm, W_g0, W_g1, W_isiI, W_isiT, W_isiL, W_e3, Ws_nx, Ws_rt, W_ok, true_and, and_true, if_true, if_false, List.append_nil, frOf_l, frOf_t, frOf_s, kn_t, kn_i, kn_b, kn_l, kn_s, kn_d, isa_tt, isa_ii, isa_ib, isa_ll, isa_lt, isa_tl, W_isiL2, W_isiT2, W_allT, W_sumI, W_allM, W_sumM, cut2, W_ltT2, W_neI, W_eqI, bindP, bindPs, List.map_cons, List.map_nil, decide_eq_true_eq, Bool.false_eq_true, Bool.not_true, Bool.not_false, Bool.and_eq_true, W_var, List.getElem?_cons_zero, List.getElem?_cons_succ, List.set_cons_zero, List.set_cons_succ, rho0, List.length_cons, List.length_nil, List.replicate_succ, List.replicate_zero, List.cons_append, List.nil_append, List.append_eq, Nat.reduceAdd, Nat.reduceSub, wipeD, List.map_cons, List.map_nil, encO, encB, c6, c7]
            have hfk : atI (frD sent pre) (k : Int) = some (.int (cap sent k - sumK pre (k : Int))) := by
              unfold frD
              rw [atI_map, atI_nat (by simpa using hk)]; simp
            have hwb : atI (waD came pre) (b : Int) = some (.int ((came.getD b (0, 0)).2 - sumB pre (b : Int))) := by
              unfold waD
              rw [atI_map, atI_nat (by simpa using hb)]; simp
            have hfl : (frD sent pre).length = sent.length := by simp [frD]
            have hwl : (waD came pre).length = came.length := by simp [waD]
            simp only [W_fz, W_ixO, ixN_30, ixN_31, ixN_32, W_seq, W_asg, W_expr, W_ret, W_sif, W_par, W_never, W_nil, W_c, W_e2, W_call, W_anil, W_acons, W_tup, W_lst, W_lstM, W_tV, W_and, W_or, W_not, W_bAnd, W_bOr, W_bNot, W_eif, W_isN, W_notN, W_fn, W_fnK, W_pt, W_for, W_iseq, W_ienum, W_izip, W_comp, W_compG, W_compM, W_kI, W_yes, W_addI, W_addL, W_addT, W_mulI, W_ltI, W_ixL, W_ixT, W_ixS, atI_0, atI_1, atI_2, atI_3, atI_4, W_len_L, W_len_T, W_len_S, W_sum, W_all, W_any, W_min2, W_max2, W_abs, W_intI, W_intB, W_tupT, W_tupL, W_listT, W_listL, W_sl, W_oN, W_oS, W_slT, W_slL, W_slS, W_r1, W_app, W_set, W_gm, W_g0, W_g1, W_isiI, W_isiT, W_isiL, W_e3, Ws_nx, Ws_rt, W_ok, true_and, and_true, if_true, if_false, List.append_nil, frOf_l, frOf_t, frOf_s, kn_t, kn_i, kn_b, kn_l, kn_s, kn_d, isa_tt, isa_ii, isa_ib, isa_ll, isa_lt, isa_tl, W_isiL2, W_isiT2, W_allT, W_sumI, W_allM, W_sumM, cut2, W_ltT2, W_neI, W_eqI, bindP, bindPs, List.map_cons, List.map_nil, decide_eq_true_eq, Bool.false_eq_true, Bool.not_true, Bool.not_false, Bool.and_eq_true, W_var, List.getElem?_cons_zero, List.getElem?_cons_succ, List.set_cons_zero, List.set_cons_succ, rho0, List.length_cons, List.length_nil, List.replicate_succ, List.replicate_zero, List.cons_append, List.nil_append, List.append_eq, Nat.reduceAdd, Nat.reduceSub, wipeD, List.map_cons, List.map_nil, st3, hfk, hfl, ixN_nat hk, put_m, List.getElem?_set_ne (show S.next ≠ S.next + 1 by omega), st4, hwb, hwl, ixN_nat hb]
            refine ⟨pre ++ [p], post, _, _, _, by rw [ec]; simp, by simp, rfl, ⟨?_, ?_, ?_⟩, fun p' hp' => ?_, fun i hi => ?_⟩
            · intro j l
              rw [put_m, put_m, List.getElem?_set_ne (by omega), List.getElem?_set_ne (by omega)]
              exact st1 j l
            · rw [put_m, put_m, List.getElem?_set_ne (by omega), List.getElem?_set_self (List.getElem?_eq_some_iff.mp st3).1, frD_set (b : Int) p.2.2 hk, show ((b : Int), (k : Int), p.2.2) = p from Prod.ext eb.symm (Prod.ext ek.symm rfl)]
            · rw [put_m, List.getElem?_set_self (by rw [put_m, List.length_set]; exact (List.getElem?_eq_some_iff.mp st4).1), waD_set (k : Int) p.2.2 hb, show ((b : Int), (k : Int), p.2.2) = p from Prod.ext eb.symm (Prod.ext ek.symm rfl)]
            · rw [List.mem_append, List.mem_singleton] at hp'
              rcases hp' with hp' | rfl
              · exact hkp p' hp'
              · exact ⟨b, k, eb, ek, hb, hk, by omega, by unfold dayO dayB; omega⟩
            · simp only [List.length_append, List.length_cons, List.length_nil] at hi
              by_cases e : i + 1 = pre.length
              · have e2 : i = pre.length - 1 := by omega
                rw [e, hpg, e2, eb, ek]
                omega
              · exact hsr i (by omega)
      · rintro ρ S3 ⟨pre, post, x5, x6, x7, ec, ed, rfl, st, hkp, hsr⟩
        have ep : post = [] := by
          cases post with
          | nil => rfl
          | cons b post => simp [enumD] at ed
        subst ep
        rw [List.append_nil] at ec
        subst ec
        obtain ⟨st1, st3, st4⟩ := st
        simp only [W_fz, W_ixO, ixN_30, ixN_31, ixN_32, W_seq, W_asg, W_expr, W_ret, W_sif, W_par, W_never, W_nil, W_c, W_e2, W_call, W_anil, W_acons, W_tup, W_lst, W_lstM, W_tV, W_and, W_or, W_not, W_bAnd, W_bOr, W_bNot, W_eif, W_isN, W_notN, W_fn, W_fnK, W_pt, W_for, W_iseq, W_ienum, W_izip, W_comp, W_compG, W_compM, W_kI, W_yes, W_addI, W_addL, W_addT, W_mulI, W_ltI, W_ixL, W_ixT, W_ixS, atI_0, atI_1, atI_2, atI_3, atI_4, W_len_L, W_len_T, W_len_S, W_sum, W_all, W_any, W_min2, W_max2, W_abs, W_intI, W_intB, W_tupT, W_tupL, W_listT, W_listL, W_sl, W_oN, W_oS, W_slT, W_slL, W_slS, W_r1, W_app, W_set, W_gm, W_g0, W_g1, W_isiI, W_isiT, W_isiL, W_e3, Ws_nx, Ws_rt, W_ok, true_and, and_true, if_true, if_false, List.append_nil, frOf_l, frOf_t, frOf_s, kn_t, kn_i, kn_b, kn_l, kn_s, kn_d, isa_tt, isa_ii, isa_ib, isa_ll, isa_lt, isa_tl, W_isiL2, W_isiT2, W_allT, W_sumI, W_allM, W_sumM, cut2, W_ltT2, W_neI, W_eqI, bindP, bindPs, List.map_cons, List.map_nil, decide_eq_true_eq, Bool.false_eq_true, Bool.not_true, Bool.not_false, Bool.and_eq_true, W_var, List.getElem?_cons_zero, List.getElem?_cons_succ, List.set_cons_zero, List.set_cons_succ, rho0, List.length_cons, List.length_nil, List.replicate_succ, List.replicate_zero, List.cons_append, List.nil_append, List.append_eq, Nat.reduceAdd, Nat.reduceSub, wipeD, List.map_cons, List.map_nil, st3]
        refine ⟨by simp [frD]; unfold line; omega, ?_⟩
        have e1 : ∀ x ρ0, (comp (Pt.nm 7) tYesD (e2 kGe (eVar 7) (eC (D.int 0))) [ρ0, some (.lst (came.map encB)), some (.tup (deal.map encO)), some (.obj S.next), some (.obj (S.next + 1)), x5, x6, none] (frD sent deal) x []) = .ok ([] ++ ((List.range sent.length).filter fun _ => true).map fun k => .bl (decide (0 ≤ cap sent k - sumK deal (k : Int)))) x := fun x ρ0 =>
          comp_map (fun k : Nat => D.int (cap sent k - sumK deal (k : Int))) (fun _ => true) (fun k => .bl (decide (0 ≤ cap sent k - sumK deal (k : Int)))) (List.range sent.length) [] fun k hk => ⟨_, rfl, rfl, fun _ => rfl⟩
        refine W_eq (e1 _ _) ?_
        simp only [W_fz, W_ixO, ixN_30, ixN_31, ixN_32, W_seq, W_asg, W_expr, W_ret, W_sif, W_par, W_never, W_nil, W_c, W_e2, W_call, W_anil, W_acons, W_tup, W_lst, W_lstM, W_tV, W_and, W_or, W_not, W_bAnd, W_bOr, W_bNot, W_eif, W_isN, W_notN, W_fn, W_fnK, W_pt, W_for, W_iseq, W_ienum, W_izip, W_comp, W_compG, W_compM, W_kI, W_yes, W_addI, W_addL, W_addT, W_mulI, W_ltI, W_ixL, W_ixT, W_ixS, atI_0, atI_1, atI_2, atI_3, atI_4, W_len_L, W_len_T, W_len_S, W_sum, W_all, W_any, W_min2, W_max2, W_abs, W_intI, W_intB, W_tupT, W_tupL, W_listT, W_listL, W_sl, W_oN, W_oS, W_slT, W_slL, W_slS, W_r1, W_app, W_set, W_gm, W_g0, W_g1, W_isiI, W_isiT, W_isiL, W_e3, Ws_nx, Ws_rt, W_ok, true_and, and_true, if_true, if_false, List.append_nil, frOf_l, frOf_t, frOf_s, kn_t, kn_i, kn_b, kn_l, kn_s, kn_d, isa_tt, isa_ii, isa_ib, isa_ll, isa_lt, isa_tl, W_isiL2, W_isiT2, W_allT, W_sumI, W_allM, W_sumM, cut2, W_ltT2, W_neI, W_eqI, bindP, bindPs, List.map_cons, List.map_nil, decide_eq_true_eq, Bool.false_eq_true, Bool.not_true, Bool.not_false, Bool.and_eq_true, W_var, List.getElem?_cons_zero, List.getElem?_cons_succ, List.set_cons_zero, List.set_cons_succ, rho0, List.length_cons, List.length_nil, List.replicate_succ, List.replicate_zero, List.cons_append, List.nil_append, List.append_eq, Nat.reduceAdd, Nat.reduceSub, wipeD, List.map_cons, List.map_nil, filter_all, W_allB]
        have hs1 : ∀ j, j < S.m.length → (S3.drop S.next).m[j]? = S.m[j]? := fun j l => by rw [drop_m, List.getElem?_set_ne (by omega)]; exact st1 j l
        cases h1 : (List.range sent.length).all fun k => decide (0 ≤ cap sent k - sumK deal (k : Int)) with
        | false =>
          simp only [W_fz, W_ixO, ixN_30, ixN_31, ixN_32, W_seq, W_asg, W_expr, W_ret, W_sif, W_par, W_never, W_nil, W_c, W_e2, W_call, W_anil, W_acons, W_tup, W_lst, W_lstM, W_tV, W_and, W_or, W_not, W_bAnd, W_bOr, W_bNot, W_eif, W_isN, W_notN, W_fn, W_fnK, W_pt, W_for, W_iseq, W_ienum, W_izip, W_comp, W_compG, W_compM, W_kI, W_yes, W_addI, W_addL, W_addT, W_mulI, W_ltI, W_ixL, W_ixT, W_ixS, atI_0, atI_1, atI_2, atI_3, atI_4, W_len_L, W_len_T, W_len_S, W_sum, W_all, W_any, W_min2, W_max2, W_abs, W_intI, W_intB, W_tupT, W_tupL, W_listT, W_listL, W_sl, W_oN, W_oS, W_slT, W_slL, W_slS, W_r1, W_app, W_set, W_gm, W_g0, W_g1, W_isiI, W_isiT, W_isiL, W_e3, Ws_nx, Ws_rt, W_ok, true_and, and_true, if_true, if_false, List.append_nil, frOf_l, frOf_t, frOf_s, kn_t, kn_i, kn_b, kn_l, kn_s, kn_d, isa_tt, isa_ii, isa_ib, isa_ll, isa_lt, isa_tl, W_isiL2, W_isiT2, W_allT, W_sumI, W_allM, W_sumM, cut2, W_ltT2, W_neI, W_eqI, bindP, bindPs, List.map_cons, List.map_nil, decide_eq_true_eq, Bool.false_eq_true, Bool.not_true, Bool.not_false, Bool.and_eq_true, W_var, List.getElem?_cons_zero, List.getElem?_cons_succ, List.set_cons_zero, List.set_cons_succ, rho0, List.length_cons, List.length_nil, List.replicate_succ, List.replicate_zero, List.cons_append, List.nil_append, List.append_eq, Nat.reduceAdd, Nat.reduceSub, wipeD, List.map_cons, List.map_nil]
          refine no _ hs1 fun hg => ?_
          have : ((List.range sent.length).all fun k => decide (0 ≤ cap sent k - sumK deal (k : Int))) = true := by
            rw [List.all_eq_true]
            intro k hk
            have := hg.free k (List.mem_range.mp hk)
            exact decide_eq_true (by omega)
          rw [h1] at this; cases this
        | true =>
          have hd4 : (S3.drop S.next).m[S.next + 1]? = some (some (.lst (waD came deal))) := by rw [drop_m, List.getElem?_set_ne (by omega)]; exact st4
          simp only [W_fz, W_ixO, ixN_30, ixN_31, ixN_32, W_seq, W_asg, W_expr, W_ret, W_sif, W_par, W_never, W_nil, W_c, W_e2, W_call, W_anil, W_acons, W_tup, W_lst, W_lstM, W_tV, W_and, W_or, W_not, W_bAnd, W_bOr, W_bNot, W_eif, W_isN, W_notN, W_fn, W_fnK, W_pt, W_for, W_iseq, W_ienum, W_izip, W_comp, W_compG, W_compM, W_kI, W_yes, W_addI, W_addL, W_addT, W_mulI, W_ltI, W_ixL, W_ixT, W_ixS, atI_0, atI_1, atI_2, atI_3, atI_4, W_len_L, W_len_T, W_len_S, W_sum, W_all, W_any, W_min2, W_max2, W_abs, W_intI, W_intB, W_tupT, W_tupL, W_listT, W_listL, W_sl, W_oN, W_oS, W_slT, W_slL, W_slS, W_r1, W_app, W_set, W_gm, W_g0, W_g1, W_isiI, W_isiT, W_isiL, W_e3, Ws_nx, Ws_rt, W_ok, true_and, and_true, if_true, if_false, List.append_nil, frOf_l, frOf_t, frOf_s, kn_t, kn_i, kn_b, kn_l, kn_s, kn_d, isa_tt, isa_ii, isa_ib, isa_ll, isa_lt, isa_tl, W_isiL2, W_isiT2, W_allT, W_sumI, W_allM, W_sumM, cut2, W_ltT2, W_neI, W_eqI, bindP, bindPs, List.map_cons, List.map_nil, decide_eq_true_eq, Bool.false_eq_true, Bool.not_true, Bool.not_false, Bool.and_eq_true, W_var, List.getElem?_cons_zero, List.getElem?_cons_succ, List.set_cons_zero, List.set_cons_succ, rho0, List.length_cons, List.length_nil, List.replicate_succ, List.replicate_zero, List.cons_append, List.nil_append, List.append_eq, Nat.reduceAdd, Nat.reduceSub, wipeD, List.map_cons, List.map_nil, hd4]
          refine ⟨by simp [waD]; unfold line; omega, ?_⟩
          have e2' : ∀ x ρ0, (comp (Pt.nm 7) tYesD (e2 kEq (eVar 7) (eC (D.int 0))) [ρ0, some (.lst (came.map encB)), some (.tup (deal.map encO)), some (.obj S.next), some (.obj (S.next + 1)), x5, x6, none] (waD came deal) x []) = .ok ([] ++ ((List.range came.length).filter fun _ => true).map fun b => .bl (decide ((came.getD b (0, 0)).2 - sumB deal (b : Int) = 0))) x := fun x ρ0 =>
            comp_map (fun b : Nat => D.int ((came.getD b (0, 0)).2 - sumB deal (b : Int))) (fun _ => true) (fun b => .bl (decide ((came.getD b (0, 0)).2 - sumB deal (b : Int) = 0))) (List.range came.length) [] fun k hk => ⟨_, rfl, rfl, fun _ => of_W (by
              simp only [W_fz, W_ixO, ixN_30, ixN_31, ixN_32, W_seq, W_asg, W_expr, W_ret, W_sif, W_par, W_never, W_nil, W_c, W_e2, W_call, W_anil, W_acons, W_tup, W_lst, W_lstM, W_tV, W_and, W_or, W_not, W_bAnd, W_bOr, W_bNot, W_eif, W_isN, W_notN, W_fn, W_fnK, W_pt, W_for, W_iseq, W_ienum, W_izip, W_comp, W_compG, W_compM, W_kI, W_yes, W_addI, W_addL, W_addT, W_mulI, W_ltI, W_ixL, W_ixT, W_ixS, atI_0, atI_1, atI_2, atI_3, atI_4, W_len_L, W_len_T, W_len_S, W_sum, W_all, W_any, W_min2, W_max2, W_abs, W_intI, W_intB, W_tupT, W_tupL, W_listT, W_listL, W_sl, W_oN, W_oS, W_slT, W_slL, W_slS, W_r1, W_app, W_set, W_gm, W_g0, W_g1, W_isiI, W_isiT, W_isiL, W_e3, Ws_nx, Ws_rt, W_ok, true_and, and_true, if_true, if_false, List.append_nil, frOf_l, frOf_t, frOf_s, kn_t, kn_i, kn_b, kn_l, kn_s, kn_d, isa_tt, isa_ii, isa_ib, isa_ll, isa_lt, isa_tl, W_isiL2, W_isiT2, W_allT, W_sumI, W_allM, W_sumM, cut2, W_ltT2, W_neI, W_eqI, bindP, bindPs, List.map_cons, List.map_nil, decide_eq_true_eq, Bool.false_eq_true, Bool.not_true, Bool.not_false, Bool.and_eq_true, W_var, List.getElem?_cons_zero, List.getElem?_cons_succ, List.set_cons_zero, List.set_cons_succ, rho0, List.length_cons, List.length_nil, List.replicate_succ, List.replicate_zero, List.cons_append, List.nil_append, List.append_eq, Nat.reduceAdd, Nat.reduceSub, wipeD, List.map_cons, List.map_nil]
              try trivial)⟩
          refine W_eq (e2' _ _) ?_
          simp only [W_fz, W_ixO, ixN_30, ixN_31, ixN_32, W_seq, W_asg, W_expr, W_ret, W_sif, W_par, W_never, W_nil, W_c, W_e2, W_call, W_anil, W_acons, W_tup, W_lst, W_lstM, W_tV, W_and, W_or, W_not, W_bAnd, W_bOr, W_bNot, W_eif, W_isN, W_notN, W_fn, W_fnK, W_pt, W_for, W_iseq, W_ienum, W_izip, W_comp, W_compG, W_compM, W_kI, W_yes, W_addI, W_addL, W_addT, W_mulI, W_ltI, W_ixL, W_ixT, W_ixS, atI_0, atI_1, atI_2, atI_3, atI_4, W_len_L, W_len_T, W_len_S, W_sum, W_all, W_any, W_min2, W_max2, W_abs, W_intI, W_intB, W_tupT, W_tupL, W_listT, W_listL, W_sl, W_oN, W_oS, W_slT, W_slL, W_slS, W_r1, W_app, W_set, W_gm, W_g0, W_g1, W_isiI, W_isiT, W_isiL, W_e3, Ws_nx, Ws_rt, W_ok, true_and, and_true, if_true, if_false, List.append_nil, frOf_l, frOf_t, frOf_s, kn_t, kn_i, kn_b, kn_l, kn_s, kn_d, isa_tt, isa_ii, isa_ib, isa_ll, isa_lt, isa_tl, W_isiL2, W_isiT2, W_allT, W_sumI, W_allM, W_sumM, cut2, W_ltT2, W_neI, W_eqI, bindP, bindPs, List.map_cons, List.map_nil, decide_eq_true_eq, Bool.false_eq_true, Bool.not_true, Bool.not_false, Bool.and_eq_true, W_var, List.getElem?_cons_zero, List.getElem?_cons_succ, List.set_cons_zero, List.set_cons_succ, rho0, List.length_cons, List.length_nil, List.replicate_succ, List.replicate_zero, List.cons_append, List.nil_append, List.append_eq, Nat.reduceAdd, Nat.reduceSub, wipeD, List.map_cons, List.map_nil, filter_all, W_allB]
          refine q _ _ ?_ (back_eq fun j l => by rw [drop_m, List.getElem?_set_ne (by omega)]; exact hs1 j l)
          rw [goodD_iff]
          refine ⟨fun h2 => ⟨hkp, hsr, fun b hb => ?_, fun k hk => ?_⟩, fun hg => ?_⟩
          · have := of_decide_eq_true (List.all_eq_true.mp h2 b (List.mem_range.mpr hb))
            omega
          · have := of_decide_eq_true (List.all_eq_true.mp h1 k (List.mem_range.mpr hk))
            omega
          · rw [List.all_eq_true]
            intro b hb
            have := hg.back b (List.mem_range.mp hb)
            exact decide_eq_true (by omega)
  | _ =>
    simp only [isTup, W_fz, W_ixO, ixN_30, ixN_31, ixN_32, W_seq, W_asg, W_expr, W_ret, W_sif, W_par, W_never, W_nil, W_c, W_e2, W_call, W_anil, W_acons, W_tup, W_lst, W_lstM, W_tV, W_and, W_or, W_not, W_bAnd, W_bOr, W_bNot, W_eif, W_isN, W_notN, W_fn, W_fnK, W_pt, W_for, W_iseq, W_ienum, W_izip, W_comp, W_compG, W_compM, W_kI, W_yes, W_addI, W_addL, W_addT, W_mulI, W_ltI, W_ixL, W_ixT, W_ixS, atI_0, atI_1, atI_2, atI_3, atI_4, W_len_L, W_len_T, W_len_S, W_sum, W_all, W_any, W_min2, W_max2, W_abs, W_intI, W_intB, W_tupT, W_tupL, W_listT, W_listL, W_sl, W_oN, W_oS, W_slT, W_slL, W_slS, W_r1, W_app, W_set, W_gm, W_g0, W_g1, W_isiI, W_isiT, W_isiL, W_e3, Ws_nx, Ws_rt, W_ok, true_and, and_true, if_true, if_false, List.append_nil, frOf_l, frOf_t, frOf_s, kn_t, kn_i, kn_b, kn_l, kn_s, kn_d, isa_tt, isa_ii, isa_ib, isa_ll, isa_lt, isa_tl, W_isiL2, W_isiT2, W_allT, W_sumI, W_allM, W_sumM, cut2, W_ltT2, W_neI, W_eqI, bindP, bindPs, List.map_cons, List.map_nil, decide_eq_true_eq, Bool.false_eq_true, Bool.not_true, Bool.not_false, Bool.and_eq_true, W_var, List.getElem?_cons_zero, List.getElem?_cons_succ, List.set_cons_zero, List.set_cons_succ, rho0, List.length_cons, List.length_nil, List.replicate_succ, List.replicate_zero, List.cons_append, List.nil_append, List.append_eq, Nat.reduceAdd, Nat.reduceSub, wipeD, List.map_cons, List.map_nil]
    exact q false _ ⟨by simp, fun ⟨deal, e, _⟩ => by cases e⟩ (back_eq fun _ _ => rfl)
end K16


namespace K16
open PySem L2 Qd

theorem dealing_D {sent : List (Int × Int × Int)} {came : List (Int × Int)} {outs backs it : D} {S : Sto} (hso : OutsOk sent) (hc : RowsOk came) (ho : Sq encO sent outs) (hb : Sq encB came backs) (h : dtD it = true) (hl : ∀ ds, it = .tup ds → ds.length ≤ 5000) :
    ∃ r : Bool, m_is_dealing [outs, backs, it] S = .ok (.bl r) S ∧ (r = true ↔ GoodD sent came it) := by
  obtain ⟨r, e, hr⟩ := deals_D (S := S) ho hb hc hso.len h hl
  refine ⟨r, of_W ?_, hr⟩
  unfold m_is_dealing
  rw [W_run]
  unfold b_is_dealing
  simp only [W_fz, W_ixO, ixN_30, ixN_31, ixN_32, W_seq, W_asg, W_expr, W_ret, W_sif, W_par, W_never, W_nil, W_c, W_e2, W_call, W_anil, W_acons, W_tup, W_lst, W_lstM, W_tV, W_and, W_or, W_not, W_bAnd, W_bOr, W_bNot, W_eif, W_isN, W_notN, W_fn, W_fnK, W_pt, W_for, W_iseq, W_ienum, W_izip, W_comp, W_compG, W_compM, W_kI, W_yes, W_addI, W_addL, W_addT, W_mulI, W_ltI, W_ixL, W_ixT, W_ixS, atI_0, atI_1, atI_2, atI_3, atI_4, W_len_L, W_len_T, W_len_S, W_sum, W_all, W_any, W_min2, W_max2, W_abs, W_intI, W_intB, W_tupT, W_tupL, W_listT, W_listL, W_sl, W_oN, W_oS, W_slT, W_slL, W_slS, W_r1, W_app, W_set, W_gm, W_g0, W_g1, W_isiI, W_isiT, W_isiL, W_e3, Ws_nx, Ws_rt, W_ok, true_and, and_true, if_true, if_false, List.append_nil, frOf_l, frOf_t, frOf_s, kn_t, kn_i, kn_b, kn_l, kn_s, kn_d, isa_tt, isa_ii, isa_ib, isa_ll, isa_lt, isa_tl, W_isiL2, W_isiT2, W_allT, W_sumI, W_allM, W_sumM, cut2, W_ltT2, W_neI, W_eqI, bindP, bindPs, List.map_cons, List.map_nil, decide_eq_true_eq, Bool.false_eq_true, Bool.not_true, Bool.not_false, Bool.and_eq_true, W_var, List.getElem?_cons_zero, List.getElem?_cons_succ, List.set_cons_zero, List.set_cons_succ, rho0, List.length_cons, List.length_nil, List.replicate_succ, List.replicate_zero, List.cons_append, List.nil_append, List.append_eq, Nat.reduceAdd, Nat.reduceSub, wipeD, List.map_cons, List.map_nil, check_outs_ok hso ho, check_backs_ok hc hb, e, back_same]
  try trivial
theorem cut_mem {ds : List D} {lo hi : Option Int} {x : D} (h : x ∈ cutD ds lo hi) : x ∈ ds := List.mem_of_mem_drop (List.mem_of_mem_take h)
theorem cut_len {ds : List D} {lo hi : Option Int} : (cutD ds lo hi).length ≤ ds.length := by
  unfold cutD
  rw [List.length_take, List.length_drop]; omega
/-- what a dealing is made of, so deep -/
def ddD : Nat → D → Prop
  | 0, d => ∃ i, d = .int i
  | n + 1, d => (∃ i, d = .int i) ∨ ∃ ds, d = .tup ds ∧ ds.length ≤ 500 ∧ ∀ x ∈ ds, ddD n x
theorem dd_dt : ∀ {n : Nat} {d : D}, ddD n d → dtD d = true
  | 0, d, ⟨i, e⟩ => by subst e; rfl
  | n + 1, d, .inl ⟨i, e⟩ => by subst e; rfl
  | n + 1, d, .inr ⟨ds, e, _, h⟩ => by
    subst e
    simp only [dtD]
    exact dtDs_iff.mpr fun x hx => dd_dt (h x hx)
def Thing (d : D) : Prop := dtD d = true ∧ ∀ ds, d = .tup ds → ds.length ≤ 5000
theorem thing_tup {ds : List D} (h : ∀ x ∈ ds, dtD x = true) (hl : ds.length ≤ 5000) : Thing (.tup ds) := ⟨by simp only [dtD]; exact dtDs_iff.mpr h, fun es e => by cases e; exact hl⟩
theorem thing_o {d : D} (h : dtD d = true) (hn : isTup d = false) : Thing d := ⟨h, fun ds e => by subst e; simp [isTup] at hn⟩
theorem some_W {S : Sto} {d : D} {Q : D → Sto → Prop} {i : Int} (hd : dtD d = true) (h0 : 0 ≤ i) (h1 : i < 14) (q : ∀ d', Thing d' → Q d' S) :
    W (kIx (.lst [.non, .bl true, .bl false, .int 0, .int (0 - 1), .str "1", .tup [], .lst [], .dk [] [], .tup [.int 0, .int 0, .int 1], .lst [d], .tup [d], .tup [.lst []], .tup [d, .dk [] []]]) (.int i) S) Q := by
  obtain ⟨x, e, hm⟩ := at_of (ds := [D.non, .bl true, .bl false, .int 0, .int (0 - 1), .str "1", .tup [], .lst [], .dk [] [], .tup [.int 0, .int 0, .int 1], .lst [d], .tup [d], .tup [.lst []], .tup [d, .dk [] []]]) h0 (by simpa using h1)
  rw [W_ixL, e]
  refine q x ?_
  simp only [List.mem_cons, List.not_mem_nil, or_false] at hm
  rcases hm with rfl | rfl | rfl | rfl | rfl | rfl | rfl | rfl | rfl | rfl | rfl | rfl | rfl | rfl
  all_goals first
    | exact thing_o rfl rfl
    | exact thing_tup (dtDs_iff.mp (by simp [dtDs, dtD, hd])) (by simp)
theorem W_d0 {ρ : Rho} {S : Sto} {Q : D → Sto → Prop} : W (eD0 ρ S) Q = Q (.dk [] []) S := rfl
theorem W_revT {f : FE} {ρ : Rho} {S : Sto} {Q : D → Sto → Prop} : W (eRev f ρ S) Q = W (f ρ S) fun d S => match d with
    | .tup ds => Q (.tup ds.reverse) S
    | .scr ds => Q (.lst ds.reverse) S
    | d => match lstOf S d with
      | some ds => Q (.lst ds.reverse) S
      | none => False := by
  unfold eRev
  rw [W_bind]; congr; funext d S
  cases d with
  | tup ds => rfl
  | scr ds => rfl
  | lst ds => rfl
  | obj k =>
    simp only
    cases lstOf S (.obj k) <;> rfl
  | _ => rfl
theorem fr_back {S S' : Sto} {k : Nat} (h : Fr S S' k) (hk : k < S.m.length) : Fr S (S'.back S.m.length) k := h.back hk
theorem bent_int {i : Int} {S : Sto} {k n : Nat} {Q : D → Sto → Prop} (hp : Pu S k) (q : ∀ d' S', Thing d' → Fr S S' k → Q d' S') : W (m_law_bent (n + 1) [.obj k, .int i] S) Q := by
  have hl := hp.lt
  unfold m_law_bent
  rw [W_run]
  unfold b_law_bent
  simp only [W_fz, W_ixO, ixN_30, ixN_31, ixN_32, W_seq, W_asg, W_expr, W_ret, W_sif, W_par, W_never, W_nil, W_c, W_e2, W_call, W_anil, W_acons, W_tup, W_lst, W_lstM, W_tV, W_and, W_or, W_not, W_bAnd, W_bOr, W_bNot, W_eif, W_isN, W_notN, W_fn, W_fnK, W_pt, W_for, W_iseq, W_ienum, W_izip, W_comp, W_compG, W_compM, W_kI, W_yes, W_addI, W_addL, W_addT, W_mulI, W_ltI, W_ixL, W_ixT, W_ixS, atI_0, atI_1, atI_2, atI_3, atI_4, W_len_L, W_len_T, W_len_S, W_sum, W_all, W_any, W_min2, W_max2, W_abs, W_intI, W_intB, W_tupT, W_tupL, W_listT, W_listL, W_sl, W_oN, W_oS, W_slT, W_slL, W_slS, W_r1, W_app, W_set, W_gm, W_g0, W_g1, W_isiI, W_isiT, W_isiL, W_e3, Ws_nx, Ws_rt, W_ok, true_and, and_true, if_true, if_false, List.append_nil, frOf_l, frOf_t, frOf_s, kn_t, kn_i, kn_b, kn_l, kn_s, kn_d, isa_tt, isa_ii, isa_ib, isa_ll, isa_lt, isa_tl, W_isiL2, W_isiT2, W_allT, W_sumI, W_allM, W_sumM, cut2, W_ltT2, W_neI, W_eqI, bindP, bindPs, List.map_cons, List.map_nil, decide_eq_true_eq, Bool.false_eq_true, Bool.not_true, Bool.not_false, Bool.and_eq_true, W_var, List.getElem?_cons_zero, List.getElem?_cons_succ, List.set_cons_zero, List.set_cons_succ, rho0, List.length_cons, List.length_nil, List.replicate_succ, List.replicate_zero, List.cons_append, List.nil_append, List.append_eq, Nat.reduceAdd, Nat.reduceSub, wipeD, List.map_cons, List.map_nil, W_isiD (d := .int i) rfl, tyS, show isaB "int" "tuple" = false from by decide, W_d0]
  refine take_W hp (by decide) (by decide) fun pick S1 a1 b1 f1 => ?_
  simp only [W_fz, W_ixO, ixN_30, ixN_31, ixN_32, W_seq, W_asg, W_expr, W_ret, W_sif, W_par, W_never, W_nil, W_c, W_e2, W_call, W_anil, W_acons, W_tup, W_lst, W_lstM, W_tV, W_and, W_or, W_not, W_bAnd, W_bOr, W_bNot, W_eif, W_isN, W_notN, W_fn, W_fnK, W_pt, W_for, W_iseq, W_ienum, W_izip, W_comp, W_compG, W_compM, W_kI, W_yes, W_addI, W_addL, W_addT, W_mulI, W_ltI, W_ixL, W_ixT, W_ixS, atI_0, atI_1, atI_2, atI_3, atI_4, W_len_L, W_len_T, W_len_S, W_sum, W_all, W_any, W_min2, W_max2, W_abs, W_intI, W_intB, W_tupT, W_tupL, W_listT, W_listL, W_sl, W_oN, W_oS, W_slT, W_slL, W_slS, W_r1, W_app, W_set, W_gm, W_g0, W_g1, W_isiI, W_isiT, W_isiL, W_e3, Ws_nx, Ws_rt, W_ok, true_and, and_true, if_true, if_false, List.append_nil, frOf_l, frOf_t, frOf_s, kn_t, kn_i, kn_b, kn_l, kn_s, kn_d, isa_tt, isa_ii, isa_ib, isa_ll, isa_lt, isa_tl, W_isiL2, W_isiT2, W_allT, W_sumI, W_allM, W_sumM, cut2, W_ltT2, W_neI, W_eqI, bindP, bindPs, List.map_cons, List.map_nil, decide_eq_true_eq, Bool.false_eq_true, Bool.not_true, Bool.not_false, Bool.and_eq_true, W_var, List.getElem?_cons_zero, List.getElem?_cons_succ, List.set_cons_zero, List.set_cons_succ, rho0, List.length_cons, List.length_nil, List.replicate_succ, List.replicate_zero, List.cons_append, List.nil_append, List.append_eq, Nat.reduceAdd, Nat.reduceSub, wipeD, List.map_cons, List.map_nil]
  by_cases c : pick < 5
  · simp only [c, W_fz, W_ixO, ixN_30, ixN_31, ixN_32, W_seq, W_asg, W_expr, W_ret, W_sif, W_par, W_never, W_nil, W_c, W_e2, W_call, W_anil, W_acons, W_tup, W_lst, W_lstM, W_tV, W_and, W_or, W_not, W_bAnd, W_bOr, W_bNot, W_eif, W_isN, W_notN, W_fn, W_fnK, W_pt, W_for, W_iseq, W_ienum, W_izip, W_comp, W_compG, W_compM, W_kI, W_yes, W_addI, W_addL, W_addT, W_mulI, W_ltI, W_ixL, W_ixT, W_ixS, atI_0, atI_1, atI_2, atI_3, atI_4, W_len_L, W_len_T, W_len_S, W_sum, W_all, W_any, W_min2, W_max2, W_abs, W_intI, W_intB, W_tupT, W_tupL, W_listT, W_listL, W_sl, W_oN, W_oS, W_slT, W_slL, W_slS, W_r1, W_app, W_set, W_gm, W_g0, W_g1, W_isiI, W_isiT, W_isiL, W_e3, Ws_nx, Ws_rt, W_ok, true_and, and_true, if_true, if_false, List.append_nil, frOf_l, frOf_t, frOf_s, kn_t, kn_i, kn_b, kn_l, kn_s, kn_d, isa_tt, isa_ii, isa_ib, isa_ll, isa_lt, isa_tl, W_isiL2, W_isiT2, W_allT, W_sumI, W_allM, W_sumM, cut2, W_ltT2, W_neI, W_eqI, bindP, bindPs, List.map_cons, List.map_nil, decide_eq_true_eq, Bool.false_eq_true, Bool.not_true, Bool.not_false, Bool.and_eq_true, W_var, List.getElem?_cons_zero, List.getElem?_cons_succ, List.set_cons_zero, List.set_cons_succ, rho0, List.length_cons, List.length_nil, List.replicate_succ, List.replicate_zero, List.cons_append, List.nil_append, List.append_eq, Nat.reduceAdd, Nat.reduceSub, wipeD, List.map_cons, List.map_nil]
    refine ⟨by decide, ?_⟩
    obtain ⟨x, e, hm⟩ := at_of (ds := [D.int (i + 1), .int (i - 1), .int (0 - i), .bl (decide (i = 1)), .int (i + 2)]) a1 (by simpa using c)
    rw [e]
    refine q x _ ?_ (f1.back hl)
    simp only [List.mem_cons, List.not_mem_nil, or_false] at hm
    rcases hm with rfl | rfl | rfl | rfl | rfl <;> exact thing_o rfl rfl
  · simp only [c, W_fz, W_ixO, ixN_30, ixN_31, ixN_32, W_seq, W_asg, W_expr, W_ret, W_sif, W_par, W_never, W_nil, W_c, W_e2, W_call, W_anil, W_acons, W_tup, W_lst, W_lstM, W_tV, W_and, W_or, W_not, W_bAnd, W_bOr, W_bNot, W_eif, W_isN, W_notN, W_fn, W_fnK, W_pt, W_for, W_iseq, W_ienum, W_izip, W_comp, W_compG, W_compM, W_kI, W_yes, W_addI, W_addL, W_addT, W_mulI, W_ltI, W_ixL, W_ixT, W_ixS, atI_0, atI_1, atI_2, atI_3, atI_4, W_len_L, W_len_T, W_len_S, W_sum, W_all, W_any, W_min2, W_max2, W_abs, W_intI, W_intB, W_tupT, W_tupL, W_listT, W_listL, W_sl, W_oN, W_oS, W_slT, W_slL, W_slS, W_r1, W_app, W_set, W_gm, W_g0, W_g1, W_isiI, W_isiT, W_isiL, W_e3, Ws_nx, Ws_rt, W_ok, true_and, and_true, if_true, if_false, List.append_nil, frOf_l, frOf_t, frOf_s, kn_t, kn_i, kn_b, kn_l, kn_s, kn_d, isa_tt, isa_ii, isa_ib, isa_ll, isa_lt, isa_tl, W_isiL2, W_isiT2, W_allT, W_sumI, W_allM, W_sumM, cut2, W_ltT2, W_neI, W_eqI, bindP, bindPs, List.map_cons, List.map_nil, decide_eq_true_eq, Bool.false_eq_true, Bool.not_true, Bool.not_false, Bool.and_eq_true, W_var, List.getElem?_cons_zero, List.getElem?_cons_succ, List.set_cons_zero, List.set_cons_succ, rho0, List.length_cons, List.length_nil, List.replicate_succ, List.replicate_zero, List.cons_append, List.nil_append, List.append_eq, Nat.reduceAdd, Nat.reduceSub, wipeD, List.map_cons, List.map_nil]
    refine ⟨by decide, by decide, by decide, by decide, by decide, by decide, by decide, by decide, by decide, take_W f1.pu (by decide) (by decide) fun r S2 a2 b2 f2 => some_W (d := .int i) rfl a2 b2 fun d' hd' => q d' _ hd' ((f1.trans f2).back hl)⟩
theorem bent_tup {ds : List D} {S : Sto} {k n : Nat} {Q : D → Sto → Prop} (hlen : ds.length ≤ 500) (hds : ∀ x ∈ ds, dtD x = true) (hp : Pu S k)
    (ih : ∀ x ∈ ds, ∀ (S1 : Sto) (Q1 : D → Sto → Prop), Pu S1 k → (∀ d' S', Thing d' → Fr S1 S' k → Q1 d' S') → W (m_law_bent n [.obj k, x] S1) Q1)
    (q : ∀ d' S', Thing d' → Fr S S' k → Q d' S') : W (m_law_bent (n + 1) [.obj k, .tup ds] S) Q := by
  have hl := hp.lt
  have hdt : dtD (.tup ds) = true := by simp only [dtD]; exact dtDs_iff.mpr hds
  unfold m_law_bent
  rw [W_run]
  unfold b_law_bent
  simp only [W_fz, W_ixO, ixN_30, ixN_31, ixN_32, W_seq, W_asg, W_expr, W_ret, W_sif, W_par, W_never, W_nil, W_c, W_e2, W_call, W_anil, W_acons, W_tup, W_lst, W_lstM, W_tV, W_and, W_or, W_not, W_bAnd, W_bOr, W_bNot, W_eif, W_isN, W_notN, W_fn, W_fnK, W_pt, W_for, W_iseq, W_ienum, W_izip, W_comp, W_compG, W_compM, W_kI, W_yes, W_addI, W_addL, W_addT, W_mulI, W_ltI, W_ixL, W_ixT, W_ixS, atI_0, atI_1, atI_2, atI_3, atI_4, W_len_L, W_len_T, W_len_S, W_sum, W_all, W_any, W_min2, W_max2, W_abs, W_intI, W_intB, W_tupT, W_tupL, W_listT, W_listL, W_sl, W_oN, W_oS, W_slT, W_slL, W_slS, W_r1, W_app, W_set, W_gm, W_g0, W_g1, W_isiI, W_isiT, W_isiL, W_e3, Ws_nx, Ws_rt, W_ok, true_and, and_true, if_true, if_false, List.append_nil, frOf_l, frOf_t, frOf_s, kn_t, kn_i, kn_b, kn_l, kn_s, kn_d, isa_tt, isa_ii, isa_ib, isa_ll, isa_lt, isa_tl, W_isiL2, W_isiT2, W_allT, W_sumI, W_allM, W_sumM, cut2, W_ltT2, W_neI, W_eqI, bindP, bindPs, List.map_cons, List.map_nil, decide_eq_true_eq, Bool.false_eq_true, Bool.not_true, Bool.not_false, Bool.and_eq_true, W_var, List.getElem?_cons_zero, List.getElem?_cons_succ, List.set_cons_zero, List.set_cons_succ, rho0, List.length_cons, List.length_nil, List.replicate_succ, List.replicate_zero, List.cons_append, List.nil_append, List.append_eq, Nat.reduceAdd, Nat.reduceSub, wipeD, List.map_cons, List.map_nil, W_d0, W_revT, show isaB "tuple" "int" = false from by decide]
  by_cases hz : 0 < (ds.length : Int)
  · simp only [hz, W_fz, W_ixO, ixN_30, ixN_31, ixN_32, W_seq, W_asg, W_expr, W_ret, W_sif, W_par, W_never, W_nil, W_c, W_e2, W_call, W_anil, W_acons, W_tup, W_lst, W_lstM, W_tV, W_and, W_or, W_not, W_bAnd, W_bOr, W_bNot, W_eif, W_isN, W_notN, W_fn, W_fnK, W_pt, W_for, W_iseq, W_ienum, W_izip, W_comp, W_compG, W_compM, W_kI, W_yes, W_addI, W_addL, W_addT, W_mulI, W_ltI, W_ixL, W_ixT, W_ixS, atI_0, atI_1, atI_2, atI_3, atI_4, W_len_L, W_len_T, W_len_S, W_sum, W_all, W_any, W_min2, W_max2, W_abs, W_intI, W_intB, W_tupT, W_tupL, W_listT, W_listL, W_sl, W_oN, W_oS, W_slT, W_slL, W_slS, W_r1, W_app, W_set, W_gm, W_g0, W_g1, W_isiI, W_isiT, W_isiL, W_e3, Ws_nx, Ws_rt, W_ok, true_and, and_true, if_true, if_false, List.append_nil, frOf_l, frOf_t, frOf_s, kn_t, kn_i, kn_b, kn_l, kn_s, kn_d, isa_tt, isa_ii, isa_ib, isa_ll, isa_lt, isa_tl, W_isiL2, W_isiT2, W_allT, W_sumI, W_allM, W_sumM, cut2, W_ltT2, W_neI, W_eqI, bindP, bindPs, List.map_cons, List.map_nil, decide_eq_true_eq, Bool.false_eq_true, Bool.not_true, Bool.not_false, Bool.and_eq_true, W_var, List.getElem?_cons_zero, List.getElem?_cons_succ, List.set_cons_zero, List.set_cons_succ, rho0, List.length_cons, List.length_nil, List.replicate_succ, List.replicate_zero, List.cons_append, List.nil_append, List.append_eq, Nat.reduceAdd, Nat.reduceSub, wipeD, List.map_cons, List.map_nil]
    refine take_W hp (by decide) (by decide) fun r1 S1 a1 b1 f1 => ?_
    by_cases c1 : 0 < r1
    · simp only [c1, W_fz, W_ixO, ixN_30, ixN_31, ixN_32, W_seq, W_asg, W_expr, W_ret, W_sif, W_par, W_never, W_nil, W_c, W_e2, W_call, W_anil, W_acons, W_tup, W_lst, W_lstM, W_tV, W_and, W_or, W_not, W_bAnd, W_bOr, W_bNot, W_eif, W_isN, W_notN, W_fn, W_fnK, W_pt, W_for, W_iseq, W_ienum, W_izip, W_comp, W_compG, W_compM, W_kI, W_yes, W_addI, W_addL, W_addT, W_mulI, W_ltI, W_ixL, W_ixT, W_ixS, atI_0, atI_1, atI_2, atI_3, atI_4, W_len_L, W_len_T, W_len_S, W_sum, W_all, W_any, W_min2, W_max2, W_abs, W_intI, W_intB, W_tupT, W_tupL, W_listT, W_listL, W_sl, W_oN, W_oS, W_slT, W_slL, W_slS, W_r1, W_app, W_set, W_gm, W_g0, W_g1, W_isiI, W_isiT, W_isiL, W_e3, Ws_nx, Ws_rt, W_ok, true_and, and_true, if_true, if_false, List.append_nil, frOf_l, frOf_t, frOf_s, kn_t, kn_i, kn_b, kn_l, kn_s, kn_d, isa_tt, isa_ii, isa_ib, isa_ll, isa_lt, isa_tl, W_isiL2, W_isiT2, W_allT, W_sumI, W_allM, W_sumM, cut2, W_ltT2, W_neI, W_eqI, bindP, bindPs, List.map_cons, List.map_nil, decide_eq_true_eq, Bool.false_eq_true, Bool.not_true, Bool.not_false, Bool.and_eq_true, W_var, List.getElem?_cons_zero, List.getElem?_cons_succ, List.set_cons_zero, List.set_cons_succ, rho0, List.length_cons, List.length_nil, List.replicate_succ, List.replicate_zero, List.cons_append, List.nil_append, List.append_eq, Nat.reduceAdd, Nat.reduceSub, wipeD, List.map_cons, List.map_nil]
      refine take_W f1.pu hz (by omega) fun r2 S2 a2 b2 f2 => ?_
      obtain ⟨x, e, hm⟩ := at_of a2 b2
      rw [W_ixT, e]
      simp only
      refine ih x hm S2 _ f2.pu fun d' S3 hd' f3 => ?_
      simp only [W_fz, W_ixO, ixN_30, ixN_31, ixN_32, W_seq, W_asg, W_expr, W_ret, W_sif, W_par, W_never, W_nil, W_c, W_e2, W_call, W_anil, W_acons, W_tup, W_lst, W_lstM, W_tV, W_and, W_or, W_not, W_bAnd, W_bOr, W_bNot, W_eif, W_isN, W_notN, W_fn, W_fnK, W_pt, W_for, W_iseq, W_ienum, W_izip, W_comp, W_compG, W_compM, W_kI, W_yes, W_addI, W_addL, W_addT, W_mulI, W_ltI, W_ixL, W_ixT, W_ixS, atI_0, atI_1, atI_2, atI_3, atI_4, W_len_L, W_len_T, W_len_S, W_sum, W_all, W_any, W_min2, W_max2, W_abs, W_intI, W_intB, W_tupT, W_tupL, W_listT, W_listL, W_sl, W_oN, W_oS, W_slT, W_slL, W_slS, W_r1, W_app, W_set, W_gm, W_g0, W_g1, W_isiI, W_isiT, W_isiL, W_e3, Ws_nx, Ws_rt, W_ok, true_and, and_true, if_true, if_false, List.append_nil, frOf_l, frOf_t, frOf_s, kn_t, kn_i, kn_b, kn_l, kn_s, kn_d, isa_tt, isa_ii, isa_ib, isa_ll, isa_lt, isa_tl, W_isiL2, W_isiT2, W_allT, W_sumI, W_allM, W_sumM, cut2, W_ltT2, W_neI, W_eqI, bindP, bindPs, List.map_cons, List.map_nil, decide_eq_true_eq, Bool.false_eq_true, Bool.not_true, Bool.not_false, Bool.and_eq_true, W_var, List.getElem?_cons_zero, List.getElem?_cons_succ, List.set_cons_zero, List.set_cons_succ, rho0, List.length_cons, List.length_nil, List.replicate_succ, List.replicate_zero, List.cons_append, List.nil_append, List.append_eq, Nat.reduceAdd, Nat.reduceSub, wipeD, List.map_cons, List.map_nil]
      have l1 := cut_len (ds := ds) (lo := none) (hi := some r2)
      have l2 := cut_len (ds := ds) (lo := some (r2 + 1)) (hi := none)
      refine ⟨by decide, by unfold line; omega, by simp; unfold line; omega, q _ _ (thing_tup (fun y hy => ?_) (by simp; omega)) (((f1.trans f2).trans f3).back hl)⟩
      simp only [List.mem_append, List.mem_singleton] at hy
      rcases hy with (hy | rfl) | hy
      · exact hds y (cut_mem hy)
      · exact hd'.1
      · exact hds y (cut_mem hy)
    · simp only [c1, W_fz, W_ixO, ixN_30, ixN_31, ixN_32, W_seq, W_asg, W_expr, W_ret, W_sif, W_par, W_never, W_nil, W_c, W_e2, W_call, W_anil, W_acons, W_tup, W_lst, W_lstM, W_tV, W_and, W_or, W_not, W_bAnd, W_bOr, W_bNot, W_eif, W_isN, W_notN, W_fn, W_fnK, W_pt, W_for, W_iseq, W_ienum, W_izip, W_comp, W_compG, W_compM, W_kI, W_yes, W_addI, W_addL, W_addT, W_mulI, W_ltI, W_ixL, W_ixT, W_ixS, atI_0, atI_1, atI_2, atI_3, atI_4, W_len_L, W_len_T, W_len_S, W_sum, W_all, W_any, W_min2, W_max2, W_abs, W_intI, W_intB, W_tupT, W_tupL, W_listT, W_listL, W_sl, W_oN, W_oS, W_slT, W_slL, W_slS, W_r1, W_app, W_set, W_gm, W_g0, W_g1, W_isiI, W_isiT, W_isiL, W_e3, Ws_nx, Ws_rt, W_ok, true_and, and_true, if_true, if_false, List.append_nil, frOf_l, frOf_t, frOf_s, kn_t, kn_i, kn_b, kn_l, kn_s, kn_d, isa_tt, isa_ii, isa_ib, isa_ll, isa_lt, isa_tl, W_isiL2, W_isiT2, W_allT, W_sumI, W_allM, W_sumM, cut2, W_ltT2, W_neI, W_eqI, bindP, bindPs, List.map_cons, List.map_nil, decide_eq_true_eq, Bool.false_eq_true, Bool.not_true, Bool.not_false, Bool.and_eq_true, W_var, List.getElem?_cons_zero, List.getElem?_cons_succ, List.set_cons_zero, List.set_cons_succ, rho0, List.length_cons, List.length_nil, List.replicate_succ, List.replicate_zero, List.cons_append, List.nil_append, List.append_eq, Nat.reduceAdd, Nat.reduceSub, wipeD, List.map_cons, List.map_nil]
      refine take_W f1.pu (by decide) (by decide) fun pick S2 a2 b2 f2 => ?_
      by_cases c : pick < 5
      · simp only [c, hz, W_fz, W_ixO, ixN_30, ixN_31, ixN_32, W_seq, W_asg, W_expr, W_ret, W_sif, W_par, W_never, W_nil, W_c, W_e2, W_call, W_anil, W_acons, W_tup, W_lst, W_lstM, W_tV, W_and, W_or, W_not, W_bAnd, W_bOr, W_bNot, W_eif, W_isN, W_notN, W_fn, W_fnK, W_pt, W_for, W_iseq, W_ienum, W_izip, W_comp, W_compG, W_compM, W_kI, W_yes, W_addI, W_addL, W_addT, W_mulI, W_ltI, W_ixL, W_ixT, W_ixS, atI_0, atI_1, atI_2, atI_3, atI_4, W_len_L, W_len_T, W_len_S, W_sum, W_all, W_any, W_min2, W_max2, W_abs, W_intI, W_intB, W_tupT, W_tupL, W_listT, W_listL, W_sl, W_oN, W_oS, W_slT, W_slL, W_slS, W_r1, W_app, W_set, W_gm, W_g0, W_g1, W_isiI, W_isiT, W_isiL, W_e3, Ws_nx, Ws_rt, W_ok, true_and, and_true, if_true, if_false, List.append_nil, frOf_l, frOf_t, frOf_s, kn_t, kn_i, kn_b, kn_l, kn_s, kn_d, isa_tt, isa_ii, isa_ib, isa_ll, isa_lt, isa_tl, W_isiL2, W_isiT2, W_allT, W_sumI, W_allM, W_sumM, cut2, W_ltT2, W_neI, W_eqI, bindP, bindPs, List.map_cons, List.map_nil, decide_eq_true_eq, Bool.false_eq_true, Bool.not_true, Bool.not_false, Bool.and_eq_true, W_var, List.getElem?_cons_zero, List.getElem?_cons_succ, List.set_cons_zero, List.set_cons_succ, rho0, List.length_cons, List.length_nil, List.replicate_succ, List.replicate_zero, List.cons_append, List.nil_append, List.append_eq, Nat.reduceAdd, Nat.reduceSub, wipeD, List.map_cons, List.map_nil]
        refine take_W f2.pu hz (by omega) fun r2 S3 a3 b3 f3 => ?_
        obtain ⟨x, e, hm⟩ := at_of a3 b3
        have l1 := cut_len (ds := ds) (lo := none) (hi := some r2)
        have l2 := cut_len (ds := ds) (lo := some (r2 + 1)) (hi := none)
        have l3 := cut_len (ds := ds) (lo := some r2) (hi := none)
        have l4 := cut_len (ds := ds) (lo := some 1) (hi := none)
        have l5 := cut_len (ds := ds) (lo := none) (hi := some 1)
        simp only [e, W_fz, W_ixO, ixN_30, ixN_31, ixN_32, W_seq, W_asg, W_expr, W_ret, W_sif, W_par, W_never, W_nil, W_c, W_e2, W_call, W_anil, W_acons, W_tup, W_lst, W_lstM, W_tV, W_and, W_or, W_not, W_bAnd, W_bOr, W_bNot, W_eif, W_isN, W_notN, W_fn, W_fnK, W_pt, W_for, W_iseq, W_ienum, W_izip, W_comp, W_compG, W_compM, W_kI, W_yes, W_addI, W_addL, W_addT, W_mulI, W_ltI, W_ixL, W_ixT, W_ixS, atI_0, atI_1, atI_2, atI_3, atI_4, W_len_L, W_len_T, W_len_S, W_sum, W_all, W_any, W_min2, W_max2, W_abs, W_intI, W_intB, W_tupT, W_tupL, W_listT, W_listL, W_sl, W_oN, W_oS, W_slT, W_slL, W_slS, W_r1, W_app, W_set, W_gm, W_g0, W_g1, W_isiI, W_isiT, W_isiL, W_e3, Ws_nx, Ws_rt, W_ok, true_and, and_true, if_true, if_false, List.append_nil, frOf_l, frOf_t, frOf_s, kn_t, kn_i, kn_b, kn_l, kn_s, kn_d, isa_tt, isa_ii, isa_ib, isa_ll, isa_lt, isa_tl, W_isiL2, W_isiT2, W_allT, W_sumI, W_allM, W_sumM, cut2, W_ltT2, W_neI, W_eqI, bindP, bindPs, List.map_cons, List.map_nil, decide_eq_true_eq, Bool.false_eq_true, Bool.not_true, Bool.not_false, Bool.and_eq_true, W_var, List.getElem?_cons_zero, List.getElem?_cons_succ, List.set_cons_zero, List.set_cons_succ, rho0, List.length_cons, List.length_nil, List.replicate_succ, List.replicate_zero, List.cons_append, List.nil_append, List.append_eq, Nat.reduceAdd, Nat.reduceSub, wipeD, List.map_cons, List.map_nil]
        refine ⟨by unfold line; omega, by decide, by unfold line; omega, by simp; unfold line; omega, by unfold line; omega, by decide, ?_⟩
        obtain ⟨y, e2, hm2⟩ := at_of (ds := [D.tup (cutD ds none (some r2) ++ cutD ds (some (r2 + 1)) none), D.tup (cutD ds none (some r2) ++ [x] ++ cutD ds (some r2) none), D.tup ds.reverse, D.tup (cutD ds (some 1) none ++ cutD ds none (some 1)), D.lst ds]) a2 (by simpa using c)
        rw [e2]
        refine q y _ ?_ (((f1.trans f2).trans f3).back hl)
        simp only [List.mem_cons, List.not_mem_nil, or_false] at hm2
        rcases hm2 with rfl | rfl | rfl | rfl | rfl
        · exact thing_tup (fun y hy => by
            rcases List.mem_append.mp hy with hy | hy <;> exact hds y (cut_mem hy)) (by simp; omega)
        · exact thing_tup (fun y hy => by
            simp only [List.mem_append, List.mem_singleton] at hy
            rcases hy with (hy | rfl) | hy
            · exact hds y (cut_mem hy)
            · exact hds _ hm
            · exact hds y (cut_mem hy)) (by simp; omega)
        · exact thing_tup (fun y hy => hds y (List.mem_reverse.mp hy)) (by simp; omega)
        · exact thing_tup (fun y hy => by
            rcases List.mem_append.mp hy with hy | hy <;> exact hds y (cut_mem hy)) (by simp; omega)
        · exact thing_o rfl rfl
      · simp only [c, hz, W_fz, W_ixO, ixN_30, ixN_31, ixN_32, W_seq, W_asg, W_expr, W_ret, W_sif, W_par, W_never, W_nil, W_c, W_e2, W_call, W_anil, W_acons, W_tup, W_lst, W_lstM, W_tV, W_and, W_or, W_not, W_bAnd, W_bOr, W_bNot, W_eif, W_isN, W_notN, W_fn, W_fnK, W_pt, W_for, W_iseq, W_ienum, W_izip, W_comp, W_compG, W_compM, W_kI, W_yes, W_addI, W_addL, W_addT, W_mulI, W_ltI, W_ixL, W_ixT, W_ixS, atI_0, atI_1, atI_2, atI_3, atI_4, W_len_L, W_len_T, W_len_S, W_sum, W_all, W_any, W_min2, W_max2, W_abs, W_intI, W_intB, W_tupT, W_tupL, W_listT, W_listL, W_sl, W_oN, W_oS, W_slT, W_slL, W_slS, W_r1, W_app, W_set, W_gm, W_g0, W_g1, W_isiI, W_isiT, W_isiL, W_e3, Ws_nx, Ws_rt, W_ok, true_and, and_true, if_true, if_false, List.append_nil, frOf_l, frOf_t, frOf_s, kn_t, kn_i, kn_b, kn_l, kn_s, kn_d, isa_tt, isa_ii, isa_ib, isa_ll, isa_lt, isa_tl, W_isiL2, W_isiT2, W_allT, W_sumI, W_allM, W_sumM, cut2, W_ltT2, W_neI, W_eqI, bindP, bindPs, List.map_cons, List.map_nil, decide_eq_true_eq, Bool.false_eq_true, Bool.not_true, Bool.not_false, Bool.and_eq_true, W_var, List.getElem?_cons_zero, List.getElem?_cons_succ, List.set_cons_zero, List.set_cons_succ, rho0, List.length_cons, List.length_nil, List.replicate_succ, List.replicate_zero, List.cons_append, List.nil_append, List.append_eq, Nat.reduceAdd, Nat.reduceSub, wipeD, List.map_cons, List.map_nil]
        refine ⟨by decide, by decide, by decide, by decide, by decide, by decide, by decide, by decide, by decide, take_W f2.pu (by decide) (by decide) fun r S3 a3 b3 f3 => some_W (d := .tup ds) hdt a3 b3 fun d' hd' => q d' _ hd' (((f1.trans f2).trans f3).back hl)⟩
  · simp only [hz, W_fz, W_ixO, ixN_30, ixN_31, ixN_32, W_seq, W_asg, W_expr, W_ret, W_sif, W_par, W_never, W_nil, W_c, W_e2, W_call, W_anil, W_acons, W_tup, W_lst, W_lstM, W_tV, W_and, W_or, W_not, W_bAnd, W_bOr, W_bNot, W_eif, W_isN, W_notN, W_fn, W_fnK, W_pt, W_for, W_iseq, W_ienum, W_izip, W_comp, W_compG, W_compM, W_kI, W_yes, W_addI, W_addL, W_addT, W_mulI, W_ltI, W_ixL, W_ixT, W_ixS, atI_0, atI_1, atI_2, atI_3, atI_4, W_len_L, W_len_T, W_len_S, W_sum, W_all, W_any, W_min2, W_max2, W_abs, W_intI, W_intB, W_tupT, W_tupL, W_listT, W_listL, W_sl, W_oN, W_oS, W_slT, W_slL, W_slS, W_r1, W_app, W_set, W_gm, W_g0, W_g1, W_isiI, W_isiT, W_isiL, W_e3, Ws_nx, Ws_rt, W_ok, true_and, and_true, if_true, if_false, List.append_nil, frOf_l, frOf_t, frOf_s, kn_t, kn_i, kn_b, kn_l, kn_s, kn_d, isa_tt, isa_ii, isa_ib, isa_ll, isa_lt, isa_tl, W_isiL2, W_isiT2, W_allT, W_sumI, W_allM, W_sumM, cut2, W_ltT2, W_neI, W_eqI, bindP, bindPs, List.map_cons, List.map_nil, decide_eq_true_eq, Bool.false_eq_true, Bool.not_true, Bool.not_false, Bool.and_eq_true, W_var, List.getElem?_cons_zero, List.getElem?_cons_succ, List.set_cons_zero, List.set_cons_succ, rho0, List.length_cons, List.length_nil, List.replicate_succ, List.replicate_zero, List.cons_append, List.nil_append, List.append_eq, Nat.reduceAdd, Nat.reduceSub, wipeD, List.map_cons, List.map_nil]
    refine take_W hp (by decide) (by decide) fun pick S2 a2 b2 f2 => ?_
    refine ⟨by decide, by decide, by decide, by decide, by decide, by decide, by decide, by decide, by decide, take_W f2.pu (by decide) (by decide) fun r S3 a3 b3 f3 => some_W (d := .tup ds) hdt a3 b3 fun d' hd' => q d' _ hd' ((f2.trans f3).back hl)⟩
theorem bent_W : ∀ (n : Nat) {d : D} {S : Sto} {k : Nat} {Q : D → Sto → Prop}, ddD n d → Pu S k → (∀ d' S', Thing d' → Fr S S' k → Q d' S') → W (m_law_bent (n + 1) [.obj k, d] S) Q := by
  intro n
  induction n with
  | zero =>
    rintro d S k Q ⟨i, rfl⟩ hp q
    exact bent_int hp q
  | succ n ih =>
    intro d S k Q hd hp q
    rcases hd with ⟨i, rfl⟩ | ⟨ds, rfl, hlen, hds⟩
    · exact bent_int hp q
    · exact bent_tup hlen (fun x hx => dd_dt (hds x hx)) hp (fun x hx S1 Q1 hp1 q1 => ih (hds x hx) hp1 q1) q

/-! ### a part moved -/
theorem eq_nil_T {ps : List (Int × Int × Int)} (h : ps ≠ []) {S : Sto} {Q : D → Sto → Prop} : W (kEq (.tup (ps.map encO)) (.tup []) S) Q = Q (.bl false) S := by
  have p1 : plD (.tup (ps.map encO)) = true := by simp only [plD]; exact plDs_map fun _ _ => rfl
  have d1 : dpD (.tup (ps.map encO)) ≤ 64 := by
    have := dpDs_map (f := encO) (n := 1) (xs := ps) fun _ _ => by simp [dpD, dpDs, encO]
    simp only [dpD]; omega
  obtain ⟨p, e, c, q⟩ := pl_py _ p1
  unfold kEq kEqB
  rw [pyOf_pl p1, e]
  show W (chk _ _) Q = _
  rw [W_chk, show SeqAt.shaped p = true by unfold SeqAt.shaped; rw [c, q]; simp [d1]]
  have e0 : PyData.eqv p (.tuple []) = false := by
    cases ps with
    | nil => exact absurd rfl h
    | cons x ps =>
      simp only [List.map_cons, py, encO, pys] at e
      cases z : pys (ps.map encO) with
      | none => rw [z] at e; simp at e
      | some es =>
        rw [z] at e
        simp only [Option.map_some, Option.some.injEq] at e
        subst e
        simp [PyData.eqv, PyData.eqvAll]
  simp only [W, e0, Bool.and_eq_true]
  exact propext ⟨fun h => h.2, fun h => ⟨⟨trivial, rfl⟩, h⟩⟩
theorem eq_nil_L {ps : List (Int × Int × Int)} (h : ps ≠ []) {S : Sto} {Q : D → Sto → Prop} : W (kEq (.lst (ps.map encO)) (.lst []) S) Q = Q (.bl false) S := by
  have p1 : plD (.lst (ps.map encO)) = true := by simp only [plD]; exact plDs_map fun _ _ => rfl
  have d1 : dpD (.lst (ps.map encO)) ≤ 64 := by
    have := dpDs_map (f := encO) (n := 1) (xs := ps) fun _ _ => by simp [dpD, dpDs, encO]
    simp only [dpD]; omega
  obtain ⟨p, e, c, q⟩ := pl_py _ p1
  unfold kEq kEqB
  rw [pyOf_pl p1, e]
  show W (chk _ _) Q = _
  rw [W_chk, show SeqAt.shaped p = true by unfold SeqAt.shaped; rw [c, q]; simp [d1]]
  have e0 : PyData.eqv p (.list []) = false := by
    cases ps with
    | nil => exact absurd rfl h
    | cons x ps =>
      simp only [List.map_cons, py, encO, pys] at e
      cases z : pys (ps.map encO) with
      | none => rw [z] at e; simp at e
      | some es =>
        rw [z] at e
        simp only [Option.map_some, Option.some.injEq] at e
        subst e
        simp [PyData.eqv, PyData.eqvAll]
  simp only [W, e0, Bool.and_eq_true]
  exact propext ⟨fun h => h.2, fun h => ⟨⟨trivial, rfl⟩, h⟩⟩
theorem W_mulL1 {d : D} {S : Sto} {Q : D → Sto → Prop} : W (kMul (.lst [d]) (.int 1) S) Q = Q (.lst [d]) S := rfl
theorem W_mulL0 {d : D} {S : Sto} {Q : D → Sto → Prop} : W (kMul (.lst [d]) (.int 0) S) Q = Q (.lst []) S := rfl
theorem cut_map {α : Type} {f : α → D} (xs : List α) (lo hi : Option Int) : ∃ ys : List α, cutD (xs.map f) lo hi = ys.map f ∧ ys.length ≤ xs.length := by
  unfold cutD
  rw [← List.map_drop, ← List.map_take]
  exact ⟨_, rfl, by rw [List.length_take, List.length_drop]; omega⟩
theorem W_dput {fv fo fy : FE} {ρ : Rho} {S : Sto} {N : Rho → Sto → Prop} {T : D → Sto → Prop} : Ws (Qd.sDPut fv fo fy ρ S) N T = W (fv ρ S) fun v S => W (fo ρ S) fun x S => W (fy ρ S) fun y S => match x with
    | .obj i => (match dcOf S x with
      | some c => (match c.put y v with
        | some (n, o) => n < line ∧ N ρ (S.put i o)
        | none => False)
      | none => False)
    | _ => False := by
  unfold Qd.sDPut
  rw [Ws_st]; congr; funext v S
  rw [Ws_st]; congr; funext x S
  rw [Ws_st]; congr; funext y S
  cases x with
  | obj i =>
    simp only
    cases dcOf S (.obj i) with
    | none => rfl
    | some c =>
      simp only
      cases c.put y v with
      | none => rfl
      | some p =>
        obtain ⟨n, o⟩ := p
        simp only
        show W (chk _ _) _ = _
        rw [W_chk, decide_eq_true_eq]; rfl
  | _ => rfl
theorem W_dget2 {f g h : FE} {ρ : Rho} {S : Sto} {Q : D → Sto → Prop} : W (eDGet2 f g h ρ S) Q = W (f ρ S) fun x S1 => (dcOf S1 x).isSome = true ∧ W (g ρ S1) fun y S2 => W (h ρ S2) fun z S3 => match dcOf S3 x with
    | some c => (match c.get y with
      | some o => Q (o.getD z) S3
      | none => False)
    | none => False := by
  unfold eDGet2
  rw [W_bind]; congr; funext x S
  rw [W_chk, W_bind]; congr; funext y S
  rw [W_bind]; congr; funext z S
  cases dcOf S x with
  | none => rfl
  | some c =>
    simp only
    cases c.get y <;> rfl
theorem W_dnewT {ρ : Rho} {S : Sto} {Q : D → Sto → Prop} : W (eDNewT ρ S) Q = Q (.obj S.next) (S.push (.dt [] [])) := rfl
def ky (p : Int × Int) : List Key := [.inl p.1, .inl p.2]
theorem getV_int {κ : Type} [DecidableEq κ] : ∀ (ks : List κ) (vs : List Int) (q : κ), getV ks (vs.map D.int) q = (getV ks vs q).map D.int
  | [], _, _ => by simp [getV]
  | _ :: _, [], _ => by simp [getV]
  | k :: ks, v :: vs, q => by
    simp only [List.map_cons, getV]
    split
    · rfl
    · exact getV_int ks vs q
theorem putVs_int {κ : Type} [DecidableEq κ] (ks : List κ) (vs : List Int) (q : κ) (v : Int) : putVs ks (vs.map D.int) q (.int v) = (putVs ks vs q v).map D.int := by
  unfold putVs
  split
  · rename_i h
    clear h
    induction ks generalizing vs with
    | nil => rfl
    | cons k ks ih => cases vs with
      | nil => rfl
      | cons u vs =>
        simp only [List.map_cons, List.zipWith_cons_cons, ih]
        split <;> rfl
  · simp
theorem putKs_ky (prs : List (Int × Int)) (p : Int × Int) : ∃ prs' : List (Int × Int), putKs (prs.map ky) (ky p) = prs'.map ky ∧ prs'.length ≤ prs.length + 1 := by
  unfold putKs
  split
  · exact ⟨prs, rfl, by omega⟩
  · exact ⟨prs ++ [p], by simp, by simp⟩
theorem getV_mem {κ : Type} [DecidableEq κ] : ∀ (ks : List κ) (vs : List Int) (q : κ), q ∈ ks → ks.length = vs.length → ∃ v, getV ks vs q = some v
  | [], _, _, h, _ => nomatch h
  | _ :: _, [], _, _, h => by simp at h
  | k :: ks, v :: vs, q, h, hl => by
    simp only [getV]
    split
    · exact ⟨v, rfl⟩
    · rename_i e
      rcases List.mem_cons.mp h with rfl | h
      · exact absurd rfl e
      · exact getV_mem ks vs q h (by simpa using hl)
theorem keyD_ky (p : Int × Int) : keyD (ky p) = encT [p.1, p.2] := rfl
theorem keyData_ky (prs : List (Int × Int)) : (prs.map ky).map keyData = (prs.map fun p => [p.1, p.2]).map fun l => .tuple (l.map .int) := by
  rw [List.map_map, List.map_map]; rfl
theorem moved_W {S : Sto} {k : Nat} {sent : List (Int × Int × Int)} {came : List (Int × Int)} {deal : List (Int × Int × Int)} {Q : D → Sto → Prop} (hp : Pu S k) (hso : OutsOk sent) (hd : DealOk sent came deal) (hl : deal.length ≤ 400)
    (q : ∀ d' S', Thing d' → Fr S S' k → Q d' S') : W (m_law_moved [.obj k, .tup (deal.map encO), .lst (sent.map encO)] S) Q := by
  have hk := hp.lt
  have hls := hso.len
  have hth : Thing (.tup (deal.map encO)) := thing_tup (fun x hx => by
    rw [List.mem_map] at hx
    obtain ⟨p, _, rfl⟩ := hx
    rfl) (by simp; omega)
  unfold m_law_moved
  rw [W_run]
  unfold b_law_moved
  simp only [W_fz, W_ixO, ixN_30, ixN_31, ixN_32, W_seq, W_asg, W_expr, W_ret, W_sif, W_par, W_never, W_nil, W_c, W_e2, W_call, W_anil, W_acons, W_tup, W_lst, W_lstM, W_tV, W_and, W_or, W_not, W_bAnd, W_bOr, W_bNot, W_eif, W_isN, W_notN, W_fn, W_fnK, W_pt, W_for, W_iseq, W_ienum, W_izip, W_comp, W_compG, W_compM, W_kI, W_yes, W_addI, W_addL, W_addT, W_mulI, W_ltI, W_ixL, W_ixT, W_ixS, atI_0, atI_1, atI_2, atI_3, atI_4, W_len_L, W_len_T, W_len_S, W_sum, W_all, W_any, W_min2, W_max2, W_abs, W_intI, W_intB, W_tupT, W_tupL, W_listT, W_listL, W_sl, W_oN, W_oS, W_slT, W_slL, W_slS, W_r1, W_app, W_set, W_gm, W_g0, W_g1, W_isiI, W_isiT, W_isiL, W_e3, Ws_nx, Ws_rt, W_ok, true_and, and_true, if_true, if_false, List.append_nil, frOf_l, frOf_t, frOf_s, kn_t, kn_i, kn_b, kn_l, kn_s, kn_d, isa_tt, isa_ii, isa_ib, isa_ll, isa_lt, isa_tl, W_isiL2, W_isiT2, W_allT, W_sumI, W_allM, W_sumM, cut2, W_ltT2, W_neI, W_eqI, bindP, bindPs, List.map_cons, List.map_nil, decide_eq_true_eq, Bool.false_eq_true, Bool.not_true, Bool.not_false, Bool.and_eq_true, W_var, List.getElem?_cons_zero, List.getElem?_cons_succ, List.set_cons_zero, List.set_cons_succ, rho0, List.length_cons, List.length_nil, List.replicate_succ, List.replicate_zero, List.cons_append, List.nil_append, List.append_eq, Nat.reduceAdd, Nat.reduceSub, wipeD, List.map_cons, List.map_nil]
  by_cases h1 : deal = []
  · subst h1
    simp only [W_fz, W_ixO, ixN_30, ixN_31, ixN_32, W_seq, W_asg, W_expr, W_ret, W_sif, W_par, W_never, W_nil, W_c, W_e2, W_call, W_anil, W_acons, W_tup, W_lst, W_lstM, W_tV, W_and, W_or, W_not, W_bAnd, W_bOr, W_bNot, W_eif, W_isN, W_notN, W_fn, W_fnK, W_pt, W_for, W_iseq, W_ienum, W_izip, W_comp, W_compG, W_compM, W_kI, W_yes, W_addI, W_addL, W_addT, W_mulI, W_ltI, W_ixL, W_ixT, W_ixS, atI_0, atI_1, atI_2, atI_3, atI_4, W_len_L, W_len_T, W_len_S, W_sum, W_all, W_any, W_min2, W_max2, W_abs, W_intI, W_intB, W_tupT, W_tupL, W_listT, W_listL, W_sl, W_oN, W_oS, W_slT, W_slL, W_slS, W_r1, W_app, W_set, W_gm, W_g0, W_g1, W_isiI, W_isiT, W_isiL, W_e3, Ws_nx, Ws_rt, W_ok, true_and, and_true, if_true, if_false, List.append_nil, frOf_l, frOf_t, frOf_s, kn_t, kn_i, kn_b, kn_l, kn_s, kn_d, isa_tt, isa_ii, isa_ib, isa_ll, isa_lt, isa_tl, W_isiL2, W_isiT2, W_allT, W_sumI, W_allM, W_sumM, cut2, W_ltT2, W_neI, W_eqI, bindP, bindPs, List.map_cons, List.map_nil, decide_eq_true_eq, Bool.false_eq_true, Bool.not_true, Bool.not_false, Bool.and_eq_true, W_var, List.getElem?_cons_zero, List.getElem?_cons_succ, List.set_cons_zero, List.set_cons_succ, rho0, List.length_cons, List.length_nil, List.replicate_succ, List.replicate_zero, List.cons_append, List.nil_append, List.append_eq, Nat.reduceAdd, Nat.reduceSub, wipeD, List.map_cons, List.map_nil]
    refine ⟨by decide, ?_⟩
    rw [W_eqSame rfl (by decide)]
    simp only [W_fz, W_ixO, ixN_30, ixN_31, ixN_32, W_seq, W_asg, W_expr, W_ret, W_sif, W_par, W_never, W_nil, W_c, W_e2, W_call, W_anil, W_acons, W_tup, W_lst, W_lstM, W_tV, W_and, W_or, W_not, W_bAnd, W_bOr, W_bNot, W_eif, W_isN, W_notN, W_fn, W_fnK, W_pt, W_for, W_iseq, W_ienum, W_izip, W_comp, W_compG, W_compM, W_kI, W_yes, W_addI, W_addL, W_addT, W_mulI, W_ltI, W_ixL, W_ixT, W_ixS, atI_0, atI_1, atI_2, atI_3, atI_4, W_len_L, W_len_T, W_len_S, W_sum, W_all, W_any, W_min2, W_max2, W_abs, W_intI, W_intB, W_tupT, W_tupL, W_listT, W_listL, W_sl, W_oN, W_oS, W_slT, W_slL, W_slS, W_r1, W_app, W_set, W_gm, W_g0, W_g1, W_isiI, W_isiT, W_isiL, W_e3, Ws_nx, Ws_rt, W_ok, true_and, and_true, if_true, if_false, List.append_nil, frOf_l, frOf_t, frOf_s, kn_t, kn_i, kn_b, kn_l, kn_s, kn_d, isa_tt, isa_ii, isa_ib, isa_ll, isa_lt, isa_tl, W_isiL2, W_isiT2, W_allT, W_sumI, W_allM, W_sumM, cut2, W_ltT2, W_neI, W_eqI, bindP, bindPs, List.map_cons, List.map_nil, decide_eq_true_eq, Bool.false_eq_true, Bool.not_true, Bool.not_false, Bool.and_eq_true, W_var, List.getElem?_cons_zero, List.getElem?_cons_succ, List.set_cons_zero, List.set_cons_succ, rho0, List.length_cons, List.length_nil, List.replicate_succ, List.replicate_zero, List.cons_append, List.nil_append, List.append_eq, Nat.reduceAdd, Nat.reduceSub, wipeD, List.map_cons, List.map_nil]
    exact q _ _ hth ((Fr.refl hp).back hk)
  rw [eq_nil_T h1]
  simp only [W_fz, W_ixO, ixN_30, ixN_31, ixN_32, W_seq, W_asg, W_expr, W_ret, W_sif, W_par, W_never, W_nil, W_c, W_e2, W_call, W_anil, W_acons, W_tup, W_lst, W_lstM, W_tV, W_and, W_or, W_not, W_bAnd, W_bOr, W_bNot, W_eif, W_isN, W_notN, W_fn, W_fnK, W_pt, W_for, W_iseq, W_ienum, W_izip, W_comp, W_compG, W_compM, W_kI, W_yes, W_addI, W_addL, W_addT, W_mulI, W_ltI, W_ixL, W_ixT, W_ixS, atI_0, atI_1, atI_2, atI_3, atI_4, W_len_L, W_len_T, W_len_S, W_sum, W_all, W_any, W_min2, W_max2, W_abs, W_intI, W_intB, W_tupT, W_tupL, W_listT, W_listL, W_sl, W_oN, W_oS, W_slT, W_slL, W_slS, W_r1, W_app, W_set, W_gm, W_g0, W_g1, W_isiI, W_isiT, W_isiL, W_e3, Ws_nx, Ws_rt, W_ok, true_and, and_true, if_true, if_false, List.append_nil, frOf_l, frOf_t, frOf_s, kn_t, kn_i, kn_b, kn_l, kn_s, kn_d, isa_tt, isa_ii, isa_ib, isa_ll, isa_lt, isa_tl, W_isiL2, W_isiT2, W_allT, W_sumI, W_allM, W_sumM, cut2, W_ltT2, W_neI, W_eqI, bindP, bindPs, List.map_cons, List.map_nil, decide_eq_true_eq, Bool.false_eq_true, Bool.not_true, Bool.not_false, Bool.and_eq_true, W_var, List.getElem?_cons_zero, List.getElem?_cons_succ, List.set_cons_zero, List.set_cons_succ, rho0, List.length_cons, List.length_nil, List.replicate_succ, List.replicate_zero, List.cons_append, List.nil_append, List.append_eq, Nat.reduceAdd, Nat.reduceSub, wipeD, List.map_cons, List.map_nil]
  by_cases h2 : sent = []
  · subst h2
    simp only [W_fz, W_ixO, ixN_30, ixN_31, ixN_32, W_seq, W_asg, W_expr, W_ret, W_sif, W_par, W_never, W_nil, W_c, W_e2, W_call, W_anil, W_acons, W_tup, W_lst, W_lstM, W_tV, W_and, W_or, W_not, W_bAnd, W_bOr, W_bNot, W_eif, W_isN, W_notN, W_fn, W_fnK, W_pt, W_for, W_iseq, W_ienum, W_izip, W_comp, W_compG, W_compM, W_kI, W_yes, W_addI, W_addL, W_addT, W_mulI, W_ltI, W_ixL, W_ixT, W_ixS, atI_0, atI_1, atI_2, atI_3, atI_4, W_len_L, W_len_T, W_len_S, W_sum, W_all, W_any, W_min2, W_max2, W_abs, W_intI, W_intB, W_tupT, W_tupL, W_listT, W_listL, W_sl, W_oN, W_oS, W_slT, W_slL, W_slS, W_r1, W_app, W_set, W_gm, W_g0, W_g1, W_isiI, W_isiT, W_isiL, W_e3, Ws_nx, Ws_rt, W_ok, true_and, and_true, if_true, if_false, List.append_nil, frOf_l, frOf_t, frOf_s, kn_t, kn_i, kn_b, kn_l, kn_s, kn_d, isa_tt, isa_ii, isa_ib, isa_ll, isa_lt, isa_tl, W_isiL2, W_isiT2, W_allT, W_sumI, W_allM, W_sumM, cut2, W_ltT2, W_neI, W_eqI, bindP, bindPs, List.map_cons, List.map_nil, decide_eq_true_eq, Bool.false_eq_true, Bool.not_true, Bool.not_false, Bool.and_eq_true, W_var, List.getElem?_cons_zero, List.getElem?_cons_succ, List.set_cons_zero, List.set_cons_succ, rho0, List.length_cons, List.length_nil, List.replicate_succ, List.replicate_zero, List.cons_append, List.nil_append, List.append_eq, Nat.reduceAdd, Nat.reduceSub, wipeD, List.map_cons, List.map_nil]
    refine ⟨by decide, by decide, ?_⟩
    rw [W_eqSame rfl (by decide)]
    simp only [W_fz, W_ixO, ixN_30, ixN_31, ixN_32, W_seq, W_asg, W_expr, W_ret, W_sif, W_par, W_never, W_nil, W_c, W_e2, W_call, W_anil, W_acons, W_tup, W_lst, W_lstM, W_tV, W_and, W_or, W_not, W_bAnd, W_bOr, W_bNot, W_eif, W_isN, W_notN, W_fn, W_fnK, W_pt, W_for, W_iseq, W_ienum, W_izip, W_comp, W_compG, W_compM, W_kI, W_yes, W_addI, W_addL, W_addT, W_mulI, W_ltI, W_ixL, W_ixT, W_ixS, atI_0, atI_1, atI_2, atI_3, atI_4, W_len_L, W_len_T, W_len_S, W_sum, W_all, W_any, W_min2, W_max2, W_abs, W_intI, W_intB, W_tupT, W_tupL, W_listT, W_listL, W_sl, W_oN, W_oS, W_slT, W_slL, W_slS, W_r1, W_app, W_set, W_gm, W_g0, W_g1, W_isiI, W_isiT, W_isiL, W_e3, Ws_nx, Ws_rt, W_ok, true_and, and_true, if_true, if_false, List.append_nil, frOf_l, frOf_t, frOf_s, kn_t, kn_i, kn_b, kn_l, kn_s, kn_d, isa_tt, isa_ii, isa_ib, isa_ll, isa_lt, isa_tl, W_isiL2, W_isiT2, W_allT, W_sumI, W_allM, W_sumM, cut2, W_ltT2, W_neI, W_eqI, bindP, bindPs, List.map_cons, List.map_nil, decide_eq_true_eq, Bool.false_eq_true, Bool.not_true, Bool.not_false, Bool.and_eq_true, W_var, List.getElem?_cons_zero, List.getElem?_cons_succ, List.set_cons_zero, List.set_cons_succ, rho0, List.length_cons, List.length_nil, List.replicate_succ, List.replicate_zero, List.cons_append, List.nil_append, List.append_eq, Nat.reduceAdd, Nat.reduceSub, wipeD, List.map_cons, List.map_nil]
    exact q _ _ hth ((Fr.refl hp).back hk)
  rw [eq_nil_L h2]
  simp only [W_fz, W_ixO, ixN_30, ixN_31, ixN_32, W_seq, W_asg, W_expr, W_ret, W_sif, W_par, W_never, W_nil, W_c, W_e2, W_call, W_anil, W_acons, W_tup, W_lst, W_lstM, W_tV, W_and, W_or, W_not, W_bAnd, W_bOr, W_bNot, W_eif, W_isN, W_notN, W_fn, W_fnK, W_pt, W_for, W_iseq, W_ienum, W_izip, W_comp, W_compG, W_compM, W_kI, W_yes, W_addI, W_addL, W_addT, W_mulI, W_ltI, W_ixL, W_ixT, W_ixS, atI_0, atI_1, atI_2, atI_3, atI_4, W_len_L, W_len_T, W_len_S, W_sum, W_all, W_any, W_min2, W_max2, W_abs, W_intI, W_intB, W_tupT, W_tupL, W_listT, W_listL, W_sl, W_oN, W_oS, W_slT, W_slL, W_slS, W_r1, W_app, W_set, W_gm, W_g0, W_g1, W_isiI, W_isiT, W_isiL, W_e3, Ws_nx, Ws_rt, W_ok, true_and, and_true, if_true, if_false, List.append_nil, frOf_l, frOf_t, frOf_s, kn_t, kn_i, kn_b, kn_l, kn_s, kn_d, isa_tt, isa_ii, isa_ib, isa_ll, isa_lt, isa_tl, W_isiL2, W_isiT2, W_allT, W_sumI, W_allM, W_sumM, cut2, W_ltT2, W_neI, W_eqI, bindP, bindPs, List.map_cons, List.map_nil, decide_eq_true_eq, Bool.false_eq_true, Bool.not_true, Bool.not_false, Bool.and_eq_true, W_var, List.getElem?_cons_zero, List.getElem?_cons_succ, List.set_cons_zero, List.set_cons_succ, rho0, List.length_cons, List.length_nil, List.replicate_succ, List.replicate_zero, List.cons_append, List.nil_append, List.append_eq, Nat.reduceAdd, Nat.reduceSub, wipeD, List.map_cons, List.map_nil, List.length_map]
  have hd0 : 0 < deal.length := List.length_pos_iff.mpr h1
  have hs0 : 0 < sent.length := List.length_pos_iff.mpr h2
  refine ⟨by decide, by decide, take_W hp (by omega) (by omega) fun r1 S1 a1 b1 f1 => take_W f1.pu (by omega) (by omega) fun r2 S2 a2 b2 f2 => ?_⟩
  obtain ⟨p, hpm, ep⟩ := pick (f := encO) a1 b1
  rw [W_ixT, ep]
  obtain ⟨pb, pk, e1, e2, g1, g2, g3, g4, g5⟩ := hd.inv.key p hpm
  simp only [W_fz, W_ixO, ixN_30, ixN_31, ixN_32, W_seq, W_asg, W_expr, W_ret, W_sif, W_par, W_never, W_nil, W_c, W_e2, W_call, W_anil, W_acons, W_tup, W_lst, W_lstM, W_tV, W_and, W_or, W_not, W_bAnd, W_bOr, W_bNot, W_eif, W_isN, W_notN, W_fn, W_fnK, W_pt, W_for, W_iseq, W_ienum, W_izip, W_comp, W_compG, W_compM, W_kI, W_yes, W_addI, W_addL, W_addT, W_mulI, W_ltI, W_ixL, W_ixT, W_ixS, atI_0, atI_1, atI_2, atI_3, atI_4, W_len_L, W_len_T, W_len_S, W_sum, W_all, W_any, W_min2, W_max2, W_abs, W_intI, W_intB, W_tupT, W_tupL, W_listT, W_listL, W_sl, W_oN, W_oS, W_slT, W_slL, W_slS, W_r1, W_app, W_set, W_gm, W_g0, W_g1, W_isiI, W_isiT, W_isiL, W_e3, Ws_nx, Ws_rt, W_ok, true_and, and_true, if_true, if_false, List.append_nil, frOf_l, frOf_t, frOf_s, kn_t, kn_i, kn_b, kn_l, kn_s, kn_d, isa_tt, isa_ii, isa_ib, isa_ll, isa_lt, isa_tl, W_isiL2, W_isiT2, W_allT, W_sumI, W_allM, W_sumM, cut2, W_ltT2, W_neI, W_eqI, bindP, bindPs, List.map_cons, List.map_nil, decide_eq_true_eq, Bool.false_eq_true, Bool.not_true, Bool.not_false, Bool.and_eq_true, W_var, List.getElem?_cons_zero, List.getElem?_cons_succ, List.set_cons_zero, List.set_cons_succ, rho0, List.length_cons, List.length_nil, List.replicate_succ, List.replicate_zero, List.cons_append, List.nil_append, List.append_eq, Nat.reduceAdd, Nat.reduceSub, wipeD, List.map_cons, List.map_nil, encO]
  refine take_W f2.pu (by omega) (by omega) fun r3 S3 a3 b3 f3 => ?_
  have f := (f1.trans f2).trans f3
  simp only [W_fz, W_ixO, ixN_30, ixN_31, ixN_32, W_seq, W_asg, W_expr, W_ret, W_sif, W_par, W_never, W_nil, W_c, W_e2, W_call, W_anil, W_acons, W_tup, W_lst, W_lstM, W_tV, W_and, W_or, W_not, W_bAnd, W_bOr, W_bNot, W_eif, W_isN, W_notN, W_fn, W_fnK, W_pt, W_for, W_iseq, W_ienum, W_izip, W_comp, W_compG, W_compM, W_kI, W_yes, W_addI, W_addL, W_addT, W_mulI, W_ltI, W_ixL, W_ixT, W_ixS, atI_0, atI_1, atI_2, atI_3, atI_4, W_len_L, W_len_T, W_len_S, W_sum, W_all, W_any, W_min2, W_max2, W_abs, W_intI, W_intB, W_tupT, W_tupL, W_listT, W_listL, W_sl, W_oN, W_oS, W_slT, W_slL, W_slS, W_r1, W_app, W_set, W_gm, W_g0, W_g1, W_isiI, W_isiT, W_isiL, W_e3, Ws_nx, Ws_rt, W_ok, true_and, and_true, if_true, if_false, List.append_nil, frOf_l, frOf_t, frOf_s, kn_t, kn_i, kn_b, kn_l, kn_s, kn_d, isa_tt, isa_ii, isa_ib, isa_ll, isa_lt, isa_tl, W_isiL2, W_isiT2, W_allT, W_sumI, W_allM, W_sumM, cut2, W_ltT2, W_neI, W_eqI, bindP, bindPs, List.map_cons, List.map_nil, decide_eq_true_eq, Bool.false_eq_true, Bool.not_true, Bool.not_false, Bool.and_eq_true, W_var, List.getElem?_cons_zero, List.getElem?_cons_succ, List.set_cons_zero, List.set_cons_succ, rho0, List.length_cons, List.length_nil, List.replicate_succ, List.replicate_zero, List.cons_append, List.nil_append, List.append_eq, Nat.reduceAdd, Nat.reduceSub, wipeD, List.map_cons, List.map_nil]
  refine ⟨by decide, by decide, ?_⟩
  have hrest : ∃ rest : List (Int × Int × Int), rest.length ≤ 1 ∧ ∀ Q' : D → Sto → Prop, Q' (.lst (rest.map encO)) S3 → W (kMul (.lst [D.tup [.int p.1, .int p.2.1, .int (p.2.2 - (1 + r3))]]) (.int (if 1 + r3 < p.2.2 then 1 else 0)) S3) Q' := by
    split
    · exact ⟨[(p.1, p.2.1, p.2.2 - (1 + r3))], by simp, fun Q' h => by rw [W_mulL1]; exact h⟩
    · exact ⟨[], by simp, fun Q' h => by rw [W_mulL0]; exact h⟩
  obtain ⟨rest, hrl, hrest⟩ := hrest
  refine hrest _ ?_
  obtain ⟨ya, ea, la⟩ := cut_map (f := encO) deal none (some r1)
  obtain ⟨yb, eb, lb⟩ := cut_map (f := encO) deal (some (r1 + 1)) none
  simp only [W_dnewT, ea, eb, W_fz, W_ixO, ixN_30, ixN_31, ixN_32, W_seq, W_asg, W_expr, W_ret, W_sif, W_par, W_never, W_nil, W_c, W_e2, W_call, W_anil, W_acons, W_tup, W_lst, W_lstM, W_tV, W_and, W_or, W_not, W_bAnd, W_bOr, W_bNot, W_eif, W_isN, W_notN, W_fn, W_fnK, W_pt, W_for, W_iseq, W_ienum, W_izip, W_comp, W_compG, W_compM, W_kI, W_yes, W_addI, W_addL, W_addT, W_mulI, W_ltI, W_ixL, W_ixT, W_ixS, atI_0, atI_1, atI_2, atI_3, atI_4, W_len_L, W_len_T, W_len_S, W_sum, W_all, W_any, W_min2, W_max2, W_abs, W_intI, W_intB, W_tupT, W_tupL, W_listT, W_listL, W_sl, W_oN, W_oS, W_slT, W_slL, W_slS, W_r1, W_app, W_set, W_gm, W_g0, W_g1, W_isiI, W_isiT, W_isiL, W_e3, Ws_nx, Ws_rt, W_ok, true_and, and_true, if_true, if_false, List.append_nil, frOf_l, frOf_t, frOf_s, kn_t, kn_i, kn_b, kn_l, kn_s, kn_d, isa_tt, isa_ii, isa_ib, isa_ll, isa_lt, isa_tl, W_isiL2, W_isiT2, W_allT, W_sumI, W_allM, W_sumM, cut2, W_ltT2, W_neI, W_eqI, bindP, bindPs, List.map_cons, List.map_nil, decide_eq_true_eq, Bool.false_eq_true, Bool.not_true, Bool.not_false, Bool.and_eq_true, W_var, List.getElem?_cons_zero, List.getElem?_cons_succ, List.set_cons_zero, List.set_cons_succ, rho0, List.length_cons, List.length_nil, List.replicate_succ, List.replicate_zero, List.cons_append, List.nil_append, List.append_eq, Nat.reduceAdd, Nat.reduceSub, wipeD, List.map_cons, List.map_nil, List.length_map, List.length_append]
  have hj : S.m.length ≤ S3.next := by have := f.len; unfold Sto.next; omega
  have hne : S3.next ≠ k := by omega
  generalize hjj : S3.next = j at hj hne ⊢
  have ei : ya.map encO ++ rest.map encO ++ [D.tup [.int p.1, .int r2, .int (1 + r3)]] ++ yb.map encO = (ya ++ rest ++ [(p.1, r2, 1 + r3)] ++ yb).map encO := by simp [encO]
  refine ⟨by unfold line; omega, by decide, by decide, by unfold line; omega, by unfold line; omega, ?_⟩
  rw [ei]
  have hil : (ya ++ rest ++ [(p.1, r2, 1 + r3)] ++ yb).length ≤ 900 := by simp; omega
  generalize (ya ++ rest ++ [(p.1, r2, 1 + r3)] ++ yb) = items at hil ⊢
  refine W_loop (fun ds ρ S' => ∃ (its : List (Int × Int × Int)) (prs : List (Int × Int)) (vs : List Int) (x11 x12 x13 x14 : Option D), ds = its.map encO ∧ its.length + prs.length ≤ 900 ∧
    ρ = [some (.obj k), some (.tup (deal.map encO)), some (.lst (sent.map encO)), some (.int (1 + r3)), some (.lst (rest.map encO)), some (.obj j), some (.int r1), some (.int r2), some (.int p.1), some (.int p.2.1), some (.int p.2.2), x11, x12, x13, x14] ∧
    Fr S S' k ∧ S'.m[j]? = some (some (.dt (prs.map ky) (vs.map .int))) ∧ prs.length = vs.length) ⟨items, [], [], _, _, _, _, rfl, by simp; omega, rfl, f.push _, by rw [← hjj]; exact push_at, rfl⟩ ?_ ?_
  · rintro d ds ρ S4 ⟨its, prs, vs, x11, x12, x13, x14, ed, hlen, rfl, f4, hm, hpv⟩
    cases its with
    | nil => simp at ed
    | cons it its =>
      simp only [List.map_cons, List.cons.injEq] at ed
      obtain ⟨rfl, rfl⟩ := ed
      refine ⟨_, rfl, ?_⟩
      simp only [List.length_cons] at hlen
      have hdc : ∀ S', S'.m = S4.m → dcOf S' (.obj j) = some (.t (prs.map ky) (vs.map .int)) := fun S' e => by simp only [dcOf, e, hm]
      have hget : (Dc.t (prs.map ky) (vs.map D.int)).get (.tup [.int it.1, .int it.2.1]) = some ((getV (prs.map ky) vs (ky (it.1, it.2.1))).map D.int) := by
        rw [← getV_int]; rfl
      rw [W_dput]
      simp only [W_dget2, W_fz, W_ixO, ixN_30, ixN_31, ixN_32, W_seq, W_asg, W_expr, W_ret, W_sif, W_par, W_never, W_nil, W_c, W_e2, W_call, W_anil, W_acons, W_tup, W_lst, W_lstM, W_tV, W_and, W_or, W_not, W_bAnd, W_bOr, W_bNot, W_eif, W_isN, W_notN, W_fn, W_fnK, W_pt, W_for, W_iseq, W_ienum, W_izip, W_comp, W_compG, W_compM, W_kI, W_yes, W_addI, W_addL, W_addT, W_mulI, W_ltI, W_ixL, W_ixT, W_ixS, atI_0, atI_1, atI_2, atI_3, atI_4, W_len_L, W_len_T, W_len_S, W_sum, W_all, W_any, W_min2, W_max2, W_abs, W_intI, W_intB, W_tupT, W_tupL, W_listT, W_listL, W_sl, W_oN, W_oS, W_slT, W_slL, W_slS, W_r1, W_app, W_set, W_gm, W_g0, W_g1, W_isiI, W_isiT, W_isiL, W_e3, Ws_nx, Ws_rt, W_ok, true_and, and_true, if_true, if_false, List.append_nil, frOf_l, frOf_t, frOf_s, kn_t, kn_i, kn_b, kn_l, kn_s, kn_d, isa_tt, isa_ii, isa_ib, isa_ll, isa_lt, isa_tl, W_isiL2, W_isiT2, W_allT, W_sumI, W_allM, W_sumM, cut2, W_ltT2, W_neI, W_eqI, bindP, bindPs, List.map_cons, List.map_nil, decide_eq_true_eq, Bool.false_eq_true, Bool.not_true, Bool.not_false, Bool.and_eq_true, W_var, List.getElem?_cons_zero, List.getElem?_cons_succ, List.set_cons_zero, List.set_cons_succ, rho0, List.length_cons, List.length_nil, List.replicate_succ, List.replicate_zero, List.cons_append, List.nil_append, List.append_eq, Nat.reduceAdd, Nat.reduceSub, wipeD, List.map_cons, List.map_nil, hdc S4 rfl, hget, Option.isSome_some]
      obtain ⟨g, hg⟩ : ∃ g : Int, ((getV (prs.map ky) vs (ky (it.1, it.2.1))).map D.int).getD (.int 0) = .int g := by
        cases getV (prs.map ky) vs (ky (it.1, it.2.1)) with
        | none => exact ⟨0, rfl⟩
        | some v => exact ⟨v, rfl⟩
      rw [hg]
      simp only [W_fz, W_ixO, ixN_30, ixN_31, ixN_32, W_seq, W_asg, W_expr, W_ret, W_sif, W_par, W_never, W_nil, W_c, W_e2, W_call, W_anil, W_acons, W_tup, W_lst, W_lstM, W_tV, W_and, W_or, W_not, W_bAnd, W_bOr, W_bNot, W_eif, W_isN, W_notN, W_fn, W_fnK, W_pt, W_for, W_iseq, W_ienum, W_izip, W_comp, W_compG, W_compM, W_kI, W_yes, W_addI, W_addL, W_addT, W_mulI, W_ltI, W_ixL, W_ixT, W_ixS, atI_0, atI_1, atI_2, atI_3, atI_4, W_len_L, W_len_T, W_len_S, W_sum, W_all, W_any, W_min2, W_max2, W_abs, W_intI, W_intB, W_tupT, W_tupL, W_listT, W_listL, W_sl, W_oN, W_oS, W_slT, W_slL, W_slS, W_r1, W_app, W_set, W_gm, W_g0, W_g1, W_isiI, W_isiT, W_isiL, W_e3, Ws_nx, Ws_rt, W_ok, true_and, and_true, if_true, if_false, List.append_nil, frOf_l, frOf_t, frOf_s, kn_t, kn_i, kn_b, kn_l, kn_s, kn_d, isa_tt, isa_ii, isa_ib, isa_ll, isa_lt, isa_tl, W_isiL2, W_isiT2, W_allT, W_sumI, W_allM, W_sumM, cut2, W_ltT2, W_neI, W_eqI, bindP, bindPs, List.map_cons, List.map_nil, decide_eq_true_eq, Bool.false_eq_true, Bool.not_true, Bool.not_false, Bool.and_eq_true, W_var, List.getElem?_cons_zero, List.getElem?_cons_succ, List.set_cons_zero, List.set_cons_succ, rho0, List.length_cons, List.length_nil, List.replicate_succ, List.replicate_zero, List.cons_append, List.nil_append, List.append_eq, Nat.reduceAdd, Nat.reduceSub, wipeD, List.map_cons, List.map_nil, hdc S4 rfl]
      obtain ⟨prs', ep', lp'⟩ := putKs_ky prs (it.1, it.2.1)
      have hput : (Dc.t (prs.map ky) (vs.map D.int)).put (.tup [.int it.1, .int it.2.1]) (.int (g + it.2.2)) = some ((prs.map ky).length, .dt (prs'.map ky) ((putVs (prs.map ky) vs (ky (it.1, it.2.1)) (g + it.2.2)).map .int)) := by
        rw [← ep', ← putVs_int]; rfl
      rw [hput]
      simp only [List.length_map]
      refine ⟨by decide, by decide, by unfold line; omega, its, prs', putVs (prs.map ky) vs (ky (it.1, it.2.1)) (g + it.2.2), _, _, _, _, rfl, by omega, rfl, f4.putO hj hk _, ?_, ?_⟩
      · rw [put_m, List.getElem?_set_self (List.getElem?_eq_some_iff.mp hm).1]
      · have := put_len (prs.map ky) vs (ky (it.1, it.2.1)) (g + it.2.2) (by simpa using hpv)
        rw [ep'] at this
        simpa using this
  · rintro ρ S4 ⟨its, prs, vs, x11, x12, x13, x14, ed, hlen, rfl, f4, hm, hpv⟩
    have hdc : ∀ S', S'.m = S4.m → dcOf S' (.obj j) = some (.t (prs.map ky) (vs.map .int)) := fun S' e => by simp only [dcOf, e, hm]
    simp only [W_fz, W_ixO, ixN_30, ixN_31, ixN_32, W_seq, W_asg, W_expr, W_ret, W_sif, W_par, W_never, W_nil, W_c, W_e2, W_call, W_anil, W_acons, W_tup, W_lst, W_lstM, W_tV, W_and, W_or, W_not, W_bAnd, W_bOr, W_bNot, W_eif, W_isN, W_notN, W_fn, W_fnK, W_pt, W_for, W_iseq, W_ienum, W_izip, W_comp, W_compG, W_compM, W_kI, W_yes, W_addI, W_addL, W_addT, W_mulI, W_ltI, W_ixL, W_ixT, W_ixS, atI_0, atI_1, atI_2, atI_3, atI_4, W_len_L, W_len_T, W_len_S, W_sum, W_all, W_any, W_min2, W_max2, W_abs, W_intI, W_intB, W_tupT, W_tupL, W_listT, W_listL, W_sl, W_oN, W_oS, W_slT, W_slL, W_slS, W_r1, W_app, W_set, W_gm, W_g0, W_g1, W_isiI, W_isiT, W_isiL, W_e3, Ws_nx, Ws_rt, W_ok, true_and, and_true, if_true, if_false, List.append_nil, frOf_l, frOf_t, frOf_s, kn_t, kn_i, kn_b, kn_l, kn_s, kn_d, isa_tt, isa_ii, isa_ib, isa_ll, isa_lt, isa_tl, W_isiL2, W_isiT2, W_allT, W_sumI, W_allM, W_sumM, cut2, W_ltT2, W_neI, W_eqI, bindP, bindPs, List.map_cons, List.map_nil, decide_eq_true_eq, Bool.false_eq_true, Bool.not_true, Bool.not_false, Bool.and_eq_true, W_var, List.getElem?_cons_zero, List.getElem?_cons_succ, List.set_cons_zero, List.set_cons_succ, rho0, List.length_cons, List.length_nil, List.replicate_succ, List.replicate_zero, List.cons_append, List.nil_append, List.append_eq, Nat.reduceAdd, Nat.reduceSub, wipeD, List.map_cons, List.map_nil]
    have hso' : sortOkB ((prs.map ky).map keyData) = true := by
      rw [keyData_ky]
      exact sortOk_encT fun x hx => by
        rw [List.mem_map] at hx
        obtain ⟨p, _, rfl⟩ := hx
        simp
    have hW : ∀ Q' : D → Sto → Prop, Q' (.lst (((prs.map ky).map keyD).mergeSort leD)) S4 → W (kSortDT [.obj j] S4) Q' := fun Q' h => by
      show W (match dcOf S4 (.obj j) with
        | some (.t ks ds) => chk (sortOkB (ks.map keyData)) (.ok (.lst ((ks.map keyD).mergeSort leD)) S4)
        | _ => .no) Q'
      rw [hdc S4 rfl]
      simp only
      rw [W_chk]
      exact ⟨hso', h⟩
    refine hW _ ?_
    simp only [W_fz, W_ixO, ixN_30, ixN_31, ixN_32, W_seq, W_asg, W_expr, W_ret, W_sif, W_par, W_never, W_nil, W_c, W_e2, W_call, W_anil, W_acons, W_tup, W_lst, W_lstM, W_tV, W_and, W_or, W_not, W_bAnd, W_bOr, W_bNot, W_eif, W_isN, W_notN, W_fn, W_fnK, W_pt, W_for, W_iseq, W_ienum, W_izip, W_comp, W_compG, W_compM, W_kI, W_yes, W_addI, W_addL, W_addT, W_mulI, W_ltI, W_ixL, W_ixT, W_ixS, atI_0, atI_1, atI_2, atI_3, atI_4, W_len_L, W_len_T, W_len_S, W_sum, W_all, W_any, W_min2, W_max2, W_abs, W_intI, W_intB, W_tupT, W_tupL, W_listT, W_listL, W_sl, W_oN, W_oS, W_slT, W_slL, W_slS, W_r1, W_app, W_set, W_gm, W_g0, W_g1, W_isiI, W_isiT, W_isiL, W_e3, Ws_nx, Ws_rt, W_ok, true_and, and_true, if_true, if_false, List.append_nil, frOf_l, frOf_t, frOf_s, kn_t, kn_i, kn_b, kn_l, kn_s, kn_d, isa_tt, isa_ii, isa_ib, isa_ll, isa_lt, isa_tl, W_isiL2, W_isiT2, W_allT, W_sumI, W_allM, W_sumM, cut2, W_ltT2, W_neI, W_eqI, bindP, bindPs, List.map_cons, List.map_nil, decide_eq_true_eq, Bool.false_eq_true, Bool.not_true, Bool.not_false, Bool.and_eq_true, W_var, List.getElem?_cons_zero, List.getElem?_cons_succ, List.set_cons_zero, List.set_cons_succ, rho0, List.length_cons, List.length_nil, List.replicate_succ, List.replicate_zero, List.cons_append, List.nil_append, List.append_eq, Nat.reduceAdd, Nat.reduceSub, wipeD, List.map_cons, List.map_nil]
    have hpm : (((prs.map ky).map keyD).mergeSort leD).Perm ((prs.map ky).map keyD) := List.mergeSort_perm _ _
    have hlp := hpm.length_eq
    simp only [List.length_map] at hlp
    refine ⟨by rw [hlp]; unfold line; omega, W_compI (fun ds acc S' => S' = S4 ∧ (∀ d ∈ ds, ∃ p ∈ prs, d = encT [p.1, p.2]) ∧ (∀ x ∈ acc, dtD x = true) ∧ acc.length + ds.length ≤ 900) ⟨rfl, fun d hd => ?_, fun x h => by simp at h, by simp; omega⟩ ?_ ?_⟩
    · have := hpm.mem_iff.mp hd
      rw [List.map_map, List.mem_map] at this
      obtain ⟨p, hp', rfl⟩ := this
      exact ⟨p, hp', rfl⟩
    · rintro d ds acc S' ⟨rfl, hds, hacc, hl'⟩
      obtain ⟨p', hp', rfl⟩ := hds d List.mem_cons_self
      refine ⟨_, rfl, ?_⟩
      obtain ⟨v, hv⟩ := getV_mem (prs.map ky) vs (ky p') (List.mem_map.mpr ⟨p', hp', rfl⟩) (by simpa using hpv)
      have hix : ∀ Q' : D → Sto → Prop, Q' (.int v) S' → W (kDIx (.obj j) (encT [p'.1, p'.2]) S') Q' := fun Q' h => by
        have hget : (Dc.t (prs.map ky) (vs.map D.int)).get (encT [p'.1, p'.2]) = some (some (.int v)) := by
          show some (getV (prs.map ky) (vs.map D.int) (ky p')) = _
          rw [getV_int, hv]; rfl
        unfold kDIx
        rw [hdc S' rfl]
        simp only [hget]
        exact h
      show W (Qd.e2 kAdd (eVar 14) (eTup (aCons (Qd.e2 kDIx (eVar 5) (eVar 14)) aNil)) _ S') _
      simp only [W_fz, W_ixO, ixN_30, ixN_31, ixN_32, W_seq, W_asg, W_expr, W_ret, W_sif, W_par, W_never, W_nil, W_c, W_e2, W_call, W_anil, W_acons, W_tup, W_lst, W_lstM, W_tV, W_and, W_or, W_not, W_bAnd, W_bOr, W_bNot, W_eif, W_isN, W_notN, W_fn, W_fnK, W_pt, W_for, W_iseq, W_ienum, W_izip, W_comp, W_compG, W_compM, W_kI, W_yes, W_addI, W_addL, W_addT, W_mulI, W_ltI, W_ixL, W_ixT, W_ixS, atI_0, atI_1, atI_2, atI_3, atI_4, W_len_L, W_len_T, W_len_S, W_sum, W_all, W_any, W_min2, W_max2, W_abs, W_intI, W_intB, W_tupT, W_tupL, W_listT, W_listL, W_sl, W_oN, W_oS, W_slT, W_slL, W_slS, W_r1, W_app, W_set, W_gm, W_g0, W_g1, W_isiI, W_isiT, W_isiL, W_e3, Ws_nx, Ws_rt, W_ok, true_and, and_true, if_true, if_false, List.append_nil, frOf_l, frOf_t, frOf_s, kn_t, kn_i, kn_b, kn_l, kn_s, kn_d, isa_tt, isa_ii, isa_ib, isa_ll, isa_lt, isa_tl, W_isiL2, W_isiT2, W_allT, W_sumI, W_allM, W_sumM, cut2, W_ltT2, W_neI, W_eqI, bindP, bindPs, List.map_cons, List.map_nil, decide_eq_true_eq, Bool.false_eq_true, Bool.not_true, Bool.not_false, Bool.and_eq_true, W_var, List.getElem?_cons_zero, List.getElem?_cons_succ, List.set_cons_zero, List.set_cons_succ, rho0, List.length_cons, List.length_nil, List.replicate_succ, List.replicate_zero, List.cons_append, List.nil_append, List.append_eq, Nat.reduceAdd, Nat.reduceSub, wipeD, List.map_cons, List.map_nil]
      refine hix _ ?_
      simp only [W_fz, W_ixO, ixN_30, ixN_31, ixN_32, W_seq, W_asg, W_expr, W_ret, W_sif, W_par, W_never, W_nil, W_c, W_e2, W_call, W_anil, W_acons, W_tup, W_lst, W_lstM, W_tV, W_and, W_or, W_not, W_bAnd, W_bOr, W_bNot, W_eif, W_isN, W_notN, W_fn, W_fnK, W_pt, W_for, W_iseq, W_ienum, W_izip, W_comp, W_compG, W_compM, W_kI, W_yes, W_addI, W_addL, W_addT, W_mulI, W_ltI, W_ixL, W_ixT, W_ixS, atI_0, atI_1, atI_2, atI_3, atI_4, W_len_L, W_len_T, W_len_S, W_sum, W_all, W_any, W_min2, W_max2, W_abs, W_intI, W_intB, W_tupT, W_tupL, W_listT, W_listL, W_sl, W_oN, W_oS, W_slT, W_slL, W_slS, W_r1, W_app, W_set, W_gm, W_g0, W_g1, W_isiI, W_isiT, W_isiL, W_e3, Ws_nx, Ws_rt, W_ok, true_and, and_true, if_true, if_false, List.append_nil, frOf_l, frOf_t, frOf_s, kn_t, kn_i, kn_b, kn_l, kn_s, kn_d, isa_tt, isa_ii, isa_ib, isa_ll, isa_lt, isa_tl, W_isiL2, W_isiT2, W_allT, W_sumI, W_allM, W_sumM, cut2, W_ltT2, W_neI, W_eqI, bindP, bindPs, List.map_cons, List.map_nil, decide_eq_true_eq, Bool.false_eq_true, Bool.not_true, Bool.not_false, Bool.and_eq_true, W_var, List.getElem?_cons_zero, List.getElem?_cons_succ, List.set_cons_zero, List.set_cons_succ, rho0, List.length_cons, List.length_nil, List.replicate_succ, List.replicate_zero, List.cons_append, List.nil_append, List.append_eq, Nat.reduceAdd, Nat.reduceSub, wipeD, List.map_cons, List.map_nil, encT]
      refine ⟨by decide, by decide, fun d hd => hds d (List.mem_cons_of_mem _ hd), fun x hx => ?_, by simp at hl' ⊢; omega⟩
      rcases List.mem_append.mp hx with hx | hx
      · exact hacc x hx
      · rw [List.mem_singleton] at hx; subst hx; rfl
    · rintro acc S' ⟨rfl, hds, hacc, hl'⟩
      exact q _ _ (thing_tup hacc (by simp at hl'; omega)) (f4.back hk)
end K16


namespace K16
open PySem L2 Qd

theorem sum_add (l : List Nat) (f g : Nat → Int) : (l.map fun i => f i + g i).sum = (l.map f).sum + (l.map g).sum := by
  induction l with
  | nil => rfl
  | cons x l ih => simp only [List.map_cons, List.sum_cons, ih]; omega
theorem sum_one : ∀ (n k : Nat) (v : Int), k < n → ((List.range n).map fun i : Nat => if (k : Int) = (i : Int) then v else 0).sum = v
  | 0, _, _, h => by omega
  | n + 1, k, v, h => by
    rw [List.range_succ, List.map_append, List.sum_append]
    by_cases e : k = n
    · subst e
      have z : ∀ m : Nat, m ≤ k → ((List.range m).map fun i : Nat => if (k : Int) = (i : Int) then v else 0).sum = 0 := fun m => by
        induction m with
        | zero => intro _; rfl
        | succ m ih =>
          intro hm
          rw [List.range_succ, List.map_append, List.sum_append, ih (by omega)]
          simp; omega
      rw [z k (Nat.le_refl _)]; simp
    · rw [sum_one n k v (by omega)]
      simp; omega
theorem Fr.of_m {S S' S'' : Sto} {k : Nat} (h : Fr S S' k) (e : S''.m = S'.m) : Fr S S'' k := ⟨by rw [e]; exact h.len, fun j l q => by rw [e]; exact h.at_ j l q, by unfold Pu; rw [e]; exact h.pu⟩
theorem ranks_W {S : Sto} {k : Nat} {sent : List (Int × Int × Int)} {Q : D → Sto → Prop} (hp : Pu S k) (hls : sent.length ≤ 19) (q : ∀ (xs : List Int) S', xs.length = sent.length → Fr S S' k → Q (.lst (xs.map .int)) S') :
    W (m_law_any_ranks [.obj k, .lst (sent.map encO)] S) Q := by
  have hl := hp.lt
  unfold m_law_any_ranks
  rw [W_run]
  unfold b_law_any_ranks
  simp only [W_fz, W_ixO, ixN_30, ixN_31, ixN_32, W_seq, W_asg, W_expr, W_ret, W_sif, W_par, W_never, W_nil, W_c, W_e2, W_call, W_anil, W_acons, W_tup, W_lst, W_lstM, W_tV, W_and, W_or, W_not, W_bAnd, W_bOr, W_bNot, W_eif, W_isN, W_notN, W_fn, W_fnK, W_pt, W_for, W_iseq, W_ienum, W_izip, W_comp, W_compG, W_compM, W_kI, W_yes, W_addI, W_addL, W_addT, W_mulI, W_ltI, W_ixL, W_ixT, W_ixS, atI_0, atI_1, atI_2, atI_3, atI_4, W_len_L, W_len_T, W_len_S, W_sum, W_all, W_any, W_min2, W_max2, W_abs, W_intI, W_intB, W_tupT, W_tupL, W_listT, W_listL, W_sl, W_oN, W_oS, W_slT, W_slL, W_slS, W_r1, W_app, W_set, W_gm, W_g0, W_g1, W_isiI, W_isiT, W_isiL, W_e3, Ws_nx, Ws_rt, W_ok, true_and, and_true, if_true, if_false, List.append_nil, frOf_l, frOf_t, frOf_s, kn_t, kn_i, kn_b, kn_l, kn_s, kn_d, isa_tt, isa_ii, isa_ib, isa_ll, isa_lt, isa_tl, W_isiL2, W_isiT2, W_allT, W_sumI, W_allM, W_sumM, cut2, W_ltT2, W_neI, W_eqI, bindP, bindPs, List.map_cons, List.map_nil, decide_eq_true_eq, Bool.false_eq_true, Bool.not_true, Bool.not_false, Bool.and_eq_true, W_var, List.getElem?_cons_zero, List.getElem?_cons_succ, List.set_cons_zero, List.set_cons_succ, rho0, List.length_cons, List.length_nil, List.replicate_succ, List.replicate_zero, List.cons_append, List.nil_append, List.append_eq, Nat.reduceAdd, Nat.reduceSub, wipeD, List.map_cons, List.map_nil, List.length_map]
  refine ⟨by unfold line; omega, W_compI (fun ds acc S' => ∃ xs : List Int, acc = xs.map .int ∧ xs.length + ds.length = sent.length ∧ Fr S S' k) ⟨[], rfl, by simp, Fr.refl hp⟩ ?_ ?_⟩
  · rintro d ds acc S' ⟨xs, rfl, hl', f'⟩
    refine ⟨_, rfl, ?_⟩
    show W (eFn m_law_take (aCons (eVar 0) (aCons (eC (.int 4)) aNil)) [] _ S') _
    simp only [W_fz, W_ixO, ixN_30, ixN_31, ixN_32, W_seq, W_asg, W_expr, W_ret, W_sif, W_par, W_never, W_nil, W_c, W_e2, W_call, W_anil, W_acons, W_tup, W_lst, W_lstM, W_tV, W_and, W_or, W_not, W_bAnd, W_bOr, W_bNot, W_eif, W_isN, W_notN, W_fn, W_fnK, W_pt, W_for, W_iseq, W_ienum, W_izip, W_comp, W_compG, W_compM, W_kI, W_yes, W_addI, W_addL, W_addT, W_mulI, W_ltI, W_ixL, W_ixT, W_ixS, atI_0, atI_1, atI_2, atI_3, atI_4, W_len_L, W_len_T, W_len_S, W_sum, W_all, W_any, W_min2, W_max2, W_abs, W_intI, W_intB, W_tupT, W_tupL, W_listT, W_listL, W_sl, W_oN, W_oS, W_slT, W_slL, W_slS, W_r1, W_app, W_set, W_gm, W_g0, W_g1, W_isiI, W_isiT, W_isiL, W_e3, Ws_nx, Ws_rt, W_ok, true_and, and_true, if_true, if_false, List.append_nil, frOf_l, frOf_t, frOf_s, kn_t, kn_i, kn_b, kn_l, kn_s, kn_d, isa_tt, isa_ii, isa_ib, isa_ll, isa_lt, isa_tl, W_isiL2, W_isiT2, W_allT, W_sumI, W_allM, W_sumM, cut2, W_ltT2, W_neI, W_eqI, bindP, bindPs, List.map_cons, List.map_nil, decide_eq_true_eq, Bool.false_eq_true, Bool.not_true, Bool.not_false, Bool.and_eq_true, W_var, List.getElem?_cons_zero, List.getElem?_cons_succ, List.set_cons_zero, List.set_cons_succ, rho0, List.length_cons, List.length_nil, List.replicate_succ, List.replicate_zero, List.cons_append, List.nil_append, List.append_eq, Nat.reduceAdd, Nat.reduceSub, wipeD, List.map_cons, List.map_nil]
    refine take_W f'.pu (by decide) (by decide) fun r S8 a8 b8 f8 => ⟨xs ++ [r], by simp, by simp at hl' ⊢; omega, f'.trans f8⟩
  · rintro acc S' ⟨xs, rfl, hl', f'⟩
    exact q xs _ (by simpa using hl') (f'.back hl)
theorem total_le {sent : List (Int × Int × Int)} : ∀ (deal : List (Int × Int × Int)), (∀ p ∈ deal, ∃ k : Nat, p.2.1 = k ∧ k < sent.length) → ((List.range sent.length).map fun i => sumK deal ((i : Nat) : Int)).sum = total deal
  | [], _ => by
    have : ∀ l : List Nat, (l.map fun i => sumK [] ((i : Nat) : Int)).sum = 0 := fun l => by
      induction l with
      | nil => rfl
      | cons x l ih => simp only [List.map_cons, List.sum_cons, ih]; simp [sumK]
    rw [this]; rfl
  | p :: deal, h => by
    have ih := total_le deal fun q hq => h q (List.mem_cons_of_mem _ hq)
    obtain ⟨k, e1, e2⟩ := h p List.mem_cons_self
    have e : ∀ j : Int, sumK (p :: deal) j = (if (k : Int) = j then p.2.2 else 0) + sumK deal j := fun j => by
      unfold sumK
      by_cases e : p.2.1 = j
      · rw [if_pos (by omega), List.filter_cons_of_pos (by simpa using e)]; simp
      · rw [if_neg (by omega), List.filter_cons_of_neg (by simpa using e)]; simp
    rw [List.map_congr_left fun i _ => e _, sum_add, sum_one _ _ _ e2, ih]
    unfold total; simp
theorem sumB_swap (deal : List (Int × Int × Int)) (b : Int) : sumB deal b = sumK (deal.map fun p => (p.2.1, p.1, p.2.2)) b := by
  unfold sumB sumK
  rw [List.filter_map, List.map_map]; rfl
theorem sumB_le (deal : List (Int × Int × Int)) (n : Nat) (h : ∀ p ∈ deal, 0 ≤ p.2.2) : ((List.range n).map fun b => sumB deal ((b : Nat) : Int)).sum ≤ total deal := by
  have := sumK_le (deal.map fun p => (p.2.1, p.1, p.2.2)) (List.range n) (fun p hp => by
    rw [List.mem_map] at hp
    obtain ⟨q, hq, rfl⟩ := hp
    exact h q hq) List.nodup_range
  rw [show total (deal.map fun p => (p.2.1, p.1, p.2.2)) = total deal by unfold total; rw [List.map_map]; rfl] at this
  rw [List.map_congr_left fun b _ => sumB_swap deal _]
  exact this
theorem sum_mono (l : List Nat) (f g : Nat → Int) (h : ∀ i ∈ l, f i ≤ g i) : (l.map f).sum ≤ (l.map g).sum := by
  induction l with
  | nil => exact Int.le_refl _
  | cons x l ih =>
    simp only [List.map_cons, List.sum_cons]
    have := h x List.mem_cons_self
    have := ih fun i hi => h i (List.mem_cons_of_mem _ hi)
    omega
def totS (sent : List (Int × Int × Int)) : Int := (sent.map fun r => r.2.1).sum
def totC (came : List (Int × Int)) : Int := (came.map fun r => r.2).sum
theorem good_total {sent deal : List (Int × Int × Int)} {came : List (Int × Int)} (h : Good sent came deal) : totC came ≤ totS sent := by
  have h1 := total_le (sent := sent) deal fun p hp => by
    obtain ⟨_, k, _, e, _, hk, _⟩ := h.key p hp
    exact ⟨k, e, hk⟩
  have h2 := sumB_le deal came.length fun p hp => by
    obtain ⟨_, _, _, _, _, _, h5, _⟩ := h.key p hp
    omega
  have h3 : totC came = ((List.range came.length).map fun b => sumB deal ((b : Nat) : Int)).sum := by
    unfold totC
    conv => lhs; rw [← range_get came (0, 0)]
    rw [List.map_map]
    congr 1
    apply List.map_congr_left
    intro b hb
    exact (h.back b (List.mem_range.mp hb)).symm
  have h4 : totS sent = ((List.range sent.length).map fun k => cap sent k).sum := by
    unfold totS
    conv => lhs; rw [← range_get sent (0, 0, 0)]
    rw [List.map_map]; rfl
  have h5 := sum_mono (List.range sent.length) (fun i => sumK deal ((i : Nat) : Int)) (fun i => cap sent i) fun i hi => h.free i (List.mem_range.mp hi)
  rw [h1] at h5
  omega
theorem avail_tot {sent : List (Int × Int × Int)} (ho : OutsOk sent) (w : Int) : avail sent w ≤ totS sent := by
  unfold avail totS
  have hn : ∀ r ∈ sent, 0 ≤ r.2.1 := fun r hr => by have := ho.row r hr; omega
  clear ho
  induction sent with
  | nil => simp
  | cons r sent ih =>
    have := hn r List.mem_cons_self
    have ih := ih fun r' hr' => hn r' (List.mem_cons_of_mem _ hr')
    by_cases e : r.1 ≤ w
    · rw [List.filter_cons_of_pos (by simpa using e)]
      simp only [List.map_cons, List.sum_cons]; omega
    · rw [List.filter_cons_of_neg (by simpa using e)]
      simp only [List.map_cons, List.sum_cons]; omega
theorem totC_le {sent : List (Int × Int × Int)} {came : List (Int × Int)} {gone least : Int} (ho : OutsOk sent) (hb : BacksOk sent came gone least) : totC came ≤ totS sent := by
  rcases List.eq_nil_or_concat came with rfl | ⟨pre, b, rfl⟩
  · have : 0 ≤ totS sent := sum_nonneg _ fun x hx => by
      rw [List.mem_map] at hx
      obtain ⟨r, hr, rfl⟩ := hx
      have := ho.row r hr; omega
    simpa [totC] using this
  · have h1 := hb.have_ pre b [] (by simp)
    have h2 := avail_tot ho b.1
    unfold totC
    simp
    omega
theorem backs_rows {sent : List (Int × Int × Int)} {came : List (Int × Int)} {gone least : Int} (hb : BacksOk sent came gone least) (hl : came.length ≤ 18) (hle : least ≤ 9999) : RowsOk came := ⟨by omega, hb.day, fun r hr => by have := hb.row r hr; omega⟩
theorem good_of {sent : List (Int × Int × Int)} {came : List (Int × Int)} {deal : List (Int × Int × Int)} (hd : DealOk sent came deal) : Good sent came deal := by
  refine ⟨fun p hp => ?_, fun i hi => ?_, hd.back, hd.inv.free⟩
  · obtain ⟨b, k, e1, e2, h1, h2, h3, h4, h5⟩ := hd.inv.key p hp
    exact ⟨b, k, e1, e2, h1, h2, h3, h5⟩
  · have := List.pairwise_iff_getElem.mp hd.srt i (i + 1) (by omega) (by omega) (by omega)
    rw [getD_get _ (by omega : i < deal.length), getD_get _ (by omega : i + 1 < deal.length)]
    exact this
theorem W_maxL {xs : List Int} {S : Sto} {Q : D → Sto → Prop} (hx : xs ≠ []) (q : ∀ m, m ∈ xs → (∀ y ∈ xs, y ≤ m) → Q (.int m) S) : W (kMaxL [.lst (xs.map .int)] S) Q := by
  cases xs with
  | nil => exact absurd rfl hx
  | cons n r =>
    show W (match (some ((n :: r).map D.int)).bind intsD with
      | some (n :: r) => .ok (.int (maxI n r)) S
      | _ => .no) Q
    rw [Option.bind_some, intsD_map]
    refine q _ (maxI_mem n r) fun y hy => ?_
    obtain ⟨h1, h2⟩ := maxI_ge n r
    rcases List.mem_cons.mp hy with rfl | hy
    · exact h1
    · exact h2 y hy
end K16


namespace K16
open PySem L2 Qd

theorem fr_dropless {S S' : Sto} {k : Nat} (h : Fr S S' k) (hk : k < S.m.length) : Fr S (S'.back S.m.length) k := h.back hk
def hdD : D → D
  | .tup (x :: _) => x
  | _ => .non
theorem isa_bb : isaB "bool" "bool" = true := by decide
theorem right_W {S : Sto} {k : Nat} {Q : D → Sto → Prop} (h : Pu S k) (q : ∀ S', Q (.bl true) S') : W (m_law_right [.obj k] S) Q := by
  unfold m_law_right
  rw [W_run]
  unfold b_law_right
  simp only [W_fz, W_ixO, ixN_30, ixN_31, ixN_32, W_seq, W_asg, W_expr, W_ret, W_sif, W_par, W_never, W_nil, W_c, W_e2, W_call, W_anil, W_acons, W_tup, W_lst, W_lstM, W_tV, W_and, W_or, W_not, W_bAnd, W_bOr, W_bNot, W_eif, W_isN, W_notN, W_fn, W_fnK, W_pt, W_for, W_iseq, W_ienum, W_izip, W_comp, W_compG, W_compM, W_kI, W_yes, W_addI, W_addL, W_addT, W_mulI, W_ltI, W_ixL, W_ixT, W_ixS, atI_0, atI_1, atI_2, atI_3, atI_4, W_len_L, W_len_T, W_len_S, W_sum, W_all, W_any, W_min2, W_max2, W_abs, W_intI, W_intB, W_tupT, W_tupL, W_listT, W_listL, W_sl, W_oN, W_oS, W_slT, W_slL, W_slS, W_r1, W_app, W_set, W_gm, W_g0, W_g1, W_isiI, W_isiT, W_isiL, W_e3, Ws_nx, Ws_rt, W_ok, true_and, and_true, if_true, if_false, List.append_nil, frOf_l, frOf_t, frOf_s, kn_t, kn_i, kn_b, kn_l, kn_s, kn_d, isa_tt, isa_ii, isa_ib, isa_ll, isa_lt, isa_tl, W_isiL2, W_isiT2, W_allT, W_sumI, W_allM, W_sumM, cut2, W_ltT2, W_neI, W_eqI, bindP, bindPs, List.map_cons, List.map_nil, decide_eq_true_eq, Bool.false_eq_true, Bool.not_true, Bool.not_false, Bool.and_eq_true, W_var, List.getElem?_cons_zero, List.getElem?_cons_succ, List.set_cons_zero, List.set_cons_succ, rho0, List.length_cons, List.length_nil, List.replicate_succ, List.replicate_zero, List.cons_append, List.nil_append, List.append_eq, Nat.reduceAdd, Nat.reduceSub, wipeD, List.map_cons, List.map_nil]
  refine ⟨by decide, take_W h (by decide) (by decide) fun r1 S1 a1 b1 f1 => ?_⟩
  rw [W_eqI]
  simp only [W_fz, W_ixO, ixN_30, ixN_31, ixN_32, W_seq, W_asg, W_expr, W_ret, W_sif, W_par, W_never, W_nil, W_c, W_e2, W_call, W_anil, W_acons, W_tup, W_lst, W_lstM, W_tV, W_and, W_or, W_not, W_bAnd, W_bOr, W_bNot, W_eif, W_isN, W_notN, W_fn, W_fnK, W_pt, W_for, W_iseq, W_ienum, W_izip, W_comp, W_compG, W_compM, W_kI, W_yes, W_addI, W_addL, W_addT, W_mulI, W_ltI, W_ixL, W_ixT, W_ixS, atI_0, atI_1, atI_2, atI_3, atI_4, W_len_L, W_len_T, W_len_S, W_sum, W_all, W_any, W_min2, W_max2, W_abs, W_intI, W_intB, W_tupT, W_tupL, W_listT, W_listL, W_sl, W_oN, W_oS, W_slT, W_slL, W_slS, W_r1, W_app, W_set, W_gm, W_g0, W_g1, W_isiI, W_isiT, W_isiL, W_e3, Ws_nx, Ws_rt, W_ok, true_and, and_true, if_true, if_false, List.append_nil, frOf_l, frOf_t, frOf_s, kn_t, kn_i, kn_b, kn_l, kn_s, kn_d, isa_tt, isa_ii, isa_ib, isa_ll, isa_lt, isa_tl, W_isiL2, W_isiT2, W_allT, W_sumI, W_allM, W_sumM, cut2, W_ltT2, W_neI, W_eqI, bindP, bindPs, List.map_cons, List.map_nil, decide_eq_true_eq, Bool.false_eq_true, Bool.not_true, Bool.not_false, Bool.and_eq_true, W_var, List.getElem?_cons_zero, List.getElem?_cons_succ, List.set_cons_zero, List.set_cons_succ, rho0, List.length_cons, List.length_nil, List.replicate_succ, List.replicate_zero, List.cons_append, List.nil_append, List.append_eq, Nat.reduceAdd, Nat.reduceSub, wipeD, List.map_cons, List.map_nil]
  have hmost : ∃ m : Int, atI [D.int 7, D.int 19] (if r1 = 3 then 1 else 0) = some (.int m) ∧ 7 ≤ m ∧ m ≤ 19 := by
    split
    · exact ⟨19, atI_1, by decide, by decide⟩
    · exact ⟨7, atI_0, by decide, by decide⟩
  obtain ⟨most, em, hm1, hm2⟩ := hmost
  rw [em]
  simp only
  refine ⟨by decide, take_W f1.pu (by decide) (by decide) fun r2 S2 a2 b2 f2 => W_pickI (xs := [4, 40, 999]) (fun x => 1 ≤ x ∧ x ≤ 999) (by simp) a2 b2 fun much hmu => take_W f2.pu (by decide) (by decide) fun way S2' a2' b2' f2' => ?_⟩
  refine take_W f2'.pu (by omega) (by omega) fun r3 S3 a3 b3 f3 => outs_W f3.pu a3 (by omega) hmu.1 (by omega) fun sent S4 hso hmuch f4 => ?_
  refine take_W f4.pu (by omega) (by omega) fun r5 S5 a5 b5 f5 => backs_W f5.pu hso a5 (by omega) fun came gone least S6 hlc hle hbo f6 => ?_
  have hls := hso.len
  refine ranks_W f6.pu hls fun ranks S7 hrl f7 => dealt_W hso hbo hlc hrl fun deal S8 hdl hd e8 => ?_
  have f8 := (f7.of_m e8)
  have f := ((((((f1.trans f2).trans f2').trans f3).trans f4).trans f5).trans f6).trans f8
  have hrows := backs_rows hbo hlc hle
  refine moved_W f.pu hso hd hdl fun mv S9 hmv f9 => ?_
  have hth : Thing (.tup (deal.map encO)) := thing_tup (fun x hx => by
    rw [List.mem_map] at hx
    obtain ⟨p, _, rfl⟩ := hx
    rfl) (by simp; omega)
  have hdd : ddD 3 (.tup (deal.map encO)) := .inr ⟨_, rfl, by simp; omega, fun x hx => by
    rw [List.mem_map] at hx
    obtain ⟨p, _, rfl⟩ := hx
    exact .inr ⟨_, rfl, by simp, fun y hy => by
      simp only [List.mem_cons, List.not_mem_nil, or_false] at hy
      rcases hy with rfl | rfl | rfl <;> exact .inl ⟨_, rfl⟩⟩⟩
  simp only [W_fz, W_ixO, ixN_30, ixN_31, ixN_32, W_seq, W_asg, W_expr, W_ret, W_sif, W_par, W_never, W_nil, W_c, W_e2, W_call, W_anil, W_acons, W_tup, W_lst, W_lstM, W_tV, W_and, W_or, W_not, W_bAnd, W_bOr, W_bNot, W_eif, W_isN, W_notN, W_fn, W_fnK, W_pt, W_for, W_iseq, W_ienum, W_izip, W_comp, W_compG, W_compM, W_kI, W_yes, W_addI, W_addL, W_addT, W_mulI, W_ltI, W_ixL, W_ixT, W_ixS, atI_0, atI_1, atI_2, atI_3, atI_4, W_len_L, W_len_T, W_len_S, W_sum, W_all, W_any, W_min2, W_max2, W_abs, W_intI, W_intB, W_tupT, W_tupL, W_listT, W_listL, W_sl, W_oN, W_oS, W_slT, W_slL, W_slS, W_r1, W_app, W_set, W_gm, W_g0, W_g1, W_isiI, W_isiT, W_isiL, W_e3, Ws_nx, Ws_rt, W_ok, true_and, and_true, if_true, if_false, List.append_nil, frOf_l, frOf_t, frOf_s, kn_t, kn_i, kn_b, kn_l, kn_s, kn_d, isa_tt, isa_ii, isa_ib, isa_ll, isa_lt, isa_tl, W_isiL2, W_isiT2, W_allT, W_sumI, W_allM, W_sumM, cut2, W_ltT2, W_neI, W_eqI, bindP, bindPs, List.map_cons, List.map_nil, decide_eq_true_eq, Bool.false_eq_true, Bool.not_true, Bool.not_false, Bool.and_eq_true, W_var, List.getElem?_cons_zero, List.getElem?_cons_succ, List.set_cons_zero, List.set_cons_succ, rho0, List.length_cons, List.length_nil, List.replicate_succ, List.replicate_zero, List.cons_append, List.nil_append, List.append_eq, Nat.reduceAdd, Nat.reduceSub, wipeD, List.map_cons, List.map_nil]
  refine ⟨by decide, by decide, by decide, W_compI (fun ds acc S' => (∀ x ∈ acc, Thing x) ∧ acc.length + ds.length ≤ 6 ∧ Fr S S' k) ⟨fun x h => by simp at h, by simp [rangeD], f.trans f9⟩ ?_ ?_⟩
  · rintro d ds acc S' ⟨hacc, hl', f'⟩
    refine ⟨_, rfl, ?_⟩
    show W (eFn (m_law_bent 4) (aCons (eVar 0) (aCons (eVar 3) aNil)) [] _ S') _
    simp only [W_fz, W_ixO, ixN_30, ixN_31, ixN_32, W_seq, W_asg, W_expr, W_ret, W_sif, W_par, W_never, W_nil, W_c, W_e2, W_call, W_anil, W_acons, W_tup, W_lst, W_lstM, W_tV, W_and, W_or, W_not, W_bAnd, W_bOr, W_bNot, W_eif, W_isN, W_notN, W_fn, W_fnK, W_pt, W_for, W_iseq, W_ienum, W_izip, W_comp, W_compG, W_compM, W_kI, W_yes, W_addI, W_addL, W_addT, W_mulI, W_ltI, W_ixL, W_ixT, W_ixS, atI_0, atI_1, atI_2, atI_3, atI_4, W_len_L, W_len_T, W_len_S, W_sum, W_all, W_any, W_min2, W_max2, W_abs, W_intI, W_intB, W_tupT, W_tupL, W_listT, W_listL, W_sl, W_oN, W_oS, W_slT, W_slL, W_slS, W_r1, W_app, W_set, W_gm, W_g0, W_g1, W_isiI, W_isiT, W_isiL, W_e3, Ws_nx, Ws_rt, W_ok, true_and, and_true, if_true, if_false, List.append_nil, frOf_l, frOf_t, frOf_s, kn_t, kn_i, kn_b, kn_l, kn_s, kn_d, isa_tt, isa_ii, isa_ib, isa_ll, isa_lt, isa_tl, W_isiL2, W_isiT2, W_allT, W_sumI, W_allM, W_sumM, cut2, W_ltT2, W_neI, W_eqI, bindP, bindPs, List.map_cons, List.map_nil, decide_eq_true_eq, Bool.false_eq_true, Bool.not_true, Bool.not_false, Bool.and_eq_true, W_var, List.getElem?_cons_zero, List.getElem?_cons_succ, List.set_cons_zero, List.set_cons_succ, rho0, List.length_cons, List.length_nil, List.replicate_succ, List.replicate_zero, List.cons_append, List.nil_append, List.append_eq, Nat.reduceAdd, Nat.reduceSub, wipeD, List.map_cons, List.map_nil]
    refine bent_W 3 hdd f'.pu fun d' S'' hd' f'' => ⟨fun x hx => ?_, by simp at hl' ⊢; omega, f'.trans f''⟩
    rcases List.mem_append.mp hx with hx | hx
    · exact hacc x hx
    · rw [List.mem_singleton] at hx; subst hx; exact hd'
  rintro bents S10 ⟨hbents, hbl, f10⟩
  have hbl' : bents.length ≤ 6 := by simpa using hbl
  try simp only [W_fz, W_ixO, ixN_30, ixN_31, ixN_32, W_seq, W_asg, W_expr, W_ret, W_sif, W_par, W_never, W_nil, W_c, W_e2, W_call, W_anil, W_acons, W_tup, W_lst, W_lstM, W_tV, W_and, W_or, W_not, W_bAnd, W_bOr, W_bNot, W_eif, W_isN, W_notN, W_fn, W_fnK, W_pt, W_for, W_iseq, W_ienum, W_izip, W_comp, W_compG, W_compM, W_kI, W_yes, W_addI, W_addL, W_addT, W_mulI, W_ltI, W_ixL, W_ixT, W_ixS, atI_0, atI_1, atI_2, atI_3, atI_4, W_len_L, W_len_T, W_len_S, W_sum, W_all, W_any, W_min2, W_max2, W_abs, W_intI, W_intB, W_tupT, W_tupL, W_listT, W_listL, W_sl, W_oN, W_oS, W_slT, W_slL, W_slS, W_r1, W_app, W_set, W_gm, W_g0, W_g1, W_isiI, W_isiT, W_isiL, W_e3, Ws_nx, Ws_rt, W_ok, true_and, and_true, if_true, if_false, List.append_nil, frOf_l, frOf_t, frOf_s, kn_t, kn_i, kn_b, kn_l, kn_s, kn_d, isa_tt, isa_ii, isa_ib, isa_ll, isa_lt, isa_tl, W_isiL2, W_isiT2, W_allT, W_sumI, W_allM, W_sumM, cut2, W_ltT2, W_neI, W_eqI, bindP, bindPs, List.map_cons, List.map_nil, decide_eq_true_eq, Bool.false_eq_true, Bool.not_true, Bool.not_false, Bool.and_eq_true, W_var, List.getElem?_cons_zero, List.getElem?_cons_succ, List.set_cons_zero, List.set_cons_succ, rho0, List.length_cons, List.length_nil, List.replicate_succ, List.replicate_zero, List.cons_append, List.nil_append, List.append_eq, Nat.reduceAdd, Nat.reduceSub, wipeD, List.map_cons, List.map_nil, List.length_cons, List.length_nil]
  have hsome : ∀ x ∈ D.tup (deal.map encO) :: mv :: bents, Thing x := fun x hx => by
    simp only [List.mem_cons] at hx
    rcases hx with rfl | rfl | hx
    · exact hth
    · exact hmv
    · exact hbents x hx
  obtain ⟨lines, el, hlin⟩ : ∃ d, atI [D.lst (sent.map encO), D.tup (sent.map encO)] (way % 2) = some d ∧ Sq encO sent d := by
    obtain ⟨d, e, hm⟩ := at_of (ds := [D.lst (sent.map encO), D.tup (sent.map encO)]) (Int.emod_nonneg way (show (2 : Int) ≠ 0 by decide)) (by
      have := Int.emod_lt_of_pos way (show (0 : Int) < 2 by decide)
      simpa using this)
    refine ⟨d, e, ?_⟩
    simp only [List.mem_cons, List.not_mem_nil, or_false] at hm
    exact hm
  rw [el]
  simp only
  have sl : Sq encO sent (.lst (sent.map encO)) := .inl rfl
  have cl : Sq encB came (.lst (came.map encB)) := .inl rfl
  have ct : Sq encB came (.tup (came.map encB)) := .inr rfl
  have k0 : ∀ a b c : D, @kw0 D [] [a, b, c] = [c, b, a] := fun _ _ _ => rfl
  have lcut := cut_len (ds := deal.map encO) (lo := none) (hi := some 1)
  simp only [List.length_map] at lcut
  refine ⟨by unfold line; omega, by decide, by decide, by decide, by rw [List.length_map]; unfold line; omega, by decide, by unfold line; omega, ?_⟩
  refine W_loop (fun ds ρ S' => ∃ (x6 x12 : Option D), (∀ x ∈ ds, Thing x) ∧ ρ = [some (.obj k), some (.lst (sent.map encO)), some (.lst (came.map encB)), some (.tup (deal.map encO)), some (.lst (D.tup (deal.map encO) :: mv :: bents)), some lines, x6, none, none, some (.int most), some (.int much), some (.int way), x12, none, none])
    ⟨_, _, fun x hx => ?_, rfl⟩ ?_ ?_
  · simp only [List.mem_cons, List.mem_append, List.not_mem_nil, or_false] at hx
    rcases hx with rfl | rfl | hx | rfl | rfl | rfl
    · exact hth
    · exact hmv
    · exact hbents x hx
    · exact thing_tup (fun x hx => by cases hx) (by simp)
    · exact thing_o rfl rfl
    · refine thing_tup (fun y hy => ?_) (by simp; omega)
      have hy' : y ∈ deal.map encO := by
        rcases List.mem_append.mp hy with hy | hy
        · exact hy
        · exact cut_mem hy
      rw [List.mem_map] at hy'
      obtain ⟨p, _, rfl⟩ := hy'
      rfl
  · rintro d ds ρ S11 ⟨x6, x12, hds, rfl⟩
    have hx := hds d List.mem_cons_self
    refine ⟨_, rfl, ?_⟩
    have fin : ∀ (S : Sto) (r : Bool), (r = true ↔ GoodD sent came d) → ∀ Q' : D → Sto → Prop, (∀ S', Q' (.bl false) S') → W (m_law_is_dealing [.lst (sent.map encO), .lst (came.map encB), d] S) fun y S' => W (kNe (.bl r) y S') Q' := fun S r hr Q' hq =>
      judge_W hls (by omega) hx.1 hx.2 fun r' S' hr' _ => by
        have e : r = r' := Bool.eq_iff_iff.mpr (hr.trans hr'.symm)
        subst e
        rw [W_neSame rfl (show dpD (.bl r) ≤ 64 from by simp only [dpD]; decide)]
        exact hq S'
    by_cases c : way < 2
    · obtain ⟨r, e, hr⟩ := dealing_D (S := S11) hso hrows hlin ct hx.1 hx.2
      simp only [W_fz, W_ixO, ixN_30, ixN_31, ixN_32, W_seq, W_asg, W_expr, W_ret, W_sif, W_par, W_never, W_nil, W_c, W_e2, W_call, W_anil, W_acons, W_tup, W_lst, W_lstM, W_tV, W_and, W_or, W_not, W_bAnd, W_bOr, W_bNot, W_eif, W_isN, W_notN, W_fn, W_fnK, W_pt, W_for, W_iseq, W_ienum, W_izip, W_comp, W_compG, W_compM, W_kI, W_yes, W_addI, W_addL, W_addT, W_mulI, W_ltI, W_ixL, W_ixT, W_ixS, atI_0, atI_1, atI_2, atI_3, atI_4, W_len_L, W_len_T, W_len_S, W_sum, W_all, W_any, W_min2, W_max2, W_abs, W_intI, W_intB, W_tupT, W_tupL, W_listT, W_listL, W_sl, W_oN, W_oS, W_slT, W_slL, W_slS, W_r1, W_app, W_set, W_gm, W_g0, W_g1, W_isiI, W_isiT, W_isiL, W_e3, Ws_nx, Ws_rt, W_ok, true_and, and_true, if_true, if_false, List.append_nil, frOf_l, frOf_t, frOf_s, kn_t, kn_i, kn_b, kn_l, kn_s, kn_d, isa_tt, isa_ii, isa_ib, isa_ll, isa_lt, isa_tl, W_isiL2, W_isiT2, W_allT, W_sumI, W_allM, W_sumM, cut2, W_ltT2, W_neI, W_eqI, bindP, bindPs, List.map_cons, List.map_nil, decide_eq_true_eq, Bool.false_eq_true, Bool.not_true, Bool.not_false, Bool.and_eq_true, W_var, List.getElem?_cons_zero, List.getElem?_cons_succ, List.set_cons_zero, List.set_cons_succ, rho0, List.length_cons, List.length_nil, List.replicate_succ, List.replicate_zero, List.cons_append, List.nil_append, List.append_eq, Nat.reduceAdd, Nat.reduceSub, wipeD, List.map_cons, List.map_nil, c, e, W_isiD (d := .bl r) rfl, tyS, isa_bb]
      refine fin _ _ hr _ fun S' => ?_
      simp only [W_fz, W_ixO, ixN_30, ixN_31, ixN_32, W_seq, W_asg, W_expr, W_ret, W_sif, W_par, W_never, W_nil, W_c, W_e2, W_call, W_anil, W_acons, W_tup, W_lst, W_lstM, W_tV, W_and, W_or, W_not, W_bAnd, W_bOr, W_bNot, W_eif, W_isN, W_notN, W_fn, W_fnK, W_pt, W_for, W_iseq, W_ienum, W_izip, W_comp, W_compG, W_compM, W_kI, W_yes, W_addI, W_addL, W_addT, W_mulI, W_ltI, W_ixL, W_ixT, W_ixS, atI_0, atI_1, atI_2, atI_3, atI_4, W_len_L, W_len_T, W_len_S, W_sum, W_all, W_any, W_min2, W_max2, W_abs, W_intI, W_intB, W_tupT, W_tupL, W_listT, W_listL, W_sl, W_oN, W_oS, W_slT, W_slL, W_slS, W_r1, W_app, W_set, W_gm, W_g0, W_g1, W_isiI, W_isiT, W_isiL, W_e3, Ws_nx, Ws_rt, W_ok, true_and, and_true, if_true, if_false, List.append_nil, frOf_l, frOf_t, frOf_s, kn_t, kn_i, kn_b, kn_l, kn_s, kn_d, isa_tt, isa_ii, isa_ib, isa_ll, isa_lt, isa_tl, W_isiL2, W_isiT2, W_allT, W_sumI, W_allM, W_sumM, cut2, W_ltT2, W_neI, W_eqI, bindP, bindPs, List.map_cons, List.map_nil, decide_eq_true_eq, Bool.false_eq_true, Bool.not_true, Bool.not_false, Bool.and_eq_true, W_var, List.getElem?_cons_zero, List.getElem?_cons_succ, List.set_cons_zero, List.set_cons_succ, rho0, List.length_cons, List.length_nil, List.replicate_succ, List.replicate_zero, List.cons_append, List.nil_append, List.append_eq, Nat.reduceAdd, Nat.reduceSub, wipeD, List.map_cons, List.map_nil]
      exact ⟨_, _, fun x hx' => hds x (List.mem_cons_of_mem _ hx'), rfl⟩
    · obtain ⟨r, e, hr⟩ := dealing_D (S := S11) hso hrows hlin cl hx.1 hx.2
      simp only [W_fz, W_ixO, ixN_30, ixN_31, ixN_32, W_seq, W_asg, W_expr, W_ret, W_sif, W_par, W_never, W_nil, W_c, W_e2, W_call, W_anil, W_acons, W_tup, W_lst, W_lstM, W_tV, W_and, W_or, W_not, W_bAnd, W_bOr, W_bNot, W_eif, W_isN, W_notN, W_fn, W_fnK, W_pt, W_for, W_iseq, W_ienum, W_izip, W_comp, W_compG, W_compM, W_kI, W_yes, W_addI, W_addL, W_addT, W_mulI, W_ltI, W_ixL, W_ixT, W_ixS, atI_0, atI_1, atI_2, atI_3, atI_4, W_len_L, W_len_T, W_len_S, W_sum, W_all, W_any, W_min2, W_max2, W_abs, W_intI, W_intB, W_tupT, W_tupL, W_listT, W_listL, W_sl, W_oN, W_oS, W_slT, W_slL, W_slS, W_r1, W_app, W_set, W_gm, W_g0, W_g1, W_isiI, W_isiT, W_isiL, W_e3, Ws_nx, Ws_rt, W_ok, true_and, and_true, if_true, if_false, List.append_nil, frOf_l, frOf_t, frOf_s, kn_t, kn_i, kn_b, kn_l, kn_s, kn_d, isa_tt, isa_ii, isa_ib, isa_ll, isa_lt, isa_tl, W_isiL2, W_isiT2, W_allT, W_sumI, W_allM, W_sumM, cut2, W_ltT2, W_neI, W_eqI, bindP, bindPs, List.map_cons, List.map_nil, decide_eq_true_eq, Bool.false_eq_true, Bool.not_true, Bool.not_false, Bool.and_eq_true, W_var, List.getElem?_cons_zero, List.getElem?_cons_succ, List.set_cons_zero, List.set_cons_succ, rho0, List.length_cons, List.length_nil, List.replicate_succ, List.replicate_zero, List.cons_append, List.nil_append, List.append_eq, Nat.reduceAdd, Nat.reduceSub, wipeD, List.map_cons, List.map_nil, c, k0, e, W_isiD (d := .bl r) rfl, tyS, isa_bb]
      refine fin _ _ hr _ fun S' => ?_
      simp only [W_fz, W_ixO, ixN_30, ixN_31, ixN_32, W_seq, W_asg, W_expr, W_ret, W_sif, W_par, W_never, W_nil, W_c, W_e2, W_call, W_anil, W_acons, W_tup, W_lst, W_lstM, W_tV, W_and, W_or, W_not, W_bAnd, W_bOr, W_bNot, W_eif, W_isN, W_notN, W_fn, W_fnK, W_pt, W_for, W_iseq, W_ienum, W_izip, W_comp, W_compG, W_compM, W_kI, W_yes, W_addI, W_addL, W_addT, W_mulI, W_ltI, W_ixL, W_ixT, W_ixS, atI_0, atI_1, atI_2, atI_3, atI_4, W_len_L, W_len_T, W_len_S, W_sum, W_all, W_any, W_min2, W_max2, W_abs, W_intI, W_intB, W_tupT, W_tupL, W_listT, W_listL, W_sl, W_oN, W_oS, W_slT, W_slL, W_slS, W_r1, W_app, W_set, W_gm, W_g0, W_g1, W_isiI, W_isiT, W_isiL, W_e3, Ws_nx, Ws_rt, W_ok, true_and, and_true, if_true, if_false, List.append_nil, frOf_l, frOf_t, frOf_s, kn_t, kn_i, kn_b, kn_l, kn_s, kn_d, isa_tt, isa_ii, isa_ib, isa_ll, isa_lt, isa_tl, W_isiL2, W_isiT2, W_allT, W_sumI, W_allM, W_sumM, cut2, W_ltT2, W_neI, W_eqI, bindP, bindPs, List.map_cons, List.map_nil, decide_eq_true_eq, Bool.false_eq_true, Bool.not_true, Bool.not_false, Bool.and_eq_true, W_var, List.getElem?_cons_zero, List.getElem?_cons_succ, List.set_cons_zero, List.set_cons_succ, rho0, List.length_cons, List.length_nil, List.replicate_succ, List.replicate_zero, List.cons_append, List.nil_append, List.append_eq, Nat.reduceAdd, Nat.reduceSub, wipeD, List.map_cons, List.map_nil]
      exact ⟨_, _, fun x hx' => hds x (List.mem_cons_of_mem _ hx'), rfl⟩
  rintro ρ S11 ⟨x6, x12, -, rfl⟩
  simp only [W_fz, W_ixO, ixN_30, ixN_31, ixN_32, W_seq, W_asg, W_expr, W_ret, W_sif, W_par, W_never, W_nil, W_c, W_e2, W_call, W_anil, W_acons, W_tup, W_lst, W_lstM, W_tV, W_and, W_or, W_not, W_bAnd, W_bOr, W_bNot, W_eif, W_isN, W_notN, W_fn, W_fnK, W_pt, W_for, W_iseq, W_ienum, W_izip, W_comp, W_compG, W_compM, W_kI, W_yes, W_addI, W_addL, W_addT, W_mulI, W_ltI, W_ixL, W_ixT, W_ixS, atI_0, atI_1, atI_2, atI_3, atI_4, W_len_L, W_len_T, W_len_S, W_sum, W_all, W_any, W_min2, W_max2, W_abs, W_intI, W_intB, W_tupT, W_tupL, W_listT, W_listL, W_sl, W_oN, W_oS, W_slT, W_slL, W_slS, W_r1, W_app, W_set, W_gm, W_g0, W_g1, W_isiI, W_isiT, W_isiL, W_e3, Ws_nx, Ws_rt, W_ok, true_and, and_true, if_true, if_false, List.append_nil, frOf_l, frOf_t, frOf_s, kn_t, kn_i, kn_b, kn_l, kn_s, kn_d, isa_tt, isa_ii, isa_ib, isa_ll, isa_lt, isa_tl, W_isiL2, W_isiT2, W_allT, W_sumI, W_allM, W_sumM, cut2, W_ltT2, W_neI, W_eqI, bindP, bindPs, List.map_cons, List.map_nil, decide_eq_true_eq, Bool.false_eq_true, Bool.not_true, Bool.not_false, Bool.and_eq_true, W_var, List.getElem?_cons_zero, List.getElem?_cons_succ, List.set_cons_zero, List.set_cons_succ, rho0, List.length_cons, List.length_nil, List.replicate_succ, List.replicate_zero, List.cons_append, List.nil_append, List.append_eq, Nat.reduceAdd, Nat.reduceSub, wipeD, List.map_cons, List.map_nil, List.length_map, List.length_append]
  refine ⟨by unfold line; omega, by unfold line; omega, W_eq (comp_mapD (fun _ => true) hdD (sent.map encO ++ came.map encB) [] (fun x hx => ⟨_, rfl, rfl, fun _ => of_W ?_⟩)) ?_⟩
  · rcases List.mem_append.mp hx with hx | hx <;> (rw [List.mem_map] at hx; obtain ⟨p, _, rfl⟩ := hx; simp only [W_fz, W_ixO, ixN_30, ixN_31, ixN_32, W_seq, W_asg, W_expr, W_ret, W_sif, W_par, W_never, W_nil, W_c, W_e2, W_call, W_anil, W_acons, W_tup, W_lst, W_lstM, W_tV, W_and, W_or, W_not, W_bAnd, W_bOr, W_bNot, W_eif, W_isN, W_notN, W_fn, W_fnK, W_pt, W_for, W_iseq, W_ienum, W_izip, W_comp, W_compG, W_compM, W_kI, W_yes, W_addI, W_addL, W_addT, W_mulI, W_ltI, W_ixL, W_ixT, W_ixS, atI_0, atI_1, atI_2, atI_3, atI_4, W_len_L, W_len_T, W_len_S, W_sum, W_all, W_any, W_min2, W_max2, W_abs, W_intI, W_intB, W_tupT, W_tupL, W_listT, W_listL, W_sl, W_oN, W_oS, W_slT, W_slL, W_slS, W_r1, W_app, W_set, W_gm, W_g0, W_g1, W_isiI, W_isiT, W_isiL, W_e3, Ws_nx, Ws_rt, W_ok, true_and, and_true, if_true, if_false, List.append_nil, frOf_l, frOf_t, frOf_s, kn_t, kn_i, kn_b, kn_l, kn_s, kn_d, isa_tt, isa_ii, isa_ib, isa_ll, isa_lt, isa_tl, W_isiL2, W_isiT2, W_allT, W_sumI, W_allM, W_sumM, cut2, W_ltT2, W_neI, W_eqI, bindP, bindPs, List.map_cons, List.map_nil, decide_eq_true_eq, Bool.false_eq_true, Bool.not_true, Bool.not_false, Bool.and_eq_true, W_var, List.getElem?_cons_zero, List.getElem?_cons_succ, List.set_cons_zero, List.set_cons_succ, rho0, List.length_cons, List.length_nil, List.replicate_succ, List.replicate_zero, List.cons_append, List.nil_append, List.append_eq, Nat.reduceAdd, Nat.reduceSub, wipeD, List.map_cons, List.map_nil, encO, encB, hdD]; try trivial)
  have ey : (sent.map encO ++ came.map encB).map hdD ++ [D.int 5] = ((sent.map fun (r : Int × Int × Int) => r.1) ++ (came.map fun (r : Int × Int) => r.1) ++ [(5 : Int)]).map D.int := by
    rw [List.map_append, List.map_append, List.map_append, List.map_map, List.map_map, List.map_map, List.map_map]; rfl
  simp only [W_fz, W_ixO, ixN_30, ixN_31, ixN_32, W_seq, W_asg, W_expr, W_ret, W_sif, W_par, W_never, W_nil, W_c, W_e2, W_call, W_anil, W_acons, W_tup, W_lst, W_lstM, W_tV, W_and, W_or, W_not, W_bAnd, W_bOr, W_bNot, W_eif, W_isN, W_notN, W_fn, W_fnK, W_pt, W_for, W_iseq, W_ienum, W_izip, W_comp, W_compG, W_compM, W_kI, W_yes, W_addI, W_addL, W_addT, W_mulI, W_ltI, W_ixL, W_ixT, W_ixS, atI_0, atI_1, atI_2, atI_3, atI_4, W_len_L, W_len_T, W_len_S, W_sum, W_all, W_any, W_min2, W_max2, W_abs, W_intI, W_intB, W_tupT, W_tupL, W_listT, W_listL, W_sl, W_oN, W_oS, W_slT, W_slL, W_slS, W_r1, W_app, W_set, W_gm, W_g0, W_g1, W_isiI, W_isiT, W_isiL, W_e3, Ws_nx, Ws_rt, W_ok, true_and, and_true, if_true, if_false, List.append_nil, frOf_l, frOf_t, frOf_s, kn_t, kn_i, kn_b, kn_l, kn_s, kn_d, isa_tt, isa_ii, isa_ib, isa_ll, isa_lt, isa_tl, W_isiL2, W_isiT2, W_allT, W_sumI, W_allM, W_sumM, cut2, W_ltT2, W_neI, W_eqI, bindP, bindPs, List.map_cons, List.map_nil, decide_eq_true_eq, Bool.false_eq_true, Bool.not_true, Bool.not_false, Bool.and_eq_true, W_var, List.getElem?_cons_zero, List.getElem?_cons_succ, List.set_cons_zero, List.set_cons_succ, rho0, List.length_cons, List.length_nil, List.replicate_succ, List.replicate_zero, List.cons_append, List.nil_append, List.append_eq, Nat.reduceAdd, Nat.reduceSub, wipeD, List.map_cons, List.map_nil, filter_all, List.length_map, List.length_append]
  refine ⟨by decide, by unfold line; omega, ?_⟩
  rw [ey]
  refine W_maxL (by simp) fun far hfm hfu => ?_
  have hf1 : ∀ b ∈ came, b.1 ≤ far := fun b hb => hfu _ (by simp; exact .inr (.inl ⟨_, hb⟩))
  have hf2 : 5 ≤ far := hfu 5 (by simp)
  have hf3 : far ≤ 9999 := by
    simp only [List.mem_append, List.mem_map, List.mem_singleton] at hfm
    rcases hfm with (⟨r, hr, rfl⟩ | ⟨r, hr, rfl⟩) | rfl
    · have := hso.row r hr; omega
    · have := hrows.row r hr; omega
    · decide
  refine ⟨by unfold line; omega, W_eq (comp_map encO (fun _ => true) (fun r => .int r.2.1) sent [] (fun x hx => ⟨_, rfl, rfl, fun _ => rfl⟩)) ?_⟩
  simp only [W_fz, W_ixO, ixN_30, ixN_31, ixN_32, W_seq, W_asg, W_expr, W_ret, W_sif, W_par, W_never, W_nil, W_c, W_e2, W_call, W_anil, W_acons, W_tup, W_lst, W_lstM, W_tV, W_and, W_or, W_not, W_bAnd, W_bOr, W_bNot, W_eif, W_isN, W_notN, W_fn, W_fnK, W_pt, W_for, W_iseq, W_ienum, W_izip, W_comp, W_compG, W_compM, W_kI, W_yes, W_addI, W_addL, W_addT, W_mulI, W_ltI, W_ixL, W_ixT, W_ixS, atI_0, atI_1, atI_2, atI_3, atI_4, W_len_L, W_len_T, W_len_S, W_sum, W_all, W_any, W_min2, W_max2, W_abs, W_intI, W_intB, W_tupT, W_tupL, W_listT, W_listL, W_sl, W_oN, W_oS, W_slT, W_slL, W_slS, W_r1, W_app, W_set, W_gm, W_g0, W_g1, W_isiI, W_isiT, W_isiL, W_e3, Ws_nx, Ws_rt, W_ok, true_and, and_true, if_true, if_false, List.append_nil, frOf_l, frOf_t, frOf_s, kn_t, kn_i, kn_b, kn_l, kn_s, kn_d, isa_tt, isa_ii, isa_ib, isa_ll, isa_lt, isa_tl, W_isiL2, W_isiT2, W_allT, W_sumI, W_allM, W_sumM, cut2, W_ltT2, W_neI, W_eqI, bindP, bindPs, List.map_cons, List.map_nil, decide_eq_true_eq, Bool.false_eq_true, Bool.not_true, Bool.not_false, Bool.and_eq_true, W_var, List.getElem?_cons_zero, List.getElem?_cons_succ, List.set_cons_zero, List.set_cons_succ, rho0, List.length_cons, List.length_nil, List.replicate_succ, List.replicate_zero, List.cons_append, List.nil_append, List.append_eq, Nat.reduceAdd, Nat.reduceSub, wipeD, List.map_cons, List.map_nil, filter_all]
  refine ⟨by unfold line; omega, W_eq (comp_map encB (fun _ => true) (fun r => .int r.2) came [] (fun x hx => ⟨_, rfl, rfl, fun _ => rfl⟩)) ?_⟩
  simp only [W_fz, W_ixO, ixN_30, ixN_31, ixN_32, W_seq, W_asg, W_expr, W_ret, W_sif, W_par, W_never, W_nil, W_c, W_e2, W_call, W_anil, W_acons, W_tup, W_lst, W_lstM, W_tV, W_and, W_or, W_not, W_bAnd, W_bOr, W_bNot, W_eif, W_isN, W_notN, W_fn, W_fnK, W_pt, W_for, W_iseq, W_ienum, W_izip, W_comp, W_compG, W_compM, W_kI, W_yes, W_addI, W_addL, W_addT, W_mulI, W_ltI, W_ixL, W_ixT, W_ixS, atI_0, atI_1, atI_2, atI_3, atI_4, W_len_L, W_len_T, W_len_S, W_sum, W_all, W_any, W_min2, W_max2, W_abs, W_intI, W_intB, W_tupT, W_tupL, W_listT, W_listL, W_sl, W_oN, W_oS, W_slT, W_slL, W_slS, W_r1, W_app, W_set, W_gm, W_g0, W_g1, W_isiI, W_isiT, W_isiL, W_e3, Ws_nx, Ws_rt, W_ok, true_and, and_true, if_true, if_false, List.append_nil, frOf_l, frOf_t, frOf_s, kn_t, kn_i, kn_b, kn_l, kn_s, kn_d, isa_tt, isa_ii, isa_ib, isa_ll, isa_lt, isa_tl, W_isiL2, W_isiT2, W_allT, W_sumI, W_allM, W_sumM, cut2, W_ltT2, W_neI, W_eqI, bindP, bindPs, List.map_cons, List.map_nil, decide_eq_true_eq, Bool.false_eq_true, Bool.not_true, Bool.not_false, Bool.and_eq_true, W_var, List.getElem?_cons_zero, List.getElem?_cons_succ, List.set_cons_zero, List.set_cons_succ, rho0, List.length_cons, List.length_nil, List.replicate_succ, List.replicate_zero, List.cons_append, List.nil_append, List.append_eq, Nat.reduceAdd, Nat.reduceSub, wipeD, List.map_cons, List.map_nil, filter_all]
  rw [show (sent.map fun r => r.2.1).sum = totS sent from rfl, show (came.map fun r => r.2).sum = totC came from rfl]
  have ht := totC_le hso hbo
  have hts : totS sent ≤ 18981 := by
    have h1 := sum_le (c := 999) (by decide) (sent.map fun r => r.2.1) fun x hx => by
      rw [List.mem_map] at hx
      obtain ⟨r, hr, rfl⟩ := hx
      have := hmuch r hr
      omega
    rw [List.length_map] at h1
    unfold totS
    omega
  have eb : came.map encB ++ [D.tup [D.int far, D.int (totS sent + 1 - totC came)]] = (came ++ [(far, totS sent + 1 - totC came)]).map encB := by simp [encB]
  have hc2 : 0 ≤ totC came := sum_nonneg _ fun x hx => by
    rw [List.mem_map] at hx
    obtain ⟨r, hr, rfl⟩ := hx
    have := hrows.row r hr; omega
  have hrows2 : RowsOk (came ++ [(far, totS sent + 1 - totC came)]) := by
    refine ⟨by simp; omega, ?_, fun r hr => ?_⟩
    · rw [List.pairwise_append]
      refine ⟨hrows.day, List.pairwise_singleton _ _, fun a ha b hb => ?_⟩
      rw [List.mem_singleton] at hb; subst hb
      exact hf1 a ha
    · rw [List.mem_append, List.mem_singleton] at hr
      rcases hr with hr | rfl
      · exact hrows.row r hr
      · simp only; omega
  have hnone : ∀ d, ¬ GoodD sent (came ++ [(far, totS sent + 1 - totC came)]) d := fun d ⟨dl, _, hg⟩ => by
    have := good_total hg
    unfold totC at this
    rw [List.map_append, List.sum_append] at this
    simp only [List.map_cons, List.map_nil, List.sum_cons, List.sum_nil] at this
    unfold totC at *
    omega
  have cb2 : Sq encB (came ++ [(far, totS sent + 1 - totC came)]) (.lst (came.map encB ++ [D.tup [D.int far, D.int (totS sent + 1 - totC came)]])) := .inl (by rw [eb])
  refine ⟨by decide, by decide, by unfold line; omega, by unfold line; omega, W_eq (comp_mapD (fun _ => true) (fun _ => .bl false) (D.tup (deal.map encO) :: mv :: bents) [] (fun x hx => ⟨_, rfl, rfl, fun _ => of_W ?_⟩)) ?_⟩
  · have hx' := hsome x hx
    obtain ⟨r, e, hr⟩ := dealing_D (S := S11) hso hrows2 sl cb2 hx'.1 hx'.2
    have er : r = false := by
      cases r with
      | false => rfl
      | true => exact absurd (hr.mp rfl) (hnone x)
    subst er
    simp only [W_fz, W_ixO, ixN_30, ixN_31, ixN_32, W_seq, W_asg, W_expr, W_ret, W_sif, W_par, W_never, W_nil, W_c, W_e2, W_call, W_anil, W_acons, W_tup, W_lst, W_lstM, W_tV, W_and, W_or, W_not, W_bAnd, W_bOr, W_bNot, W_eif, W_isN, W_notN, W_fn, W_fnK, W_pt, W_for, W_iseq, W_ienum, W_izip, W_comp, W_compG, W_compM, W_kI, W_yes, W_addI, W_addL, W_addT, W_mulI, W_ltI, W_ixL, W_ixT, W_ixS, atI_0, atI_1, atI_2, atI_3, atI_4, W_len_L, W_len_T, W_len_S, W_sum, W_all, W_any, W_min2, W_max2, W_abs, W_intI, W_intB, W_tupT, W_tupL, W_listT, W_listL, W_sl, W_oN, W_oS, W_slT, W_slL, W_slS, W_r1, W_app, W_set, W_gm, W_g0, W_g1, W_isiI, W_isiT, W_isiL, W_e3, Ws_nx, Ws_rt, W_ok, true_and, and_true, if_true, if_false, List.append_nil, frOf_l, frOf_t, frOf_s, kn_t, kn_i, kn_b, kn_l, kn_s, kn_d, isa_tt, isa_ii, isa_ib, isa_ll, isa_lt, isa_tl, W_isiL2, W_isiT2, W_allT, W_sumI, W_allM, W_sumM, cut2, W_ltT2, W_neI, W_eqI, bindP, bindPs, List.map_cons, List.map_nil, decide_eq_true_eq, Bool.false_eq_true, Bool.not_true, Bool.not_false, Bool.and_eq_true, W_var, List.getElem?_cons_zero, List.getElem?_cons_succ, List.set_cons_zero, List.set_cons_succ, rho0, List.length_cons, List.length_nil, List.replicate_succ, List.replicate_zero, List.cons_append, List.nil_append, List.append_eq, Nat.reduceAdd, Nat.reduceSub, wipeD, List.map_cons, List.map_nil, e]
    exact ⟨rfl, rfl⟩
  have ea : ([] : List D) ++ ((D.tup (deal.map encO) :: mv :: bents).filter fun _ => true).map (fun _ => D.bl false) = (D.tup (deal.map encO) :: mv :: bents).map fun x => D.bl ((fun _ => false) x) := by rw [filter_all]; rfl
  rw [ea, W_anyB]
  simp only [W_fz, W_ixO, ixN_30, ixN_31, ixN_32, W_seq, W_asg, W_expr, W_ret, W_sif, W_par, W_never, W_nil, W_c, W_e2, W_call, W_anil, W_acons, W_tup, W_lst, W_lstM, W_tV, W_and, W_or, W_not, W_bAnd, W_bOr, W_bNot, W_eif, W_isN, W_notN, W_fn, W_fnK, W_pt, W_for, W_iseq, W_ienum, W_izip, W_comp, W_compG, W_compM, W_kI, W_yes, W_addI, W_addL, W_addT, W_mulI, W_ltI, W_ixL, W_ixT, W_ixS, atI_0, atI_1, atI_2, atI_3, atI_4, W_len_L, W_len_T, W_len_S, W_sum, W_all, W_any, W_min2, W_max2, W_abs, W_intI, W_intB, W_tupT, W_tupL, W_listT, W_listL, W_sl, W_oN, W_oS, W_slT, W_slL, W_slS, W_r1, W_app, W_set, W_gm, W_g0, W_g1, W_isiI, W_isiT, W_isiL, W_e3, Ws_nx, Ws_rt, W_ok, true_and, and_true, if_true, if_false, List.append_nil, frOf_l, frOf_t, frOf_s, kn_t, kn_i, kn_b, kn_l, kn_s, kn_d, isa_tt, isa_ii, isa_ib, isa_ll, isa_lt, isa_tl, W_isiL2, W_isiT2, W_allT, W_sumI, W_allM, W_sumM, cut2, W_ltT2, W_neI, W_eqI, bindP, bindPs, List.map_cons, List.map_nil, decide_eq_true_eq, Bool.false_eq_true, Bool.not_true, Bool.not_false, Bool.and_eq_true, W_var, List.getElem?_cons_zero, List.getElem?_cons_succ, List.set_cons_zero, List.set_cons_succ, rho0, List.length_cons, List.length_nil, List.replicate_succ, List.replicate_zero, List.cons_append, List.nil_append, List.append_eq, Nat.reduceAdd, Nat.reduceSub, wipeD, List.map_cons, List.map_nil, List.any_eq_true, and_false, exists_false]
  refine judge_W hls (by omega) hth.1 hth.2 fun r' S' hr' _ => ?_
  have er : r' = true := hr'.mpr (goodD_iff.mpr (good_of hd))
  subst er
  simp only [W_fz, W_ixO, ixN_30, ixN_31, ixN_32, W_seq, W_asg, W_expr, W_ret, W_sif, W_par, W_never, W_nil, W_c, W_e2, W_call, W_anil, W_acons, W_tup, W_lst, W_lstM, W_tV, W_and, W_or, W_not, W_bAnd, W_bOr, W_bNot, W_eif, W_isN, W_notN, W_fn, W_fnK, W_pt, W_for, W_iseq, W_ienum, W_izip, W_comp, W_compG, W_compM, W_kI, W_yes, W_addI, W_addL, W_addT, W_mulI, W_ltI, W_ixL, W_ixT, W_ixS, atI_0, atI_1, atI_2, atI_3, atI_4, W_len_L, W_len_T, W_len_S, W_sum, W_all, W_any, W_min2, W_max2, W_abs, W_intI, W_intB, W_tupT, W_tupL, W_listT, W_listL, W_sl, W_oN, W_oS, W_slT, W_slL, W_slS, W_r1, W_app, W_set, W_gm, W_g0, W_g1, W_isiI, W_isiT, W_isiL, W_e3, Ws_nx, Ws_rt, W_ok, true_and, and_true, if_true, if_false, List.append_nil, frOf_l, frOf_t, frOf_s, kn_t, kn_i, kn_b, kn_l, kn_s, kn_d, isa_tt, isa_ii, isa_ib, isa_ll, isa_lt, isa_tl, W_isiL2, W_isiT2, W_allT, W_sumI, W_allM, W_sumM, cut2, W_ltT2, W_neI, W_eqI, bindP, bindPs, List.map_cons, List.map_nil, decide_eq_true_eq, Bool.false_eq_true, Bool.not_true, Bool.not_false, Bool.and_eq_true, W_var, List.getElem?_cons_zero, List.getElem?_cons_succ, List.set_cons_zero, List.set_cons_succ, rho0, List.length_cons, List.length_nil, List.replicate_succ, List.replicate_zero, List.cons_append, List.nil_append, List.append_eq, Nat.reduceAdd, Nat.reduceSub, wipeD, List.map_cons, List.map_nil]
  have fin2 : ∀ Q' : D → Sto → Prop, Q' (.bl true) S' → W (kEq (.lst (sent.map encO)) (.lst (sent.map encO)) S') Q' := fun Q' h => by
    have p1 : plDs (sent.map encO) = true := plDs_map fun _ _ => rfl
    have d1 : dpDs (sent.map encO) ≤ 1 := dpDs_map fun _ _ => by simp [dpD, dpDs, encO]
    rw [W_eqSame (by simpa [plD] using p1) (by simp only [dpD]; omega)]
    exact h
  rcases hlin with rfl | rfl
  · simp only [W_fz, W_ixO, ixN_30, ixN_31, ixN_32, W_seq, W_asg, W_expr, W_ret, W_sif, W_par, W_never, W_nil, W_c, W_e2, W_call, W_anil, W_acons, W_tup, W_lst, W_lstM, W_tV, W_and, W_or, W_not, W_bAnd, W_bOr, W_bNot, W_eif, W_isN, W_notN, W_fn, W_fnK, W_pt, W_for, W_iseq, W_ienum, W_izip, W_comp, W_compG, W_compM, W_kI, W_yes, W_addI, W_addL, W_addT, W_mulI, W_ltI, W_ixL, W_ixT, W_ixS, atI_0, atI_1, atI_2, atI_3, atI_4, W_len_L, W_len_T, W_len_S, W_sum, W_all, W_any, W_min2, W_max2, W_abs, W_intI, W_intB, W_tupT, W_tupL, W_listT, W_listL, W_sl, W_oN, W_oS, W_slT, W_slL, W_slS, W_r1, W_app, W_set, W_gm, W_g0, W_g1, W_isiI, W_isiT, W_isiL, W_e3, Ws_nx, Ws_rt, W_ok, true_and, and_true, if_true, if_false, List.append_nil, frOf_l, frOf_t, frOf_s, kn_t, kn_i, kn_b, kn_l, kn_s, kn_d, isa_tt, isa_ii, isa_ib, isa_ll, isa_lt, isa_tl, W_isiL2, W_isiT2, W_allT, W_sumI, W_allM, W_sumM, cut2, W_ltT2, W_neI, W_eqI, bindP, bindPs, List.map_cons, List.map_nil, decide_eq_true_eq, Bool.false_eq_true, Bool.not_true, Bool.not_false, Bool.and_eq_true, W_var, List.getElem?_cons_zero, List.getElem?_cons_succ, List.set_cons_zero, List.set_cons_succ, rho0, List.length_cons, List.length_nil, List.replicate_succ, List.replicate_zero, List.cons_append, List.nil_append, List.append_eq, Nat.reduceAdd, Nat.reduceSub, wipeD, List.map_cons, List.map_nil]
    exact fin2 _ (q _)
  · simp only [W_fz, W_ixO, ixN_30, ixN_31, ixN_32, W_seq, W_asg, W_expr, W_ret, W_sif, W_par, W_never, W_nil, W_c, W_e2, W_call, W_anil, W_acons, W_tup, W_lst, W_lstM, W_tV, W_and, W_or, W_not, W_bAnd, W_bOr, W_bNot, W_eif, W_isN, W_notN, W_fn, W_fnK, W_pt, W_for, W_iseq, W_ienum, W_izip, W_comp, W_compG, W_compM, W_kI, W_yes, W_addI, W_addL, W_addT, W_mulI, W_ltI, W_ixL, W_ixT, W_ixS, atI_0, atI_1, atI_2, atI_3, atI_4, W_len_L, W_len_T, W_len_S, W_sum, W_all, W_any, W_min2, W_max2, W_abs, W_intI, W_intB, W_tupT, W_tupL, W_listT, W_listL, W_sl, W_oN, W_oS, W_slT, W_slL, W_slS, W_r1, W_app, W_set, W_gm, W_g0, W_g1, W_isiI, W_isiT, W_isiL, W_e3, Ws_nx, Ws_rt, W_ok, true_and, and_true, if_true, if_false, List.append_nil, frOf_l, frOf_t, frOf_s, kn_t, kn_i, kn_b, kn_l, kn_s, kn_d, isa_tt, isa_ii, isa_ib, isa_ll, isa_lt, isa_tl, W_isiL2, W_isiT2, W_allT, W_sumI, W_allM, W_sumM, cut2, W_ltT2, W_neI, W_eqI, bindP, bindPs, List.map_cons, List.map_nil, decide_eq_true_eq, Bool.false_eq_true, Bool.not_true, Bool.not_false, Bool.and_eq_true, W_var, List.getElem?_cons_zero, List.getElem?_cons_succ, List.set_cons_zero, List.set_cons_succ, rho0, List.length_cons, List.length_nil, List.replicate_succ, List.replicate_zero, List.cons_append, List.nil_append, List.append_eq, Nat.reduceAdd, Nat.reduceSub, wipeD, List.map_cons, List.map_nil]
    exact fin2 _ (q _)
theorem plain (ns : List Int) (h : ns.length ≤ 63) : ∃ S', m_law [.scr (ns.map .int)] ⟨[], 0⟩ = .ok (.bl true) S' := by
  have key : W (m_law [.scr (ns.map .int)] ⟨[], 0⟩) fun d _ => d = .bl true := by
    unfold m_law
    rw [W_run]
    unfold b_law
    simp only [W_fz, W_ixO, ixN_30, ixN_31, ixN_32, W_seq, W_asg, W_expr, W_ret, W_sif, W_par, W_never, W_nil, W_c, W_e2, W_call, W_anil, W_acons, W_tup, W_lst, W_lstM, W_tV, W_and, W_or, W_not, W_bAnd, W_bOr, W_bNot, W_eif, W_isN, W_notN, W_fn, W_fnK, W_pt, W_for, W_iseq, W_ienum, W_izip, W_comp, W_compG, W_compM, W_kI, W_yes, W_addI, W_addL, W_addT, W_mulI, W_ltI, W_ixL, W_ixT, W_ixS, atI_0, atI_1, atI_2, atI_3, atI_4, W_len_L, W_len_T, W_len_S, W_sum, W_all, W_any, W_min2, W_max2, W_abs, W_intI, W_intB, W_tupT, W_tupL, W_listT, W_listL, W_sl, W_oN, W_oS, W_slT, W_slL, W_slS, W_r1, W_app, W_set, W_gm, W_g0, W_g1, W_isiI, W_isiT, W_isiL, W_e3, Ws_nx, Ws_rt, W_ok, true_and, and_true, if_true, if_false, List.append_nil, frOf_l, frOf_t, frOf_s, kn_t, kn_i, kn_b, kn_l, kn_s, kn_d, isa_tt, isa_ii, isa_ib, isa_ll, isa_lt, isa_tl, W_isiL2, W_isiT2, W_allT, W_sumI, W_allM, W_sumM, cut2, W_ltT2, W_neI, W_eqI, bindP, bindPs, List.map_cons, List.map_nil, decide_eq_true_eq, Bool.false_eq_true, Bool.not_true, Bool.not_false, Bool.and_eq_true, W_var, List.getElem?_cons_zero, List.getElem?_cons_succ, List.set_cons_zero, List.set_cons_succ, rho0, List.length_cons, List.length_nil, List.replicate_succ, List.replicate_zero, List.cons_append, List.nil_append, List.append_eq, Nat.reduceAdd, Nat.reduceSub, wipeD, List.map_cons, List.map_nil, List.length_map]
    obtain ⟨c, ec, hc1, hc2⟩ : ∃ c : Int, (if (if (ns.length : Int) < 4 then (ns.length : Int) else 4) > 1 then (if (ns.length : Int) < 4 then (ns.length : Int) else 4) else 1) = c ∧ 1 ≤ c ∧ c ≤ 4 := by
      refine ⟨_, rfl, ?_, ?_⟩ <;> split <;> (try split) <;> omega
    rw [ec]
    refine ⟨small62_of (by omega) (by omega), by unfold rangeD line; simp; omega, W_compI (fun ds acc S' => (∀ d ∈ ds, ∃ i : Int, d = .int i ∧ 0 ≤ i ∧ i < 1000) ∧ ∃ n, acc = (List.replicate n true).map .bl) ⟨fun d hd => ?_, 0, rfl⟩ ?_ ?_⟩
    · unfold rangeD at hd
      rw [List.mem_map] at hd
      obtain ⟨i, hi, rfl⟩ := hd
      rw [List.mem_range] at hi
      exact ⟨_, rfl, by omega, by omega⟩
    · rintro d ds acc S' ⟨hds, n, rfl⟩
      obtain ⟨i, rfl, h0, h1⟩ := hds d List.mem_cons_self
      refine ⟨_, rfl, ?_⟩
      show W (eFn m_law_right (aCons (eFn m_law_purse (aCons (eFn m_law_cell (aCons (eVar 0) (aCons (eVar 1) aNil)) []) aNil) []) aNil) [] _ S') _
      simp only [W_fz, W_ixO, ixN_30, ixN_31, ixN_32, W_seq, W_asg, W_expr, W_ret, W_sif, W_par, W_never, W_nil, W_c, W_e2, W_call, W_anil, W_acons, W_tup, W_lst, W_lstM, W_tV, W_and, W_or, W_not, W_bAnd, W_bOr, W_bNot, W_eif, W_isN, W_notN, W_fn, W_fnK, W_pt, W_for, W_iseq, W_ienum, W_izip, W_comp, W_compG, W_compM, W_kI, W_yes, W_addI, W_addL, W_addT, W_mulI, W_ltI, W_ixL, W_ixT, W_ixS, atI_0, atI_1, atI_2, atI_3, atI_4, W_len_L, W_len_T, W_len_S, W_sum, W_all, W_any, W_min2, W_max2, W_abs, W_intI, W_intB, W_tupT, W_tupL, W_listT, W_listL, W_sl, W_oN, W_oS, W_slT, W_slL, W_slS, W_r1, W_app, W_set, W_gm, W_g0, W_g1, W_isiI, W_isiT, W_isiL, W_e3, Ws_nx, Ws_rt, W_ok, true_and, and_true, if_true, if_false, List.append_nil, frOf_l, frOf_t, frOf_s, kn_t, kn_i, kn_b, kn_l, kn_s, kn_d, isa_tt, isa_ii, isa_ib, isa_ll, isa_lt, isa_tl, W_isiL2, W_isiT2, W_allT, W_sumI, W_allM, W_sumM, cut2, W_ltT2, W_neI, W_eqI, bindP, bindPs, List.map_cons, List.map_nil, decide_eq_true_eq, Bool.false_eq_true, Bool.not_true, Bool.not_false, Bool.and_eq_true, W_var, List.getElem?_cons_zero, List.getElem?_cons_succ, List.set_cons_zero, List.set_cons_succ, rho0, List.length_cons, List.length_nil, List.replicate_succ, List.replicate_zero, List.cons_append, List.nil_append, List.append_eq, Nat.reduceAdd, Nat.reduceSub, wipeD, List.map_cons, List.map_nil]
      refine cell_W h0 h1 fun v => purse_W fun S1 _ _ hp => right_W hp fun S2 => ⟨fun d hd => hds d (List.mem_cons_of_mem _ hd), n + 1, ?_⟩
      rw [List.replicate_succ', List.map_append]; rfl
    · rintro acc S' ⟨_, n, rfl⟩
      rw [W_all]
      congr 1
      simp
  obtain ⟨d, S', e, rfl⟩ := W_ex key
  exact ⟨S', e⟩
end K16


open PySem L2 Qd
namespace K16
def dd_law_take : He.DefD := ⟨("_law_take", none), "_law_take", "_law_take", defArgs s_law_take, defBody s_law_take, defScope s_law_take, [], []⟩
def dd_law_outs : He.DefD := ⟨("_law_outs", none), "_law_outs", "_law_outs", defArgs s_law_outs, defBody s_law_outs, defScope s_law_outs, [], []⟩
def dd_law_backs : He.DefD := ⟨("_law_backs", none), "_law_backs", "_law_backs", defArgs s_law_backs, defBody s_law_backs, defScope s_law_backs, [], []⟩
def dd_law_dealt : He.DefD := ⟨("_law_dealt", none), "_law_dealt", "_law_dealt", defArgs s_law_dealt, defBody s_law_dealt, defScope s_law_dealt, [], []⟩
def dd_law_any_ranks : He.DefD := ⟨("_law_any_ranks", none), "_law_any_ranks", "_law_any_ranks", defArgs s_law_any_ranks, defBody s_law_any_ranks, defScope s_law_any_ranks, [], []⟩
def dd_law_number : He.DefD := ⟨("_law_number", none), "_law_number", "_law_number", defArgs s_law_number, defBody s_law_number, defScope s_law_number, [], []⟩
def dd_law_numbers : He.DefD := ⟨("_law_numbers", none), "_law_numbers", "_law_numbers", defArgs s_law_numbers, defBody s_law_numbers, defScope s_law_numbers, [], []⟩
def dd_law_is_dealing : He.DefD := ⟨("_law_is_dealing", none), "_law_is_dealing", "_law_is_dealing", defArgs s_law_is_dealing, defBody s_law_is_dealing, defScope s_law_is_dealing, [], []⟩
def dd_law_moved : He.DefD := ⟨("_law_moved", none), "_law_moved", "_law_moved", defArgs s_law_moved, defBody s_law_moved, defScope s_law_moved, [], []⟩
def dd_law_bent : He.DefD := ⟨("_law_bent", none), "_law_bent", "_law_bent", defArgs s_law_bent, defBody s_law_bent, defScope s_law_bent, [], []⟩
def dd_is_whole : He.DefD := ⟨("is_whole", none), "is_whole", "is_whole", defArgs s_is_whole, defBody s_is_whole, defScope s_is_whole, [], []⟩
def dd_is_within : He.DefD := ⟨("is_within", none), "is_within", "is_within", defArgs s_is_within, defBody s_is_within, defScope s_is_within, [], []⟩
def dd_is_amount : He.DefD := ⟨("is_amount", none), "is_amount", "is_amount", defArgs s_is_amount, defBody s_is_amount, defScope s_is_amount, [], []⟩
def dd_is_day : He.DefD := ⟨("is_day", none), "is_day", "is_day", defArgs s_is_day, defBody s_is_day, defScope s_is_day, [], []⟩
def dd_is_out : He.DefD := ⟨("is_out", none), "is_out", "is_out", defArgs s_is_out, defBody s_is_out, defScope s_is_out, [], []⟩
def dd_check_outs : He.DefD := ⟨("check_outs", none), "check_outs", "check_outs", defArgs s_check_outs, defBody s_check_outs, defScope s_check_outs, [], []⟩
def dd_is_back : He.DefD := ⟨("is_back", none), "is_back", "is_back", defArgs s_is_back, defBody s_is_back, defScope s_is_back, [], []⟩
def dd_check_backs : He.DefD := ⟨("check_backs", none), "check_backs", "check_backs", defArgs s_check_backs, defBody s_check_backs, defScope s_check_backs, [], []⟩
def dd_is_part : He.DefD := ⟨("is_part", none), "is_part", "is_part", defArgs s_is_part, defBody s_is_part, defScope s_is_part, [], []⟩
def dd_deals_all : He.DefD := ⟨("deals_all", none), "deals_all", "deals_all", defArgs s_deals_all, defBody s_deals_all, defScope s_deals_all, [], []⟩
def dd_is_dealing : He.DefD := ⟨("is_dealing", none), "is_dealing", "is_dealing", defArgs s_is_dealing, defBody s_is_dealing, defScope s_is_dealing, [], []⟩
def dd_law_right : He.DefD := ⟨("_law_right", none), "_law_right", "_law_right", defArgs s_law_right, defBody s_law_right, defScope s_law_right, [], []⟩
def dd_law_purse : He.DefD := ⟨("_law_purse", none), "_law_purse", "_law_purse", defArgs s_law_purse, defBody s_law_purse, defScope s_law_purse, [], []⟩
def dd_law_cell : He.DefD := ⟨("_law_cell", none), "_law_cell", "_law_cell", defArgs s_law_cell, defBody s_law_cell, defScope s_law_cell, [], []⟩
def dd_law : He.DefD := ⟨("law", none), "law", "law", defArgs s_law, defBody s_law, defScope s_law, [], []⟩
def hdFn0 : List He.DefD := [dd_law_take, dd_law_outs, dd_law_backs, dd_law_dealt, dd_law_any_ranks, dd_law_number, dd_law_numbers, dd_law_is_dealing, dd_law_moved, dd_law_bent, dd_is_whole, dd_is_within, dd_is_amount, dd_is_day, dd_is_out, dd_check_outs, dd_is_back, dd_check_backs, dd_is_part, dd_deals_all, dd_is_dealing, dd_law_right, dd_law_purse, dd_law_cell, dd_law]
def hdFn : List He.DefD := hdFn0
def hdFa0 : List He.Fa := [.free "abs", .free "all", .free "any", .free "bool", .free "enumerate", .free "int", .free "isinstance", .free "len", .free "list", .free "max", .free "min", .free "range", .free "sorted", .free "sum", .free "tuple", .int "LAST_DAY" 9999, .int "MOST_AMOUNT" 9999, .int "MOST_MANY" 99999, .glo "_law_take", .glo "_law_outs", .glo "_law_backs", .glo "_law_dealt", .glo "_law_any_ranks", .glo "_law_number", .glo "_law_numbers", .glo "_law_is_dealing", .glo "_law_moved", .glo "_law_bent", .glo "is_whole", .glo "is_within"]
def hdFa1 : List He.Fa := [.glo "is_amount", .glo "is_day", .glo "is_out", .glo "check_outs", .glo "is_back", .glo "check_backs", .glo "is_part", .glo "deals_all", .glo "is_dealing", .glo "_law_right", .glo "_law_purse", .glo "_law_cell", .glo "law"]
def hdFa : List He.Fa := hdFa0 ++ hdFa1
def hdLoose0 : List Str := ["StakeError", "NoOuts", "NoBacks", "LAST_DAY", "MOST_AMOUNT", "is_whole", "is_within", "is_day", "is_amount", "MOST_MANY", "is_out", "is_back", "check_outs", "check_backs", "is_part", "deals_all", "is_dealing", "_law_cell", "_law_purse", "_law_take", "_law_number", "_law_numbers", "_law_outs", "_law_backs", "_law_dealt", "_law_is_dealing", "_law_any_ranks", "_law_bent", "_law_moved", "_law_right"]
def hdLoose : List Str := hdLoose0
abbrev hdR : PySem.W.OpenRow := PySem.W.OpenLaw.row PySem.Challenge.rw_stakecrates_k16_what_dealings_are
abbrev hdK : PySem.W.Hook := He.hookD 4 hdFa hdFn
def hdOb (s : PySem.W.SharedT) : He.AlD := He.obsDG 4 hdFa hdFn (HandSHeadRun.getT s)
theorem hdOb_eq (s : PySem.W.SharedT) : hdOb s = hdK.obs s.abs := He.obsDG_eq (HandSHeadRun.getT_eq s)
theorem hdRun (w : World) : HandSHeadRun.RunEq hdR (PySem.W.view hdR.prog [34]) hdK hdOb 4000 hdLoose w := by
  intro os
  kernel_rfl
theorem txt_ok {K : PySem.W.Frag} {h : Heap} {mg : Str → Option Value} (X : K.In h) (G : h.Ns mainGlobals mg) (c : He.SaysD hdFa hdFn K) : Txt K mg where
  b_abs := He.free_ok X G (c.fact 0 (f := .free "abs") rfl)
  b_all := He.free_ok X G (c.fact 1 (f := .free "all") rfl)
  b_any := He.free_ok X G (c.fact 2 (f := .free "any") rfl)
  b_bool := He.free_ok X G (c.fact 3 (f := .free "bool") rfl)
  b_enumerate := He.free_ok X G (c.fact 4 (f := .free "enumerate") rfl)
  b_int := He.free_ok X G (c.fact 5 (f := .free "int") rfl)
  b_isinstance := He.free_ok X G (c.fact 6 (f := .free "isinstance") rfl)
  b_len := He.free_ok X G (c.fact 7 (f := .free "len") rfl)
  b_list := He.free_ok X G (c.fact 8 (f := .free "list") rfl)
  b_max := He.free_ok X G (c.fact 9 (f := .free "max") rfl)
  b_min := He.free_ok X G (c.fact 10 (f := .free "min") rfl)
  b_range := He.free_ok X G (c.fact 11 (f := .free "range") rfl)
  b_sorted := He.free_ok X G (c.fact 12 (f := .free "sorted") rfl)
  b_sum := He.free_ok X G (c.fact 13 (f := .free "sum") rfl)
  b_tuple := He.free_ok X G (c.fact 14 (f := .free "tuple") rfl)
  i_LAST_DAY := He.int_ok X G (c.fact 15 (f := .int "LAST_DAY" 9999) rfl)
  i_MOST_AMOUNT := He.int_ok X G (c.fact 16 (f := .int "MOST_AMOUNT" 9999) rfl)
  i_MOST_MANY := He.int_ok X G (c.fact 17 (f := .int "MOST_MANY" 99999) rfl)
  g_law_take := He.glo_ok X G (c.fact 18 (f := .glo "_law_take") rfl)
  F_law_take := c.def_ 0 (d := dd_law_take) rfl
  g_law_outs := He.glo_ok X G (c.fact 19 (f := .glo "_law_outs") rfl)
  F_law_outs := c.def_ 1 (d := dd_law_outs) rfl
  g_law_backs := He.glo_ok X G (c.fact 20 (f := .glo "_law_backs") rfl)
  F_law_backs := c.def_ 2 (d := dd_law_backs) rfl
  g_law_dealt := He.glo_ok X G (c.fact 21 (f := .glo "_law_dealt") rfl)
  F_law_dealt := c.def_ 3 (d := dd_law_dealt) rfl
  g_law_any_ranks := He.glo_ok X G (c.fact 22 (f := .glo "_law_any_ranks") rfl)
  F_law_any_ranks := c.def_ 4 (d := dd_law_any_ranks) rfl
  g_law_number := He.glo_ok X G (c.fact 23 (f := .glo "_law_number") rfl)
  F_law_number := c.def_ 5 (d := dd_law_number) rfl
  g_law_numbers := He.glo_ok X G (c.fact 24 (f := .glo "_law_numbers") rfl)
  F_law_numbers := c.def_ 6 (d := dd_law_numbers) rfl
  g_law_is_dealing := He.glo_ok X G (c.fact 25 (f := .glo "_law_is_dealing") rfl)
  F_law_is_dealing := c.def_ 7 (d := dd_law_is_dealing) rfl
  g_law_moved := He.glo_ok X G (c.fact 26 (f := .glo "_law_moved") rfl)
  F_law_moved := c.def_ 8 (d := dd_law_moved) rfl
  g_law_bent := He.glo_ok X G (c.fact 27 (f := .glo "_law_bent") rfl)
  F_law_bent := c.def_ 9 (d := dd_law_bent) rfl
  g_is_whole := He.glo_ok X G (c.fact 28 (f := .glo "is_whole") rfl)
  F_is_whole := c.def_ 10 (d := dd_is_whole) rfl
  g_is_within := He.glo_ok X G (c.fact 29 (f := .glo "is_within") rfl)
  F_is_within := c.def_ 11 (d := dd_is_within) rfl
  g_is_amount := He.glo_ok X G (c.fact 30 (f := .glo "is_amount") rfl)
  F_is_amount := c.def_ 12 (d := dd_is_amount) rfl
  g_is_day := He.glo_ok X G (c.fact 31 (f := .glo "is_day") rfl)
  F_is_day := c.def_ 13 (d := dd_is_day) rfl
  g_is_out := He.glo_ok X G (c.fact 32 (f := .glo "is_out") rfl)
  F_is_out := c.def_ 14 (d := dd_is_out) rfl
  g_check_outs := He.glo_ok X G (c.fact 33 (f := .glo "check_outs") rfl)
  F_check_outs := c.def_ 15 (d := dd_check_outs) rfl
  g_is_back := He.glo_ok X G (c.fact 34 (f := .glo "is_back") rfl)
  F_is_back := c.def_ 16 (d := dd_is_back) rfl
  g_check_backs := He.glo_ok X G (c.fact 35 (f := .glo "check_backs") rfl)
  F_check_backs := c.def_ 17 (d := dd_check_backs) rfl
  g_is_part := He.glo_ok X G (c.fact 36 (f := .glo "is_part") rfl)
  F_is_part := c.def_ 18 (d := dd_is_part) rfl
  g_deals_all := He.glo_ok X G (c.fact 37 (f := .glo "deals_all") rfl)
  F_deals_all := c.def_ 19 (d := dd_deals_all) rfl
  g_is_dealing := He.glo_ok X G (c.fact 38 (f := .glo "is_dealing") rfl)
  F_is_dealing := c.def_ 20 (d := dd_is_dealing) rfl
  g_law_right := He.glo_ok X G (c.fact 39 (f := .glo "_law_right") rfl)
  F_law_right := c.def_ 21 (d := dd_law_right) rfl
  g_law_purse := He.glo_ok X G (c.fact 40 (f := .glo "_law_purse") rfl)
  F_law_purse := c.def_ 22 (d := dd_law_purse) rfl
  g_law_cell := He.glo_ok X G (c.fact 41 (f := .glo "_law_cell") rfl)
  F_law_cell := c.def_ 23 (d := dd_law_cell) rfl
  g_law := He.glo_ok X G (c.fact 42 (f := .glo "law") rfl)
  F_law := c.def_ 24 (d := dd_law) rfl
theorem sp_start {K : PySem.W.Frag} {H : Hp} {a : Addr} {ns : List Int} {g : FF} (hS : SqL K H a (ns.map V.int)) (h : ∃ S', g [.scr (ns.map .int)] ⟨[], 0⟩ = .ok (.bl true) S') : SpD K 1 g [.ref a] H (fun v _ => v = .bl true) fun _ _ _ => False := by
  obtain ⟨S', e⟩ := h
  have r : ∀ ns : List Int, reps K H ⟨[], fun _ => none⟩ (ns.map D.int) (ns.map V.int) := fun ns => by
    induction ns with
    | nil => exact reps_nil
    | cons n ns ih => exact reps_cons rep_int ih
  refine ⟨rfl, H, ⟨[], fun _ => none⟩, ⟨[], 0⟩, [.scr (ns.map .int)], ⟨fun _ _ h => h, rfl, fun k d h => by simp at h, fun a o h => by simp at h, fun j k a e1 e2 h1 h2 => by simp at h1, fun a o h => by simp at h⟩, reps_cons (by simp only [rep]; exact ⟨a, _, rfl, hS, r ns⟩) reps_nil, ?_⟩
  rw [e]
  intro B' tb' H' v x w r
  simp only [rep] at r
  exact r
end K16
open PySem PySem.W PySem.Calls PyProof.Rows
theorem PySem.Challenge.cw_stakecrates_k16_what_dealings_are_holds : PySem.Challenge.rw_stakecrates_k16_what_dealings_are.Holds := by
  w_on; o_law
  refine HandSHeadRun.head_any (r := OpenLaw.row PySem.Challenge.rw_stakecrates_k16_what_dealings_are) (q := view (OpenLaw.row PySem.Challenge.rw_stakecrates_k16_what_dealings_are).prog [34]) (H := K16.hdK) (ob := K16.hdOb) (M := 4000) (loose := K16.hdLoose) (d := HandSHeadRun.topDef (OpenLaw.row PySem.Challenge.rw_stakecrates_k16_what_dealings_are).prog 34) (kwd := []) K16.hdOb_eq
    (by kernel_rfl) (fun s => by kernel_rfl) K16.hdRun (by kernel_rfl) (by kernel_rfl) (by kernel_rfl) (by rfl) (by first | assumption | decide +kernel) (by decide +kernel) ⟨rfl, rfl, rfl, rfl, rfl, by decide +kernel⟩ ?hw ?hc
  case hw => w_witness2
  case hc =>
    refine L2.walk_ofE (l := PySem.Challenge.rw_stakecrates_k16_what_dealings_are) (n := 63) (k := 8) (x := "_law_script") (CX := L2.CX0) rfl (by decide) (by kernel_rfl) ⟨rfl, by decide, by decide⟩ ?F (fun _ _ _ _ z => z)
    intro w mg fa h Y G hmg0
    obtain ⟨K, KX, c⟩ := Y
    have hmg : mg ("law" : PySem.Str) = some (.ref fa) := by
      have e : (HandSHeadRun.topDef (OpenLaw.row PySem.Challenge.rw_stakecrates_k16_what_dealings_are).prog 34).name = ("law" : PySem.Str) := by kernel_rfl
      rw [← e]
      exact hmg0
    have T := K16.txt_ok KX G c
    have e := hmg.symm.trans T.g_law
    cases e
    obtain ⟨fd, F⟩ := T.F_law
    have b := L2.FunD.bindsA (ps := ["_law_script"]) F fun _ _ _ _ _ _ us hl => match us, hl with | [_], _ => rfl
    refine ⟨K, fd, Qd.SpD K 1 K16.m_law, KX, fun s v => b s [v] rfl, fun H a ns hl _ hS => K16.sp_start hS (K16.plain ns hl), fun base _ _ => K16.ok_law T F⟩

