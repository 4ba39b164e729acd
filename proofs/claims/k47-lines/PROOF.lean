import PyProof.Rows.All
import Wide.All
import OpenK.AllK
import Wide.FinOn
import HandS.ForMost
import HandS.Exc
import HandS.ExcOwn
import HandS.WordsExc
import HandS.CallSlots
import HandS.TupAny
import HandS.Star
import HandS.IsInst
import HandS.Flow
import HandS.Deep
import HandS.Wide
import HandS.TupLe
import HandS.Rev
import HandS.RevRange
import HandS.Zip
import HandS.SortInts
import HandS.Strs
import PyProof.FString3
import HandS.FStr
import PyProof.Rows.StrIntSpec
import HandS.ExcIs
import HandS.TryMany
import KE.GoesNew
import KE.GoesMore
import HandS.Style
import HandS.List
import PyProof.StrOps2
import PyProof.DictMoreH
import HandS.StrMore
import KE.IntTextLaws
import HandS.Conv
import HandS.NoneIn
import PyProof.ListRange
import HandS.More
import KE.KDictSum
import HandS.Dict
import KE.DataMinMax
import HandS.SortKw
import KE.GoesEnum
import HandS.AnyAll
import HandS.GenOver
import HandS.GenList
import HandS.EndTab
import KE.KNestM
import PySem.Challenge.RW_stillroom_k47_lines
set_option Elab.async false
set_option linter.all false
section
set_option maxRecDepth 100000
set_option maxHeartbeats 1000000
namespace Dv
open PySem PySem.Spec PyProof.Rows L2

/-- a value as plain data; lists and dicts carry whether they are owned (may be changed) -/
inductive D where
  | non | bl (b : Bool) | int (i : Int) | str (x : Str)
  | tup (xs : List D)
  | lst (o : Bool) (xs : List D)
  | scr (xs : List D)
  | dic (o : Bool) (ks : List Key) (xs : List D)
  | dit (o : Bool) (ks : List (List Key)) (xs : List D)
  | ins (c : Nat) (fs : List Str) (xs : List D)
  | fn (i : Nat)

mutual
def D.pure : D → Bool
  | .non => true | .bl _ => true | .int _ => true | .str _ => true | .fn _ => true
  | .tup xs => D.pureL xs
  | .lst o xs => !o && D.pureL xs
  | .scr xs => D.pureL xs
  | .dic o _ xs => !o && D.pureL xs
  | .dit o _ xs => !o && D.pureL xs
  | .ins _ _ _ => false
def D.pureL : List D → Bool
  | [] => true
  | x :: xs => x.pure && D.pureL xs
end
mutual
/-- frozen: nothing is owned any more (instances stay) -/
def D.frz : D → D
  | .non => .non | .bl b => .bl b | .int i => .int i | .str x => .str x | .fn i => .fn i
  | .tup xs => .tup (D.frzL xs)
  | .lst _ xs => .lst false (D.frzL xs)
  | .scr xs => .scr (D.frzL xs)
  | .dic _ ks xs => .dic false ks (D.frzL xs)
  | .dit _ ks xs => .dit false ks (D.frzL xs)
  | .ins c fs xs => .ins c fs xs
def D.frzL : List D → List D
  | [] => []
  | x :: xs => x.frz :: D.frzL xs
end
mutual
/-- may be frozen: no instance in it -/
def D.cold : D → Bool
  | .non => true | .bl _ => true | .int _ => true | .str _ => true | .fn _ => true
  | .tup xs => D.coldL xs
  | .lst _ xs => D.coldL xs
  | .scr xs => D.coldL xs
  | .dic _ _ xs => D.coldL xs
  | .dit _ _ xs => D.coldL xs
  | .ins _ _ _ => false
def D.coldL : List D → Bool
  | [] => true
  | x :: xs => x.cold && D.coldL xs
end
mutual
/-- no frozen list or dict in it: it can't share a list with anything -/
def D.noFz : D → Bool
  | .non => true | .bl _ => true | .int _ => true | .str _ => true | .fn _ => true
  | .tup xs => D.noFzL xs
  | .lst o xs => o && D.noFzL xs
  | .scr xs => false
  | .dic o _ xs => o && D.noFzL xs
  | .dit o _ xs => o && D.noFzL xs
  | .ins _ _ xs => D.noFzL xs
def D.noFzL : List D → Bool
  | [] => true
  | x :: xs => x.noFz && D.noFzL xs
end

/-- what a def's proof is written over: the written part, the classes' addresses -/
structure Kx where
  K : PySem.W.Frag
  cm : Nat → Addr
  fm : Nat → Addr
  tb : List Addr := []
/-- a code object's table at P, whatever stands in it -/
def TabF (P : Addr) (h : Heap) : Prop := ∃ ps : Array Value, h.get? P = some { cls := .none, data := .fields ps } ∧ TriplesOk ps.toList

mutual
/-- the value v stands for the data d: what is frozen lies in HF, what is owned in H at the addresses A -/
def Rp (k : Kx) (HF H : Hp) : D → V → List Addr → Prop
  | .non, v, A => v = .non ∧ A = []
  | .bl b, v, A => v = .bl b ∧ A = []
  | .int i, v, A => v = .int i ∧ A = []
  | .str x, v, A => v = .str x ∧ A = []
  | .fn i, v, A => v = .ref (k.fm i) ∧ A = []
  | .tup ds, v, A => ∃ a xs, v = .ref a ∧ SqT k.K HF a xs ∧ RpL k HF H ds xs A
  | .lst o ds, v, A => ∃ a xs B, v = .ref a ∧ RpL k HF H ds xs B ∧
      (o = false → HF a = some (.lst xs) ∧ A = [] ∧ B = []) ∧ (o = true → A = a :: B ∧ HF a = none ∧ H a = some (.lst xs))
  | .scr ds, v, A => ∃ a xs, v = .ref a ∧ A = [] ∧ SqL k.K HF a xs ∧ RpL k HF H ds xs []
  | .dic o ks ds, v, A => ∃ a xs B, v = .ref a ∧ ks.length = xs.length ∧ RpL k HF H ds xs B ∧
      (o = false → HF a = some (.dK (ks.zip xs)) ∧ A = [] ∧ B = []) ∧ (o = true → A = a :: B ∧ HF a = none ∧ H a = some (.dK (ks.zip xs)))
  | .dit o ks ds, v, A => ∃ a xs B, v = .ref a ∧ ks.length = xs.length ∧ RpL k HF H ds xs B ∧
      (o = false → HF a = some (.dT (ks.zip xs)) ∧ A = [] ∧ B = []) ∧ (o = true → A = a :: B ∧ HF a = none ∧ H a = some (.dT (ks.zip xs)))
  | .ins c fs ds, v, A => ∃ a dx xs B, v = .ref a ∧ fs.length = xs.length ∧ RpL k HF H ds xs B ∧ A = a :: B ∧ HF a = none ∧ H a = some (.ins (k.cm c) dx (fs.zip xs))
def RpL (k : Kx) (HF H : Hp) : List D → List V → List Addr → Prop
  | [], xs, A => xs = [] ∧ A = []
  | d :: ds, xs, A => ∃ v vs B C, xs = v :: vs ∧ A = B ++ C ∧ Rp k HF H d v B ∧ RpL k HF H ds vs C
end

def Ex (H H' : Hp) : Prop := ∀ a o, H a = some o → H' a = some o
/-- the tables of k stand in F -/
def Tb (k : Kx) (F : Hp) : Prop := ∀ P ∈ k.tb, F P = some (.ext (TabF P))
theorem Tb.ex {k : Kx} {F F' : Hp} (t : Tb k F) (e : Ex F F') : Tb k F' := fun P hP => e P _ (t P hP)
/-- F goes on from F0, the tables are there -/
structure E0 (k : Kx) (F0 F : Hp) : Prop where
  ex : Ex F0 F
  tb : Tb k F
theorem E0.trans {k : Kx} {F0 F F' : Hp} (a : E0 k F0 F) (b : Ex F F') : E0 k F0 F' := ⟨fun x o h => b x o (a.ex x o h), a.tb.ex b⟩
theorem Ex.refl (H : Hp) : Ex H H := fun _ _ h => h
theorem Ex.trans {H H1 H2 : Hp} (a : Ex H H1) (b : Ex H1 H2) : Ex H H2 := fun x o h => b x o (a x o h)
theorem Ex.new {H : Hp} {p : Addr} {o : HO} (h : H p = none) : Ex H (upd H p o) := fun a u e => by
  rw [upd_ne (ne_of_none e h)]
  exact e
theorem ex_rd {H H' : Hp} {a : Addr} {u : HO} (e : Ex H H') (h : Rd H a u) : Rd H' a u := by
  rcases h with h | ⟨o, h⟩
  · exact Or.inl (e a _ h)
  · exact Or.inr ⟨o, e a _ h⟩
theorem ex_l {K : PySem.W.Frag} {H H' : Hp} {a : Addr} {xs : List V} (e : Ex H H') (h : SqL K H a xs) : SqL K H' a xs := by
  rcases h with h | h
  · exact Or.inl (ex_rd e h)
  · exact Or.inr h
theorem ex_t {K : PySem.W.Frag} {H H' : Hp} {a : Addr} {xs : List V} (e : Ex H H') (h : SqT K H a xs) : SqT K H' a xs := by
  rcases h with h | h
  · exact Or.inl (ex_rd e h)
  · exact Or.inr h

/-- a step of a pure evaluation -/
structure Tr (HF H HF' H' : Hp) : Prop where
  ff : Ex HF HF'
  hh : Ex H H'
  fh : Ex HF' H'
  no : ∀ a, HF a = none → H a ≠ none → HF' a = none
theorem Tr.refl {HF H : Hp} (h : Ex HF H) : Tr HF H HF H := ⟨.refl _, .refl _, h, fun _ e _ => e⟩
theorem Tr.trans {F H F1 H1 F2 H2 : Hp} (a : Tr F H F1 H1) (b : Tr F1 H1 F2 H2) : Tr F H F2 H2 :=
  ⟨a.ff.trans b.ff, a.hh.trans b.hh, b.fh, fun x e n => b.no x (a.no x e n) fun z => by
    cases q : H x with
    | none => exact n q
    | some o => rw [a.hh x o q] at z; cases z⟩

section
variable {k : Kx} {F H F' H' : Hp}
mutual
theorem Rp.mono (ff : Ex F F') : ∀ (d : D) (v : V) (A : List Addr), (∀ a ∈ A, ∀ o, H a = some o → F a = none → H' a = some o ∧ F' a = none) → Rp k F H d v A → Rp k F' H' d v A
  | .non, _, _, _, h => h
  | .bl _, _, _, _, h => h
  | .int _, _, _, _, h => h
  | .str _, _, _, _, h => h
  | .fn _, _, _, _, h => h
  | .tup ds, v, A, n, h => by
    obtain ⟨a, xs, e, s, r⟩ := h
    exact ⟨a, xs, e, ex_t ff s, RpL.mono ff ds xs A n r⟩
  | .lst o ds, v, A, n, h => by
    obtain ⟨a, xs, B, e, r, h1, h2⟩ := h
    refine ⟨a, xs, B, e, RpL.mono ff ds xs B (fun b hb => n b ?_) r, fun q => ?_, fun q => ?_⟩
    · cases o with
      | false => rw [(h1 rfl).2.2] at hb; cases hb
      | true => rw [(h2 rfl).1]; exact List.mem_cons_of_mem _ hb
    · exact ⟨ff _ _ (h1 q).1, (h1 q).2⟩
    · have := n a (by rw [(h2 q).1]; exact List.mem_cons_self) _ (h2 q).2.2 (h2 q).2.1
      exact ⟨(h2 q).1, this.2, this.1⟩
  | .scr ds, v, A, n, h => by
    obtain ⟨a, xs, e, e2, s, r⟩ := h
    exact ⟨a, xs, e, e2, ex_l ff s, RpL.mono ff ds xs [] (fun _ z => nomatch z) r⟩
  | .dic o ks ds, v, A, n, h => by
    obtain ⟨a, xs, B, e, l, r, h1, h2⟩ := h
    refine ⟨a, xs, B, e, l, RpL.mono ff ds xs B (fun b hb => n b ?_) r, fun q => ?_, fun q => ?_⟩
    · cases o with
      | false => rw [(h1 rfl).2.2] at hb; cases hb
      | true => rw [(h2 rfl).1]; exact List.mem_cons_of_mem _ hb
    · exact ⟨ff _ _ (h1 q).1, (h1 q).2⟩
    · have := n a (by rw [(h2 q).1]; exact List.mem_cons_self) _ (h2 q).2.2 (h2 q).2.1
      exact ⟨(h2 q).1, this.2, this.1⟩
  | .dit o ks ds, v, A, n, h => by
    obtain ⟨a, xs, B, e, l, r, h1, h2⟩ := h
    refine ⟨a, xs, B, e, l, RpL.mono ff ds xs B (fun b hb => n b ?_) r, fun q => ?_, fun q => ?_⟩
    · cases o with
      | false => rw [(h1 rfl).2.2] at hb; cases hb
      | true => rw [(h2 rfl).1]; exact List.mem_cons_of_mem _ hb
    · exact ⟨ff _ _ (h1 q).1, (h1 q).2⟩
    · have := n a (by rw [(h2 q).1]; exact List.mem_cons_self) _ (h2 q).2.2 (h2 q).2.1
      exact ⟨(h2 q).1, this.2, this.1⟩
  | .ins c fs ds, v, A, n, h => by
    obtain ⟨a, dx, xs, B, e, l, r, h1, h2, h3⟩ := h
    have := n a (by rw [h1]; exact List.mem_cons_self) _ h3 h2
    exact ⟨a, dx, xs, B, e, l, RpL.mono ff ds xs B (fun b hb => n b (by rw [h1]; exact List.mem_cons_of_mem _ hb)) r, h1, this.2, this.1⟩
theorem RpL.mono (ff : Ex F F') : ∀ (ds : List D) (vs : List V) (A : List Addr), (∀ a ∈ A, ∀ o, H a = some o → F a = none → H' a = some o ∧ F' a = none) → RpL k F H ds vs A → RpL k F' H' ds vs A
  | [], _, _, _, h => h
  | d :: ds, xs, A, n, h => by
    obtain ⟨v, vs, B, C, e1, e2, h1, h2⟩ := h
    refine ⟨v, vs, B, C, e1, e2, Rp.mono ff d v B (fun a ha => n a ?_) h1, RpL.mono ff ds vs C (fun a ha => n a ?_) h2⟩
    · rw [e2]; exact List.mem_append_left _ ha
    · rw [e2]; exact List.mem_append_right _ ha
end
end
end Dv
end
section
set_option maxRecDepth 100000
set_option maxHeartbeats 1000000
namespace Dv
open PySem PySem.Spec PyProof.Rows L2
section
variable {k : Kx} {F H F' H' : Hp}
mutual
/-- what is pure owns nothing -/
theorem Rp.own_nil : ∀ (d : D) (v : V) (A : List Addr), d.pure = true → Rp k F H d v A → A = []
  | .non, _, _, _, h => h.2
  | .bl _, _, _, _, h => h.2
  | .int _, _, _, _, h => h.2
  | .str _, _, _, _, h => h.2
  | .fn _, _, _, _, h => h.2
  | .tup ds, v, A, p, h => by
    obtain ⟨a, xs, e, s, r⟩ := h
    exact RpL.own_nil ds xs A p r
  | .lst o ds, v, A, p, h => by
    obtain ⟨a, xs, B, e, r, h1, h2⟩ := h
    cases o with
    | false => exact (h1 rfl).2.1
    | true => exact absurd p (by simp [D.pure])
  | .scr ds, v, A, p, h => by
    obtain ⟨a, xs, e, e2, s, r⟩ := h
    exact e2
  | .dic o ks ds, v, A, p, h => by
    obtain ⟨a, xs, B, e, l, r, h1, h2⟩ := h
    cases o with
    | false => exact (h1 rfl).2.1
    | true => exact absurd p (by simp [D.pure])
  | .dit o ks ds, v, A, p, h => by
    obtain ⟨a, xs, B, e, l, r, h1, h2⟩ := h
    cases o with
    | false => exact (h1 rfl).2.1
    | true => exact absurd p (by simp [D.pure])
  | .ins _ _ _, _, _, p, _ => absurd p (by simp [D.pure])
theorem RpL.own_nil : ∀ (ds : List D) (vs : List V) (A : List Addr), D.pureL ds = true → RpL k F H ds vs A → A = []
  | [], _, _, _, h => h.2
  | d :: ds, xs, A, p, h => by
    obtain ⟨v, vs, B, C, e1, e2, h1, h2⟩ := h
    have p' : d.pure = true ∧ D.pureL ds = true := by simpa [D.pureL] using p
    rw [e2, Rp.own_nil d v B p'.1 h1, RpL.own_nil ds vs C p'.2 h2]
    rfl
end
/-- what is pure stands on the frozen part alone -/
theorem Rp.pure {d : D} {v : V} {A : List Addr} (p : d.pure = true) (ff : Ex F F') (h : Rp k F H d v A) : Rp k F' H' d v [] := by
  have e := Rp.own_nil d v A p h
  subst e
  exact Rp.mono ff d v [] (fun _ z => nomatch z) h
theorem RpL.pure {ds : List D} {vs : List V} {A : List Addr} (p : D.pureL ds = true) (ff : Ex F F') (h : RpL k F H ds vs A) : RpL k F' H' ds vs [] := by
  have e := RpL.own_nil ds vs A p h
  subst e
  exact RpL.mono ff ds vs [] (fun _ z => nomatch z) h
mutual
/-- the owned addresses stand in H and not in F -/
theorem Rp.dom : ∀ (d : D) (v : V) (A : List Addr), Rp k F H d v A → ∀ a ∈ A, F a = none ∧ ∃ o, H a = some o ∧ (∀ xs, o ≠ .tup xs) ∧ ∀ ob u, o ≠ .frz ob u
  | .non, _, _, h => by rw [h.2]; exact fun _ z => nomatch z
  | .bl _, _, _, h => by rw [h.2]; exact fun _ z => nomatch z
  | .int _, _, _, h => by rw [h.2]; exact fun _ z => nomatch z
  | .str _, _, _, h => by rw [h.2]; exact fun _ z => nomatch z
  | .fn _, _, _, h => by rw [h.2]; exact fun _ z => nomatch z
  | .tup ds, v, A, h => by
    obtain ⟨a, xs, e, s, r⟩ := h
    exact RpL.dom ds xs A r
  | .lst o ds, v, A, h => by
    obtain ⟨a, xs, B, e, r, h1, h2⟩ := h
    cases o with
    | false => rw [(h1 rfl).2.1]; exact fun _ z => nomatch z
    | true =>
      rw [(h2 rfl).1]
      intro b hb
      rcases List.mem_cons.mp hb with rfl | hb
      · exact ⟨(h2 rfl).2.1, _, (h2 rfl).2.2, (fun _ z => nomatch z), (fun _ _ z => nomatch z)⟩
      · exact RpL.dom ds xs B r b hb
  | .scr ds, v, A, h => by
    obtain ⟨a, xs, e, e2, s, r⟩ := h
    rw [e2]; exact fun _ z => nomatch z
  | .dic o ks ds, v, A, h => by
    obtain ⟨a, xs, B, e, l, r, h1, h2⟩ := h
    cases o with
    | false => rw [(h1 rfl).2.1]; exact fun _ z => nomatch z
    | true =>
      rw [(h2 rfl).1]
      intro b hb
      rcases List.mem_cons.mp hb with rfl | hb
      · exact ⟨(h2 rfl).2.1, _, (h2 rfl).2.2, (fun _ z => nomatch z), (fun _ _ z => nomatch z)⟩
      · exact RpL.dom ds xs B r b hb
  | .dit o ks ds, v, A, h => by
    obtain ⟨a, xs, B, e, l, r, h1, h2⟩ := h
    cases o with
    | false => rw [(h1 rfl).2.1]; exact fun _ z => nomatch z
    | true =>
      rw [(h2 rfl).1]
      intro b hb
      rcases List.mem_cons.mp hb with rfl | hb
      · exact ⟨(h2 rfl).2.1, _, (h2 rfl).2.2, (fun _ z => nomatch z), (fun _ _ z => nomatch z)⟩
      · exact RpL.dom ds xs B r b hb
  | .ins c fs ds, v, A, h => by
    obtain ⟨a, dx, xs, B, e, l, r, h1, h2, h3⟩ := h
    rw [h1]
    intro b hb
    rcases List.mem_cons.mp hb with rfl | hb
    · exact ⟨h2, _, h3, (fun _ z => nomatch z), (fun _ _ z => nomatch z)⟩
    · exact RpL.dom ds xs B r b hb
theorem RpL.dom : ∀ (ds : List D) (vs : List V) (A : List Addr), RpL k F H ds vs A → ∀ a ∈ A, F a = none ∧ ∃ o, H a = some o ∧ (∀ xs, o ≠ .tup xs) ∧ ∀ ob u, o ≠ .frz ob u
  | [], _, _, h => by rw [h.2]; exact fun _ z => nomatch z
  | d :: ds, xs, A, h => by
    obtain ⟨v, vs, B, C, e1, e2, h1, h2⟩ := h
    rw [e2]
    intro b hb
    rcases List.mem_append.mp hb with hb | hb
    · exact Rp.dom d v B h1 b hb
    · exact RpL.dom ds vs C h2 b hb
end
/-- the frozen part with A's objects -/
def fz (F H : Hp) (A : List Addr) : Hp := fun a => if a ∈ A then H a else F a
theorem fz_in {A : List Addr} {a : Addr} (h : a ∈ A) : fz F H A a = H a := if_pos h
theorem fz_out {A : List Addr} {a : Addr} (h : a ∉ A) : fz F H A a = F a := if_neg h
theorem fz_ex {A : List Addr} (h : ∀ a ∈ A, F a = none) : Ex F (fz F H A) := fun a o e => by
  rw [fz_out fun z => by rw [h a z] at e; cases e]
  exact e
theorem fz_exH {A : List Addr} (h : Ex F H) : Ex (fz F H A) H := fun a o e => by
  by_cases q : a ∈ A
  · rw [fz_in q] at e; exact e
  · rw [fz_out q] at e; exact h a o e
mutual
theorem Rp.frz {A0 : List Addr} (n : ∀ a ∈ A0, F a = none) : ∀ (d : D) (v : V) (A : List Addr), d.cold = true → (∀ a ∈ A, a ∈ A0) → Rp k F H d v A → Rp k (fz F H A0) H' d.frz v []
  | .non, _, _, _, _, h => ⟨h.1, rfl⟩
  | .bl _, _, _, _, _, h => ⟨h.1, rfl⟩
  | .int _, _, _, _, _, h => ⟨h.1, rfl⟩
  | .str _, _, _, _, _, h => ⟨h.1, rfl⟩
  | .fn _, _, _, _, _, h => ⟨h.1, rfl⟩
  | .tup ds, v, A, c, m, h => by
    obtain ⟨a, xs, e, s, r⟩ := h
    exact ⟨a, xs, e, ex_t (fz_ex n) s, RpL.frz n ds xs A c m r⟩
  | .lst o ds, v, A, c, m, h => by
    obtain ⟨a, xs, B, e, r, h1, h2⟩ := h
    cases o with
    | false => exact ⟨a, xs, [], e, RpL.frz n ds xs B c (by rw [(h1 rfl).2.2]; exact fun _ z => nomatch z) r, fun _ => ⟨fz_ex n _ _ (h1 rfl).1, rfl, rfl⟩, (fun z => nomatch z)⟩
    | true =>
      have e1 := (h2 rfl).1
      refine ⟨a, xs, [], e, RpL.frz n ds xs B c (fun b hb => m b (by rw [e1]; exact List.mem_cons_of_mem _ hb)) r, fun _ => ⟨?_, rfl, rfl⟩, (fun z => nomatch z)⟩
      rw [fz_in (m a (by rw [e1]; exact List.mem_cons_self))]
      exact (h2 rfl).2.2
  | .scr ds, v, A, c, m, h => by
    obtain ⟨a, xs, e, e2, s, r⟩ := h
    exact ⟨a, xs, e, rfl, ex_l (fz_ex n) s, RpL.frz n ds xs [] c (fun _ z => nomatch z) r⟩
  | .dic o ks ds, v, A, c, m, h => by
    obtain ⟨a, xs, B, e, l, r, h1, h2⟩ := h
    cases o with
    | false => exact ⟨a, xs, [], e, l, RpL.frz n ds xs B c (by rw [(h1 rfl).2.2]; exact fun _ z => nomatch z) r, fun _ => ⟨fz_ex n _ _ (h1 rfl).1, rfl, rfl⟩, (fun z => nomatch z)⟩
    | true =>
      have e1 := (h2 rfl).1
      refine ⟨a, xs, [], e, l, RpL.frz n ds xs B c (fun b hb => m b (by rw [e1]; exact List.mem_cons_of_mem _ hb)) r, fun _ => ⟨?_, rfl, rfl⟩, (fun z => nomatch z)⟩
      rw [fz_in (m a (by rw [e1]; exact List.mem_cons_self))]
      exact (h2 rfl).2.2
  | .dit o ks ds, v, A, c, m, h => by
    obtain ⟨a, xs, B, e, l, r, h1, h2⟩ := h
    cases o with
    | false => exact ⟨a, xs, [], e, l, RpL.frz n ds xs B c (by rw [(h1 rfl).2.2]; exact fun _ z => nomatch z) r, fun _ => ⟨fz_ex n _ _ (h1 rfl).1, rfl, rfl⟩, (fun z => nomatch z)⟩
    | true =>
      have e1 := (h2 rfl).1
      refine ⟨a, xs, [], e, l, RpL.frz n ds xs B c (fun b hb => m b (by rw [e1]; exact List.mem_cons_of_mem _ hb)) r, fun _ => ⟨?_, rfl, rfl⟩, (fun z => nomatch z)⟩
      rw [fz_in (m a (by rw [e1]; exact List.mem_cons_self))]
      exact (h2 rfl).2.2
  | .ins _ _ _, _, _, c, _, _ => absurd c (by simp [D.cold])
theorem RpL.frz {A0 : List Addr} (n : ∀ a ∈ A0, F a = none) : ∀ (ds : List D) (vs : List V) (A : List Addr), D.coldL ds = true → (∀ a ∈ A, a ∈ A0) → RpL k F H ds vs A → RpL k (fz F H A0) H' (D.frzL ds) vs []
  | [], _, _, _, _, h => ⟨h.1, rfl⟩
  | d :: ds, xs, A, c, m, h => by
    obtain ⟨v, vs, B, C, e1, e2, h1, h2⟩ := h
    have c' : d.cold = true ∧ D.coldL ds = true := by simpa [D.coldL] using c
    exact ⟨v, vs, [], [], e1, rfl, Rp.frz n d v B c'.1 (fun a ha => m a (by rw [e2]; exact List.mem_append_left _ ha)) h1, RpL.frz n ds vs C c'.2 (fun a ha => m a (by rw [e2]; exact List.mem_append_right _ ha)) h2⟩
end
mutual
theorem D.frz_pure : ∀ d : D, d.cold = true → d.frz.pure = true
  | .non, _ => rfl | .bl _, _ => rfl | .int _, _ => rfl | .str _, _ => rfl | .fn _, _ => rfl
  | .tup xs, c => by simpa [D.frz, D.pure] using D.frzL_pure xs c
  | .lst _ xs, c => by simpa [D.frz, D.pure] using D.frzL_pure xs c
  | .scr xs, c => by simpa [D.frz, D.pure] using D.frzL_pure xs c
  | .dic _ _ xs, c => by simpa [D.frz, D.pure] using D.frzL_pure xs c
  | .dit _ _ xs, c => by simpa [D.frz, D.pure] using D.frzL_pure xs c
  | .ins _ _ _, c => absurd c (by simp [D.cold])
theorem D.frzL_pure : ∀ ds : List D, D.coldL ds = true → D.pureL (D.frzL ds) = true
  | [], _ => rfl
  | d :: ds, c => by
    have c' : d.cold = true ∧ D.coldL ds = true := by simpa [D.coldL] using c
    simp [D.frzL, D.pureL, D.frz_pure d c'.1, D.frzL_pure ds c'.2]
end
mutual
theorem D.pure_cold : ∀ d : D, d.pure = true → d.cold = true
  | .non, _ => rfl | .bl _, _ => rfl | .int _, _ => rfl | .str _, _ => rfl | .fn _, _ => rfl
  | .tup xs, c => D.pureL_cold xs c
  | .lst o xs, c => D.pureL_cold xs (by simp [D.pure] at c; exact c.2)
  | .scr xs, c => D.pureL_cold xs c
  | .dic o _ xs, c => D.pureL_cold xs (by simp [D.pure] at c; exact c.2)
  | .dit o _ xs, c => D.pureL_cold xs (by simp [D.pure] at c; exact c.2)
  | .ins _ _ _, c => absurd c (by simp [D.pure])
theorem D.pureL_cold : ∀ ds : List D, D.pureL ds = true → D.coldL ds = true
  | [], _ => rfl
  | d :: ds, c => by
    have c' : d.pure = true ∧ D.pureL ds = true := by simpa [D.pureL] using c
    simp [D.coldL, D.pure_cold d c'.1, D.pureL_cold ds c'.2]
end
mutual
theorem D.pure_frz : ∀ d : D, d.pure = true → d.frz = d
  | .non, _ => rfl | .bl _, _ => rfl | .int _, _ => rfl | .str _, _ => rfl | .fn _, _ => rfl
  | .tup xs, c => by rw [D.frz, D.pureL_frzL xs c]
  | .lst o xs, c => by simp [D.pure] at c; rw [D.frz, D.pureL_frzL xs c.2, c.1]
  | .scr xs, c => by rw [D.frz, D.pureL_frzL xs c]
  | .dic o _ xs, c => by simp [D.pure] at c; rw [D.frz, D.pureL_frzL xs c.2, c.1]
  | .dit o _ xs, c => by simp [D.pure] at c; rw [D.frz, D.pureL_frzL xs c.2, c.1]
  | .ins _ _ _, c => absurd c (by simp [D.pure])
theorem D.pureL_frzL : ∀ ds : List D, D.pureL ds = true → D.frzL ds = ds
  | [], _ => rfl
  | d :: ds, c => by
    have c' : d.pure = true ∧ D.pureL ds = true := by simpa [D.pureL] using c
    rw [D.frzL, D.pure_frz d c'.1, D.pureL_frzL ds c'.2]
end
mutual
/-- without frozen lists: the frozen part may lose addresses of lists and dicts -/
theorem Rp.thin (m : List Addr) (hm : ∀ a ∈ m, ∀ o, F a = some o → (∀ xs, o ≠ .tup xs) ∧ ∀ ob u, o ≠ .frz ob u) : ∀ (d : D) (v : V) (A : List Addr), d.noFz = true → Rp k F H d v A → Rp k (fun a => if a ∈ m then none else F a) H d v A
  | .non, _, _, _, h => h
  | .bl _, _, _, _, h => h
  | .int _, _, _, _, h => h
  | .str _, _, _, _, h => h
  | .fn _, _, _, _, h => h
  | .tup ds, v, A, p, h => by
    obtain ⟨a, xs, e, s, r⟩ := h
    refine ⟨a, xs, e, ?_, RpL.thin m hm ds xs A p r⟩
    rcases s with (s | ⟨o, s⟩) | s
    · refine .inl (.inl ?_)
      show (if a ∈ m then none else F a) = _
      rw [if_neg fun z => (hm a z _ s).1 _ rfl]
      exact s
    · refine .inl (.inr ⟨o, ?_⟩)
      show (if a ∈ m then none else F a) = _
      rw [if_neg fun z => (hm a z _ s).2 _ _ rfl]
      exact s
    · exact .inr s
  | .lst o ds, v, A, p, h => by
    obtain ⟨a, xs, B, e, r, h1, h2⟩ := h
    cases o with
    | false => exact absurd p (by simp [D.noFz])
    | true =>
      refine ⟨a, xs, B, e, RpL.thin m hm ds xs B (by simpa [D.noFz] using p) r, (fun z => nomatch z), fun _ => ⟨(h2 rfl).1, ?_, (h2 rfl).2.2⟩⟩
      show (if a ∈ m then none else F a) = none
      rw [(h2 rfl).2.1]; split <;> rfl
  | .scr _, _, _, p, _ => absurd p (by simp [D.noFz])
  | .dic o ks ds, v, A, p, h => by
    obtain ⟨a, xs, B, e, l, r, h1, h2⟩ := h
    cases o with
    | false => exact absurd p (by simp [D.noFz])
    | true =>
      refine ⟨a, xs, B, e, l, RpL.thin m hm ds xs B (by simpa [D.noFz] using p) r, (fun z => nomatch z), fun _ => ⟨(h2 rfl).1, ?_, (h2 rfl).2.2⟩⟩
      show (if a ∈ m then none else F a) = none
      rw [(h2 rfl).2.1]; split <;> rfl
  | .dit o ks ds, v, A, p, h => by
    obtain ⟨a, xs, B, e, l, r, h1, h2⟩ := h
    cases o with
    | false => exact absurd p (by simp [D.noFz])
    | true =>
      refine ⟨a, xs, B, e, l, RpL.thin m hm ds xs B (by simpa [D.noFz] using p) r, (fun z => nomatch z), fun _ => ⟨(h2 rfl).1, ?_, (h2 rfl).2.2⟩⟩
      show (if a ∈ m then none else F a) = none
      rw [(h2 rfl).2.1]; split <;> rfl
  | .ins c fs ds, v, A, p, h => by
    obtain ⟨a, dx, xs, B, e, l, r, h1, h2, h3⟩ := h
    refine ⟨a, dx, xs, B, e, l, RpL.thin m hm ds xs B p r, h1, ?_, h3⟩
    show (if a ∈ m then none else F a) = none
    rw [h2]; split <;> rfl
theorem RpL.thin (m : List Addr) (hm : ∀ a ∈ m, ∀ o, F a = some o → (∀ xs, o ≠ .tup xs) ∧ ∀ ob u, o ≠ .frz ob u) : ∀ (ds : List D) (vs : List V) (A : List Addr), D.noFzL ds = true → RpL k F H ds vs A → RpL k (fun a => if a ∈ m then none else F a) H ds vs A
  | [], _, _, _, h => h
  | d :: ds, xs, A, p, h => by
    obtain ⟨v, vs, B, C, e1, e2, h1, h2⟩ := h
    have p' : d.noFz = true ∧ D.noFzL ds = true := by simpa [D.noFzL] using p
    exact ⟨v, vs, B, C, e1, e2, Rp.thin m hm d v B p'.1 h1, RpL.thin m hm ds vs C p'.2 h2⟩
end
/-! lists of data -/
theorem RpL.len : ∀ {ds : List D} {vs : List V} {A : List Addr}, RpL k F H ds vs A → ds.length = vs.length
  | [], _, _, h => by rw [h.1]; rfl
  | d :: ds, xs, A, h => by
    obtain ⟨v, vs, B, C, e1, e2, h1, h2⟩ := h
    rw [e1, List.length_cons, List.length_cons, RpL.len h2]
theorem RpL.get : ∀ {ds : List D} {vs : List V} {A : List Addr} {i : Nat} {d : D}, RpL k F H ds vs A → ds[i]? = some d → ∃ v B, vs[i]? = some v ∧ Rp k F H d v B ∧ ∀ a ∈ B, a ∈ A
  | [], _, _, i, _, _, e => by simp at e
  | d :: ds, xs, A, 0, d', h, e => by
    obtain ⟨v, vs, B, C, e1, e2, h1, h2⟩ := h
    have e' : d = d' := by simpa using e
    subst e'
    exact ⟨v, B, by rw [e1]; rfl, h1, fun a ha => by rw [e2]; exact List.mem_append_left _ ha⟩
  | d :: ds, xs, A, i + 1, d', h, e => by
    obtain ⟨v, vs, B, C, e1, e2, h1, h2⟩ := h
    obtain ⟨w, B', g1, g2, g3⟩ := RpL.get (i := i) h2 (by simpa using e)
    exact ⟨w, B', by rw [e1]; exact g1, g2, fun a ha => by rw [e2]; exact List.mem_append_right _ (g3 a ha)⟩
theorem RpL.append : ∀ {ds es : List D} {vs ws : List V} {A B : List Addr}, RpL k F H ds vs A → RpL k F H es ws B → RpL k F H (ds ++ es) (vs ++ ws) (A ++ B)
  | [], es, vs, ws, A, B, h, h' => by
    rw [h.1, h.2]
    exact h'
  | d :: ds, es, xs, ws, A, B, h, h' => by
    obtain ⟨v, vs, A1, A2, e1, e2, h1, h2⟩ := h
    refine ⟨v, vs ++ ws, A1, A2 ++ B, by rw [e1]; rfl, by rw [e2, List.append_assoc], h1, RpL.append h2 h'⟩
theorem RpL.one {d : D} {v : V} {A : List Addr} (h : Rp k F H d v A) : RpL k F H [d] [v] A := ⟨v, [], A, [], rfl, (List.append_nil A).symm, h, rfl, rfl⟩
theorem RpL.take : ∀ {ds : List D} {vs : List V} (n : Nat), RpL k F H ds vs [] → RpL k F H (ds.take n) (vs.take n) []
  | ds, vs, 0, _ => by
    rw [List.take_zero, List.take_zero]
    exact ⟨rfl, rfl⟩
  | [], vs, n + 1, h => by
    rw [h.1]
    exact ⟨rfl, rfl⟩
  | d :: ds, xs, n + 1, h => by
    obtain ⟨v, vs, A1, A2, e1, e2, h1, h2⟩ := h
    obtain ⟨r1, r2⟩ := List.append_eq_nil_iff.mp e2.symm
    subst r1 r2
    exact ⟨v, vs.take n, [], [], by rw [e1]; rfl, rfl, h1, RpL.take n h2⟩
theorem RpL.drop : ∀ {ds : List D} {vs : List V} (n : Nat), RpL k F H ds vs [] → RpL k F H (ds.drop n) (vs.drop n) []
  | ds, vs, 0, h => h
  | [], vs, n + 1, h => by
    rw [h.1]
    exact ⟨rfl, rfl⟩
  | d :: ds, xs, n + 1, h => by
    obtain ⟨v, vs, A1, A2, e1, e2, h1, h2⟩ := h
    obtain ⟨r1, r2⟩ := List.append_eq_nil_iff.mp e2.symm
    subst r1 r2
    rw [e1]
    exact RpL.drop (vs := vs) n h2
theorem RpL.reverse : ∀ {ds : List D} {vs : List V}, RpL k F H ds vs [] → RpL k F H ds.reverse vs.reverse []
  | [], vs, h => by
    rw [h.1]
    exact ⟨rfl, rfl⟩
  | d :: ds, xs, h => by
    obtain ⟨v, vs, A1, A2, e1, e2, h1, h2⟩ := h
    obtain ⟨r1, r2⟩ := List.append_eq_nil_iff.mp e2.symm
    subst r1 r2
    rw [e1, List.reverse_cons, List.reverse_cons]
    exact RpL.append (RpL.reverse h2) (RpL.one h1)
/-- a place set anew -/
theorem RpL.set : ∀ {ds : List D} {vs : List V} {A : List Addr} {i : Nat} {d : D} {v : V} {B : List Addr}, RpL k F H ds vs A → Rp k F H d v B → i < ds.length → ∃ A1 A2 A3, A = A1 ++ A2 ++ A3 ∧ RpL k F H (ds.set i d) (vs.set i v) (A1 ++ B ++ A3)
  | [], _, _, _, _, _, _, _, _, hi => by simp at hi
  | d0 :: ds, xs, A, 0, d, v, B, h, hd, hi => by
    obtain ⟨w, vs, A1, A2, e1, e2, h1, h2⟩ := h
    refine ⟨[], A1, A2, by rw [e2]; rfl, v, vs, B, A2, by rw [e1]; rfl, rfl, hd, h2⟩
  | d0 :: ds, xs, A, i + 1, d, v, B, h, hd, hi => by
    obtain ⟨w, vs, A1, A2, e1, e2, h1, h2⟩ := h
    obtain ⟨C1, C2, C3, e3, h3⟩ := RpL.set (i := i) h2 hd (by simpa using hi)
    refine ⟨A1 ++ C1, C2, C3, by rw [e2, e3]; simp, w, vs.set i v, A1, C1 ++ B ++ C3, by rw [e1]; rfl, by simp, h1, h3⟩
end
end Dv
end
section
set_option maxRecDepth 100000
set_option maxHeartbeats 1000000
namespace Dv
open PySem PySem.Spec PyProof.Rows L2

/-- what an expression comes to: nothing is said, a value, an exception of the class numbered -/
inductive R (α : Type) where
  | no | ok (a : α) | ex (c : Nat)
def R.bind {α β : Type} (r : R α) (f : α → R β) : R β :=
  match r with
  | .no => .no
  | .ok a => f a
  | .ex c => .ex c
@[simp] theorem R.bind_no {α β : Type} (f : α → R β) : (R.no).bind f = .no := rfl
@[simp] theorem R.bind_ok {α β : Type} (a : α) (f : α → R β) : (R.ok a).bind f = f a := rfl
@[simp] theorem R.bind_ex {α β : Type} (c : Nat) (f : α → R β) : (R.ex c).bind f = .ex c := rfl
abbrev Env := List (Option D)
/-- what a statement comes to -/
inductive SR where
  | no | nx (ρ : Env) | bk (ρ : Env) | ct (ρ : Env) | rt (d : D) (ρ : Env) | ex (c : Nat) (ρ : Env)

def Res {α : Type} (r : R α) (P : α → Prop) (E : Nat → Prop) : Prop :=
  match r with
  | .no => False
  | .ok a => P a
  | .ex c => E c
theorem Res.mono {α : Type} {r : R α} {P P' : α → Prop} {E E' : Nat → Prop} (h : Res r P E) (p : ∀ a, r = .ok a → P a → P' a) (e : ∀ c, r = .ex c → E c → E' c) : Res r P' E' := by
  cases r with
  | no => exact h
  | ok a => exact p a rfl h
  | ex c => exact e c rfl h
theorem Res.bind {α β : Type} {r : R α} {f : α → R β} {P : β → Prop} {E : Nat → Prop} (h : Res (r.bind f) P E) : Res r (fun a => Res (f a) P E) E := by
  cases r with
  | no => exact h
  | ok a => exact h
  | ex c => exact h

/-- a def's run: what was at its entry -/
structure En where
  k : Kx
  ec : Nat → Value
  He : Hp
  F0 : Hp
  B : List Addr
  bs : List Nat
  v0 : L2.St

/-- what the slots own -/
structure Sl (E : En) (F H : Hp) (σ : L2.St) (ρ : Env) (fp : Nat → List Addr) : Prop where
  rp : ∀ i d, ρ[i]? = some (some d) → ∃ v, σ[i]? = some (some v) ∧ Rp E.k F H d v (fp i)
  em : ∀ i, ρ[i]?.getD none = none → fp i = []
  nd : ∀ i, (fp i).Nodup
  dj : ∀ i j a, a ∈ fp i → a ∈ fp j → i = j
  nw : ∀ i a, a ∈ fp i → E.He a = none ∨ (a ∈ E.B ∧ i ∈ E.bs)
theorem some_some {ρ : Env} {i : Nat} {d : D} (e : ρ[i]?.getD none = some d) : ρ[i]? = some (some d) := by
  cases z : ρ[i]? with
  | none => rw [z] at e; cases e
  | some o => rw [z] at e; exact congrArg some e
theorem Sl.there {E : En} {F H : Hp} {σ : L2.St} {ρ : Env} {fp : Nat → List Addr} (s : Sl E F H σ ρ fp) {i : Nat} {a : Addr} (h : a ∈ fp i) : F a = none ∧ H a ≠ none := by
  cases e : ρ[i]?.getD none with
  | none => rw [s.em i e] at h; cases h
  | some d =>
    obtain ⟨v, _, r⟩ := s.rp i d (some_some e)
    obtain ⟨h1, o, h2, _⟩ := Rp.dom d v _ r a h
    exact ⟨h1, by rw [h2]; exact fun z => nomatch z⟩
structure Stt (E : En) (F H : Hp) (σ : L2.St) (ρ : Env) : Prop where
  e0 : E0 E.k E.F0 F
  fh : Ex F H
  fr : ∀ a, E.F0 a = none → E.He a ≠ none → F a = none
  st : ∀ a o, E.He a = some o → a ∉ E.B → H a = some o
  bt : ∀ a ∈ E.B, H a ≠ none
  len : ρ.length = σ.length
  bv : ∀ i ∈ E.bs, i < σ.length ∧ σ[i]? = E.v0[i]?
  sl : ∃ fp, Sl E F H σ ρ fp

section
variable {E : En} {F H F' H' : Hp} {σ : L2.St} {ρ : Env}
theorem Rp.tr {k : Kx} {d : D} {v : V} {A : List Addr} (t : Tr F H F' H') (r : Rp k F H d v A) : Rp k F' H' d v A :=
  Rp.mono t.ff d v A (fun a _ o e n => ⟨t.hh a o e, t.no a n fun z => by rw [z] at e; cases e⟩) r
theorem RpL.tr {k : Kx} {d : List D} {v : List V} {A : List Addr} (t : Tr F H F' H') (r : RpL k F H d v A) : RpL k F' H' d v A :=
  RpL.mono t.ff d v A (fun a _ o e n => ⟨t.hh a o e, t.no a n fun z => by rw [z] at e; cases e⟩) r
/-- what was there at the entry is there -/
theorem Stt.there (s : Stt E F H σ ρ) {a : Addr} (h : E.He a ≠ none) : H a ≠ none := by
  by_cases b : a ∈ E.B
  · exact s.bt a b
  · cases q : E.He a with
    | none => exact absurd q h
    | some o => rw [s.st a o q b]; exact fun z => nomatch z
theorem Stt.new (s : Stt E F H σ ρ) {a : Addr} (h : H a = none) : E.He a = none := by
  cases q : E.He a with
  | none => rfl
  | some o => exact absurd h (s.there (by rw [q]; exact fun z => nomatch z))
theorem Stt.tr (s : Stt E F H σ ρ) (t : Tr F H F' H') : Stt E F' H' σ ρ := by
  obtain ⟨fp, sl⟩ := s.sl
  refine ⟨s.e0.trans t.ff, t.fh, fun a e n => t.no a (s.fr a e n) (s.there n), fun a o e b => t.hh a o (s.st a o e b), fun a b z => ?_, s.len, s.bv, fp, fun i d e => ?_, sl.em, sl.nd, sl.dj, sl.nw⟩
  · cases q : H a with
    | none => exact s.bt a b q
    | some o => rw [t.hh a o q] at z; cases z
  · obtain ⟨v, e1, r⟩ := sl.rp i d e
    exact ⟨v, e1, r.tr t⟩
end

/-! ### what is wanted -/
/-- of an expression whose value is its own; of one whose value may be looked at only -/
def tO (E : En) (W : WX) (f : Env → R D) : TE := fun σ H Q => ∃ F ρ, Stt E F H σ ρ ∧
  Res (f ρ) (fun d => ∀ F' H' v A, Tr F H F' H' → Rp E.k F' H' d v A → A.Nodup → (∀ a ∈ A, H a = none) → Q v H') (fun c => ∀ F' H', Tr F H F' H' → W (E.ec c) none σ H')
def tV (E : En) (W : WX) (f : Env → R D) : TE := fun σ H Q => ∃ F ρ, Stt E F H σ ρ ∧
  Res (f ρ) (fun d => ∀ F' H' v A, Tr F H F' H' → Rp E.k F' H' d v A → Q v H') (fun c => ∀ F' H', Tr F H F' H' → W (E.ec c) none σ H')
def tT (E : En) (W : WX) (f : Env → R Bool) : TT := fun σ H Q => ∃ F ρ, Stt E F H σ ρ ∧
  Res (f ρ) (fun b => ∀ F' H', Tr F H F' H' → Q b H') (fun c => ∀ F' H', Tr F H F' H' → W (E.ec c) none σ H')
/-- of an argument list: values that are looked at -/
def tA (E : En) (W : WX) (f : Env → R (List D)) : TA := fun σ H Q => ∃ F ρ, Stt E F H σ ρ ∧
  Res (f ρ) (fun ds => ∀ F' H' vs, Tr F H F' H' → Paired (fun v d => ∃ A, Rp E.k F' H' d v A) vs ds → Q vs H') (fun c => ∀ F' H', Tr F H F' H' → W (E.ec c) none σ H')
/-- what a def's end is: the value is new or old and frozen, what the caller has is as it was -/
structure Fin (E : En) (F' H' : Hp) (d : D) (v : V) : Prop where
  e0 : E0 E.k E.F0 F'
  fh : Ex F' H'
  fr : ∀ a, E.F0 a = none → E.He a ≠ none → F' a = none
  st : ∀ a o, E.He a = some o → a ∉ E.B → H' a = some o
  bt : ∀ a ∈ E.B, H' a ≠ none
  rp : ∃ A, Rp E.k F' H' d v A ∧ A.Nodup ∧ ∀ a ∈ A, E.He a = none
def SRes (E : En) (W : WX) (F : Hp) (Z : Ends) (r : SR) : Prop :=
  match r with
  | .no => False
  | .nx ρ => ∀ F' H' σ, Ex F F' → Stt E F' H' σ ρ → Z.nx σ H'
  | .bk ρ => ∀ F' H' σ, Ex F F' → Stt E F' H' σ ρ → Z.bk σ H'
  | .ct ρ => ∀ F' H' σ, Ex F F' → Stt E F' H' σ ρ → Z.ct σ H'
  | .rt d ρ => ∀ F' H' σ v, Stt E F' H' σ ρ → Fin E F' H' d v → (E.bs = [] ∨ Stt E F' H' (σ ++ [some v]) (ρ ++ [some d])) → Z.rt v H'
  | .ex c ρ => ∀ F' H' σ, Ex F F' → Stt E F' H' σ ρ → W (E.ec c) none σ H'
def tSS (E : En) (W : WX) (f : Env → SR) : TS := fun Z σ H => ∃ F ρ, Stt E F H σ ρ ∧ SRes E W F Z (f ρ)

structure EO (X : Cx) (E : En) (W : WX) (e : Expr) (f : Env → R D) : Prop where
  pe : PE X e (tO E W f)
structure EV (X : Cx) (E : En) (W : WX) (e : Expr) (f : Env → R D) : Prop where
  pe : PE X e (tV E W f)
structure ET (X : Cx) (E : En) (W : WX) (e : Expr) (f : Env → R Bool) : Prop where
  pt : PT X e (tT E W f)
structure EW (X : Cx) (E : En) (W : WX) (e : Expr) (f : Env → R Bool) : Prop where
  pw : PW X e (tT E W f)
structure EA (X : Cx) (E : En) (W : WX) (es : List Expr) (f : Env → R (List D)) : Prop where
  pa : PA X es (tA E W f)
structure SS (X : Cx) (E : En) (W : WX) (st : Stmt) (f : Env → SR) : Prop where
  ps : PS X st (tSS E W f)
structure SB (X : Cx) (E : En) (W : WX) (st : List Stmt) (f : Env → SR) : Prop where
  ps : PSs X st (tSS E W f)

theorem pe_mono {X : Cx} {e : Expr} {t t' : TE} (h : PE X e t) (i : ∀ σ H Q, t' σ H Q → t σ H Q) : PE X e t' := ⟨fun pins s σ H Q I q => h.run pins s σ H Q I (i σ H Q q)⟩
theorem pt_mono {X : Cx} {e : Expr} {t t' : TT} (h : PT X e t) (i : ∀ σ H Q, t' σ H Q → t σ H Q) : PT X e t' := ⟨fun pins s σ H Q I q => h.run pins s σ H Q I (i σ H Q q)⟩
theorem pw_mono {X : Cx} {e : Expr} {t t' : TT} (h : PW X e t) (i : ∀ σ H Q, t' σ H Q → t σ H Q) : PW X e t' := ⟨fun wh pins s σ H Q I q => h.run wh pins s σ H Q I (i σ H Q q)⟩
theorem pa_mono {X : Cx} {e : List Expr} {t t' : TA} (h : PA X e t) (i : ∀ σ H Q, t' σ H Q → t σ H Q) : PA X e t' := ⟨fun p pins s σ H Q I q => h.run p pins s σ H Q I (i σ H Q q)⟩
theorem ps_mono {X : Cx} {e : Stmt} {t t' : TS} (h : PS X e t) (i : ∀ Z σ H, t' Z σ H → t Z σ H) : PS X e t' := ⟨fun pins s σ H Z I q => h.run pins s σ H Z I (i Z σ H q)⟩
theorem pss_mono {X : Cx} {e : List Stmt} {t t' : TS} (h : PSs X e t) (i : ∀ Z σ H, t' Z σ H → t Z σ H) : PSs X e t' := ⟨fun pins s σ H Z I q => h.run pins s σ H Z I (i Z σ H q)⟩

section
variable {X : Cx} {E : En} {W : WX}
/-- own values may be looked at -/
theorem EO.v {e : Expr} {f : Env → R D} (h : EO X E W e f) : EV X E W e f := ⟨pe_mono h.pe fun σ H Q ⟨F, ρ, s, q⟩ => ⟨F, ρ, s, q.mono (fun d _ p F' H' v A t r _ _ => p F' H' v A t r) fun _ _ z => z⟩⟩
/-- what is pure may be kept -/
def asOwn (f : Env → R D) : Env → R D := fun ρ => (f ρ).bind fun d => if d.pure then .ok d else .no
theorem EV.o {e : Expr} {f : Env → R D} (h : EV X E W e f) : EO X E W e (asOwn f) := by
  refine ⟨pe_mono h.pe fun σ H Q ⟨F, ρ, s, q⟩ => ⟨F, ρ, s, ?_⟩⟩
  refine Res.mono q.bind (fun d _ p F' H' v A t r => ?_) fun _ _ z => z
  by_cases c : d.pure = true
  · rw [if_pos c] at p
    have e := Rp.own_nil d v A c r
    subst e
    exact p F' H' v [] t r .nil fun _ z => nomatch z
  · rw [if_neg c] at p
    exact p.elim
/-- a result that is made on the way -/
def GOk (E : En) (F H : Hp) (Q : VK) (d : D) : Prop := ∀ F' H' v A, Tr F H F' H' → Rp E.k F' H' d v A → A.Nodup → (∀ a ∈ A, H a = none) → Q v H'
theorem GOk.back {E : En} {F H F1 H1 : Hp} {Q : VK} {d : D} (g : GOk E F H Q d) (t : Tr F H F1 H1) : GOk E F1 H1 Q d := fun F' H' v A t' r n u => g F' H' v A (t.trans t') r n fun a ha => by
  cases q : H a with
  | none => rfl
  | some o => rw [← u a ha, t.hh a o q]
theorem GOk.scal {E : En} {F H : Hp} {Q : VK} {d : D} {v : V} (fh : Ex F H) (g : GOk E F H Q d) (r : ∀ F H, Rp E.k F H d v []) : Q v H := g F H v [] (Tr.refl fh) (r F H) .nil fun _ z => nomatch z
theorem tr_new {F H : Hp} {p : Addr} {o : HO} (fh : Ex F H) (h : H p = none) : Tr F H F (upd H p o) := ⟨.refl _, .new h, fh.trans (.new h), fun _ e _ => e⟩
/-- a new frozen object -/
theorem tr_newF {F H : Hp} {p : Addr} {o : HO} (fh : Ex F H) (h : H p = none) : Tr F H (upd F p o) (upd H p o) := by
  have hf : F p = none := by
    cases q : F p with
    | none => rfl
    | some u => rw [fh p u q] at h; cases h
  refine ⟨.new hf, .new h, fun a u e => ?_, fun a e n => ?_⟩
  · by_cases q : a = p
    · subst q; rw [upd_same] at e ⊢; exact e
    · rw [upd_ne q] at e ⊢; exact fh a u e
  · rw [upd_ne fun z => n (by rw [z]; exact h)]; exact e
/-- a new list whose items are frozen -/
theorem GOk.lst {E : En} {F H : Hp} {Q : VK} {ds : List D} {xs : List V} {p : Addr} (fh : Ex F H) (g : GOk E F H Q (.lst true ds)) (hp : H p = none) (r : RpL E.k F H ds xs []) : Q (.ref p) (upd H p (.lst xs)) := by
  have hf : F p = none := by
    cases q : F p with
    | none => rfl
    | some u => rw [fh p u q] at hp; cases hp
  refine g F _ (.ref p) [p] (tr_new fh hp) ⟨p, xs, [], rfl, r.tr (tr_new fh hp), (fun z => nomatch z), fun _ => ⟨rfl, hf, upd_same⟩⟩ (by simp) fun a ha => ?_
  rw [List.mem_singleton.mp ha]; exact hp
theorem GOk.tup {E : En} {F H : Hp} {Q : VK} {ds : List D} {xs : List V} {p : Addr} (fh : Ex F H) (g : GOk E F H Q (.tup ds)) (hp : H p = none) (r : RpL E.k F H ds xs []) : Q (.ref p) (upd H p (.tup xs)) := by
  refine g _ _ (.ref p) [] (tr_newF fh hp) ⟨p, xs, rfl, .inl (.inl upd_same), r.tr (tr_newF fh hp)⟩ .nil fun _ z => nomatch z

/-! two operands -/
/-- what may be left unsaid -/
def R.opt {α : Type} : Option α → R α
  | some a => .ok a
  | none => .no
@[simp] theorem R.opt_some {α : Type} (a : α) : R.opt (some a) = .ok a := rfl
@[simp] theorem R.opt_none {α : Type} : (R.opt none : R α) = .no := rfl
def e2 (g : D → D → Option D) (fa fb : Env → R D) : Env → R D := fun ρ => (fa ρ).bind fun x => (fb ρ).bind fun y => R.opt (g x y)
@[simp] theorem e2_eq (g : D → D → Option D) (fa fb : Env → R D) (ρ : Env) : e2 g fa fb ρ = (fa ρ).bind fun x => (fb ρ).bind fun y => R.opt (g x y) := rfl
theorem Res.opt {α : Type} {o : Option α} {P : α → Prop} {E : Nat → Prop} (h : Res (R.opt o) P E) : ∃ a, o = some a ∧ P a := by
  cases o with
  | none => exact h.elim
  | some a => exact ⟨a, rfl, h⟩
/-- g says what the operation r does -/
def Says2 (E : En) (r : R2) (g : D → D → Option D) : Prop := ∀ F H x y v w A B Q d, Ex F H → Rp E.k F H x v A → Rp E.k F H y w B → g x y = some d → GOk E F H Q d → r v w H Q
theorem says2 {r : R2} {g : D → D → Option D} (hg : Says2 E r g) {fa fb : Env → R D} {σ : L2.St} {H : Hp} {Q : VK} (h : tO E W (e2 g fa fb) σ H Q) : tOp r (tV E W fa) (tV E W fb) σ H Q := by
  obtain ⟨F, ρ, s, q⟩ := h
  refine ⟨F, ρ, s, Res.mono q.bind (fun x _ q F1 H1 v A t1 r1 => ?_) fun c _ z F' H' t => z F' H' t⟩
  refine ⟨F1, ρ, s.tr t1, Res.mono q.bind (fun y _ q F2 H2 w B t2 r2 => ?_) fun c _ z F' H' t => z F' H' (t1.trans t)⟩
  obtain ⟨d, e, p⟩ := q.opt
  exact hg F2 H2 x y v w A B Q d t2.fh (r1.tr t2) r2 e (GOk.back (F := F) (H := H) (F1 := F2) (H1 := H2) p (t1.trans t2))
theorem eo_op {a b : Expr} {op : Operator} {r : R2} {g : D → D → Option D} {fa fb : Env → R D} {pos : Pos} (ho : OpR X (binaryOp op) r) (hg : Says2 E r g) (ha : EV X E W a fa) (hb : EV X E W b fb) : EO X E W (.BinOp a op b pos) (e2 g fa fb) :=
  ⟨pe_mono (pe_op ho ha.pe hb.pe) fun _ _ _ h => says2 hg h⟩
end
end Dv
end
section
set_option maxRecDepth 100000
set_option maxHeartbeats 1000000
namespace Dv
open PySem PySem.Spec PyProof.Rows L2

section
variable {X : Cx} {E : En} {W : WX}
/-! ### constants and names -/
def eC (d : D) : Env → R D := fun _ => .ok d
@[simp] theorem eC_eq (d : D) (ρ : Env) : eC d ρ = .ok d := rfl
theorem eo_c {e : Expr} {v : V} {d : D} (h : PE X e (tC v)) (r : ∀ F H, Rp E.k F H d v []) : EO X E W e (eC d) :=
  ⟨pe_mono h fun σ H Q ⟨F, ρ, s, q⟩ => GOk.scal (E := E) s.fh (show GOk E F H Q d from q) r⟩
theorem eo_int {i : Int} {j : Nat} {pos : Pos} : EO X E W (.Constant (.int i) j pos) (eC (.int i)) := eo_c pe_int fun _ _ => ⟨rfl, rfl⟩
theorem eo_bl {i : Bool} {j : Nat} {pos : Pos} : EO X E W (.Constant (.bool i) j pos) (eC (.bl i)) := eo_c pe_bl fun _ _ => ⟨rfl, rfl⟩
theorem eo_non {j : Nat} {pos : Pos} : EO X E W (.Constant .none j pos) (eC .non) := eo_c pe_non fun _ _ => ⟨rfl, rfl⟩
theorem eo_str {i : Str} {j : Nat} {pos : Pos} : EO X E W (.Constant (.str i) j pos) (eC (.str i)) := eo_c pe_str fun _ _ => ⟨rfl, rfl⟩
/-- a module's constant -/
theorem eo_glob {x : Str} {v : V} {u : Value} {d : D} {pos : Pos} (hg : Gl X x) (hm : X.mg x = some u) (r : RelV v u) (rp : ∀ F H, Rp E.k F H d v []) (hd : (x == ("__debug__" : Str)) = false := by decide) : EO X E W (.Name x pos) (eC d) := eo_c (pe_glob hg hm r hd) rp
def eVar (i : Nat) : Env → R D := fun ρ => R.opt (ρ[i]?.getD none)
@[simp] theorem eVar_eq (i : Nat) (ρ : Env) : eVar i ρ = R.opt (ρ[i]?.getD none) := rfl
theorem ev_var {e : Expr} {i : Nat} (h : PE X e (tVar i)) : EV X E W e (eVar i) := by
  refine ⟨pe_mono h fun σ H Q ⟨F, ρ, s, q⟩ => ?_⟩
  obtain ⟨d, e, q⟩ := Res.opt q
  obtain ⟨fp, sl⟩ := s.sl
  obtain ⟨v, ev, r⟩ := sl.rp i d (some_some e)
  exact ⟨v, ev, q F H v _ (Tr.refl s.fh) r⟩

/-! ### one operand -/
def e1 (g : D → Option D) (fa : Env → R D) : Env → R D := fun ρ => (fa ρ).bind fun x => R.opt (g x)
@[simp] theorem e1_eq (g : D → Option D) (fa : Env → R D) (ρ : Env) : e1 g fa ρ = (fa ρ).bind fun x => R.opt (g x) := rfl
def Says1 (E : En) (r : V → Hp → VK → Prop) (g : D → Option D) : Prop := ∀ F H x v A Q d, Ex F H → Rp E.k F H x v A → g x = some d → GOk E F H Q d → r v H Q
theorem says1 {r : V → Hp → VK → Prop} {g : D → Option D} (hg : Says1 E r g) {fa : Env → R D} {σ : L2.St} {H : Hp} {Q : VK} (h : tO E W (e1 g fa) σ H Q) : tUn r (tV E W fa) σ H Q := by
  obtain ⟨F, ρ, s, q⟩ := h
  refine ⟨F, ρ, s, Res.mono q.bind (fun x _ q F1 H1 v A t1 r1 => ?_) fun c _ z F' H' t => z F' H' t⟩
  obtain ⟨d, e, p⟩ := q.opt
  exact hg F1 H1 x v A Q d t1.fh r1 e (GOk.back (F := F) (H := H) (F1 := F1) (H1 := H1) p t1)
theorem eo_un {a : Expr} {op : UnaryOp} {r : V → Hp → VK → Prop} {g : D → Option D} {fa : Env → R D} {pos : Pos} (ho : UnR X (unaryOp op) r) (hg : Says1 E r g) (ha : EV X E W a fa) : EO X E W (.UnaryOp op a pos) (e1 g fa) :=
  ⟨pe_mono (pe_un ho ha.pe) fun _ _ _ h => says1 hg h⟩
def gNeg : D → Option D
  | .int i => some (.int (-i))
  | _ => none
@[simp] theorem gNeg_int (i : Int) : gNeg (.int i) = some (.int (-i)) := rfl
theorem says_neg : Says1 E (rU fun i => .int (-i)) gNeg := by
  intro F H x v A Q d fh rx e g
  cases x with
  | int i =>
    cases e
    exact ⟨i, rx.1, g.scal fh fun _ _ => ⟨rfl, rfl⟩⟩
  | _ => cases e
theorem eo_neg {a : Expr} {fa : Env → R D} {pos : Pos} (ha : EV X E W a fa) : EO X E W (.UnaryOp .USub a pos) (e1 gNeg fa) := eo_un un_neg says_neg ha

/-! ### arithmetic -/
/-- two ints under a condition -/
def gI (c : Int → Int → Bool) (f : Int → Int → Int) : D → D → Option D
  | .int i, .int j => if c i j = true then some (.int (f i j)) else none
  | _, _ => none
@[simp] theorem gI_int (c : Int → Int → Bool) (f : Int → Int → Int) (i j : Int) : gI c f (.int i) (.int j) = if c i j = true then some (.int (f i j)) else none := rfl
theorem says_I {C : Int → Int → Prop} {c : Int → Int → Bool} {f : Int → Int → Int} (hc : ∀ i j, c i j = true → C i j) : Says2 E (rI C fun i j => .int (f i j)) (gI c f) := by
  intro F H x y v w A B Q d fh rx ry e g
  cases x with
  | int i =>
    cases y with
    | int j =>
      by_cases z : c i j = true
      · have e' : (if c i j = true then some (D.int (f i j)) else none) = some d := e
        rw [if_pos z] at e'
        cases e'
        exact ⟨i, j, rx.1, ry.1, hc i j z, g.scal fh fun _ _ => ⟨rfl, rfl⟩⟩
      · have e' : (if c i j = true then some (D.int (f i j)) else none) = some d := e
        rw [if_neg z] at e'
        cases e'
    | _ => cases e
  | _ => cases e
def gI0 (f : Int → Int → Int) : D → D → Option D
  | .int i, .int j => some (.int (f i j))
  | _, _ => none
@[simp] theorem gI0_int (f : Int → Int → Int) (i j : Int) : gI0 f (.int i) (.int j) = some (.int (f i j)) := rfl
theorem says_I0 {f : Int → Int → Int} : Says2 E (rI0 fun i j => .int (f i j)) (gI0 f) := by
  intro F H x y v w A B Q d fh rx ry e g
  cases x with
  | int i =>
    cases y with
    | int j =>
      cases e
      exact ⟨i, j, rx.1, ry.1, g.scal fh fun _ _ => ⟨rfl, rfl⟩⟩
    | _ => cases e
  | _ => cases e
abbrev gSub := gI0 fun i j => i - j
abbrev gAndB := gI0 fun i j => Builtin.bitAnd i j
abbrev gOrB := gI0 fun i j => Builtin.bitOr i j
abbrev gXorB := gI0 fun i j => Builtin.bitXor i j
/-! bounds, said by name: no great literal meets a name of a number -/
/-- below 2^64 -/
def W64 (i : Int) : Prop := -18446744073709551616 < i ∧ i < 18446744073709551616
noncomputable instance (i : Int) : Decidable (W64 i) := Classical.propDecidable _
theorem w64 {i : Int} (h1 : -18446744073709551616 < i) (h2 : i < 18446744073709551616) : W64 i := ⟨h1, h2⟩
@[simp] theorem w64_lit (n : Nat) (h : n < 18446744073709551616) : W64 (no_index (OfNat.ofNat n)) := by
  show -18446744073709551616 < (n : Int) ∧ (n : Int) < 18446744073709551616
  omega
@[simp] theorem w64_neg (n : Nat) (h : n < 18446744073709551616) : W64 (-(no_index (OfNat.ofNat n))) := by
  show -18446744073709551616 < -(n : Int) ∧ -(n : Int) < 18446744073709551616
  omega
/-- below 2^62 -/
def W62 (i : Int) : Prop := -4611686018427387904 ≤ i ∧ i < 4611686018427387904
noncomputable instance (i : Int) : Decidable (W62 i) := Classical.propDecidable _
theorem w62 {i : Int} (h1 : -4611686018427387904 ≤ i) (h2 : i < 4611686018427387904) : W62 i := ⟨h1, h2⟩
@[simp] theorem w62_lit (n : Nat) (h : n < 4611686018427387904) : W62 (no_index (OfNat.ofNat n)) := by
  show -4611686018427387904 ≤ (n : Int) ∧ (n : Int) < 4611686018427387904
  omega
@[simp] theorem w62_neg (n : Nat) (h : n < 4611686018427387904) : W62 (-(no_index (OfNat.ofNat n))) := by
  show -4611686018427387904 ≤ -(n : Int) ∧ -(n : Int) < 4611686018427387904
  omega
/-- a divisor for // -/
def DvOk (j : Int) : Prop := 0 < j ∧ j < 1073741824
noncomputable instance (i : Int) : Decidable (DvOk i) := Classical.propDecidable _
theorem dvOk {i : Int} (h1 : 0 < i) (h2 : i < 1073741824) : DvOk i := ⟨h1, h2⟩
@[simp] theorem dvOk_lit (n : Nat) (h : n < 1073741824) (h0 : 0 < n) : DvOk (no_index (OfNat.ofNat n)) := by
  show 0 < (n : Int) ∧ (n : Int) < 1073741824
  omega
/-- i ** j, i << j -/
def PwOk (i j : Int) : Prop := 0 ≤ j ∧ j ≤ 1000000 ∧ i.natAbs < 18446744073709551616
noncomputable instance (i j : Int) : Decidable (PwOk i j) := Classical.propDecidable _
theorem pwOk {i j : Int} (h1 : 0 ≤ j) (h2 : j ≤ 1000000) (h3 : -18446744073709551616 < i) (h4 : i < 18446744073709551616) : PwOk i j := ⟨h1, h2, by omega⟩
@[simp] theorem pwOk_lit (n m : Nat) (h : n < 18446744073709551616) (h0 : m ≤ 1000000) : PwOk (no_index (OfNat.ofNat n)) (no_index (OfNat.ofNat m)) := by
  show 0 ≤ (m : Int) ∧ (m : Int) ≤ 1000000 ∧ (n : Int).natAbs < 18446744073709551616
  omega
/-- a list of n things j times -/
def RpOk (n : Nat) (j : Int) : Prop := -16777216 ≤ j ∧ j ≤ 16777216 ∧ n * j.toNat ≤ 16777216
noncomputable instance (n : Nat) (j : Int) : Decidable (RpOk n j) := Classical.propDecidable _
theorem rpOk {n : Nat} {j : Int} (h1 : -16777216 ≤ j) (h2 : j ≤ 16777216) (h3 : n * j.toNat ≤ 16777216) : RpOk n j := ⟨h1, h2, h3⟩
@[simp] theorem rpOk_lit (n m : Nat) (h : n * m ≤ 16777216) (h2 : m ≤ 16777216) : RpOk n (no_index (OfNat.ofNat m)) := by
  show -16777216 ≤ (m : Int) ∧ (m : Int) ≤ 16777216 ∧ n * m ≤ 16777216
  omega
/-- a factor below 2^64 -/
noncomputable def cMul (i j : Int) : Bool := decide (W64 i ∨ W64 j)
noncomputable def cDiv (_ j : Int) : Bool := decide (DvOk j)
def cMod (_ j : Int) : Bool := decide (0 < j)
noncomputable def cPow (i j : Int) : Bool := decide (PwOk i j)
def cShr (_ j : Int) : Bool := decide (0 ≤ j)
@[simp] theorem cMul_eq (i j : Int) : (cMul i j = true) = (W64 i ∨ W64 j) := by simp [cMul]
@[simp] theorem cDiv_eq (i j : Int) : (cDiv i j = true) = DvOk j := by simp [cDiv]
@[simp] theorem cMod_eq (i j : Int) : (cMod i j = true) = (0 < j) := by simp [cMod]
@[simp] theorem cPow_eq (i j : Int) : (cPow i j = true) = PwOk i j := by simp [cPow]
@[simp] theorem cShr_eq (i j : Int) : (cShr i j = true) = (0 ≤ j) := by simp [cShr]
noncomputable abbrev gMulI := gI cMul fun i j => i * j
noncomputable abbrev gDiv := gI cDiv fun i j => i / j
abbrev gMod := gI cMod fun i j => i % j
noncomputable abbrev gPow := gI cPow fun i j => i ^ j.toNat
noncomputable abbrev gShl := gI cPow fun i j => i * 2 ^ j.toNat
abbrev gShr := gI cShr fun i j => i / 2 ^ j.toNat
section
variable {a b : Expr} {fa fb : Env → R D} {pos : Pos}
theorem eo_sub (ha : EV X E W a fa) (hb : EV X E W b fb) : EO X E W (.BinOp a .Sub b pos) (e2 gSub fa fb) := eo_op op_sub says_I0 ha hb
theorem eo_band (ha : EV X E W a fa) (hb : EV X E W b fb) : EO X E W (.BinOp a .BitAnd b pos) (e2 gAndB fa fb) := eo_op op_and says_I0 ha hb
theorem eo_bor (ha : EV X E W a fa) (hb : EV X E W b fb) : EO X E W (.BinOp a .BitOr b pos) (e2 gOrB fa fb) := eo_op op_or says_I0 ha hb
theorem eo_bxor (ha : EV X E W a fa) (hb : EV X E W b fb) : EO X E W (.BinOp a .BitXor b pos) (e2 gXorB fa fb) := eo_op op_xor says_I0 ha hb
theorem eo_mulI (ha : EV X E W a fa) (hb : EV X E W b fb) : EO X E W (.BinOp a .Mult b pos) (e2 gMulI fa fb) := eo_op op_mul (says_I fun i j h => by
  rw [cMul_eq] at h
  exact h) ha hb
theorem eo_div (ha : EV X E W a fa) (hb : EV X E W b fb) : EO X E W (.BinOp a .FloorDiv b pos) (e2 gDiv fa fb) := eo_op op_fdiv (says_I fun i j h => by
  rw [cDiv_eq] at h
  exact h) ha hb
theorem eo_mod (ha : EV X E W a fa) (hb : EV X E W b fb) : EO X E W (.BinOp a .Mod b pos) (e2 gMod fa fb) := eo_op op_mod (says_I fun i j h => by
  rw [cMod_eq] at h
  exact h) ha hb
theorem eo_pow (ha : EV X E W a fa) (hb : EV X E W b fb) : EO X E W (.BinOp a .Pow b pos) (e2 gPow fa fb) := eo_op op_pow (says_I fun i j h => by
  rw [cPow_eq] at h
  exact h) ha hb
theorem eo_shl (ha : EV X E W a fa) (hb : EV X E W b fb) : EO X E W (.BinOp a .LShift b pos) (e2 gShl fa fb) := eo_op op_shl (says_I fun i j h => by
  rw [cPow_eq] at h
  exact h) ha hb
theorem eo_shr (ha : EV X E W a fa) (hb : EV X E W b fb) : EO X E W (.BinOp a .RShift b pos) (e2 gShr fa fb) := eo_op op_shr (says_I fun i j h => by
  rw [cShr_eq] at h
  exact h) ha hb
end

/-! ### + of ints, texts, lists -/
/-- the items of a list, whether it is owned or not, if they are pure -/
theorem Rp.lstR {k : Kx} {F H : Hp} {o : Bool} {xs : List D} {v : V} {A : List Addr} (fh : Ex F H) (p : D.pureL xs = true) (h : Rp k F H (.lst o xs) v A) : ∃ a vs, v = .ref a ∧ H a = some (.lst vs) ∧ RpL k F H xs vs [] := by
  obtain ⟨a, vs, B, e, r, h1, h2⟩ := h
  refine ⟨a, vs, e, ?_, RpL.pure p (.refl _) r⟩
  cases o with
  | false => exact fh _ _ (h1 rfl).1
  | true => exact (h2 rfl).2.2
theorem Rp.lstW {k : Kx} {F H : Hp} {o : Bool} {xs : List D} {v : V} {A : List Addr} (fh : Ex F H) (h : Rp k F H (.lst o xs) v A) : ∃ a vs B, v = .ref a ∧ H a = some (.lst vs) ∧ RpL k F H xs vs B := by
  obtain ⟨a, vs, B, e, r, h1, h2⟩ := h
  refine ⟨a, vs, B, e, ?_, r⟩
  cases o with
  | false => exact fh _ _ (h1 rfl).1
  | true => exact (h2 rfl).2.2
def big : Nat := 16777216
theorem big_le {n : Nat} (h : n ≤ 16777216) : n ≤ sizeLine := by rw [sizeLine_eq]; exact h
def gAdd : D → D → Option D
  | .int i, .int j => some (.int (i + j))
  | .int i, .bl j => some (.int (i + b2i j))
  | .str x, .str y => if x.length + y.length ≤ 16777216 then some (.str (x ++ y)) else none
  | .lst _ xs, .lst _ ys => if D.pureL xs = true ∧ D.pureL ys = true ∧ xs.length + ys.length ≤ 16777216 then some (.lst true (xs ++ ys)) else none
  | .tup xs, .tup ys => if D.pureL xs = true ∧ D.pureL ys = true ∧ xs.length + ys.length ≤ 16777216 then some (.tup (xs ++ ys)) else none
  | _, _ => none
@[simp] theorem gAdd_tup (xs ys : List D) : gAdd (.tup xs) (.tup ys) = if D.pureL xs = true ∧ D.pureL ys = true ∧ xs.length + ys.length ≤ 16777216 then some (.tup (xs ++ ys)) else none := rfl
@[simp] theorem gAdd_int (i j : Int) : gAdd (.int i) (.int j) = some (.int (i + j)) := rfl
@[simp] theorem gAdd_bl (i : Int) (j : Bool) : gAdd (.int i) (.bl j) = some (.int (i + b2i j)) := rfl
@[simp] theorem gAdd_str (x y : Str) : gAdd (.str x) (.str y) = if x.length + y.length ≤ 16777216 then some (.str (x ++ y)) else none := rfl
@[simp] theorem gAdd_lst (o p : Bool) (xs ys : List D) : gAdd (.lst o xs) (.lst p ys) = if D.pureL xs = true ∧ D.pureL ys = true ∧ xs.length + ys.length ≤ 16777216 then some (.lst true (xs ++ ys)) else none := rfl
def rAddA (K : PySem.W.Frag) : R2 := fun x y H Q => ((rI0 (fun i j => .int (i + j)) x y H Q ∨ (∃ i k, x = .int i ∧ y = .bl k ∧ Q (.int (i + b2i k)) H)) ∨ (∃ i j, x = .str i ∧ y = .str j ∧ i.length + j.length ≤ sizeLine ∧ Q (.str (i ++ j)) H) ∨ rCat x y H Q) ∨ rCatA K x y H Q
theorem op_addA : OpR X (binaryOp .Add) (rAddA X.K) := ((op_add.or op_add_ib).or (op_add_str.or op_cat)).or op_catA
theorem if_some {α : Type} {c : Prop} [Decidable c] {a b : α} (h : (if c then some a else none) = some b) : c ∧ a = b := by
  by_cases z : c
  · rw [if_pos z] at h
    exact ⟨z, Option.some.inj h⟩
  · rw [if_neg z] at h
    cases h
theorem says_add : Says2 E (rAddA E.k.K) gAdd := by
  intro F H x y v w A B Q d fh rx ry e g
  cases x with
  | int i =>
    cases y with
    | int j => cases e; exact .inl (.inl (.inl ⟨i, j, rx.1, ry.1, g.scal fh fun _ _ => ⟨rfl, rfl⟩⟩))
    | bl j => cases e; exact .inl (.inl (.inr ⟨i, j, rx.1, ry.1, g.scal fh fun _ _ => ⟨rfl, rfl⟩⟩))
    | _ => cases e
  | str i =>
    cases y with
    | str j =>
      obtain ⟨z, e⟩ := if_some e
      cases e
      exact .inl (.inr (.inl ⟨i, j, rx.1, ry.1, big_le z, g.scal fh fun _ _ => ⟨rfl, rfl⟩⟩))
    | _ => cases e
  | lst o xs =>
    cases y with
    | lst o' ys =>
      obtain ⟨z, e⟩ := if_some e
      cases e
      obtain ⟨a, vs, rfl, h1, r1⟩ := Rp.lstR fh z.1 rx
      obtain ⟨b, ws, rfl, h2, r2⟩ := Rp.lstR fh z.2.1 ry
      refine .inl (.inr (.inr ⟨a, b, vs, ws, rfl, rfl, h1, h2, big_le (by rw [← r1.len, ← r2.len]; exact z.2.2), fun p hp => ?_⟩))
      exact g.lst fh hp (RpL.append r1 r2)
    | _ => cases e
  | tup xs =>
    cases y with
    | tup ys =>
      obtain ⟨z, e⟩ := if_some e
      cases e
      obtain ⟨a, vs, rfl, h1, r1⟩ := rx
      obtain ⟨b, ws, rfl, h2, r2⟩ := ry
      have r1' : RpL E.k F H xs vs [] := RpL.pure z.1 (.refl _) r1
      have r2' : RpL E.k F H ys ws [] := RpL.pure z.2.1 (.refl _) r2
      refine .inr ⟨a, b, vs, ws, rfl, rfl, ex_t fh h1, ex_t fh h2, big_le (by rw [← r1.len, ← r2.len]; exact z.2.2), fun e1 => ?_, fun _ e2 => ?_, fun _ _ p hp => ?_⟩
      · have l : xs = [] := List.length_eq_zero_iff.mp (by rw [r1.len, e1]; rfl)
        rw [l, List.nil_append] at g
        exact g F H _ [] (Tr.refl fh) ⟨b, ws, rfl, h2, r2'⟩ .nil fun _ z => nomatch z
      · have l : ys = [] := List.length_eq_zero_iff.mp (by rw [r2.len, e2]; rfl)
        rw [l, List.append_nil] at g
        exact g F H _ [] (Tr.refl fh) ⟨a, vs, rfl, h1, r1'⟩ .nil fun _ z => nomatch z
      · exact g.tup fh hp (RpL.append r1' r2')
    | _ => cases e
  | _ => cases e
theorem eo_add {a b : Expr} {fa fb : Env → R D} {pos : Pos} (ha : EV X E W a fa) (hb : EV X E W b fb) (hK : E.k.K = X.K := by rfl) : EO X E W (.BinOp a .Add b pos) (e2 gAdd fa fb) := eo_op op_addA (by rw [← hK]; exact says_add) ha hb

/-! ### list * int -/
theorem RpL.rep {k : Kx} {F H : Hp} {ds : List D} {vs : List V} (h : RpL k F H ds vs []) : ∀ n : Nat, RpL k F H (List.replicate n ds).flatten (List.replicate n vs).flatten []
  | 0 => ⟨rfl, rfl⟩
  | n + 1 => by
    rw [List.replicate_succ, List.replicate_succ, List.flatten_cons, List.flatten_cons]
    exact RpL.append h (RpL.rep h n)
noncomputable def gMul : D → D → Option D
  | .int i, .int j => if W64 i ∨ W64 j then some (.int (i * j)) else none
  | .lst _ xs, .int j => if D.pureL xs = true ∧ RpOk xs.length j then some (.lst true (List.replicate j.toNat xs).flatten) else none
  | _, _ => none
@[simp] theorem gMul_int (i j : Int) : gMul (.int i) (.int j) = if W64 i ∨ W64 j then some (.int (i * j)) else none := rfl
@[simp] theorem gMul_lst (o : Bool) (xs : List D) (j : Int) : gMul (.lst o xs) (.int j) = if D.pureL xs = true ∧ RpOk xs.length j then some (.lst true (List.replicate j.toNat xs).flatten) else none := rfl
def rMulA : R2 := fun x y H Q => rI CMul (fun i j => .int (i * j)) x y H Q ∨ rRep x y H Q
theorem op_mulA : OpR X (binaryOp .Mult) rMulA := op_mul.or op_rep
theorem says_mul : Says2 E rMulA gMul := by
  intro F H x y v w A B Q d fh rx ry e g
  cases x with
  | int i =>
    cases y with
    | int j =>
      obtain ⟨z, e⟩ := if_some e
      cases e
      exact .inl ⟨i, j, rx.1, ry.1, z, g.scal fh fun _ _ => ⟨rfl, rfl⟩⟩
    | _ => cases e
  | lst o xs =>
    cases y with
    | int j =>
      obtain ⟨z, e⟩ := if_some e
      cases e
      obtain ⟨a, vs, rfl, h1, r1⟩ := Rp.lstR fh z.1 rx
      refine .inr ⟨a, j, vs, rfl, ry.1, h1, by have := z.2.1; omega, by have := z.2.2.1; omega, big_le (by rw [← r1.len]; exact z.2.2.2), fun p hp => ?_⟩
      exact g.lst fh hp (RpL.rep r1 _)
    | _ => cases e
  | _ => cases e
theorem eo_mul {a b : Expr} {fa fb : Env → R D} {pos : Pos} (ha : EV X E W a fa) (hb : EV X E W b fb) : EO X E W (.BinOp a .Mult b pos) (e2 gMul fa fb) := eo_op op_mulA says_mul ha hb
end
end Dv
end
section
set_option maxRecDepth 100000
set_option maxHeartbeats 1000000
namespace Dv
open PySem PySem.Spec PyProof.Rows L2

/-! ### data as the library compares it -/
mutual
def D.toP : D → PyData
  | .non => .none | .bl b => .bool b | .int i => .int i | .str x => .str x | .fn _ => .none
  | .tup xs => .tuple (D.toPL xs)
  | .lst _ xs => .list (D.toPL xs)
  | .scr _ => .none
  | .dic _ _ _ => .none
  | .dit _ _ _ => .none
  | .ins _ _ _ => .none
def D.toPL : List D → List PyData
  | [] => []
  | x :: xs => x.toP :: D.toPL xs
end
mutual
/-- may be compared as a whole: no dict, no instance, nested at most n deep -/
def D.lay : Nat → D → Bool
  | _, .non => true | _, .bl _ => true | _, .int _ => true | _, .str x => PyData.strOk x
  | n + 1, .tup xs => D.layL n xs
  | n + 1, .lst _ xs => D.layL n xs
  | 0, .tup _ => false
  | 0, .lst _ _ => false
  | _, .scr _ => false
  | _, .dic _ _ _ => false
  | _, .dit _ _ _ => false
  | _, .ins _ _ _ => false
  | _, .fn _ => false
def D.layL : Nat → List D → Bool
  | _, [] => true
  | n, x :: xs => x.lay n && D.layL n xs
end
mutual
theorem D.lay_can : ∀ (n : Nat) (d : D), d.lay n = true → d.toP.canLay0 = true ∧ d.toP.depth ≤ n
  | _, .non, _ => by simp [D.toP, PyData.canLay0, PyData.depth]
  | _, .bl _, _ => by simp [D.toP, PyData.canLay0, PyData.depth]
  | _, .int _, _ => by simp [D.toP, PyData.canLay0, PyData.depth]
  | _, .str x, h => by simpa [D.toP, PyData.canLay0, PyData.depth, D.lay] using h
  | n + 1, .tup xs, h => by
    have q := D.layL_can n xs (by simpa [D.lay] using h)
    simp only [D.toP, PyData.canLay0, PyData.depth]
    exact ⟨q.1, by omega⟩
  | n + 1, .lst _ xs, h => by
    have q := D.layL_can n xs (by simpa [D.lay] using h)
    simp only [D.toP, PyData.canLay0, PyData.depth]
    exact ⟨q.1, by omega⟩
  | 0, .tup _, h => absurd h (by simp [D.lay])
  | 0, .lst _ _, h => absurd h (by simp [D.lay])
  | _, .scr _, h => absurd h (by simp [D.lay])
  | _, .dic _ _ _, h => absurd h (by simp [D.lay])
  | _, .dit _ _ _, h => absurd h (by simp [D.lay])
  | _, .ins _ _ _, h => absurd h (by simp [D.lay])
  | _, .fn _, h => absurd h (by simp [D.lay])
theorem D.layL_can : ∀ (n : Nat) (ds : List D), D.layL n ds = true → PyData.canLayAll0 (D.toPL ds) = true ∧ PyData.depthAll (D.toPL ds) ≤ n
  | _, [], _ => by simp [D.toPL, PyData.canLayAll0, PyData.depthAll]
  | n, d :: ds, h => by
    have h' : d.lay n = true ∧ D.layL n ds = true := by simpa [D.layL] using h
    have q1 := D.lay_can n d h'.1
    have q2 := D.layL_can n ds h'.2
    simp only [D.toPL, PyData.canLayAll0, PyData.depthAll, q1.1, q2.1, Bool.and_self]
    exact ⟨trivial, by omega⟩
end
theorem D.lay_shaped {d : D} (h : d.lay 60 = true) : SeqAt.shaped d.toP = true := by
  obtain ⟨h1, h2⟩ := D.lay_can 60 d h
  unfold SeqAt.shaped
  rw [h1, decide_eq_true (show d.toP.depth ≤ 64 by omega)]
  rfl
section
variable {k : Kx} {F H : Hp}
mutual
theorem Rp.dp (fh : Ex F H) : ∀ (n : Nat) (d : D) (v : V) (A : List Addr), d.lay n = true → Rp k F H d v A → Dp k.K H v d.toP
  | _, .non, _, _, _, h => by rw [h.1]; exact .non
  | _, .bl _, _, _, _, h => by rw [h.1]; exact .bl _
  | _, .int _, _, _, _, h => by rw [h.1]; exact .int _
  | _, .str _, _, _, _, h => by rw [h.1]; exact .str _
  | n + 1, .tup ds, v, A, l, h => by
    obtain ⟨a, xs, rfl, s, r⟩ := h
    exact .tup (ex_t fh s) (RpL.dp fh n ds xs A (by simpa [D.lay] using l) r)
  | n + 1, .lst o ds, v, A, l, h => by
    obtain ⟨a, xs, B, rfl, s, r⟩ := Rp.lstW fh h
    exact .lst (.inl (.inl s)) (RpL.dp fh n ds xs B (by simpa [D.lay] using l) r)
  | 0, .tup _, _, _, h, _ => absurd h (by simp [D.lay])
  | 0, .lst _ _, _, _, h, _ => absurd h (by simp [D.lay])
  | _, .scr _, _, _, h, _ => absurd h (by simp [D.lay])
  | _, .dic _ _ _, _, _, h, _ => absurd h (by simp [D.lay])
  | _, .dit _ _ _, _, _, h, _ => absurd h (by simp [D.lay])
  | _, .ins _ _ _, _, _, h, _ => absurd h (by simp [D.lay])
  | _, .fn _, _, _, h, _ => absurd h (by simp [D.lay])
theorem RpL.dp (fh : Ex F H) : ∀ (n : Nat) (ds : List D) (vs : List V) (A : List Addr), D.layL n ds = true → RpL k F H ds vs A → DpAll k.K H vs (D.toPL ds)
  | _, [], _, _, _, h => by rw [h.1]; exact .nil
  | n, d :: ds, xs, A, l, h => by
    obtain ⟨v, vs, B, C, e1, e2, h1, h2⟩ := h
    have l' : d.lay n = true ∧ D.layL n ds = true := by simpa [D.layL] using l
    rw [e1]
    exact .cons (Rp.dp fh n d v B l'.1 h1) (RpL.dp fh n ds vs C l'.2 h2)
end
end

/-- data is equal as Python says -/
def D.eqv (x y : D) : Bool := PyData.eqv x.toP y.toP
def gEq : D → D → Option D
  | .str x, .str y => some (.bl (x == y))
  | .str _, .non => some (.bl false)
  | .non, .str _ => some (.bl false)
  | x, y => if x.lay 60 = true ∧ y.lay 60 = true then some (.bl (x.eqv y)) else none
def gNe : D → D → Option D
  | .str x, .str y => some (.bl (!(x == y)))
  | x, y => if x.lay 60 = true ∧ y.lay 60 = true then some (.bl (!(x.eqv y))) else none
@[simp] theorem gEq_str (x y : Str) : gEq (.str x) (.str y) = some (.bl (x == y)) := rfl
@[simp] theorem gNe_str (x y : Str) : gNe (.str x) (.str y) = some (.bl (!(x == y))) := rfl
@[simp] theorem gEq_int (i j : Int) : gEq (.int i) (.int j) = some (.bl (i == j)) := by simp [gEq, D.lay, D.eqv, D.toP, PyData.eqv]
@[simp] theorem gNe_int (i j : Int) : gNe (.int i) (.int j) = some (.bl (!(i == j))) := by simp [gNe, D.lay, D.eqv, D.toP, PyData.eqv]
@[simp] theorem gEq_bl (i j : Bool) : gEq (.bl i) (.bl j) = some (.bl (i == j)) := by simp [gEq, D.lay, D.eqv, D.toP, PyData.eqv]
@[simp] theorem gNe_bl (i j : Bool) : gNe (.bl i) (.bl j) = some (.bl (!(i == j))) := by simp [gNe, D.lay, D.eqv, D.toP, PyData.eqv]
section
variable {X : Cx} {E : En} {W : WX}
def rEqA (K : PySem.W.Frag) : R2 := fun x y H Q => rEq x y H Q ∨ rEqD K x y H Q
def rNeA (K : PySem.W.Frag) : R2 := fun x y H Q => rNe x y H Q ∨ rNeD K x y H Q
theorem says_eqD {x y : D} {F H : Hp} {v w : V} {A B : List Addr} {Q : VK} {b : D} (fh : Ex F H) (rx : Rp E.k F H x v A) (ry : Rp E.k F H y w B) (e : (if x.lay 60 = true ∧ y.lay 60 = true then some (D.bl (x.eqv y)) else none) = some b) (g : GOk E F H Q b) : rEqA E.k.K v w H Q := by
  obtain ⟨z, e⟩ := if_some e
  cases e
  exact .inr ⟨x.toP, y.toP, Rp.dp fh 60 x v A z.1 rx, Rp.dp fh 60 y w B z.2 ry, D.lay_shaped z.1, D.lay_shaped z.2, g.scal fh fun _ _ => ⟨rfl, rfl⟩⟩
theorem says_neD {x y : D} {F H : Hp} {v w : V} {A B : List Addr} {Q : VK} {b : D} (fh : Ex F H) (rx : Rp E.k F H x v A) (ry : Rp E.k F H y w B) (e : (if x.lay 60 = true ∧ y.lay 60 = true then some (D.bl (!(x.eqv y))) else none) = some b) (g : GOk E F H Q b) : rNeA E.k.K v w H Q := by
  obtain ⟨z, e⟩ := if_some e
  cases e
  exact .inr ⟨x.toP, y.toP, Rp.dp fh 60 x v A z.1 rx, Rp.dp fh 60 y w B z.2 ry, D.lay_shaped z.1, D.lay_shaped z.2, g.scal fh fun _ _ => ⟨rfl, rfl⟩⟩
theorem says_eq : Says2 E (rEqA E.k.K) gEq := by
  intro F H x y v w A B Q b fh rx ry e g
  unfold gEq at e
  split at e
  · cases e
    rw [rx.1, ry.1]
    exact .inl ⟨rfl, by rw [dec_str]; exact g.scal fh fun _ _ => ⟨rfl, rfl⟩⟩
  · cases e
    rw [rx.1, ry.1]
    exact .inl ⟨rfl, g.scal (d := .bl false) fh fun _ _ => ⟨by simp, rfl⟩⟩
  · cases e
    rw [rx.1, ry.1]
    exact .inl ⟨rfl, g.scal (d := .bl false) fh fun _ _ => ⟨by simp, rfl⟩⟩
  · exact says_eqD fh rx ry e g
theorem says_ne : Says2 E (rNeA E.k.K) gNe := by
  intro F H x y v w A B Q b fh rx ry e g
  unfold gNe at e
  split at e
  · cases e
    rw [rx.1, ry.1]
    exact .inl ⟨rfl, by rw [dec_str]; exact g.scal fh fun _ _ => ⟨rfl, rfl⟩⟩
  · exact says_neD fh rx ry e g
theorem op_eqA (hu : X.A.units + 64 < cLine) : OpR X (compareOp .Eq) (rEqA X.K) := op_eq.or (op_eqD hu)
theorem op_neA (hu : X.A.units + 64 < cLine) : OpR X (compareOp .NotEq) (rNeA X.K) := op_ne.or (op_neD hu)

/-! ### comparisons as values -/
theorem eo_cmp {a b : Expr} {op : CmpOp} {r : R2} {g : D → D → Option D} {fa fb : Env → R D} {pos : Pos} (ho : OpR X (compareOp op) r) (hg : Says2 E r g) (hm : behindInMarks op b = false) (ha : EV X E W a fa) (hb : EV X E W b fb) : EO X E W (.Compare a [op] [b] pos) (e2 g fa fb) :=
  ⟨pe_mono (pe_cmpR ho ha.pe hb.pe hm) fun _ _ _ h => says2 hg h⟩
/-- an order of two ints -/
def gCmp (c : Int → Int → Bool) : D → D → Option D
  | .int i, .int j => some (.bl (c i j))
  | _, _ => none
@[simp] theorem gCmp_int (c : Int → Int → Bool) (i j : Int) : gCmp c (.int i) (.int j) = some (.bl (c i j)) := rfl
theorem says_cmp {c : Int → Int → Bool} : Says2 E (rI0 fun i j => .bl (c i j)) (gCmp c) := by
  intro F H x y v w A B Q d fh rx ry e g
  cases x with
  | int i =>
    cases y with
    | int j =>
      cases e
      exact ⟨i, j, rx.1, ry.1, g.scal fh fun _ _ => ⟨rfl, rfl⟩⟩
    | _ => cases e
  | _ => cases e
abbrev gLt := gCmp fun i j => decide (i < j)
abbrev gLe := gCmp fun i j => decide (i ≤ j)
abbrev gGt := gCmp fun i j => decide (j < i)
abbrev gGe := gCmp fun i j => decide (j ≤ i)
section
variable {a b c : Expr} {fa fb fc : Env → R D} {pos : Pos}
theorem eo_lt (ha : EV X E W a fa) (hb : EV X E W b fb) : EO X E W (.Compare a [.Lt] [b] pos) (e2 gLt fa fb) := eo_cmp op_lt says_cmp (nomark b) ha hb
theorem eo_le (ha : EV X E W a fa) (hb : EV X E W b fb) : EO X E W (.Compare a [.LtE] [b] pos) (e2 gLe fa fb) := eo_cmp op_le says_cmp (nomark b) ha hb
theorem eo_gt (ha : EV X E W a fa) (hb : EV X E W b fb) : EO X E W (.Compare a [.Gt] [b] pos) (e2 gGt fa fb) := eo_cmp op_gt says_cmp (nomark b) ha hb
theorem eo_ge (ha : EV X E W a fa) (hb : EV X E W b fb) : EO X E W (.Compare a [.GtE] [b] pos) (e2 gGe fa fb) := eo_cmp op_ge says_cmp (nomark b) ha hb
theorem eo_eq (hK : E.k.K = X.K) (hu : X.A.units + 64 < cLine) (ha : EV X E W a fa) (hb : EV X E W b fb) : EO X E W (.Compare a [.Eq] [b] pos) (e2 gEq fa fb) := eo_cmp (op_eqA hu) (by rw [← hK]; exact says_eq) (nomark b) ha hb
theorem eo_ne (hK : E.k.K = X.K) (hu : X.A.units + 64 < cLine) (ha : EV X E W a fa) (hb : EV X E W b fb) : EO X E W (.Compare a [.NotEq] [b] pos) (e2 gNe fa fb) := eo_cmp (op_neA hu) (by rw [← hK]; exact says_ne) (nomark b) ha hb
def isNon : D → Bool
  | .non => true
  | _ => false
@[simp] theorem isNon_non : isNon .non = true := rfl
@[simp] theorem isNon_int (i : Int) : isNon (.int i) = false := rfl
@[simp] theorem isNon_bl (i : Bool) : isNon (.bl i) = false := rfl
@[simp] theorem isNon_str (i : Str) : isNon (.str i) = false := rfl
@[simp] theorem isNon_tup (i : List D) : isNon (.tup i) = false := rfl
@[simp] theorem isNon_lst (o : Bool) (i : List D) : isNon (.lst o i) = false := rfl
theorem Rp.non_iff {k : Kx} {F H : Hp} : ∀ {d : D} {v : V} {A : List Addr}, Rp k F H d v A → decide (v = .non) = isNon d
  | .non, _, _, h => by rw [h.1]; rfl
  | .bl _, _, _, h => by rw [h.1]; rfl
  | .int _, _, _, h => by rw [h.1]; rfl
  | .str _, _, _, h => by rw [h.1]; rfl
  | .fn _, _, _, h => by rw [h.1]; rfl
  | .tup _, _, _, h => by obtain ⟨a, _, e, _⟩ := h; rw [e]; rfl
  | .lst _ _, _, _, h => by obtain ⟨a, _, _, e, _⟩ := h; rw [e]; rfl
  | .scr _, _, _, h => by obtain ⟨a, _, e, _⟩ := h; rw [e]; rfl
  | .dic _ _ _, _, _, h => by obtain ⟨a, _, _, e, _⟩ := h; rw [e]; rfl
  | .dit _ _ _, _, _, h => by obtain ⟨a, _, _, e, _⟩ := h; rw [e]; rfl
  | .ins _ _ _, _, _, h => by obtain ⟨a, _, _, _, e, _⟩ := h; rw [e]; rfl
def gIs : D → D → Option D
  | x, .non => some (.bl (isNon x))
  | .bl a, .bl b => some (.bl (decide (a = b)))
  | _, _ => none
def gIsNot : D → D → Option D
  | x, .non => some (.bl (!isNon x))
  | .bl a, .bl b => some (.bl (!decide (a = b)))
  | _, _ => none
@[simp] theorem gIs_bl (a b : Bool) : gIs (.bl a) (.bl b) = some (.bl (decide (a = b))) := rfl
@[simp] theorem gIsNot_bl (a b : Bool) : gIsNot (.bl a) (.bl b) = some (.bl (!decide (a = b))) := rfl
@[simp] theorem gIs_eq (x : D) : gIs x .non = some (.bl (isNon x)) := rfl
@[simp] theorem gIsNot_eq (x : D) : gIsNot x .non = some (.bl (!isNon x)) := rfl
theorem eo_is (ha : EV X E W a fa) (hb : EV X E W b fb) : EO X E W (.Compare a [.Is] [b] pos) (e2 gIs fa fb) := by
  refine eo_cmp (op_isN.or op_is_bl) ?_ (nomark b) ha hb
  intro F H x y v w A B Q d fh rx ry e g
  cases y with
  | non =>
    cases e
    exact .inl ⟨ry.1, by rw [rx.non_iff]; exact g.scal fh fun _ _ => ⟨rfl, rfl⟩⟩
  | bl j =>
    cases x with
    | bl i =>
      cases e
      exact .inr ⟨i, j, rx.1, ry.1, g.scal fh fun _ _ => ⟨rfl, rfl⟩⟩
    | _ => cases e
  | _ => cases x <;> cases e
theorem eo_isNot (ha : EV X E W a fa) (hb : EV X E W b fb) : EO X E W (.Compare a [.IsNot] [b] pos) (e2 gIsNot fa fb) := by
  refine eo_cmp (op_notN.or op_isnot_bl) ?_ (nomark b) ha hb
  intro F H x y v w A B Q d fh rx ry e g
  cases y with
  | non =>
    cases e
    exact .inl ⟨ry.1, by rw [rx.non_iff]; exact g.scal fh fun _ _ => ⟨rfl, rfl⟩⟩
  | bl j =>
    cases x with
    | bl i =>
      cases e
      exact .inr ⟨i, j, rx.1, ry.1, g.scal fh fun _ _ => ⟨rfl, rfl⟩⟩
    | _ => cases e
  | _ => cases x <;> cases e
/-- a op1 b op2 c -/
def e3 (g g' : D → D → Option D) (fa fb fc : Env → R D) : Env → R D := fun ρ => (fa ρ).bind fun x => (fb ρ).bind fun y => (R.opt (g x y)).bind fun z =>
  match z with
  | .bl true => (fc ρ).bind fun w => R.opt (g' y w)
  | .bl false => .ok (.bl false)
  | _ => .no
theorem eo_chain {op op' : CmpOp} {r r' : R2} {g g' : D → D → Option D} (ho : OpR X (compareOp op) r) (hg : Says2 E r g) (ho' : OpR X (compareOp op') r') (hg' : Says2 E r' g') (hm : lastMarks [op, op'] [b, c] = false) (ha : EV X E W a fa) (hb : EV X E W b fb) (hc : EV X E W c fc) :
    EO X E W (.Compare a [op, op'] [b, c] pos) (e3 g g' fa fb fc) := by
  refine ⟨pe_mono (pe_chain ho ho' ha.pe hb.pe hc.pe hm) fun σ H Q h => ?_⟩
  obtain ⟨F, ρ, s, q⟩ := h
  refine ⟨F, ρ, s, Res.mono q.bind (fun x _ q F1 H1 v A t1 r1 => ?_) fun c _ z F' H' t => z F' H' t⟩
  refine ⟨F1, ρ, s.tr t1, Res.mono q.bind (fun y _ q F2 H2 w B t2 r2 => ?_) fun c _ z F' H' t => z F' H' (t1.trans t)⟩
  obtain ⟨d, e, p⟩ := Res.opt q.bind
  have t12 := t1.trans t2
  refine hg F2 H2 x y v w A B _ d t2.fh (r1.tr t2) r2 e fun F3 H3 v3 A3 t3 r3 n3 u3 => ?_
  cases d with
  | bl k =>
    refine ⟨k, r3.1, ?_⟩
    cases k with
    | true =>
      rw [if_pos rfl]
      refine ⟨F3, ρ, (s.tr t12).tr t3, Res.mono (Res.bind p) (fun z _ q F4 H4 v4 A4 t4 r4 => ?_) fun c _ z F' H' t => z F' H' ((t12.trans t3).trans t)⟩
      obtain ⟨d', e', p'⟩ := Res.opt q
      have t34 := t3.trans t4
      exact hg' F4 H4 y z w v4 B A4 Q d' t4.fh (r2.tr t34) r4 e' (GOk.back (F := F) (H := H) (F1 := F4) (H1 := H4) p' (t12.trans t34))
    | false =>
      rw [if_neg Bool.false_ne_true]
      exact p F3 H3 (.bl false) [] (t12.trans t3) ⟨rfl, rfl⟩ .nil fun _ z => nomatch z
  | _ => exact (show False from p).elim
end

/-! ### tests -/
def asT : D → Option Bool
  | .non => some false
  | .bl b => some b
  | .int i => some (i != 0)
  | .str x => if x.length ≤ 16777216 then some ((x.length : Int) != 0) else none
  | .lst _ xs => some (!xs.isEmpty)
  | .tup xs => some (!xs.isEmpty)
  | _ => none
def eT (f : Env → R D) : Env → R Bool := fun ρ => (f ρ).bind fun d => R.opt (asT d)
@[simp] theorem eT_eq (f : Env → R D) (ρ : Env) : eT f ρ = (f ρ).bind fun d => R.opt (asT d) := rfl
@[simp] theorem asT_bl (b : Bool) : asT (.bl b) = some b := rfl
@[simp] theorem asT_int (b : Int) : asT (.int b) = some (b != 0) := rfl
@[simp] theorem asT_non : asT .non = some false := rfl
@[simp] theorem asT_lst (o : Bool) (xs : List D) : asT (.lst o xs) = some (!xs.isEmpty) := rfl
@[simp] theorem asT_tup (xs : List D) : asT (.tup xs) = some (!xs.isEmpty) := rfl
theorem isEmpty_len {α β : Type} {xs : List α} {ys : List β} (h : xs.length = ys.length) : xs.isEmpty = ys.isEmpty := by
  cases xs with
  | nil => cases ys with
    | nil => rfl
    | cons _ _ => cases h
  | cons _ _ => cases ys with
    | nil => cases h
    | cons _ _ => rfl
theorem Rp.tru {k : Kx} {F H : Hp} (fh : Ex F H) {d : D} {v : V} {A : List Addr} {b : Bool} (h : Rp k F H d v A) (e : asT d = some b) : TruV k.K v H b := by
  cases d with
  | non => cases e; rw [h.1]; exact rfl
  | bl _ => cases e; rw [h.1]; exact rfl
  | int _ => cases e; rw [h.1]; exact rfl
  | str x =>
    obtain ⟨z, e⟩ := if_some e
    cases e
    rw [h.1]
    exact ⟨big_le z, rfl⟩
  | lst o xs =>
    cases e
    obtain ⟨a, vs, B, rfl, s, r⟩ := Rp.lstW fh h
    exact .inl ⟨vs, .inl (.inl s), by rw [isEmpty_len r.len]⟩
  | tup xs =>
    cases e
    obtain ⟨a, vs, rfl, s, r⟩ := h
    exact .inr (.inl ⟨vs, ex_t fh s, by rw [isEmpty_len r.len]⟩)
  | _ => cases e
theorem et_tru (hK : E.k.K = X.K) {a : Expr} {fa : Env → R D} (ha : EV X E W a fa) (he : ∀ whole, isTrue a X.env whole = (do let v ← whole; standAt a.pos; holding [v] (truthy v)) := by intro _; rfl) : ET X E W a (eT fa) := by
  refine ⟨pt_mono (pt_truth ha.pe he) fun σ H Q h => ?_⟩
  obtain ⟨F, ρ, s, q⟩ := h
  refine ⟨F, ρ, s, Res.mono q.bind (fun x _ q F1 H1 v A t1 r1 => ?_) fun c _ z F' H' t => z F' H' t⟩
  obtain ⟨b, e, p⟩ := Res.opt q
  exact ⟨b, by rw [← hK]; exact r1.tru t1.fh e, p F1 H1 t1⟩
/-- a comparison as a test -/
theorem tT_of {fa : Env → R D} {t : TE} (hb : ∀ ρ d, fa ρ = .ok d → ∃ b, d = .bl b) (h : ∀ σ H Q, tO E W fa σ H Q → t σ H Q) {σ : L2.St} {H : Hp} {Q : Bool → Hp → Prop} (q : tT E W (eT fa) σ H Q) : t σ H fun x H' => ∃ k, x = .bl k ∧ Q k H' := by
  obtain ⟨F, ρ, s, q⟩ := q
  refine h σ H _ ⟨F, ρ, s, Res.mono q.bind (fun x e q F1 H1 v A t1 r1 _ _ => ?_) fun c _ z F' H' t => z F' H' t⟩
  obtain ⟨b, rfl⟩ := hb ρ x e
  exact ⟨b, r1.1, q F1 H1 t1⟩
theorem e2_bl {g : D → D → Option D} (hg : ∀ x y d, g x y = some d → ∃ b, d = .bl b) {fa fb : Env → R D} (ρ : Env) (d : D) (e : e2 g fa fb ρ = .ok d) : ∃ b, d = .bl b := by
  rw [e2_eq] at e
  cases ea : fa ρ with
  | ok x =>
    rw [ea, R.bind_ok] at e
    cases eb : fb ρ with
    | ok y =>
      rw [eb, R.bind_ok] at e
      cases eg : g x y with
      | some z =>
        rw [eg] at e
        cases e
        exact hg x y d eg
      | none => rw [eg] at e; cases e
    | _ => rw [eb] at e; cases e
  | _ => rw [ea] at e; cases e
theorem et_cmp {a b : Expr} {op : CmpOp} {r : R2} {g : D → D → Option D} {fa fb : Env → R D} {pos : Pos} (ho : OpR X (compareOp op) r) (hg : Says2 E r g) (hbl : ∀ x y d, g x y = some d → ∃ b, d = .bl b) (hm : behindInMarks op b = false) (ha : EV X E W a fa) (hb : EV X E W b fb) :
    ET X E W (.Compare a [op] [b] pos) (eT (e2 g fa fb)) :=
  ⟨pt_mono (pt_cmpR ho ha.pe hb.pe hm) fun _ _ _ h => tT_of (e2_bl hbl) (fun _ _ _ q => says2 hg q) h⟩
theorem gCmp_bl {c : Int → Int → Bool} (x y d : D) (e : gCmp c x y = some d) : ∃ b, d = .bl b := by
  cases x with
  | int i =>
    cases y with
    | int j => cases e; exact ⟨_, rfl⟩
    | _ => cases e
  | _ => cases e
theorem gEq_isbl (x y d : D) (e : gEq x y = some d) : ∃ b, d = .bl b := by
  unfold gEq at e
  split at e <;> first | (cases e; exact ⟨_, rfl⟩) | (obtain ⟨_, e⟩ := if_some e; cases e; exact ⟨_, rfl⟩)
theorem gNe_isbl (x y d : D) (e : gNe x y = some d) : ∃ b, d = .bl b := by
  unfold gNe at e
  split at e <;> first | (cases e; exact ⟨_, rfl⟩) | (obtain ⟨_, e⟩ := if_some e; cases e; exact ⟨_, rfl⟩)
theorem gIs_isbl (x y d : D) (e : gIs x y = some d) : ∃ b, d = .bl b := by
  unfold gIs at e
  split at e <;> first | (cases e; exact ⟨_, rfl⟩) | cases e
theorem gIsNot_isbl (x y d : D) (e : gIsNot x y = some d) : ∃ b, d = .bl b := by
  unfold gIsNot at e
  split at e <;> first | (cases e; exact ⟨_, rfl⟩) | cases e
section
variable {a b c : Expr} {fa fb fc : Env → R D} {pos : Pos}
theorem et_lt (ha : EV X E W a fa) (hb : EV X E W b fb) : ET X E W (.Compare a [.Lt] [b] pos) (eT (e2 gLt fa fb)) := et_cmp op_lt says_cmp gCmp_bl (nomark b) ha hb
theorem et_le (ha : EV X E W a fa) (hb : EV X E W b fb) : ET X E W (.Compare a [.LtE] [b] pos) (eT (e2 gLe fa fb)) := et_cmp op_le says_cmp gCmp_bl (nomark b) ha hb
theorem et_gt (ha : EV X E W a fa) (hb : EV X E W b fb) : ET X E W (.Compare a [.Gt] [b] pos) (eT (e2 gGt fa fb)) := et_cmp op_gt says_cmp gCmp_bl (nomark b) ha hb
theorem et_ge (ha : EV X E W a fa) (hb : EV X E W b fb) : ET X E W (.Compare a [.GtE] [b] pos) (eT (e2 gGe fa fb)) := et_cmp op_ge says_cmp gCmp_bl (nomark b) ha hb
theorem et_eq (hK : E.k.K = X.K) (hu : X.A.units + 64 < cLine) (ha : EV X E W a fa) (hb : EV X E W b fb) : ET X E W (.Compare a [.Eq] [b] pos) (eT (e2 gEq fa fb)) := et_cmp (op_eqA hu) (by rw [← hK]; exact says_eq) gEq_isbl (nomark b) ha hb
theorem et_ne (hK : E.k.K = X.K) (hu : X.A.units + 64 < cLine) (ha : EV X E W a fa) (hb : EV X E W b fb) : ET X E W (.Compare a [.NotEq] [b] pos) (eT (e2 gNe fa fb)) := et_cmp (op_neA hu) (by rw [← hK]; exact says_ne) gNe_isbl (nomark b) ha hb
theorem et_is (ha : EV X E W a fa) (hb : EV X E W b fb) : ET X E W (.Compare a [.Is] [b] pos) (eT (e2 gIs fa fb)) := by
  refine et_cmp (op_isN.or op_is_bl) ?_ gIs_isbl (nomark b) ha hb
  intro F H x y v w A B Q d fh rx ry e g
  cases y with
  | non =>
    cases e
    exact .inl ⟨ry.1, by rw [rx.non_iff]; exact g.scal fh fun _ _ => ⟨rfl, rfl⟩⟩
  | bl j =>
    cases x with
    | bl i =>
      cases e
      exact .inr ⟨i, j, rx.1, ry.1, g.scal fh fun _ _ => ⟨rfl, rfl⟩⟩
    | _ => cases e
  | _ => cases x <;> cases e
theorem et_isNot (ha : EV X E W a fa) (hb : EV X E W b fb) : ET X E W (.Compare a [.IsNot] [b] pos) (eT (e2 gIsNot fa fb)) := by
  refine et_cmp (op_notN.or op_isnot_bl) ?_ gIsNot_isbl (nomark b) ha hb
  intro F H x y v w A B Q d fh rx ry e g
  cases y with
  | non =>
    cases e
    exact .inl ⟨ry.1, by rw [rx.non_iff]; exact g.scal fh fun _ _ => ⟨rfl, rfl⟩⟩
  | bl j =>
    cases x with
    | bl i =>
      cases e
      exact .inr ⟨i, j, rx.1, ry.1, g.scal fh fun _ _ => ⟨rfl, rfl⟩⟩
    | _ => cases e
  | _ => cases x <;> cases e
theorem et_chain {op op' : CmpOp} {r r' : R2} {g g' : D → D → Option D} (ho : OpR X (compareOp op) r) (hg : Says2 E r g) (ho' : OpR X (compareOp op') r') (hg' : Says2 E r' g') (hm : lastMarks [op, op'] [b, c] = false) (hbl : ∀ x y d, g' x y = some d → ∃ b, d = .bl b) (ha : EV X E W a fa) (hb : EV X E W b fb) (hc : EV X E W c fc) :
    ET X E W (.Compare a [op, op'] [b, c] pos) (eT (e3 g g' fa fb fc)) := by
  refine ⟨pt_mono (pt_chain ho ho' ha.pe hb.pe hc.pe hm) fun σ H Q h => tT_of (fa := e3 g g' fa fb fc) (fun ρ d e => ?_) (fun σ H Q h => ?_) h⟩
  · unfold e3 at e
    cases ea : fa ρ with
    | ok x =>
      rw [ea, R.bind_ok] at e
      cases eb : fb ρ with
      | ok y =>
        rw [eb, R.bind_ok] at e
        cases eg : g x y with
        | some z =>
          rw [eg, R.opt_some, R.bind_ok] at e
          split at e
          · cases ec : fc ρ with
            | ok w =>
              rw [ec, R.bind_ok] at e
              cases eg' : g' y w with
              | some z' =>
                rw [eg'] at e
                cases e
                exact hbl _ _ _ eg'
              | none => rw [eg'] at e; cases e
            | _ => rw [ec] at e; cases e
          · cases e; exact ⟨_, rfl⟩
          · cases e
        | none => rw [eg] at e; cases e
      | _ => rw [eb] at e; cases e
    | _ => rw [ea] at e; cases e
  · obtain ⟨F, ρ, s, q⟩ := h
    refine ⟨F, ρ, s, Res.mono q.bind (fun x _ q F1 H1 v A t1 r1 => ?_) fun c _ z F' H' t => z F' H' t⟩
    refine ⟨F1, ρ, s.tr t1, Res.mono q.bind (fun y _ q F2 H2 w B t2 r2 => ?_) fun c _ z F' H' t => z F' H' (t1.trans t)⟩
    obtain ⟨d, e, p⟩ := Res.opt q.bind
    have t12 := t1.trans t2
    refine hg F2 H2 x y v w A B _ d t2.fh (r1.tr t2) r2 e fun F3 H3 v3 A3 t3 r3 n3 u3 => ?_
    cases d with
    | bl k =>
      refine ⟨k, r3.1, ?_⟩
      cases k with
      | true =>
        rw [if_pos rfl]
        refine ⟨F3, ρ, (s.tr t12).tr t3, Res.mono (Res.bind p) (fun z _ q F4 H4 v4 A4 t4 r4 => ?_) fun c _ z F' H' t => z F' H' ((t12.trans t3).trans t)⟩
        obtain ⟨d', e', p'⟩ := Res.opt q
        have t34 := t3.trans t4
        exact hg' F4 H4 y z w v4 B A4 Q d' t4.fh (r2.tr t34) r4 e' (GOk.back (F := F) (H := H) (F1 := F4) (H1 := H4) p' (t12.trans t34))
      | false =>
        rw [if_neg Bool.false_ne_true]
        exact p F3 H3 (.bl false) [] (t12.trans t3) ⟨rfl, rfl⟩ .nil fun _ z => nomatch z
    | _ => exact (show False from p).elim
end
/-! and, or, not -/
def tNotF (f : Env → R Bool) : Env → R Bool := fun ρ => (f ρ).bind fun b => .ok (!b)
def tAndF (f g : Env → R Bool) : Env → R Bool := fun ρ => (f ρ).bind fun b => if b = true then g ρ else .ok false
def tOrF (f g : Env → R Bool) : Env → R Bool := fun ρ => (f ρ).bind fun b => if b = true then .ok true else g ρ
@[simp] theorem tNotF_eq (f : Env → R Bool) (ρ : Env) : tNotF f ρ = (f ρ).bind fun b => .ok (!b) := rfl
@[simp] theorem tAndF_eq (f g : Env → R Bool) (ρ : Env) : tAndF f g ρ = (f ρ).bind fun b => if b = true then g ρ else .ok false := rfl
@[simp] theorem tOrF_eq (f g : Env → R Bool) (ρ : Env) : tOrF f g ρ = (f ρ).bind fun b => if b = true then .ok true else g ρ := rfl
section
variable {a b : Expr} {rest : List Expr} {f g : Env → R Bool} {pos : Pos}
theorem et_not (h : ET X E W a f) : ET X E W (.UnaryOp .Not a pos) (tNotF f) := by
  refine ⟨pt_mono (pt_not h.pt) fun σ H Q h => ?_⟩
  obtain ⟨F, ρ, s, q⟩ := h
  exact ⟨F, ρ, s, Res.mono q.bind (fun x _ q => q) fun c _ z F' H' t => z F' H' t⟩
theorem tAnd_of {t u : TT} (h1 : ∀ σ H Q, tT E W f σ H Q → t σ H Q) (h2 : ∀ σ H Q, tT E W g σ H Q → u σ H Q) {σ : L2.St} {H : Hp} {Q : Bool → Hp → Prop} (h : tT E W (tAndF f g) σ H Q) : tAnd t u σ H Q := by
  obtain ⟨F, ρ, s, q⟩ := h
  refine h1 σ H _ ⟨F, ρ, s, Res.mono q.bind (fun x _ q F1 H1 t1 => ?_) fun c _ z F' H' t => z F' H' t⟩
  cases x with
  | true => exact h2 σ H1 _ ⟨F1, ρ, s.tr t1, Res.mono q (fun y _ q F2 H2 t2 => q F2 H2 (t1.trans t2)) fun c _ z F' H' t => z F' H' (t1.trans t)⟩
  | false => exact q F1 H1 t1
theorem tOr_of {t u : TT} (h1 : ∀ σ H Q, tT E W f σ H Q → t σ H Q) (h2 : ∀ σ H Q, tT E W g σ H Q → u σ H Q) {σ : L2.St} {H : Hp} {Q : Bool → Hp → Prop} (h : tT E W (tOrF f g) σ H Q) : tOr t u σ H Q := by
  obtain ⟨F, ρ, s, q⟩ := h
  refine h1 σ H _ ⟨F, ρ, s, Res.mono q.bind (fun x _ q F1 H1 t1 => ?_) fun c _ z F' H' t => z F' H' t⟩
  cases x with
  | false => exact h2 σ H1 _ ⟨F1, ρ, s.tr t1, Res.mono q (fun y _ q F2 H2 t2 => q F2 H2 (t1.trans t2)) fun c _ z F' H' t => z F' H' (t1.trans t)⟩
  | true => exact q F1 H1 t1
theorem ew_and1 (h : ET X E W a f) : EW X E W (.BoolOp .And [a] pos) f := ⟨pw_and1 h.pt⟩
theorem ew_or1 (h : ET X E W a f) : EW X E W (.BoolOp .Or [a] pos) f := ⟨pw_or1 h.pt⟩
theorem ew_and (ha : ET X E W a f) (hb : EW X E W (.BoolOp .And (b :: rest) pos) g) : EW X E W (.BoolOp .And (a :: b :: rest) pos) (tAndF f g) :=
  ⟨pw_mono (pw_and ha.pt hb.pw) fun _ _ _ h => tAnd_of (fun _ _ _ z => z) (fun _ _ _ z => z) h⟩
theorem ew_or (ha : ET X E W a f) (hb : EW X E W (.BoolOp .Or (b :: rest) pos) g) : EW X E W (.BoolOp .Or (a :: b :: rest) pos) (tOrF f g) :=
  ⟨pw_mono (pw_or ha.pt hb.pw) fun _ _ _ h => tOr_of (fun _ _ _ z => z) (fun _ _ _ z => z) h⟩
theorem EW.t {e : Expr} (h : EW X E W e f) : ET X E W e f := ⟨h.pw.pt⟩
end
/-! .. as values, by truth -/
def eNot (f : Env → R D) : Env → R D := fun ρ => (f ρ).bind fun d => (R.opt (asT d)).bind fun b => .ok (.bl (!b))
def eAnd (f g : Env → R D) : Env → R D := fun ρ => (f ρ).bind fun d => (R.opt (asT d)).bind fun b => if b = true then g ρ else .ok d
def eOr (f g : Env → R D) : Env → R D := fun ρ => (f ρ).bind fun d => (R.opt (asT d)).bind fun b => if b = true then .ok d else g ρ
@[simp] theorem eNot_eq (f : Env → R D) (ρ : Env) : eNot f ρ = (f ρ).bind fun d => (R.opt (asT d)).bind fun b => .ok (.bl (!b)) := rfl
@[simp] theorem eAnd_eq (f g : Env → R D) (ρ : Env) : eAnd f g ρ = (f ρ).bind fun d => (R.opt (asT d)).bind fun b => if b = true then g ρ else .ok d := rfl
@[simp] theorem eOr_eq (f g : Env → R D) (ρ : Env) : eOr f g ρ = (f ρ).bind fun d => (R.opt (asT d)).bind fun b => if b = true then .ok d else g ρ := rfl
section
variable {a b : Expr} {rest : List Expr} {f g : Env → R D} {pos : Pos}
theorem eo_not (hK : E.k.K = X.K) (h : EV X E W a f) : EO X E W (.UnaryOp .Not a pos) (eNot f) := by
  refine ⟨pe_mono (pe_notT h.pe) fun σ H Q h => ?_⟩
  obtain ⟨F, ρ, s, q⟩ := h
  refine ⟨F, ρ, s, Res.mono q.bind (fun x _ q F1 H1 v A t1 r1 => ?_) fun c _ z F' H' t => z F' H' t⟩
  obtain ⟨b, e, p⟩ := Res.opt q.bind
  exact ⟨b, by rw [← hK]; exact r1.tru t1.fh e, p F1 H1 (.bl (!b)) [] t1 ⟨rfl, rfl⟩ .nil fun _ z => nomatch z⟩
theorem ev_one {op : BoolOp} (h : EV X E W a f) : EV X E W (.BoolOp op [a] pos) f := ⟨pe_one h.pe⟩
theorem ev_and (hK : E.k.K = X.K) (h : EV X E W a f) (hb : EV X E W (.BoolOp .And (b :: rest) pos) g) : EV X E W (.BoolOp .And (a :: b :: rest) pos) (eAnd f g) := by
  refine ⟨pe_mono (pe_andT h.pe hb.pe) fun σ H Q h => ?_⟩
  obtain ⟨F, ρ, s, q⟩ := h
  refine ⟨F, ρ, s, Res.mono q.bind (fun x _ q F1 H1 v A t1 r1 => ?_) fun c _ z F' H' t => z F' H' t⟩
  obtain ⟨b, e, p⟩ := Res.opt q.bind
  refine ⟨b, by rw [← hK]; exact r1.tru t1.fh e, ?_⟩
  cases b with
  | true => exact ⟨F1, ρ, s.tr t1, Res.mono p (fun y _ q F2 H2 v A t2 r => q F2 H2 v A (t1.trans t2) r) fun c _ z F' H' t => z F' H' (t1.trans t)⟩
  | false => exact p F1 H1 v A t1 r1
theorem ev_or (hK : E.k.K = X.K) (h : EV X E W a f) (hb : EV X E W (.BoolOp .Or (b :: rest) pos) g) : EV X E W (.BoolOp .Or (a :: b :: rest) pos) (eOr f g) := by
  refine ⟨pe_mono (pe_orT h.pe hb.pe) fun σ H Q h => ?_⟩
  obtain ⟨F, ρ, s, q⟩ := h
  refine ⟨F, ρ, s, Res.mono q.bind (fun x _ q F1 H1 v A t1 r1 => ?_) fun c _ z F' H' t => z F' H' t⟩
  obtain ⟨b, e, p⟩ := Res.opt q.bind
  refine ⟨b, by rw [← hK]; exact r1.tru t1.fh e, ?_⟩
  cases b with
  | false => exact ⟨F1, ρ, s.tr t1, Res.mono p (fun y _ q F2 H2 v A t2 r => q F2 H2 v A (t1.trans t2) r) fun c _ z F' H' t => z F' H' (t1.trans t)⟩
  | true => exact p F1 H1 v A t1 r1
end
def eIf (t : Env → R Bool) (f g : Env → R D) : Env → R D := fun ρ => (t ρ).bind fun b => if b = true then f ρ else g ρ
@[simp] theorem eIf_eq (t : Env → R Bool) (f g : Env → R D) (ρ : Env) : eIf t f g ρ = (t ρ).bind fun b => if b = true then f ρ else g ρ := rfl
section
variable {a b c : Expr} {t : Env → R Bool} {f g : Env → R D} {pos : Pos}
theorem ev_if (hc : ET X E W c t) (ha : EV X E W a f) (hb : EV X E W b g) : EV X E W (.IfExp c a b pos) (eIf t f g) := by
  refine ⟨pe_mono (pe_ifExp hc.pt ha.pe hb.pe) fun σ H Q h => ?_⟩
  obtain ⟨F, ρ, s, q⟩ := h
  refine ⟨F, ρ, s, Res.mono q.bind (fun x _ q F1 H1 t1 => ?_) fun c _ z F' H' t => z F' H' t⟩
  cases x with
  | true => exact ⟨F1, ρ, s.tr t1, Res.mono q (fun y _ q F2 H2 v A t2 r => q F2 H2 v A (t1.trans t2) r) fun c _ z F' H' t => z F' H' (t1.trans t)⟩
  | false => exact ⟨F1, ρ, s.tr t1, Res.mono q (fun y _ q F2 H2 v A t2 r => q F2 H2 v A (t1.trans t2) r) fun c _ z F' H' t => z F' H' (t1.trans t)⟩
theorem none_back {H H' : Hp} (e : Ex H H') {a : Addr} (h : H' a = none) : H a = none := by
  cases q : H a with
  | none => rfl
  | some o => rw [e a o q] at h; cases h
theorem eo_if (hc : ET X E W c t) (ha : EO X E W a f) (hb : EO X E W b g) : EO X E W (.IfExp c a b pos) (eIf t f g) := by
  refine ⟨pe_mono (pe_ifExp hc.pt ha.pe hb.pe) fun σ H Q h => ?_⟩
  obtain ⟨F, ρ, s, q⟩ := h
  refine ⟨F, ρ, s, Res.mono q.bind (fun x _ q F1 H1 t1 => ?_) fun c _ z F' H' t => z F' H' t⟩
  cases x with
  | true => exact ⟨F1, ρ, s.tr t1, Res.mono q (fun y _ q F2 H2 v A t2 r n u => q F2 H2 v A (t1.trans t2) r n fun a ha => none_back t1.hh (u a ha)) fun c _ z F' H' t => z F' H' (t1.trans t)⟩
  | false => exact ⟨F1, ρ, s.tr t1, Res.mono q (fun y _ q F2 H2 v A t2 r n u => q F2 H2 v A (t1.trans t2) r n fun a ha => none_back t1.hh (u a ha)) fun c _ z F' H' t => z F' H' (t1.trans t)⟩
end
end
end Dv
end
section
set_option maxRecDepth 100000
set_option maxHeartbeats 1000000
namespace Dv
open PySem PySem.Spec PyProof.Rows L2

section
variable {k : Kx} {F H F' H' : Hp}
/-- values that are looked at -/
abbrev Vw (k : Kx) (F H : Hp) : List V → List D → Prop := Paired fun v d => ∃ A, Rp k F H d v A
theorem Vw.tr (t : Tr F H F' H') : ∀ {vs : List V} {ds : List D}, Vw k F H vs ds → Vw k F' H' vs ds
  | _, _, .nil => .nil
  | _, _, .cons ⟨A, r⟩ s => .cons ⟨A, r.tr t⟩ (Vw.tr t s)
theorem Vw.rpl : ∀ {vs : List V} {ds : List D}, Vw k F H vs ds → ∃ A, RpL k F H ds vs A
  | _, _, .nil => ⟨[], rfl, rfl⟩
  | _, _, .cons ⟨A, r⟩ s => by
    obtain ⟨B, q⟩ := Vw.rpl s
    exact ⟨A ++ B, _, _, A, B, rfl, rfl, r, q⟩
theorem RpL.vw : ∀ {ds : List D} {vs : List V} {A : List Addr}, RpL k F H ds vs A → Vw k F H vs ds
  | [], _, _, h => by rw [h.1]; exact .nil
  | d :: ds, xs, A, h => by
    obtain ⟨v, vs, B, C, e1, e2, h1, h2⟩ := h
    rw [e1]
    exact .cons ⟨B, h1⟩ (RpL.vw h2)
theorem Vw.app : ∀ {vs ws : List V} {ds es : List D}, Vw k F H vs ds → Vw k F H ws es → Vw k F H (vs ++ ws) (ds ++ es)
  | _, _, _, _, .nil, s => s
  | _, _, _, _, .cons r t, s => .cons r (Vw.app t s)
end
section
variable {X : Cx} {E : En} {W : WX}
/-! ### argument lists -/
def aNil : Env → R (List D) := fun _ => .ok []
def aV (f : Env → R D) (g : Env → R (List D)) : Env → R (List D) := fun ρ => (f ρ).bind fun x => (g ρ).bind fun xs => .ok (x :: xs)
/-- an own value: frozen -/
def aO (f : Env → R D) (g : Env → R (List D)) : Env → R (List D) := fun ρ => (f ρ).bind fun x => if x.cold = true then (g ρ).bind fun xs => .ok (x.frz :: xs) else .no
def items : D → Option (List D)
  | .lst _ xs => some xs
  | .tup xs => some xs
  | _ => none
@[simp] theorem items_lst (o : Bool) (xs : List D) : items (.lst o xs) = some xs := rfl
@[simp] theorem items_tup (xs : List D) : items (.tup xs) = some xs := rfl
def aS (f : Env → R D) (g : Env → R (List D)) : Env → R (List D) := fun ρ => (f ρ).bind fun x => (R.opt (items x)).bind fun ys => (g ρ).bind fun xs => .ok (ys ++ xs)
@[simp] theorem aNil_eq (ρ : Env) : aNil ρ = .ok [] := rfl
@[simp] theorem aV_eq (f : Env → R D) (g : Env → R (List D)) (ρ : Env) : aV f g ρ = (f ρ).bind fun x => (g ρ).bind fun xs => .ok (x :: xs) := rfl
@[simp] theorem aO_eq (f : Env → R D) (g : Env → R (List D)) (ρ : Env) : aO f g ρ = (f ρ).bind fun x => if x.cold = true then (g ρ).bind fun xs => .ok (x.frz :: xs) else .no := rfl
@[simp] theorem aS_eq (f : Env → R D) (g : Env → R (List D)) (ρ : Env) : aS f g ρ = (f ρ).bind fun x => (R.opt (items x)).bind fun ys => (g ρ).bind fun xs => .ok (ys ++ xs) := rfl
theorem tr_fz {F H F1 H1 : Hp} {A : List Addr} (t : Tr F H F1 H1) (n : ∀ a ∈ A, F1 a = none) (u : ∀ a ∈ A, H a = none) : Tr F H (fz F1 H1 A) H1 :=
  ⟨t.ff.trans (fz_ex n), t.hh, fz_exH t.fh, fun a e z => by
    by_cases q : a ∈ A
    · exact absurd (u a q) z
    · rw [fz_out q]; exact t.no a e z⟩
section
variable {e : Expr} {es : List Expr} {f : Env → R D} {g : Env → R (List D)} {p : Pos}
theorem ea_nil : EA X E W [] aNil := ⟨pa_mono pa_nil fun σ H Q ⟨F, ρ, s, q⟩ => q F H [] (Tr.refl s.fh) .nil⟩
theorem ea_v (h : EV X E W e f) (hr : EA X E W es g) (hs : starEach (e :: es) X.env = (false, eval e X.env) :: starEach es X.env := by rfl) : EA X E W (e :: es) (aV f g) := by
  refine ⟨pa_mono (pa_cons h.pe hr.pa hs) fun σ H Q h => ?_⟩
  obtain ⟨F, ρ, s, q⟩ := h
  refine ⟨F, ρ, s, Res.mono q.bind (fun x _ q F1 H1 v A t1 r1 => ?_) fun c _ z F' H' t => z F' H' t⟩
  exact ⟨F1, ρ, s.tr t1, Res.mono q.bind (fun xs _ q F2 H2 vs t2 r2 => q F2 H2 (v :: vs) (t1.trans t2) (.cons ⟨A, r1.tr t2⟩ r2)) fun c _ z F' H' t => z F' H' (t1.trans t)⟩
theorem ea_o (h : EO X E W e f) (hr : EA X E W es g) (hs : starEach (e :: es) X.env = (false, eval e X.env) :: starEach es X.env := by rfl) : EA X E W (e :: es) (aO f g) := by
  refine ⟨pa_mono (pa_cons h.pe hr.pa hs) fun σ H Q h => ?_⟩
  obtain ⟨F, ρ, s, q⟩ := h
  refine ⟨F, ρ, s, Res.mono q.bind (fun x _ q F1 H1 v A t1 r1 n1 u1 => ?_) fun c _ z F' H' t => z F' H' t⟩
  by_cases c : x.cold = true
  · rw [if_pos c] at q
    have n := fun a ha => (Rp.dom x v A r1 a ha).1
    have t1' := tr_fz t1 n u1
    have r1' : Rp E.k (fz F1 H1 A) H1 x.frz v [] := Rp.frz n x v A c (fun _ z => z) r1
    exact ⟨_, ρ, s.tr t1', Res.mono q.bind (fun xs _ q F2 H2 vs t2 r2 => q F2 H2 (v :: vs) (t1'.trans t2) (.cons ⟨[], r1'.tr t2⟩ r2)) fun c _ z F' H' t => z F' H' (t1'.trans t)⟩
  · rw [if_neg c] at q
    exact q.elim
theorem Rp.items (fh : Ex F H) {k : Kx} {d : D} {v : V} {A : List Addr} {ys : List D} (h : Rp k F H d v A) (e : items d = some ys) : ∃ a vs B, v = .ref a ∧ (SqT k.K H a vs ∨ SqL k.K H a vs) ∧ RpL k F H ys vs B := by
  cases d with
  | lst o xs =>
    cases e
    obtain ⟨a, vs, B, e, s, r⟩ := Rp.lstW fh h
    exact ⟨a, vs, B, e, .inr (.inl (.inl s)), r⟩
  | tup xs =>
    cases e
    obtain ⟨a, vs, e, s, r⟩ := h
    exact ⟨a, vs, A, e, .inl (ex_t fh s), r⟩
  | _ => cases e
theorem ea_s (hK : E.k.K = X.K) (h : EV X E W e f) (hr : EA X E W es g) (hs : starEach (.Starred e p :: es) X.env = (true, eval e X.env) :: starEach es X.env := by rfl) : EA X E W (.Starred e p :: es) (aS f g) := by
  refine ⟨pa_mono (StX.pa_star h.pe hr.pa hs) fun σ H Q h => ?_⟩
  obtain ⟨F, ρ, s, q⟩ := h
  refine ⟨F, ρ, s, Res.mono q.bind (fun x _ q F1 H1 v A t1 r1 => ?_) fun c _ z F' H' t => z F' H' t⟩
  obtain ⟨ys, ey, q⟩ := Res.opt q.bind
  obtain ⟨a, vs, B, e, s1, r⟩ := r1.items t1.fh ey
  refine ⟨a, vs, e, by rw [← hK]; exact s1, ?_⟩
  exact ⟨F1, ρ, s.tr t1, Res.mono q.bind (fun xs _ q F2 H2 ws t2 r2 => q F2 H2 (vs ++ ws) (t1.trans t2) (Vw.app (RpL.vw (r.tr t2)) r2)) fun c _ z F' H' t => z F' H' (t1.trans t)⟩

/-! ### displays -/
def eTup (g : Env → R (List D)) : Env → R D := fun ρ => (g ρ).bind fun ds => if D.pureL ds = true ∧ ds.length ≤ 16777216 then .ok (.tup ds) else .no
def eLst (g : Env → R (List D)) : Env → R D := fun ρ => (g ρ).bind fun ds => if D.pureL ds = true ∧ ds.length ≤ 16777216 then .ok (.lst true ds) else .no
@[simp] theorem eTup_eq (g : Env → R (List D)) (ρ : Env) : eTup g ρ = (g ρ).bind fun ds => if D.pureL ds = true ∧ ds.length ≤ 16777216 then .ok (.tup ds) else .no := rfl
@[simp] theorem eLst_eq (g : Env → R (List D)) (ρ : Env) : eLst g ρ = (g ρ).bind fun ds => if D.pureL ds = true ∧ ds.length ≤ 16777216 then .ok (.lst true ds) else .no := rfl
theorem eo_tup {x1 : Nat} (h : EA X E W es g) : EO X E W (.Tuple es x1 p) (eTup g) := by
  refine ⟨pe_mono (pe_tup h.pa) fun σ H Q h => ?_⟩
  obtain ⟨F, ρ, s, q⟩ := h
  refine ⟨F, ρ, s, Res.mono q.bind (fun ds _ q F1 H1 vs t1 r1 => ?_) fun c _ z F' H' t => z F' H' t⟩
  by_cases c : D.pureL ds = true ∧ ds.length ≤ 16777216
  · rw [if_pos c] at q
    obtain ⟨A, r⟩ := Vw.rpl r1
    have r' : RpL E.k F1 H1 ds vs [] := RpL.pure c.1 (.refl _) r
    exact ⟨big_le (by rw [← r.len]; exact c.2), fun p hp => GOk.tup (E := E) t1.fh (GOk.back (E := E) (F := F) (H := H) q t1) hp r'⟩
  · rw [if_neg c] at q
    exact q.elim
theorem eo_lst (h : EA X E W es g) : EO X E W (.List es p) (eLst g) := by
  refine ⟨pe_mono (pe_lst h.pa) fun σ H Q h => ?_⟩
  obtain ⟨F, ρ, s, q⟩ := h
  refine ⟨F, ρ, s, Res.mono q.bind (fun ds _ q F1 H1 vs t1 r1 => ?_) fun c _ z F' H' t => z F' H' t⟩
  by_cases c : D.pureL ds = true ∧ ds.length ≤ 16777216
  · rw [if_pos c] at q
    obtain ⟨A, r⟩ := Vw.rpl r1
    have r' : RpL E.k F1 H1 ds vs [] := RpL.pure c.1 (.refl _) r
    exact ⟨big_le (by rw [← r.len]; exact c.2), fun p hp => GOk.lst (E := E) t1.fh (GOk.back (E := E) (F := F) (H := H) q t1) hp r'⟩
  · rw [if_neg c] at q
    exact q.elim
end

/-! ### subscripts -/
def ixD {α : Type} (xs : List α) (i : Int) : Option α := if 0 ≤ i then xs[i.toNat]? else if -(xs.length : Int) ≤ i then xs[(i + xs.length).toNat]? else none
theorem ixD_atI {α : Type} (xs : List α) (i : Int) : atI xs i = ixD xs i := by
  unfold atI ixN ixD
  by_cases h : 0 ≤ i
  · rw [if_pos h, if_pos h]
    by_cases h2 : i < (xs.length : Int)
    · rw [if_pos h2]; rfl
    · rw [if_neg h2]
      exact (List.getElem?_eq_none (by omega)).symm
  · rw [if_neg h, if_neg h]
    by_cases h2 : -(xs.length : Int) ≤ i
    · rw [if_pos h2, if_pos h2]; rfl
    · rw [if_neg h2, if_neg h2]; rfl
theorem ixD_nat {α : Type} (xs : List α) (j : Nat) : ixD xs (j : Int) = xs[j]? := by
  unfold ixD
  rw [if_pos (by omega), Int.toNat_natCast]
theorem ixD_pos {α : Type} (xs : List α) {i : Int} (h : 0 ≤ i) : ixD xs i = xs[i.toNat]? := by
  unfold ixD
  rw [if_pos h]
theorem RpL.ix {k : Kx} {F H : Hp} {ds : List D} {vs : List V} {A : List Addr} {i : Int} {d : D} (h : RpL k F H ds vs A) (e : ixD ds i = some d) : ∃ v B, atI vs i = some v ∧ Rp k F H d v B := by
  rw [ixD_atI]
  unfold ixD at e ⊢
  have hl := h.len
  by_cases z : 0 ≤ i
  · rw [if_pos z] at e ⊢
    obtain ⟨v, B, h1, h2, _⟩ := h.get e
    exact ⟨v, B, h1, h2⟩
  · rw [if_neg z] at e ⊢
    rw [← hl]
    by_cases z2 : -(ds.length : Int) ≤ i
    · rw [if_pos z2] at e ⊢
      obtain ⟨v, B, h1, h2, _⟩ := h.get e
      exact ⟨v, B, h1, h2⟩
    · rw [if_neg z2] at e
      cases e
def gIx : D → D → Option D
  | .lst _ xs, .int i => ixD xs i
  | .tup xs, .int i => ixD xs i
  | .scr xs, .int i => ixD xs i
  | .str x, .int i => if x.length ≤ 16777216 then (ixD x.cps.toList i).map fun c => .str ⟨#[c]⟩ else none
  | _, _ => none
@[simp] theorem gIx_lst (o : Bool) (xs : List D) (i : Int) : gIx (.lst o xs) (.int i) = ixD xs i := rfl
@[simp] theorem gIx_scr (xs : List D) (i : Int) : gIx (.scr xs) (.int i) = ixD xs i := rfl
@[simp] theorem gIx_tup (xs : List D) (i : Int) : gIx (.tup xs) (.int i) = ixD xs i := rfl
def PlainIxX (b : Expr) : Prop := ∀ o i, subscripted b false o i = operate [o, i] (getItem o i)
theorem ev_ix {a b : Expr} {fa fb : Env → R D} {pos : Pos} (hK : E.k.K = X.K) (ha : EV X E W a fa) (hb : EV X E W b fb) (hs : PlainIx b := by exact fun _ _ => rfl) : EV X E W (.Subscript a b pos) (e2 gIx fa fb) := by
  refine ⟨pe_mono (pe_ix ix_seq ha.pe hb.pe hs) fun σ H Q h => ?_⟩
  obtain ⟨F, ρ, s, q⟩ := h
  refine ⟨F, ρ, s, Res.mono q.bind (fun x _ q F1 H1 v A t1 r1 => ?_) fun c _ z F' H' t => z F' H' t⟩
  refine ⟨F1, ρ, s.tr t1, Res.mono q.bind (fun y _ q F2 H2 w B t2 r2 => ?_) fun c _ z F' H' t => z F' H' (t1.trans t)⟩
  obtain ⟨d, e, p⟩ := Res.opt q
  have t12 := t1.trans t2
  have r1' := r1.tr t2
  rw [← hK]
  cases y with
  | int i =>
    have ew : w = .int i := r2.1
    cases x with
    | lst o xs =>
      obtain ⟨a, vs, B, rfl, s1, r⟩ := Rp.lstW t2.fh r1'
      obtain ⟨z, C, h1, h2⟩ := r.ix e
      exact .inl ⟨a, vs, i, z, rfl, ew, .inl (.inl s1), h1, p F2 H2 z C t12 h2⟩
    | scr xs =>
      obtain ⟨a, vs, rfl, _, s1, r⟩ := r1'
      obtain ⟨z, C, h1, h2⟩ := r.ix e
      exact .inl ⟨a, vs, i, z, rfl, ew, ex_l t2.fh s1, h1, p F2 H2 z C t12 h2⟩
    | tup xs =>
      obtain ⟨a, vs, rfl, s1, r⟩ := r1'
      obtain ⟨z, C, h1, h2⟩ := r.ix e
      exact .inr (.inl ⟨a, vs, i, z, rfl, ew, ex_t t2.fh s1, h1, p F2 H2 z C t12 h2⟩)
    | str z =>
      by_cases hz : z.length ≤ 16777216
      · have e' : (if z.length ≤ 16777216 then (ixD z.cps.toList i).map fun c => D.str ⟨#[c]⟩ else none) = some d := e
        rw [if_pos hz] at e'
        cases ec : ixD z.cps.toList i with
        | none => rw [ec] at e'; cases e'
        | some c =>
          rw [ec] at e'
          cases e'
          exact .inr (.inr ⟨z, i, c, r1'.1, ew, big_le hz, by rw [ixD_atI]; exact ec, p F2 H2 _ [] t12 ⟨rfl, rfl⟩⟩)
      · have e' : (if z.length ≤ 16777216 then (ixD z.cps.toList i).map fun c => D.str ⟨#[c]⟩ else none) = some d := e
        rw [if_neg hz] at e'
        cases e'
    | _ => cases e
  | _ => cases x <;> cases e

/-! ### slices -/
def cutD {α : Type} (xs : List α) (lo hi : Option Int) : List α := (xs.drop (HT.sIx xs.length 0 lo)).take (HT.sIx xs.length xs.length hi - HT.sIx xs.length 0 lo)
def gSl (x : D) (lo hi : Option Int) : Option D :=
  match x with
  | .lst _ xs => if D.pureL xs = true then some (.lst true (cutD xs lo hi)) else none
  | .tup xs => if D.pureL xs = true then some (.tup (cutD xs lo hi)) else none
  | .str z => if z.length ≤ 16777216 then some (.str (cutS z lo hi)) else none
  | _ => none
@[simp] theorem gSl_lst (o : Bool) (xs : List D) (lo hi : Option Int) : gSl (.lst o xs) lo hi = if D.pureL xs = true then some (.lst true (cutD xs lo hi)) else none := rfl
@[simp] theorem gSl_tup (xs : List D) (lo hi : Option Int) : gSl (.tup xs) lo hi = if D.pureL xs = true then some (.tup (cutD xs lo hi)) else none := rfl
def oI : D → Option (Option Int)
  | .int i => some (some i)
  | _ => none
@[simp] theorem oI_int (i : Int) : oI (.int i) = some (some i) := rfl
def oNo : Env → R (Option Int) := fun _ => .ok none
def oPt (f : Env → R D) : Env → R (Option Int) := fun ρ => (f ρ).bind fun d => R.opt (oI d)
@[simp] theorem oNo_eq (ρ : Env) : oNo ρ = .ok none := rfl
@[simp] theorem oPt_eq (f : Env → R D) (ρ : Env) : oPt f ρ = (f ρ).bind fun d => R.opt (oI d) := rfl
def tOF (E : En) (W : WX) (f : Env → R (Option Int)) : TO := fun σ H Q => ∃ F ρ, Stt E F H σ ρ ∧
  Res (f ρ) (fun o => ∀ F' H', Tr F H F' H' → Q o H') (fun c => ∀ F' H', Tr F H F' H' → W (E.ec c) none σ H')
structure EP2 (X : Cx) (E : En) (W : WX) (e : Option Expr) (f : Env → R (Option Int)) : Prop where
  po : PO X e (tOF E W f)
theorem ep_no : EP2 X E W none oNo := ⟨⟨fun pins s σ H Q I ⟨F, ρ, st, q⟩ => po_none.run pins s σ H Q I (q F H (Tr.refl st.fh))⟩⟩
theorem ep_pt {e : Expr} {f : Env → R D} (h : EV X E W e f) : EP2 X E W (some e) (oPt f) := by
  refine ⟨⟨fun pins s σ H Q I h' => (po_some h.pe).run pins s σ H Q I ?_⟩⟩
  obtain ⟨F, ρ, st, q⟩ := h'
  refine ⟨F, ρ, st, Res.mono q.bind (fun x _ q F1 H1 v A t1 r1 => ?_) fun c _ z F' H' t => z F' H' t⟩
  obtain ⟨o, e, p⟩ := Res.opt q
  cases x with
  | int i => cases e; exact ⟨i, r1.1, p F1 H1 t1⟩
  | _ => cases e
def eSl (f : Env → R D) (lo hi : Env → R (Option Int)) : Env → R D := fun ρ => (f ρ).bind fun d => (lo ρ).bind fun a => (hi ρ).bind fun b => R.opt (gSl d a b)
@[simp] theorem eSl_eq (f : Env → R D) (lo hi : Env → R (Option Int)) (ρ : Env) : eSl f lo hi ρ = (f ρ).bind fun d => (lo ρ).bind fun a => (hi ρ).bind fun b => R.opt (gSl d a b) := rfl
theorem RpL.cut {k : Kx} {F H : Hp} {ds : List D} {vs : List V} (h : RpL k F H ds vs []) (lo hi : Option Int) : RpL k F H (cutD ds lo hi) (cutV vs lo hi) [] := by
  unfold cutD cutV
  rw [h.len]
  exact (h.drop _).take _
theorem cutV_whole {vs : List V} {lo hi : Option Int} (h : HT.sIx vs.length 0 lo = 0 ∧ HT.sIx vs.length vs.length hi = vs.length) : cutV vs lo hi = vs := by
  unfold cutV
  rw [h.1, h.2]
  simp
theorem eo_sl {a : Expr} {lo hi : Option Expr} {fa : Env → R D} {fl fh : Env → R (Option Int)} {pos p2 : Pos} (hK : E.k.K = X.K) (ha : EV X E W a fa) (hl : EP2 X E W lo fl) (hh : EP2 X E W hi fh) : EO X E W (.Subscript a (.Slice lo hi none p2) pos) (eSl fa fl fh) := by
  refine ⟨pe_mono (pe_slice (sl_list.or (sl_tupA.or sl_str)) ha.pe hl.po hh.po) fun σ H Q h => ?_⟩
  obtain ⟨F, ρ, s, q⟩ := h
  refine ⟨F, ρ, s, Res.mono q.bind (fun x _ q F1 H1 v A t1 r1 => ?_) fun c _ z F' H' t => z F' H' t⟩
  refine ⟨F1, ρ, s.tr t1, Res.mono q.bind (fun a _ q F2 H2 t2 => ?_) fun c _ z F' H' t => z F' H' (t1.trans t)⟩
  have t12 := t1.trans t2
  refine ⟨F2, ρ, s.tr t12, Res.mono q.bind (fun b _ q F3 H3 t3 => ?_) fun c _ z F' H' t => z F' H' (t12.trans t)⟩
  have t := t12.trans t3
  obtain ⟨d, e, p⟩ := Res.opt q
  have g : GOk E F3 H3 Q d := GOk.back (E := E) (F := F) (H := H) p t
  have r1' := (r1.tr t2).tr t3
  rw [← hK]
  cases x with
  | lst o xs =>
    obtain ⟨z, e⟩ := if_some e
    cases e
    obtain ⟨ad, vs, rfl, s1, r⟩ := Rp.lstR t3.fh z r1'
    exact .inl ⟨ad, vs, rfl, .inl (.inl s1), fun p hp => g.lst t3.fh hp (r.cut a b)⟩
  | tup xs =>
    obtain ⟨z, e⟩ := if_some e
    cases e
    obtain ⟨ad, vs, rfl, s1, r⟩ := r1'
    have r' : RpL E.k F3 H3 xs vs [] := RpL.pure z (.refl _) r
    refine .inr (.inl ⟨ad, vs, rfl, ex_t t3.fh s1, fun hw => ?_, fun _ p hp => g.tup t3.fh hp (r'.cut a b)⟩)
    refine g F3 H3 (.ref ad) [] (Tr.refl t3.fh) ⟨ad, vs, rfl, s1, ?_⟩ .nil fun _ z => nomatch z
    have := r'.cut a b
    rw [cutV_whole hw] at this
    exact this
  | str z =>
    obtain ⟨hz, e⟩ := if_some e
    cases e
    exact .inr (.inr ⟨z, r1'.1, big_le hz, g.scal t3.fh fun _ _ => ⟨rfl, rfl⟩⟩)
  | _ => cases e

/-! ### calls of built-ins -/
def eB (g : List D → Option D) (fs : Env → R (List D)) : Env → R D := fun ρ => (fs ρ).bind fun ds => R.opt (g ds)
@[simp] theorem eB_eq (g : List D → Option D) (fs : Env → R (List D)) (ρ : Env) : eB g fs ρ = (fs ρ).bind fun ds => R.opt (g ds) := rfl
def SaysC (E : En) (r : List V → Hp → VK → Prop) (g : List D → Option D) : Prop := ∀ F H ds vs Q d, Ex F H → Vw E.k F H vs ds → g ds = some d → GOk E F H Q d → r vs H Q
theorem saysC {r : List V → Hp → VK → Prop} {g : List D → Option D} (hg : SaysC E r g) {fs : Env → R (List D)} {σ : L2.St} {H : Hp} {Q : VK} (h : tO E W (eB g fs) σ H Q) : tCB r (tA E W fs) σ H Q := by
  obtain ⟨F, ρ, s, q⟩ := h
  refine ⟨F, ρ, s, Res.mono q.bind (fun ds _ q F1 H1 vs t1 r1 => ?_) fun c _ z F' H' t => z F' H' t⟩
  obtain ⟨d, e, p⟩ := Res.opt q
  exact hg F1 H1 ds vs Q d t1.fh r1 e (GOk.back (E := E) (F := F) (H := H) p t1)
section
variable {x : Str} {p pos : Pos} {e : Expr} {es : List Expr} {fs : Env → R (List D)} {id T : String} {r : List V → Hp → VK → Prop} {g : List D → Option D}
theorem eo_B (hc : CallR X (.builtin id) r) (hg : SaysC E r g) (gl : Gl X x) (hm : X.mg x = none) (hv : bootBuiltins x = some (.builtin id)) (ha : EA X E W (e :: es) fs) (hn : x ≠ "__name__" := by decide) (hdb : (x == ("__debug__" : Str)) = false := by decide)
    (he : starEach (e :: es) X.env = (false, eval e X.env) :: starEach es X.env := by rfl) (hpl : (backTo pos (starEach es X.env)).any (·.1) = false := by rfl) : EO X E W (.Call (.Name x p) (e :: es) [] pos) (eB g fs) :=
  ⟨pe_mono (pe_callB hc gl hm hv ha.pa hn hdb he hpl) fun _ _ _ h => saysC hg h⟩
theorem eo_T (hc : CallR X (.type T) r) (hg : SaysC E r g) (gl : Gl X x) (hm : X.mg x = none) (hv : bootBuiltins x = some (.type T)) (ha : EA X E W (e :: es) fs) (hn : x ≠ "__name__" := by decide) (hdb : (x == ("__debug__" : Str)) = false := by decide)
    (he : starEach (e :: es) X.env = (false, eval e X.env) :: starEach es X.env := by rfl) (hpl : (backTo pos (starEach es X.env)).any (·.1) = false := by rfl) : EO X E W (.Call (.Name x p) (e :: es) [] pos) (eB g fs) :=
  ⟨pe_mono (pe_callTy hc gl hm hv ha.pa hn hdb he hpl) fun _ _ _ h => saysC hg h⟩
end
theorem Vw.one {k : Kx} {F H : Hp} {vs : List V} {d : D} (h : Vw k F H vs [d]) : ∃ v A, vs = [v] ∧ Rp k F H d v A := by
  cases h with
  | cons r t =>
    cases t
    obtain ⟨A, r⟩ := r
    exact ⟨_, A, rfl, r⟩
theorem Vw.two {k : Kx} {F H : Hp} {vs : List V} {d e : D} (h : Vw k F H vs [d, e]) : ∃ v w A B, vs = [v, w] ∧ Rp k F H d v A ∧ Rp k F H e w B := by
  cases h with
  | cons r t =>
    cases t with
    | cons r2 t =>
      cases t
      obtain ⟨A, r⟩ := r
      obtain ⟨B, r2⟩ := r2
      exact ⟨_, _, A, B, rfl, r, r2⟩
def gLen : List D → Option D
  | [.lst _ xs] => some (.int xs.length)
  | [.scr xs] => some (.int xs.length)
  | [.tup xs] => some (.int xs.length)
  | [.str x] => if x.length ≤ 16777216 then some (.int x.length) else none
  | _ => none
@[simp] theorem gLen_lst (o : Bool) (xs : List D) : gLen [.lst o xs] = some (.int xs.length) := rfl
@[simp] theorem gLen_scr (xs : List D) : gLen [.scr xs] = some (.int xs.length) := rfl
@[simp] theorem gLen_tup (xs : List D) : gLen [.tup xs] = some (.int xs.length) := rfl
@[simp] theorem gLen_str (x : Str) : gLen [.str x] = if x.length ≤ 16777216 then some (.int x.length) else none := rfl
theorem says_len : SaysC E (fun xs H Q => ∃ x n, xs = [x] ∧ LenV E.k.K x H n ∧ Q (.int n) H) gLen := by
  intro F H ds vs Q d fh r e g
  unfold gLen at e
  split at e
  · cases e
    obtain ⟨v, A, rfl, rr⟩ := r.one
    obtain ⟨a, ws, B, rfl, s, r⟩ := Rp.lstW fh rr
    exact ⟨_, ws.length, rfl, .inl ⟨ws, .inl (.inl s), rfl⟩, by rw [← r.len]; exact g.scal fh fun _ _ => ⟨rfl, rfl⟩⟩
  · cases e
    obtain ⟨v, A, rfl, rr⟩ := r.one
    obtain ⟨a, ws, rfl, _, s, r⟩ := rr
    exact ⟨_, ws.length, rfl, .inl ⟨ws, ex_l fh s, rfl⟩, by rw [← r.len]; exact g.scal fh fun _ _ => ⟨rfl, rfl⟩⟩
  · cases e
    obtain ⟨v, A, rfl, rr⟩ := r.one
    obtain ⟨a, ws, rfl, s, r⟩ := rr
    exact ⟨_, ws.length, rfl, .inr ⟨ws, ex_t fh s, rfl⟩, by rw [← r.len]; exact g.scal fh fun _ _ => ⟨rfl, rfl⟩⟩
  · obtain ⟨z, e⟩ := if_some e
    cases e
    obtain ⟨v, A, rfl, rr⟩ := r.one
    exact ⟨v, _, rfl, by rw [rr.1]; exact ⟨big_le z, rfl⟩, g.scal fh fun _ _ => ⟨rfl, rfl⟩⟩
  · cases e
def gAbs : List D → Option D
  | [.int i] => some (.int (if i < 0 then -i else i))
  | _ => none
@[simp] theorem gAbs_int (i : Int) : gAbs [.int i] = some (.int (if i < 0 then -i else i)) := rfl
theorem says_abs : SaysC E (fun xs H Q => ∃ i, xs = [.int i] ∧ Q (.int (if i < 0 then -i else i)) H) gAbs := by
  intro F H ds vs Q d fh r e g
  unfold gAbs at e
  split at e
  · cases e
    obtain ⟨v, A, rfl, rr⟩ := r.one
    rw [rr.1]
    exact ⟨_, rfl, g.scal fh fun _ _ => ⟨rfl, rfl⟩⟩
  · cases e
def gMax2 : List D → Option D
  | [.int i, .int j] => some (.int (if j > i then j else i))
  | _ => none
def gMin2 : List D → Option D
  | [.int i, .int j] => some (.int (if j < i then j else i))
  | _ => none
@[simp] theorem gMax2_int (i j : Int) : gMax2 [.int i, .int j] = some (.int (if j > i then j else i)) := rfl
@[simp] theorem gMin2_int (i j : Int) : gMin2 [.int i, .int j] = some (.int (if j < i then j else i)) := rfl
theorem says_max2 : SaysC E (fun xs H Q => ∃ i j, xs = [.int i, .int j] ∧ Q (.int (if j > i then j else i)) H) gMax2 := by
  intro F H ds vs Q d fh r e g
  unfold gMax2 at e
  split at e
  · cases e
    obtain ⟨v, w, A, B, rfl, rr, r2⟩ := r.two
    rw [rr.1, r2.1]
    exact ⟨_, _, rfl, g.scal fh fun _ _ => ⟨rfl, rfl⟩⟩
  · cases e
theorem says_min2 : SaysC E (fun xs H Q => ∃ i j, xs = [.int i, .int j] ∧ Q (.int (if j < i then j else i)) H) gMin2 := by
  intro F H ds vs Q d fh r e g
  unfold gMin2 at e
  split at e
  · cases e
    obtain ⟨v, w, A, B, rfl, rr, r2⟩ := r.two
    rw [rr.1, r2.1]
    exact ⟨_, _, rfl, g.scal fh fun _ _ => ⟨rfl, rfl⟩⟩
  · cases e
def gInt : List D → Option D
  | [.int i] => some (.int i)
  | [.bl b] => some (.int (if b then 1 else 0))
  | _ => none
@[simp] theorem gInt_int (i : Int) : gInt [.int i] = some (.int i) := rfl
@[simp] theorem gInt_bl (b : Bool) : gInt [.bl b] = some (.int (if b then 1 else 0)) := rfl
theorem says_int : SaysC E (fun xs H Q => (∃ i, xs = [.int i] ∧ Q (.int i) H) ∨ ∃ k, xs = [.bl k] ∧ Q (.int (if k then 1 else 0)) H) gInt := by
  intro F H ds vs Q d fh r e g
  unfold gInt at e
  split at e
  · cases e
    obtain ⟨v, A, rfl, rr⟩ := r.one
    rw [rr.1]
    exact .inl ⟨_, rfl, g.scal fh fun _ _ => ⟨rfl, rfl⟩⟩
  · cases e
    obtain ⟨v, A, rfl, rr⟩ := r.one
    rw [rr.1]
    exact .inr ⟨_, rfl, g.scal fh fun _ _ => ⟨rfl, rfl⟩⟩
  · cases e
def gList : List D → Option D
  | [x] => (items x).bind fun xs => if D.pureL xs = true then some (.lst true xs) else none
  | _ => none
@[simp] theorem gList_one (x : D) : gList [x] = (items x).bind fun xs => if D.pureL xs = true then some (.lst true xs) else none := rfl
theorem says_list : SaysC E (fun xs H Q => ∃ p ys, xs = [.ref p] ∧ (SqL E.k.K H p ys ∨ SqT E.k.K H p ys) ∧ ∀ l, H l = none → Q (.ref l) (upd H l (.lst ys))) gList := by
  intro F H ds vs Q d fh r e g
  unfold gList at e
  split at e
  · rename_i x
    obtain ⟨v, A, rfl, rr⟩ := r.one
    cases ei : items x with
    | none => rw [ei] at e; cases e
    | some xs =>
      rw [ei] at e
      obtain ⟨z, e⟩ := if_some (show (if D.pureL xs = true then some (D.lst true xs) else none) = some d from e)
      cases e
      obtain ⟨a, ws, B, rfl, s, r⟩ := rr.items fh ei
      exact ⟨a, ws, rfl, s.symm, fun l hl => g.lst fh hl (RpL.pure z (.refl _) r)⟩
  · cases e
def gTuple : List D → Option D
  | [x] => (items x).bind fun xs => if D.pureL xs = true then some (.tup xs) else none
  | _ => none
@[simp] theorem gTuple_one (x : D) : gTuple [x] = (items x).bind fun xs => if D.pureL xs = true then some (.tup xs) else none := rfl
theorem says_tuple : SaysC E (fun xs H Q => ∃ p ys, xs = [.ref p] ∧ ((SqL E.k.K H p ys ∧ ∀ l, H l = none → Q (.ref l) (upd H l (.tup ys))) ∨ (SqT E.k.K H p ys ∧ Q (.ref p) H))) gTuple := by
  intro F H ds vs Q d fh r e g
  unfold gTuple at e
  split at e
  · rename_i x
    obtain ⟨v, A, rfl, rr⟩ := r.one
    cases x with
    | lst o xs =>
      obtain ⟨z, e⟩ := if_some (show (if D.pureL xs = true then some (D.tup xs) else none) = some d from e)
      cases e
      obtain ⟨a, ws, rfl, s, r⟩ := Rp.lstR fh z rr
      exact ⟨a, ws, rfl, .inl ⟨.inl (.inl s), fun l hl => g.tup fh hl r⟩⟩
    | tup xs =>
      obtain ⟨z, e⟩ := if_some (show (if D.pureL xs = true then some (D.tup xs) else none) = some d from e)
      cases e
      obtain ⟨a, ws, rfl, s, r⟩ := rr
      exact ⟨a, ws, rfl, .inr ⟨ex_t fh s, g F H (.ref a) [] (Tr.refl fh) ⟨a, ws, rfl, s, RpL.pure z (.refl _) r⟩ .nil fun _ z => nomatch z⟩⟩
    | _ => cases e
  · cases e
def gOrd : List D → Option D
  | [.str x] => if x.length = 1 then some (.int (x.cps.getD 0 0 : Nat)) else none
  | _ => none
@[simp] theorem gOrd_str (x : Str) : gOrd [.str x] = if x.length = 1 then some (.int (x.cps.getD 0 0 : Nat)) else none := rfl
theorem says_ord : SaysC E (fun xs H Q => ∃ x, xs = [.str x] ∧ x.length = 1 ∧ Q (.int (x.cps.getD 0 0 : Nat)) H) gOrd := by
  intro F H ds vs Q d fh r e g
  unfold gOrd at e
  split at e
  · obtain ⟨z, e⟩ := if_some e
    cases e
    obtain ⟨v, A, rfl, rr⟩ := r.one
    rw [rr.1]
    exact ⟨_, rfl, z, g.scal fh fun _ _ => ⟨rfl, rfl⟩⟩
  · cases e
/-- the type of data, by its name -/
def tyD : D → String
  | .non => "NoneType" | .bl _ => "bool" | .int _ => "int" | .str _ => "str" | .tup _ => "tuple" | .lst _ _ => "list" | .scr _ => "list" | .dic _ _ _ => "dict" | .dit _ _ _ => "dict" | .ins _ _ _ => "object" | .fn _ => "function"
def gIsi (T : String) : List D → Option D
  | [x, .non] => match x with
    | .ins _ _ _ => none
    | .fn _ => none
    | _ => (kitB (tyD x) T).map .bl
  | _ => none
end
end Dv
end
section
set_option maxRecDepth 100000
set_option maxHeartbeats 1000000
namespace Dv
open PySem PySem.Spec PyProof.Rows L2

/-! ### isinstance -/
section
variable {X : Cx} {E : En} {W : WX}
theorem Rp.ty {k : Kx} {F H : Hp} (fh : Ex F H) {d : D} {v : V} {A : List Addr} (hn : ∀ c fs xs, d ≠ .ins c fs xs) (hf : ∀ i, d ≠ .fn i) (h : Rp k F H d v A) : TyX k.K H v (.type (tyD d)) := by
  cases d with
  | non => rw [h.1]; exact .base .non
  | bl b => rw [h.1]; exact .base (.bl b)
  | int i => rw [h.1]; exact .base (.int i)
  | str x => rw [h.1]; exact .base (.str x)
  | tup xs =>
    obtain ⟨a, vs, rfl, s, r⟩ := h
    rcases ex_t fh s with (s | ⟨o, s⟩) | ⟨o, its, n, hl, hc, _⟩
    · exact .base (.tup s)
    · exact .fTuple s
    · exact .kTuple hl hc
  | lst o xs =>
    obtain ⟨a, vs, B, rfl, s, r⟩ := Rp.lstW fh h
    exact .base (.lst s)
  | scr xs =>
    obtain ⟨a, vs, rfl, _, s, r⟩ := h
    rcases ex_l fh s with (s | ⟨o, s⟩) | ⟨o, its, n, hl, hc, _⟩
    · exact .base (.lst s)
    · exact .base (.frz s)
    · exact .kList hl hc
  | dic o ks xs =>
    obtain ⟨a, vs, B, rfl, l, r, h1, h2⟩ := h
    cases o with
    | false => exact .base (.dK (fh _ _ (h1 rfl).1))
    | true => exact .base (.dK (h2 rfl).2.2)
  | dit o ks xs =>
    obtain ⟨a, vs, B, rfl, l, r, h1, h2⟩ := h
    cases o with
    | false => exact .base (.dT (fh _ _ (h1 rfl).1))
    | true => exact .base (.dT (h2 rfl).2.2)
  | ins c fs xs => exact absurd rfl (hn c fs xs)
  | fn i => exact absurd rfl (hf i)
/-- isinstance(x, T) -/
def isiD (T : String) (d : D) : R D := match d with
  | .ins _ _ _ => .no
  | .fn _ => .no
  | _ => R.opt ((kitB (tyD d) T).map D.bl)
def eIsi (T : String) (f : Env → R D) : Env → R D := fun ρ => (f ρ).bind (isiD T)
@[simp] theorem eIsi_eq (T : String) (f : Env → R D) (ρ : Env) : eIsi T f ρ = (f ρ).bind (isiD T) := rfl
theorem isiD_of {T : String} {d : D} {b : Bool} (hn : ∀ c fs xs, d ≠ .ins c fs xs) (h : kitB (tyD d) T = some b) (hf : ∀ i, d ≠ .fn i := by intro _ z; nomatch z) : isiD T d = .ok (.bl b) := by
  unfold isiD
  cases d with
  | ins c fs xs => exact absurd rfl (hn c fs xs)
  | fn i => exact absurd rfl (hf i)
  | _ => simp only [h]; rfl
theorem eo_isi {T : String} {a : Expr} {fa : Env → R D} {x y : Str} {p p2 pos : Pos} (hK : E.k.K = X.K) (gl : Gl X x) (hm : X.mg x = none) (hv : bootBuiltins x = some (.builtin "isinstance")) (gl2 : Gl X y) (hm2 : X.mg y = none) (hv2 : bootBuiltins y = some (.type T)) (ha : EV X E W a fa)
    (hn : x ≠ "__name__" := by decide) (hdb : (x == ("__debug__" : Str)) = false := by decide) (hn2 : y ≠ "__name__" := by decide) (hdb2 : (y == ("__debug__" : Str)) = false := by decide)
    (he : starEach [a, .Name y p2] X.env = (false, eval a X.env) :: starEach [.Name y p2] X.env := by rfl) (he2 : starEach [.Name y p2] X.env = (false, eval (.Name y p2) X.env) :: starEach [] X.env := by rfl) (hpl : (backTo pos (starEach [.Name y p2] X.env)).any (·.1) = false := by rfl) :
    EO X E W (.Call (.Name x p) [a, .Name y p2] [] pos) (eIsi T fa) := by
  refine ⟨pe_mono (pe_callB call_isi gl hm hv (pa_cons ha.pe (pa_cons (pe_bltn (v := .ty T) gl2 hm2 hv2 rfl hn2 hdb2) pa_nil he2) he) hn hdb he hpl) fun σ H Q h => ?_⟩
  obtain ⟨F, ρ, s, q⟩ := h
  refine ⟨F, ρ, s, Res.mono q.bind (fun d _ q F1 H1 v A t1 r1 => ?_) fun c _ z F' H' t => z F' H' t⟩
  have go : (∀ c fs xs, d ≠ .ins c fs xs) → (∀ i, d ≠ .fn i) → Res (R.opt ((kitB (tyD d) T).map D.bl)) (fun d => ∀ F' H' v A, Tr F H F' H' → Rp E.k F' H' d v A → A.Nodup → (∀ a ∈ A, H a = none) → Q v H') (fun c => ∀ F' H', Tr F H F' H' → W (E.ec c) none σ H') →
      rIsi X.K [v, .ty T] H1 Q := fun hi hf q => by
    obtain ⟨d', e, p⟩ := Res.opt q
    cases ek : kitB (tyD d) T with
    | none => rw [ek] at e; cases e
    | some b =>
      rw [ek] at e
      cases e
      exact ⟨v, .ty T, _, _, b, rfl, .ty T, by rw [← hK]; exact r1.ty t1.fh hi hf, kit_ty ek, p F1 H1 (.bl b) [] t1 ⟨rfl, rfl⟩ .nil fun _ z => nomatch z⟩
  cases d with
  | ins _ _ _ => exact q.elim
  | fn _ => exact q.elim
  | _ => exact go (fun _ _ _ z => nomatch z) (fun _ z => nomatch z) q
theorem kitB_ty (a b : String) (r : Bool) (h : kitB a b = some r) : (kitB a b).map D.bl = some (.bl r) := by rw [h]; rfl

/-! ### a def's promise, its call -/
/-- what is promised of a def whose meaning is f: n arguments, all pure -/
def spD (k : Kx) (ec : Nat → Value) (n : Nat) (f : List D → R D) : Sp := fun vs H Q Ew => ∃ F ds, Ex F H ∧ Tb k F ∧ RpL k F H ds vs [] ∧ D.pureL ds = true ∧ ds.length = n ∧
  Res (f ds) (fun d => ∀ F' H' v A, Tr F H F' H' → Rp k F' H' d v A → A.Nodup → (∀ a ∈ A, H a = none) → Q v H') (fun c => ∀ F' H', Tr F H F' H' → Ew (ec c) none H')
theorem spD_len {k : Kx} {ec : Nat → Value} {n : Nat} {f : List D → R D} {vs : List V} {H : Hp} {Q : VK} {Ew : XK} (h : spD k ec n f vs H Q Ew) : vs.length = n := by
  obtain ⟨F, ds, _, _, r, _, l, _⟩ := h
  rw [← r.len, l]
def callF (n : Nat) (f : List D → R D) (ds : List D) : R D :=
  if ds.length = n then
    if D.pureL ds = true then f ds
    else if D.coldL ds = true then (f (D.frzL ds)).bind fun r => if r.noFz = true then .ok r else .no
    else .no
  else .no
def eCall (n : Nat) (f : List D → R D) (fs : Env → R (List D)) : Env → R D := fun ρ => (fs ρ).bind (callF n f)
@[simp] theorem eCall_eq (n : Nat) (f : List D → R D) (fs : Env → R (List D)) (ρ : Env) : eCall n f fs ρ = (fs ρ).bind (callF n f) := rfl
theorem frzL_len : ∀ ds : List D, (D.frzL ds).length = ds.length
  | [] => rfl
  | d :: ds => by rw [D.frzL, List.length_cons, List.length_cons, frzL_len ds]
/-- the caller's side of a call -/
theorem call_of {n : Nat} {f : List D → R D} {F H F1 H1 : Hp} {ds : List D} {vs : List V} {Q : VK} {Ew : XK} (tb : Tb E.k F1) (t1 : Tr F H F1 H1) (r : Vw E.k F1 H1 vs ds)
    (h : Res (callF n f ds) (fun d => ∀ F' H' v A, Tr F H F' H' → Rp E.k F' H' d v A → A.Nodup → (∀ a ∈ A, H a = none) → Q v H') (fun c => ∀ F' H', Tr F H F' H' → Ew (E.ec c) none H')) : spD E.k E.ec n f vs H1 Q Ew := by
  unfold callF at h
  by_cases hl : ds.length = n
  · rw [if_pos hl] at h
    obtain ⟨A, ra⟩ := Vw.rpl r
    by_cases hp : D.pureL ds = true
    · rw [if_pos hp] at h
      exact ⟨F1, ds, t1.fh, tb, RpL.pure hp (.refl _) ra, hp, hl, Res.mono h (fun d _ p F' H' v A t r n u => p F' H' v A (t1.trans t) r n fun a ha => none_back t1.hh (u a ha)) fun c _ z F' H' t => z F' H' (t1.trans t)⟩
    · rw [if_neg hp] at h
      by_cases hc : D.coldL ds = true
      · rw [if_pos hc] at h
        have dm := RpL.dom ds vs A ra
        have n1 : ∀ a ∈ A, F1 a = none := fun a ha => (dm a ha).1
        refine ⟨fz F1 H1 A, D.frzL ds, fz_exH t1.fh, tb.ex (fz_ex n1), RpL.frz n1 ds vs A hc (fun _ z => z) ra, D.frzL_pure ds hc, by rw [frzL_len]; exact hl, ?_⟩
        have back : ∀ {F' H' : Hp}, Tr (fz F1 H1 A) H1 F' H' → Tr F1 H1 (fun a => if a ∈ A then none else F' a) H' := fun {F' H'} t => by
          refine ⟨fun a o e => ?_, t.hh, fun a o e => ?_, fun a e z => ?_⟩
          · have : a ∉ A := fun z => by rw [n1 a z] at e; cases e
            show (if a ∈ A then none else F' a) = some o
            rw [if_neg this]
            exact t.ff a o (by rw [fz_out this]; exact e)
          · have e' : (if a ∈ A then none else F' a) = some o := e
            by_cases q : a ∈ A
            · rw [if_pos q] at e'; cases e'
            · rw [if_neg q] at e'; exact t.fh a o e'
          · show (if a ∈ A then none else F' a) = none
            by_cases q : a ∈ A
            · rw [if_pos q]
            · rw [if_neg q]; exact t.no a (by rw [fz_out q]; exact e) z
        refine Res.mono h.bind (fun d _ p F' H' v B t rv nd u => ?_) fun c _ z F' H' t => z _ H' (t1.trans (back t))
        by_cases hz : d.noFz = true
        · rw [if_pos hz] at p
          refine p _ H' v B (t1.trans (back t)) (Rp.thin A (fun a ha o e => ?_) d v B hz rv) nd fun a ha => none_back t1.hh (u a ha)
          obtain ⟨_, o1, e1, x1, x2⟩ := dm a ha
          have e2 : F' a = some o1 := t.ff a o1 (by rw [fz_in ha]; exact e1)
          rw [e2] at e
          cases e
          exact ⟨x1, x2⟩
        · rw [if_neg hz] at p
          exact p.elim
      · rw [if_neg hc] at h
        exact h.elim
  · rw [if_neg hl] at h
    exact h.elim
theorem eo_call {k n : Nat} {fa : Addr} {fd : FuncData} {ps : List Str} {f : List D → R D} {fs : Env → R (List D)} {x : Str} {p pos : Pos} {e : Expr} {es : List Expr} (G : FnOk X.prog X.w X.K X.mg X.base (L2.CX X.prog X.w) k fa fd ps (spD E.k E.ec n f)) (tk : Takes X W) (hr : Room k X.A) (hg : Gl X x) (hm : X.mg x = some (.ref fa)) (hk : PySem.W.keepIn X.K (.ref fa) = true) (hb : Binds X.K fd ps [])
    (ha : EA X E W (e :: es) fs) (hdb : (x == ("__debug__" : Str)) = false := by decide) (he : starEach (e :: es) X.env = (false, eval e X.env) :: starEach es X.env := by rfl) (hpl : (backTo pos (starEach es X.env)).any (·.1) = false := by rfl) : EO X E W (.Call (.Name x p) (e :: es) [] pos) (eCall n f fs) := by
  refine ⟨pe_mono (pe_callS (E := WE W) G hr hg hm hk hb (fun σ => passAt tk σ) ha.pa hdb he hpl) fun σ H Q h => ?_⟩
  obtain ⟨F, ρ, s, q⟩ := h
  exact ⟨F, ρ, s, Res.mono q.bind (fun ds _ q F1 H1 vs t1 r1 => call_of (Ew := WE W σ) (s.e0.trans t1.ff).tb t1 r1 q) fun c _ z F' H' t => z F' H' t⟩

/-! ### blocks -/
def sThen (f g : Env → SR) : Env → SR := fun ρ => match f ρ with
  | .nx ρ' => g ρ'
  | r => r
def SR.andThen (r : SR) (g : Env → SR) : SR := match r with
  | .nx ρ' => g ρ'
  | r => r
@[simp] theorem SR.at_nx (ρ : Env) (g : Env → SR) : (SR.nx ρ).andThen g = g ρ := rfl
@[simp] theorem SR.at_no (g : Env → SR) : SR.no.andThen g = .no := rfl
@[simp] theorem SR.at_bk (ρ : Env) (g : Env → SR) : (SR.bk ρ).andThen g = .bk ρ := rfl
@[simp] theorem SR.at_ct (ρ : Env) (g : Env → SR) : (SR.ct ρ).andThen g = .ct ρ := rfl
@[simp] theorem SR.at_rt (d : D) (ρ : Env) (g : Env → SR) : (SR.rt d ρ).andThen g = .rt d ρ := rfl
@[simp] theorem SR.at_ex (c : Nat) (ρ : Env) (g : Env → SR) : (SR.ex c ρ).andThen g = .ex c ρ := rfl
def sq (f g : Env → SR) : Env → SR := fun ρ => (f ρ).andThen g
@[simp] theorem sq_eq (f g : Env → SR) (ρ : Env) : sq f g ρ = (f ρ).andThen g := rfl
def sNil : Env → SR := fun ρ => .nx ρ
@[simp] theorem sNil_eq (ρ : Env) : sNil ρ = .nx ρ := rfl
section
variable {st : Stmt} {rest : List Stmt} {f g : Env → SR} {pos : Pos}
theorem sb_nil : SB X E W [] sNil := ⟨pss_mono pss_nil fun Z σ H ⟨F, ρ, s, q⟩ => q F H σ (.refl _) s⟩
theorem SRes.mono {F F' : Hp} {Z Z' : Ends} {r : SR} (h : SRes E W F Z r) (hF : Ex F F') (hz : ∀ σ H, Z.nx σ H → Z'.nx σ H) (hr : ∀ v H, Z.rt v H → Z'.rt v H) (hb : ∀ σ H, Z.bk σ H → Z'.bk σ H) (hc : ∀ σ H, Z.ct σ H → Z'.ct σ H) : SRes E W F' Z' r := by
  cases r with
  | no => exact h
  | nx ρ => exact fun F2 H2 σ x s => hz _ _ (h F2 H2 σ (hF.trans x) s)
  | bk ρ => exact fun F2 H2 σ x s => hb _ _ (h F2 H2 σ (hF.trans x) s)
  | ct ρ => exact fun F2 H2 σ x s => hc _ _ (h F2 H2 σ (hF.trans x) s)
  | rt d ρ => exact fun F2 H2 σ v s x y => hr _ _ (h F2 H2 σ v s x y)
  | ex c ρ => exact fun F2 H2 σ x s => h F2 H2 σ (hF.trans x) s
theorem SRes.then {F : Hp} {Z : Ends} {r : SR} (h : SRes E W F Z (r.andThen g)) : SRes E W F { Z with nx := tSS E W g Z } r := by
  cases r with
  | nx ρ => exact fun F2 H2 σ x s => ⟨F2, ρ, s, SRes.mono h x (fun _ _ z => z) (fun _ _ z => z) (fun _ _ z => z) fun _ _ z => z⟩
  | _ => exact h
theorem sb_cons (h1 : SS X E W st f) (h2 : SB X E W rest g) : SB X E W (st :: rest) (sq f g) :=
  ⟨pss_mono (pss_cons h1.ps h2.ps) fun Z σ H ⟨F, ρ, s, q⟩ => ⟨F, ρ, s, SRes.then q⟩⟩
theorem sb_one (h1 : SS X E W st f) : SB X E W [st] f := ⟨pss_one h1.ps⟩
/-! small statements -/
def sPass : Env → SR := fun ρ => .nx ρ
def sBrk : Env → SR := fun ρ => .bk ρ
def sCnt : Env → SR := fun ρ => .ct ρ
@[simp] theorem sPass_eq (ρ : Env) : sPass ρ = .nx ρ := rfl
@[simp] theorem sBrk_eq (ρ : Env) : sBrk ρ = .bk ρ := rfl
@[simp] theorem sCnt_eq (ρ : Env) : sCnt ρ = .ct ρ := rfl
theorem ss_pass : SS X E W (.Pass pos) sPass := ⟨ps_mono ps_pass fun Z σ H ⟨F, ρ, s, q⟩ => q F H σ (.refl _) s⟩
theorem ss_brk : SS X E W (.Break pos) sBrk := ⟨ps_mono ps_break fun Z σ H ⟨F, ρ, s, q⟩ => q F H σ (.refl _) s⟩
theorem ss_cnt : SS X E W (.Continue pos) sCnt := ⟨ps_mono ps_continue fun Z σ H ⟨F, ρ, s, q⟩ => q F H σ (.refl _) s⟩
end
/-- an expression's end carried on -/
def R.st {α : Type} (r : R α) (ρ : Env) (k : α → SR) : SR := match r with
  | .no => .no
  | .ok a => k a
  | .ex c => .ex c ρ
@[simp] theorem R.st_no {α : Type} (ρ : Env) (k : α → SR) : (R.no).st ρ k = .no := rfl
@[simp] theorem R.st_ok {α : Type} (a : α) (ρ : Env) (k : α → SR) : (R.ok a).st ρ k = k a := rfl
@[simp] theorem R.st_ex {α : Type} (c : Nat) (ρ : Env) (k : α → SR) : (R.ex c : R α).st ρ k = .ex c ρ := rfl
theorem SRes.st {α : Type} {F : Hp} {Z : Ends} {r : R α} {ρ : Env} {k : α → SR} (h : SRes E W F Z (r.st ρ k)) : Res r (fun a => SRes E W F Z (k a)) (fun c => SRes E W F Z (.ex c ρ)) := by
  cases r with
  | no => exact h
  | ok a => exact h
  | ex c => exact h
/-- the exceptional end, from a state -/
theorem SRes.exc {F H : Hp} {Z : Ends} {c : Nat} {ρ : Env} {σ : L2.St} (s : Stt E F H σ ρ) (h : SRes E W F Z (.ex c ρ)) : ∀ F' H', Tr F H F' H' → W (E.ec c) none σ H' := fun F' H' t => h F' H' σ t.ff (s.tr t)
/-- a slot gets what was made -/
theorem Stt.set {F H F' H' : Hp} {σ : L2.St} {ρ : Env} {i : Nat} {d : D} {v : V} {A : List Addr} (s : Stt E F H σ ρ) (t : Tr F H F' H') (r : Rp E.k F' H' d v A) (nd : A.Nodup) (u : ∀ a ∈ A, H a = none) (hb : i ∉ E.bs) : Stt E F' H' (σ.set i (some v)) (ρ.set i (some d)) := by
  have s' := s.tr t
  obtain ⟨fp, sl⟩ := s.sl
  by_cases hi : i < ρ.length
  · refine ⟨s'.e0, s'.fh, s'.fr, s'.st, s'.bt, by rw [List.length_set, List.length_set]; exact s'.len, fun j hj => ?_, fun j => if j = i then A else fp j, fun j d' e => ?_, fun j e => ?_, fun j => ?_, fun j j' a ha ha' => ?_, fun j a ha => ?_⟩
    · rw [List.getElem?_set_ne (fun z => hb (by rw [z]; exact hj)), List.length_set]
      exact s'.bv j hj
    · by_cases q : j = i
      · subst q
        rw [List.getElem?_set_self hi] at e
        cases e
        refine ⟨v, by rw [List.getElem?_set_self (by rw [← s'.len]; exact hi)], ?_⟩
        show Rp E.k F' H' d v (if j = j then A else fp j)
        rw [if_pos rfl]; exact r
      · rw [List.getElem?_set_ne (Ne.symm q)] at e
        obtain ⟨v', e', r'⟩ := sl.rp j d' e
        refine ⟨v', by rw [List.getElem?_set_ne (Ne.symm q)]; exact e', ?_⟩
        show Rp E.k F' H' d' v' (if j = i then A else fp j)
        rw [if_neg q]
        exact r'.tr t
    · show (if j = i then A else fp j) = []
      by_cases q : j = i
      · subst q
        rw [List.getElem?_set_self hi] at e
        cases e
      · rw [List.getElem?_set_ne (Ne.symm q)] at e
        rw [if_neg q]
        exact sl.em j e
    · show (if j = i then A else fp j).Nodup
      by_cases q : j = i
      · rw [if_pos q]; exact nd
      · rw [if_neg q]; exact sl.nd j
    · have ha : a ∈ (if j = i then A else fp j) := ha
      have ha' : a ∈ (if j' = i then A else fp j') := ha'
      by_cases q : j = i
      · by_cases q' : j' = i
        · rw [q, q']
        · rw [if_pos q] at ha
          rw [if_neg q'] at ha'
          exact absurd (u a ha) (sl.there ha').2
      · rw [if_neg q] at ha
        by_cases q' : j' = i
        · rw [if_pos q'] at ha'
          exact absurd (u a ha') (sl.there ha).2
        · rw [if_neg q'] at ha'
          exact sl.dj j j' a ha ha'
    · have ha : a ∈ (if j = i then A else fp j) := ha
      by_cases q : j = i
      · rw [if_pos q] at ha
        exact .inl (s.new (u a ha))
      · rw [if_neg q] at ha
        exact sl.nw j a ha
  · have e1 : ρ.set i (some d) = ρ := List.set_eq_of_length_le (by omega)
    have e2 : σ.set i (some v) = σ := List.set_eq_of_length_le (by have := s.len; omega)
    rw [e1, e2]
    exact s'
/-- something more is held -/
theorem Stt.push' {F H : Hp} {σ : L2.St} {ρ : Env} {fp : Nat → List Addr} {d : D} {v : V} {A : List Addr} (s : Stt E F H σ ρ) (sl : Sl E F H σ ρ fp) (r : Rp E.k F H d v A) (nd : A.Nodup) (u : ∀ a ∈ A, E.He a = none ∧ ∀ j, a ∉ fp j) : Stt E F H (σ ++ [some v]) (ρ ++ [some d]) := by
  have hl := s.len
  have lt : ∀ j d', (ρ ++ [some d])[j]? = some (some d') → j ≠ ρ.length → ρ[j]? = some (some d') := fun j d' e n => by
    by_cases q : j < ρ.length
    · rw [List.getElem?_append_left q] at e; exact e
    · rw [List.getElem?_append_right (by omega), List.getElem?_singleton, if_neg (by omega)] at e; cases e
  refine ⟨s.e0, s.fh, s.fr, s.st, s.bt, by rw [List.length_append, List.length_append, hl]; rfl, fun j hj => ?_, fun j => if j = ρ.length then A else fp j, fun j d' e => ?_, fun j e => ?_, fun j => ?_, fun j j' a ha ha' => ?_, fun j a ha => ?_⟩
  · obtain ⟨h1, h2⟩ := s.bv j hj
    rw [List.getElem?_append_left h1, List.length_append]
    exact ⟨by omega, h2⟩
  · show ∃ w, _ ∧ Rp E.k F H d' w (if j = ρ.length then A else fp j)
    by_cases q : j = ρ.length
    · subst q
      rw [List.getElem?_append_right (Nat.le_refl _), Nat.sub_self] at e
      cases e
      rw [if_pos rfl]
      exact ⟨v, by rw [hl, List.getElem?_append_right (Nat.le_refl _), Nat.sub_self]; rfl, r⟩
    · have e' := lt j d' e q
      obtain ⟨w, h1, h2⟩ := sl.rp j d' e'
      rw [if_neg q]
      exact ⟨w, by rw [List.getElem?_append_left (List.getElem?_eq_some_iff.mp h1).1]; exact h1, h2⟩
  · show (if j = ρ.length then A else fp j) = []
    by_cases q : j = ρ.length
    · subst q
      rw [List.getElem?_append_right (Nat.le_refl _), Nat.sub_self] at e
      cases e
    · rw [if_neg q]
      by_cases z : j < ρ.length
      · rw [List.getElem?_append_left z] at e; exact sl.em j e
      · exact sl.em j (by rw [List.getElem?_eq_none (by omega)]; rfl)
  · show (if j = ρ.length then A else fp j).Nodup
    by_cases q : j = ρ.length
    · rw [if_pos q]; exact nd
    · rw [if_neg q]; exact sl.nd j
  · have ha : a ∈ (if j = ρ.length then A else fp j) := ha
    have ha' : a ∈ (if j' = ρ.length then A else fp j') := ha'
    by_cases q : j = ρ.length
    · by_cases q' : j' = ρ.length
      · rw [q, q']
      · rw [if_pos q] at ha
        rw [if_neg q'] at ha'
        exact absurd ha' ((u a ha).2 j')
    · rw [if_neg q] at ha
      by_cases q' : j' = ρ.length
      · rw [if_pos q'] at ha'
        exact absurd ha ((u a ha').2 j)
      · rw [if_neg q'] at ha'
        exact sl.dj j j' a ha ha'
  · have ha : a ∈ (if j = ρ.length then A else fp j) := ha
    by_cases q : j = ρ.length
    · rw [if_pos q] at ha
      exact .inl (u a ha).1
    · rw [if_neg q] at ha
      exact sl.nw j a ha
theorem Stt.push {F H F' H' : Hp} {σ : L2.St} {ρ : Env} {d : D} {v : V} {A : List Addr} (s : Stt E F H σ ρ) (t : Tr F H F' H') (r : Rp E.k F' H' d v A) (nd : A.Nodup) (u : ∀ a ∈ A, H a = none) : Stt E F' H' (σ ++ [some v]) (ρ ++ [some d]) := by
  obtain ⟨fp, sl⟩ := s.sl
  exact (s.tr t).push' ⟨fun j d e => let ⟨v, ev, r⟩ := sl.rp j d e; ⟨v, ev, r.tr t⟩, sl.em, sl.nd, sl.dj, sl.nw⟩ r nd fun a ha => ⟨s.new (u a ha), fun j hj => (sl.there hj).2 (u a ha)⟩
/-- a slot's object is written at l: the new data own what they owned, or what is new -/
theorem Stt.write {F H : Hp} {σ : L2.St} {ρ : Env} {fp : Nat → List Addr} {i : Nat} {d' : D} {v : V} {A' : List Addr} {l : Addr} {o : HO} (s : Stt E F H σ ρ) (sl : Sl E F H σ ρ fp) (hl : l ∈ fp i) (hv : σ[i]? = some (some v)) (r : Rp E.k F (upd H l o) d' v A') (nd : A'.Nodup)
    (hA : ∀ a ∈ A', a ∈ fp i ∨ (E.He a = none ∧ ∀ j, a ∉ fp j)) : Stt E F (upd H l o) σ (ρ.set i (some d')) := by
  have fl := (sl.there hl).1
  have hi : i < ρ.length := by rw [s.len]; exact (List.getElem?_eq_some_iff.mp hv).1
  refine ⟨s.e0, fun a o' e => ?_, s.fr, fun a o' e b => ?_, fun a b => ?_, by rw [List.length_set]; exact s.len, s.bv, fun j => if j = i then A' else fp j, fun j d2 e => ?_, fun j e => ?_, fun j => ?_, fun j j' a ha ha' => ?_, fun j a ha => ?_⟩
  · rw [upd_ne fun z => by rw [z, fl] at e; cases e]
    exact s.fh a o' e
  · rw [upd_ne fun z => by
      rcases sl.nw i l hl with h | h
      · rw [z, h] at e; cases e
      · exact b (z ▸ h.1)]
    exact s.st a o' e b
  · by_cases q : a = l
    · rw [q, upd_same]; exact fun z => nomatch z
    · rw [upd_ne q]; exact s.bt a b
  · by_cases q : j = i
    · subst q
      rw [List.getElem?_set_self hi] at e
      cases e
      refine ⟨v, hv, ?_⟩
      show Rp E.k F (upd H l o) d' v (if j = j then A' else fp j)
      rw [if_pos rfl]; exact r
    · rw [List.getElem?_set_ne (Ne.symm q)] at e
      obtain ⟨v', e', r'⟩ := sl.rp j d2 e
      refine ⟨v', e', ?_⟩
      show Rp E.k F (upd H l o) d2 v' (if j = i then A' else fp j)
      rw [if_neg q]
      refine Rp.mono (.refl _) d2 v' _ (fun a ha o2 e2 n => ⟨?_, n⟩) r'
      rw [upd_ne fun z => q (sl.dj j i l (by rw [← z]; exact ha) hl)]
      exact e2
  · show (if j = i then A' else fp j) = []
    by_cases q : j = i
    · subst q
      rw [List.getElem?_set_self hi] at e
      cases e
    · rw [List.getElem?_set_ne (Ne.symm q)] at e
      rw [if_neg q]
      exact sl.em j e
  · show (if j = i then A' else fp j).Nodup
    by_cases q : j = i
    · rw [if_pos q]; exact nd
    · rw [if_neg q]; exact sl.nd j
  · have ha : a ∈ (if j = i then A' else fp j) := ha
    have ha' : a ∈ (if j' = i then A' else fp j') := ha'
    by_cases q : j = i
    · by_cases q' : j' = i
      · rw [q, q']
      · rw [if_pos q] at ha
        rw [if_neg q'] at ha'
        rcases hA a ha with h | h
        · exact absurd (sl.dj i j' a h ha').symm q'
        · exact absurd ha' (h.2 j')
    · rw [if_neg q] at ha
      by_cases q' : j' = i
      · rw [if_pos q'] at ha'
        rcases hA a ha' with h | h
        · exact absurd (sl.dj j i a ha h) q
        · exact absurd ha (h.2 j)
      · rw [if_neg q'] at ha'
        exact sl.dj j j' a ha ha'
  · have ha : a ∈ (if j = i then A' else fp j) := ha
    by_cases q : j = i
    · rw [if_pos q] at ha
      rcases hA a ha with h | h
      · rw [q]; exact sl.nw i a h
      · exact .inl h.1
    · rw [if_neg q] at ha
      exact sl.nw j a ha
/-- a slot is frozen -/
def frzAt (i : Nat) (ρ : Env) : Env := match ρ[i]?.getD none with
  | some d => if d.cold = true then ρ.set i (some d.frz) else ρ
  | none => ρ
theorem Stt.frz {F H : Hp} {σ : L2.St} {ρ : Env} (i : Nat) (hb : i ∉ E.bs) (s : Stt E F H σ ρ) : ∃ F', Ex F F' ∧ Stt E F' H σ (frzAt i ρ) := by
  unfold frzAt
  cases e : ρ[i]?.getD none with
  | none => exact ⟨F, .refl _, s⟩
  | some d =>
    by_cases c : d.cold = true
    · show ∃ F', Ex F F' ∧ Stt E F' H σ (if d.cold = true then ρ.set i (some d.frz) else ρ)
      rw [if_pos c]
      obtain ⟨fp, sl⟩ := s.sl
      have e' := some_some e
      obtain ⟨v, ev, r⟩ := sl.rp i d e'
      have hi : i < ρ.length := (List.getElem?_eq_some_iff.mp e').1
      have n : ∀ a ∈ fp i, F a = none := fun a ha => (sl.there ha).1
      have he : ∀ a ∈ fp i, E.He a = none := fun a ha => (sl.nw i a ha).elim (fun z => z) fun z => absurd z.2 hb
      refine ⟨fz F H (fp i), fz_ex n, s.e0.trans (fz_ex n), fz_exH s.fh, fun a z w => ?_, s.st, s.bt, by rw [List.length_set]; exact s.len, s.bv, fun j => if j = i then [] else fp j, fun j d2 e2 => ?_, fun j e2 => ?_, fun j => ?_, fun j j' a ha ha' => ?_, fun j a ha => ?_⟩
      · by_cases q : a ∈ fp i
        · exact absurd (he a q) w
        · rw [fz_out q]; exact s.fr a z w
      · show ∃ v, σ[j]? = some (some v) ∧ Rp E.k (fz F H (fp i)) H d2 v (if j = i then [] else fp j)
        by_cases q : j = i
        · subst q
          rw [List.getElem?_set_self hi] at e2
          cases e2
          rw [if_pos rfl]
          exact ⟨v, ev, Rp.frz n d v _ c (fun _ z => z) r⟩
        · rw [List.getElem?_set_ne (Ne.symm q)] at e2
          obtain ⟨v', ev', r'⟩ := sl.rp j d2 e2
          rw [if_neg q]
          refine ⟨v', ev', Rp.mono (fz_ex n) d2 v' _ (fun a ha o e3 n3 => ⟨e3, ?_⟩) r'⟩
          rw [fz_out fun z => q (sl.dj j i a ha z)]
          exact n3
      · show (if j = i then [] else fp j) = []
        by_cases q : j = i
        · rw [if_pos q]
        · rw [if_neg q]
          rw [List.getElem?_set_ne (Ne.symm q)] at e2
          exact sl.em j e2
      · show (if j = i then [] else fp j).Nodup
        by_cases q : j = i
        · rw [if_pos q]; exact .nil
        · rw [if_neg q]; exact sl.nd j
      · have ha : a ∈ (if j = i then [] else fp j) := ha
        have ha' : a ∈ (if j' = i then [] else fp j') := ha'
        by_cases q : j = i
        · rw [if_pos q] at ha; cases ha
        · by_cases q' : j' = i
          · rw [if_pos q'] at ha'; cases ha'
          · rw [if_neg q] at ha
            rw [if_neg q'] at ha'
            exact sl.dj j j' a ha ha'
      · have ha : a ∈ (if j = i then [] else fp j) := ha
        by_cases q : j = i
        · rw [if_pos q] at ha; cases ha
        · rw [if_neg q] at ha
          exact sl.nw j a ha
    · show ∃ F', Ex F F' ∧ Stt E F' H σ (if d.cold = true then ρ.set i (some d.frz) else ρ)
      rw [if_neg c]
      exact ⟨F, .refl _, s⟩
end
end Dv
end
section
set_option maxRecDepth 100000
set_option maxHeartbeats 1000000
namespace Dv
open PySem PySem.Spec PyProof.Rows L2

section
variable {X : Cx} {E : En} {W : WX}
/-! ### name = e -/
def sAsg (i : Nat) (f : Env → R D) : Env → SR := fun ρ => (f ρ).st ρ fun d => .nx (ρ.set i (some d))
@[simp] theorem sAsg_eq (i : Nat) (f : Env → R D) (ρ : Env) : sAsg i f ρ = (f ρ).st ρ fun d => .nx (ρ.set i (some d)) := rfl
theorem ss_asg {i : Nat} {x : Str} {e : Expr} {f : Env → R D} {pos pos' : Pos} (hN : X.N.Nodup) (hi : X.N[i]? = some x) (hx : Loc X.env.scope x) (hb : i ∉ E.bs) (h : EO X E W e f) (hs : swapsWith e (some (.Name x pos')) pos.line X.env = pure false := by rfl) (hf : X.fn x = true ∨ X.env.scope.names.lookup x = some .local := by first | exact .inl rfl | exact .inr rfl | assumption) :
    SS X E W (.Assign [.Name x pos'] e pos) (sAsg i f) := by
  refine ⟨ps_mono (ps_set hN hi hx h.pe hs hf) fun Z σ H h => ?_⟩
  obtain ⟨F, ρ, s, q⟩ := h
  refine ⟨F, ρ, s, Res.mono q.st (fun d _ q F1 H1 v A t1 r1 nd u => ?_) fun c _ z => SRes.exc s z⟩
  exact q F1 H1 _ t1.ff (s.set t1 r1 nd u hb)
/-- name op= e, by the operator's in-place rule -/
def IpR (X : Cx) (op : Operator) (r : R2) : Prop := PIp X op r
theorem ss_aug {i : Nat} {x : Str} {e : Expr} {op : Operator} {r : R2} {g : D → D → Option D} {f : Env → R D} {pos pos' : Pos} (hN : X.N.Nodup) (hi : X.N[i]? = some x) (hx : Loc X.env.scope x) (hb : i ∉ E.bs) (ho : PIp X op r) (hg : Says2 E r g) (h : EV X E W e f) (hf : X.fn x = true ∨ X.env.scope.names.lookup x = some .local := by first | exact .inl rfl | exact .inr rfl | assumption) :
    SS X E W (.AugAssign (.Name x pos') op e pos) (sAsg i (e2 g (eVar i) f)) := by
  refine ⟨ps_mono (ps_aug hN hi hx h.pe ho hf) fun Z σ H h => ?_⟩
  obtain ⟨F, ρ, s, q⟩ := h
  have q := q.st
  rw [e2_eq] at q
  obtain ⟨d0, e0, q⟩ := Res.opt q.bind
  obtain ⟨fp, sl⟩ := s.sl
  obtain ⟨v0, ev0, r0⟩ := sl.rp i d0 (some_some e0)
  refine ⟨v0, ev0, F, ρ, s, Res.mono (Res.bind q) (fun y _ q F1 H1 w B t1 r1 => ?_) fun c _ z => SRes.exc s z⟩
  obtain ⟨d, e, p⟩ := Res.opt q
  exact hg F1 H1 d0 y v0 w _ B _ d t1.fh (r0.tr t1) r1 e fun F2 H2 v A t2 r nd u => p F2 H2 _ (t1.trans t2).ff (s.set (t1.trans t2) r nd (fun a ha => none_back t1.hh (u a ha)) hb)
theorem ip_addA : PIp X .Add (ipI fun i j => i + j) := ip_add
theorem says_ipI {f : Int → Int → Int} : Says2 E (ipI f) (gI0 f) := says_I0
/-- int += int -/
theorem ss_augAdd {i : Nat} {x : Str} {e : Expr} {f : Env → R D} {pos pos' : Pos} (hN : X.N.Nodup) (hi : X.N[i]? = some x) (hx : Loc X.env.scope x) (hb : i ∉ E.bs) (h : EV X E W e f) (hf : X.fn x = true ∨ X.env.scope.names.lookup x = some .local := by first | exact .inl rfl | exact .inr rfl | assumption) :
    SS X E W (.AugAssign (.Name x pos') .Add e pos) (sAsg i (e2 (gI0 fun i j => i + j) (eVar i) f)) := ss_aug hN hi hx hb ip_add says_ipI h hf
theorem ss_augSub {i : Nat} {x : Str} {e : Expr} {f : Env → R D} {pos pos' : Pos} (hN : X.N.Nodup) (hi : X.N[i]? = some x) (hx : Loc X.env.scope x) (hb : i ∉ E.bs) (h : EV X E W e f) (hf : X.fn x = true ∨ X.env.scope.names.lookup x = some .local := by first | exact .inl rfl | exact .inr rfl | assumption) :
    SS X E W (.AugAssign (.Name x pos') .Sub e pos) (sAsg i (e2 gSub (eVar i) f)) := ss_aug hN hi hx hb ip_sub says_ipI h hf

/-! ### targets -/
def tG (E : En) (g : D → Env → Option Env) : TG := fun v σ H Q => ∃ F ρ d, Stt E F H σ ρ ∧ d.pure = true ∧ Rp E.k F H d v [] ∧ ∃ ρ', g d ρ = some ρ' ∧ ∀ σ', Stt E F H σ' ρ' → Q σ' H
def tGs (E : En) (g : List D → Env → Option Env) : TGs := fun vs σ H Q => ∃ F ρ ds, Stt E F H σ ρ ∧ D.pureL ds = true ∧ RpL E.k F H ds vs [] ∧ ∃ ρ', g ds ρ = some ρ' ∧ ∀ σ', Stt E F H σ' ρ' → Q σ' H
structure EG (X : Cx) (E : En) (e : Expr) (g : D → Env → Option Env) : Prop where
  pg : PG X e (tG E g)
structure EGs (X : Cx) (E : En) (es : List Expr) (g : List D → Env → Option Env) : Prop where
  pg : PGs X es (tGs E g)
theorem pg_mono {e : Expr} {t t' : TG} (h : PG X e t) (i : ∀ v σ H Q, t' v σ H Q → t v σ H Q) : PG X e t' := ⟨fun pins s σ H v u Q I r q => h.run pins s σ H v u Q I r (i v σ H Q q)⟩
theorem pgs_mono {e : List Expr} {t t' : TGs} (h : PGs X e t) (i : ∀ v σ H Q, t' v σ H Q → t v σ H Q) : PGs X e t' := ⟨fun pins s σ H v u Q I r q => h.run pins s σ H v u Q I r (i v σ H Q q)⟩
def gNm (i : Nat) : D → Env → Option Env := fun d ρ => some (ρ.set i (some d))
@[simp] theorem gNm_eq (i : Nat) (d : D) (ρ : Env) : gNm i d ρ = some (ρ.set i (some d)) := rfl
theorem eg_name {i : Nat} {x : Str} {pos : Pos} (hN : X.N.Nodup) (hi : X.N[i]? = some x) (hx : Loc X.env.scope x) (hb : i ∉ E.bs) (hf : X.fn x = true ∨ X.env.scope.names.lookup x = some .local := by first | exact .inl rfl | exact .inr rfl | assumption) : EG X E (.Name x pos) (gNm i) := by
  refine ⟨pg_mono (pg_name hN hi hx hf) fun v σ H Q h => ?_⟩
  obtain ⟨F, ρ, d, s, p, r, ρ', e, q⟩ := h
  cases e
  exact q _ (s.set (Tr.refl s.fh) r .nil (fun _ z => nomatch z) hb)
def gsNil : List D → Env → Option Env
  | [], ρ => some ρ
  | _, _ => none
def gsCons (g : D → Env → Option Env) (gs : List D → Env → Option Env) : List D → Env → Option Env
  | d :: ds, ρ => (g d ρ).bind fun ρ' => gs ds ρ'
  | [], _ => none
@[simp] theorem gsNil_nil (ρ : Env) : gsNil [] ρ = some ρ := rfl
@[simp] theorem gsCons_cons (g : D → Env → Option Env) (gs : List D → Env → Option Env) (d : D) (ds : List D) (ρ : Env) : gsCons g gs (d :: ds) ρ = (g d ρ).bind fun ρ' => gs ds ρ' := rfl
@[simp] theorem gsCons_nil (g : D → Env → Option Env) (gs : List D → Env → Option Env) (ρ : Env) : gsCons g gs [] ρ = none := rfl
theorem egs_nil : EGs X E [] gsNil := by
  refine ⟨pgs_mono pgs_nil fun vs σ H Q h => ?_⟩
  obtain ⟨F, ρ, ds, s, p, r, ρ', e, q⟩ := h
  cases ds with
  | nil => cases e; exact ⟨r.1, q σ s⟩
  | cons d ds => cases e
theorem egs_cons {e : Expr} {es : List Expr} {g : D → Env → Option Env} {gs : List D → Env → Option Env} (h1 : EG X E e g) (h2 : EGs X E es gs)
    (hs : (assignEach (e :: es) X.env).map (·.2) = assign e X.env :: (assignEach es X.env).map (·.2) := by rfl) : EGs X E (e :: es) (gsCons g gs) := by
  refine ⟨pgs_mono (pgs_cons h1.pg h2.pg hs) fun vs σ H Q h => ?_⟩
  obtain ⟨F, ρ, ds, s, p, r, ρ', e, q⟩ := h
  cases ds with
  | nil => cases e
  | cons d ds =>
    obtain ⟨v, ws, B, C, e1, e2, r1, r2⟩ := r
    obtain ⟨rfl, rfl⟩ := List.append_eq_nil_iff.mp e2.symm
    have p' : d.pure = true ∧ D.pureL ds = true := by simpa [D.pureL] using p
    rw [gsCons_cons] at e
    cases eg : g d ρ with
    | none => rw [eg] at e; cases e
    | some ρ1 =>
      rw [eg] at e
      exact ⟨v, ws, e1, F, ρ, d, s, p'.1, r1, ρ1, eg, fun σ' s' => ⟨F, ρ1, ds, s', p'.2, r2, ρ', e, q⟩⟩
def gTp (gs : List D → Env → Option Env) : D → Env → Option Env
  | .tup ds, ρ => gs ds ρ
  | _, _ => none
@[simp] theorem gTp_tup (gs : List D → Env → Option Env) (ds : List D) (ρ : Env) : gTp gs (.tup ds) ρ = gs ds ρ := rfl
theorem gs_len {X : Cx} : ∀ {es : List Expr} {gs : List D → Env → Option Env}, True → True := fun _ => trivial
theorem eg_tup {es : List Expr} {k : Nat} {gs : List D → Env → Option Env} {pos : Pos} (hK : E.k.K = X.K) (hc : X.calm = true) (h : EGs X E es gs) (n : Nat) (hlen : ∀ ds ρ ρ', gs ds ρ = some ρ' → ds.length = n)
    (hn : (assignEach es X.env).length = n := by rfl) (hst : (assignEach es X.env).findIdx? (·.1) = none := by rfl) : EG X E (.Tuple es k pos) (gTp gs) := by
  refine ⟨pg_mono (pg_tup hc h.pg hn hst) fun v σ H Q h => ?_⟩
  obtain ⟨F, ρ, d, s, p, r, ρ', e, q⟩ := h
  cases d with
  | tup ds =>
    obtain ⟨a, vs, rfl, s1, r⟩ := r
    exact ⟨a, vs, rfl, by rw [← hK]; exact ex_t s.fh s1, by rw [← r.len]; exact hlen ds ρ ρ' e, F, ρ, ds, s, p, r, ρ', e, q⟩
  | _ => cases e
theorem gsNil_len (ds : List D) (ρ ρ' : Env) (h : gsNil ds ρ = some ρ') : ds.length = 0 := by
  cases ds with
  | nil => rfl
  | cons d ds => cases h
theorem gsCons_len {g : D → Env → Option Env} {gs : List D → Env → Option Env} {n : Nat} (hg : ∀ ds ρ ρ', gs ds ρ = some ρ' → ds.length = n) (ds : List D) (ρ ρ' : Env) (h : gsCons g gs ds ρ = some ρ') : ds.length = n + 1 := by
  cases ds with
  | nil => cases h
  | cons d ds =>
    rw [gsCons_cons] at h
    cases eg : g d ρ with
    | none => rw [eg] at h; cases h
    | some ρ1 =>
      rw [eg] at h
      rw [List.length_cons, hg ds ρ1 ρ' h]
/-- a, b = e -/
def sUn (g : D → Env → Option Env) (f : Env → R D) : Env → SR := fun ρ => (f ρ).st ρ fun d => if d.pure = true then (match g d ρ with
  | some ρ' => .nx ρ'
  | none => .no) else .no
@[simp] theorem sUn_eq (g : D → Env → Option Env) (f : Env → R D) (ρ : Env) : sUn g f ρ = (f ρ).st ρ fun d => if d.pure = true then (match g d ρ with
  | some ρ' => .nx ρ'
  | none => .no) else .no := rfl
theorem ss_un {tg e : Expr} {f : Env → R D} {g : D → Env → Option Env} {pos : Pos} (h : EV X E W e f) (hg : EG X E tg g) (hs : swapsWithSole [tg] e pos.line X.env = pure false := by rfl) (hw : swappedStores [tg] e X.env = pure none := by rfl)
    (h1 : (assignEach [tg] X.env).map (·.2) = [assign tg X.env] := by rfl) : SS X E W (.Assign [tg] e pos) (sUn g f) := by
  refine ⟨ps_mono (ps_asg h.pe hg.pg hs hw h1) fun Z σ H h => ?_⟩
  obtain ⟨F, ρ, s, q⟩ := h
  refine ⟨F, ρ, s, Res.mono q.st (fun d _ q F1 H1 v A t1 r1 => ?_) fun c _ z => SRes.exc s z⟩
  by_cases c : d.pure = true
  · rw [if_pos c] at q
    cases eg : g d ρ with
    | none => rw [eg] at q; exact q.elim
    | some ρ' =>
      rw [eg] at q
      exact ⟨F1, ρ, d, s.tr t1, c, Rp.pure c (.refl _) r1, ρ', eg, fun σ' s' => q F1 H1 σ' t1.ff s'⟩
  · rw [if_neg c] at q
    exact q.elim
/-- a, b = x, y -/
def sPar (i j : Nat) (fs : Env → R (List D)) : Env → SR := fun ρ => (fs ρ).st ρ fun ds => match ds with
  | [x, y] => if x.pure = true ∧ y.pure = true then .nx ((ρ.set i (some x)).set j (some y)) else .no
  | _ => .no
@[simp] theorem sPar_eq (i j : Nat) (fs : Env → R (List D)) (ρ : Env) : sPar i j fs ρ = (fs ρ).st ρ fun ds => match ds with
  | [x, y] => if x.pure = true ∧ y.pure = true then .nx ((ρ.set i (some x)).set j (some y)) else .no
  | _ => .no := rfl
theorem ss_par {i j : Nat} {x y : Str} {a b : Expr} {fs : Env → R (List D)} {px py pt pos : Pos} {kt k2 : Nat} {pt2 : Pos} (hc : X.calm = true) (hN : X.N.Nodup) (hi : X.N[i]? = some x) (hj : X.N[j]? = some y) (hij : i ≠ j)
    (hx : X.env.scope.names.lookup x = some .local) (hy : X.env.scope.names.lookup y = some .local) (hbi : i ∉ E.bs) (hbj : j ∉ E.bs) (ha : EA X E W [a, b] fs)
    (hw : swappedStores [.Tuple [.Name x px, .Name y py] kt pt] (.Tuple [a, b] k2 pt2) X.env = pure (some [x, y]))
    (hs : swapsWithSole [.Tuple [.Name x px, .Name y py] kt pt] (.Tuple [a, b] k2 pt2) pos.line X.env = pure false := by rfl) :
    SS X E W (.Assign [.Tuple [.Name x px, .Name y py] kt pt] (.Tuple [a, b] k2 pt2) pos) (sPar i j fs) := by
  refine ⟨ps_mono (ps_par hc hN hi hj hij hx hy ha.pa hw hs) fun Z σ H h => ?_⟩
  obtain ⟨F, ρ, s, q⟩ := h
  refine ⟨F, ρ, s, Res.mono q.st (fun ds he q F1 H1 vs t1 r1 => ?_) fun c _ z => SRes.exc s z⟩
  clear he
  split at q
  · rename_i x y
    by_cases c : x.pure = true ∧ y.pure = true
    · rw [if_pos c] at q
      obtain ⟨v, w, A, B, rfl, rx, ry⟩ := Vw.two r1
      refine ⟨v, w, rfl, q F1 H1 _ t1.ff ?_⟩
      have s1 := s.set t1 (Rp.pure c.1 (.refl _) rx) .nil (fun _ z => nomatch z) hbi
      exact s1.set (Tr.refl t1.fh) (Rp.pure c.2 (.refl _) ry) .nil (fun _ z => nomatch z) hbj
    · rw [if_neg c] at q
      exact q.elim
  · exact q.elim

/-! ### return, if, an expression alone -/
def sRet (f : Env → R D) : Env → SR := fun ρ => (f ρ).st ρ fun d => .rt d ρ
@[simp] theorem sRet_eq (f : Env → R D) (ρ : Env) : sRet f ρ = (f ρ).st ρ fun d => .rt d ρ := rfl
theorem Stt.fin {F H F' H' : Hp} {σ : L2.St} {ρ : Env} {d : D} {v : V} {A : List Addr} (s : Stt E F H σ ρ) (t : Tr F H F' H') (r : Rp E.k F' H' d v A) (nd : A.Nodup) (u : ∀ a ∈ A, H a = none) : Fin E F' H' d v := by
  have s' := s.tr t
  exact ⟨s'.e0, s'.fh, s'.fr, s'.st, s'.bt, A, r, nd, fun a ha => s.new (u a ha)⟩
theorem ss_ret {e : Expr} {f : Env → R D} {pos : Pos} (h : EO X E W e f) : SS X E W (.Return (some e) pos) (sRet f) := by
  refine ⟨ps_mono (ps_ret h.pe) fun Z σ H h => ?_⟩
  obtain ⟨F, ρ, s, q⟩ := h
  refine ⟨F, ρ, s, Res.mono q.st (fun d _ q F1 H1 v A t1 r1 nd u => ?_) fun c _ z => SRes.exc s z⟩
  exact q F1 H1 σ v (s.tr t1) (s.fin t1 r1 nd u) (.inr (s.push t1 r1 nd u))
/-- return of a name, with what it owns -/
theorem ss_retV {i : Nat} {e : Expr} {pos : Pos} (hb : i ∉ E.bs) (h : PE X e (tVar i)) (hE : E.bs = [] := by rfl) : SS X E W (.Return (some e) pos) (sRet (eVar i)) := by
  refine ⟨ps_mono (ps_ret h) fun Z σ H h => ?_⟩
  obtain ⟨F, ρ, s, q⟩ := h
  obtain ⟨d, e, q⟩ := Res.opt q.st
  obtain ⟨fp, sl⟩ := s.sl
  obtain ⟨v, ev, r⟩ := sl.rp i d (some_some e)
  refine ⟨v, ev, q F H σ v s ⟨s.e0, s.fh, s.fr, s.st, s.bt, fp i, r, sl.nd i, fun a ha => (sl.nw i a ha).elim (fun z => z) fun z => absurd z.2 hb⟩ (.inl hE)⟩
def sRetN : Env → SR := fun ρ => .rt .non ρ
@[simp] theorem sRetN_eq (ρ : Env) : sRetN ρ = .rt .non ρ := rfl
theorem ss_retN {pos : Pos} : SS X E W (.Return none pos) sRetN := by
  refine ⟨ps_mono ps_retN fun Z σ H h => ?_⟩
  obtain ⟨F, ρ, s, q⟩ := h
  exact q F H σ .non s (s.fin (Tr.refl s.fh) ⟨rfl, rfl⟩ .nil fun _ z => nomatch z) (.inr (s.push (Tr.refl s.fh) ⟨rfl, rfl⟩ .nil fun _ z => nomatch z))
def sIf (t : Env → R Bool) (f g : Env → SR) : Env → SR := fun ρ => (t ρ).st ρ fun b => if b = true then f ρ else g ρ
@[simp] theorem sIf_eq (t : Env → R Bool) (f g : Env → SR) (ρ : Env) : sIf t f g ρ = (t ρ).st ρ fun b => if b = true then f ρ else g ρ := rfl
theorem SRes.at {F F' : Hp} {Z : Ends} {r : SR} (h : SRes E W F Z r) (x : Ex F F') : SRes E W F' Z r := SRes.mono h x (fun _ _ z => z) (fun _ _ z => z) (fun _ _ z => z) fun _ _ z => z
theorem ss_if {c : Expr} {a b : List Stmt} {t : Env → R Bool} {f g : Env → SR} {pos : Pos} (hc : ET X E W c t) (ha : SB X E W a f) (hb : SB X E W b g) : SS X E W (.If c a b pos) (sIf t f g) := by
  refine ⟨ps_mono (ps_if hc.pt ha.ps hb.ps) fun Z σ H h => ?_⟩
  obtain ⟨F, ρ, s, q⟩ := h
  refine ⟨F, ρ, s, Res.mono q.st (fun b _ q F1 H1 t1 => ?_) fun c _ z => SRes.exc s z⟩
  cases b with
  | true => exact ⟨F1, ρ, s.tr t1, SRes.at q t1.ff⟩
  | false => exact ⟨F1, ρ, s.tr t1, SRes.at q t1.ff⟩
def sDrop (f : Env → R D) : Env → SR := fun ρ => (f ρ).st ρ fun _ => .nx ρ
@[simp] theorem sDrop_eq (f : Env → R D) (ρ : Env) : sDrop f ρ = (f ρ).st ρ fun _ => .nx ρ := rfl
theorem ss_drop {e : Expr} {f : Env → R D} {pos : Pos} (h : EV X E W e f) (hs : swapsWith e none pos.line X.env = pure false := by rfl) : SS X E W (.Expr e pos) (sDrop f) := by
  refine ⟨ps_mono (ps_expr h.pe hs) fun Z σ H h => ?_⟩
  obtain ⟨F, ρ, s, q⟩ := h
  exact ⟨F, ρ, s, Res.mono q.st (fun d _ q F1 H1 v A t1 r1 => q F1 H1 σ t1.ff (s.tr t1)) fun c _ z => SRes.exc s z⟩
/-- a name's list is frozen ahead of a statement (nothing in the program) -/
def sFz (i : Nat) (f : Env → SR) : Env → SR := fun ρ => f (frzAt i ρ)
@[simp] theorem sFz_eq (i : Nat) (f : Env → SR) (ρ : Env) : sFz i f ρ = f (frzAt i ρ) := rfl
theorem ss_fz {st : Stmt} {f : Env → SR} (i : Nat) (hb : i ∉ E.bs) (h : SS X E W st f) : SS X E W st (sFz i f) := by
  refine ⟨ps_mono h.ps fun Z σ H h => ?_⟩
  obtain ⟨F, ρ, s, q⟩ := h
  obtain ⟨F', x, s'⟩ := s.frz i hb
  exact ⟨F', _, s', SRes.at q x⟩
end
end Dv
end
section
set_option maxRecDepth 100000
set_option maxHeartbeats 1000000
namespace Dv
open PySem PySem.Spec PyProof.Rows L2

/-! ### what a for walks -/
/-- J yields the data ds, whatever is added to F -/
structure Wk (k : Kx) (J : It) (F : Hp) (ds : List D) : Prop where
  go : ∀ i, i < ds.length → ∀ F' H, Ex F F' → Ex F' H → J.go i H
  stop : ∀ F' H, Ex F F' → Ex F' H → J.stop ds.length H
  yld : ∀ i d, ds[i]? = some d → ∀ F' H x H', Ex F F' → Ex F' H → J.yld i H x H' → d.pure = true ∧ ∃ F'', Tr F' H F'' H' ∧ Rp k F'' H' d x []
def tI (E : En) (W : WX) (f : Env → R (List D)) : TI := fun σ H P => ∃ F ρ, Stt E F H σ ρ ∧
  Res (f ρ) (fun ds => ∀ F' H' J, Tr F H F' H' → Wk E.k J F' ds → P J H') (fun c => ∀ F' H', Tr F H F' H' → W (E.ec c) none σ H')
structure EI (X : Cx) (E : En) (W : WX) (tg e : Expr) (f : Env → R (List D)) : Prop where
  pi : PI X tg e (tI E W f)
theorem pi_mono {X : Cx} {tg e : Expr} {t t' : TI} (h : PI X tg e t) (i : ∀ σ H Q, t' σ H Q → t σ H Q) : PI X tg e t' := ⟨fun pins s σ H Q I q => h.run pins s σ H Q I (i σ H Q q)⟩
theorem pureL_get {ds : List D} {i : Nat} {d : D} (p : D.pureL ds = true) (e : ds[i]? = some d) : d.pure = true := by
  induction ds generalizing i with
  | nil => simp at e
  | cons x xs ih =>
    have p' : x.pure = true ∧ D.pureL xs = true := by simpa [D.pureL] using p
    cases i with
    | zero => have e' : x = d := by simpa using e
              rw [← e']; exact p'.1
    | succ i => exact ih p'.2 (by simpa using e)
section
variable {X : Cx} {E : En} {W : WX}
theorem RpL.get0 {k : Kx} {F H : Hp} {ds : List D} {vs : List V} {i : Nat} {d : D} (h : RpL k F H ds vs []) (e : ds[i]? = some d) : ∃ v, vs[i]? = some v ∧ Rp k F H d v [] := by
  obtain ⟨v, B, h1, h2, h3⟩ := RpL.get h e
  have : B = [] := List.eq_nil_iff_forall_not_mem.mpr fun a ha => nomatch h3 a ha
  subst this
  exact ⟨v, h1, h2⟩
theorem wk_list {k : Kx} {F H : Hp} {a : Addr} {vs : List V} {ds : List D} (s : SqL k.K F a vs) (p : D.pureL ds = true) (r : RpL k F H ds vs []) : Wk k (Itl k.K a) F ds where
  go := fun i hi F' H' x y => ⟨vs, vs[i]'(by rw [← r.len]; exact hi), ex_l (x.trans y) s, List.getElem?_eq_getElem _⟩
  stop := fun F' H' x y => ⟨vs, ex_l (x.trans y) s, by rw [r.len]; exact Nat.le_refl _⟩
  yld := fun i d e F' H' v H'' x y h => by
    obtain ⟨rfl, h⟩ := h
    obtain ⟨w, e1, r1⟩ := r.get0 e
    have e2 := h vs (ex_l (x.trans y) s)
    rw [e1] at e2
    cases e2
    have pd := pureL_get p e
    exact ⟨pd, F', Tr.refl y, Rp.pure pd x r1⟩
theorem wk_tup {k : Kx} {F H : Hp} {a : Addr} {vs : List V} {ds : List D} (s : SqT k.K F a vs) (p : D.pureL ds = true) (r : RpL k F H ds vs []) : Wk k (Itt k.K a) F ds where
  go := fun i hi F' H' x y => ⟨vs, vs[i]'(by rw [← r.len]; exact hi), ex_t (x.trans y) s, List.getElem?_eq_getElem _⟩
  stop := fun F' H' x y => ⟨vs, ex_t (x.trans y) s, by rw [r.len]; exact Nat.le_refl _⟩
  yld := fun i d e F' H' v H'' x y h => by
    obtain ⟨rfl, h⟩ := h
    obtain ⟨w, e1, r1⟩ := r.get0 e
    have e2 := h vs (ex_t (x.trans y) s)
    rw [e1] at e2
    cases e2
    have pd := pureL_get p e
    exact ⟨pd, F', Tr.refl y, Rp.pure pd x r1⟩
theorem wk_str {k : Kx} {F : Hp} {x : Str} : Wk k (Its x) F (x.cps.toList.map fun c => .str ⟨#[c]⟩) where
  go := fun i hi F' H' _ _ => by
    rw [List.length_map] at hi
    exact hi
  stop := fun F' H' _ _ => by
    rw [List.length_map]
    exact Nat.le_refl _
  yld := fun i d e F' H' v H'' _ y h => by
    obtain ⟨rfl, c, e1, rfl⟩ := h
    rw [List.getElem?_map, Array.getElem?_toList, e1] at e
    cases e
    exact ⟨rfl, F', Tr.refl y, rfl, rfl⟩
/-- a list or a tuple is walked -/
def iSeq (K : PySem.W.Frag) (tl : TE) : TI := fun σ H P => tl σ H fun x H1 => (∃ a xs, x = .ref a ∧ SqL K H1 a xs ∧ P (Itl K a) H1) ∨ ∃ a xs, x = .ref a ∧ SqT K H1 a xs ∧ P (Itt K a) H1
theorem pi_seq {tg l : Expr} {tl : TE} (hl : PE X l tl) : PI X tg l (iSeq X.K tl) := by
  refine ⟨fun pins s σ H P I h => thn (hl.run pins s σ H _ I h) ?_⟩
  rintro v s1 ⟨x, H1, I1, r1, ⟨a, xs, rfl, hq, q⟩ | ⟨a, xs, rfl, hq, q⟩⟩
  · cases r1
    obtain ⟨its, _, pl, _⟩ := I1.list hq
    exact wpAny_pyIter_list pl.isList (pi_one I1 _ (turn_list a _) ⟨_, Heap.get?_push_size _ rfl, rfl, rfl⟩ q)
  · cases r1
    obtain ⟨its, _, pl, _⟩ := I1.tuple hq
    exact wpAny_pyIter_tuple (show s1.heap.IsTuple a its.toArray from pl) (pi_one I1 _ (turn_tuple a _) ⟨_, Heap.get?_push_size _ rfl, rfl, rfl⟩ q)
def walkD : D → Option (List D)
  | .lst false xs => if D.pureL xs = true then some xs else none
  | .tup xs => if D.pureL xs = true then some xs else none
  | .scr xs => if D.pureL xs = true then some xs else none
  | _ => none
@[simp] theorem walkD_lst (xs : List D) : walkD (.lst false xs) = if D.pureL xs = true then some xs else none := rfl
@[simp] theorem walkD_tup (xs : List D) : walkD (.tup xs) = if D.pureL xs = true then some xs else none := rfl
theorem walk_seq {F H F1 H1 : Hp} {d : D} {v : V} {A : List Addr} {ds : List D} {P : It → Hp → Prop} (t1 : Tr F H F1 H1) (r1 : Rp E.k F1 H1 d v A) (e : walkD d = some ds) (p : ∀ F' H' J, Tr F H F' H' → Wk E.k J F' ds → P J H') :
    (∃ a xs, v = .ref a ∧ SqL E.k.K H1 a xs ∧ P (Itl E.k.K a) H1) ∨ ∃ a xs, v = .ref a ∧ SqT E.k.K H1 a xs ∧ P (Itt E.k.K a) H1 := by
  cases d with
  | lst o xs =>
    cases o with
    | false =>
      obtain ⟨z, e⟩ := if_some (show (if D.pureL xs = true then some xs else none) = some ds from e)
      subst e
      obtain ⟨a, vs, B, rfl, r, h1, h2⟩ := r1
      have sF : SqL E.k.K F1 a vs := .inl (.inl (h1 rfl).1)
      exact .inl ⟨a, vs, rfl, ex_l t1.fh sF, p F1 H1 _ t1 (wk_list sF z (RpL.pure (H' := H1) z (.refl _) r))⟩
    | true => cases e
  | tup xs =>
    obtain ⟨z, e⟩ := if_some (show (if D.pureL xs = true then some xs else none) = some ds from e)
    subst e
    obtain ⟨a, vs, rfl, s, r⟩ := r1
    exact .inr ⟨a, vs, rfl, ex_t t1.fh s, p F1 H1 _ t1 (wk_tup s z (RpL.pure (H' := H1) z (.refl _) r))⟩
  | scr xs =>
    obtain ⟨z, e⟩ := if_some (show (if D.pureL xs = true then some xs else none) = some ds from e)
    subst e
    obtain ⟨a, vs, rfl, _, s, r⟩ := r1
    exact .inl ⟨a, vs, rfl, ex_l t1.fh s, p F1 H1 _ t1 (wk_list s z (RpL.pure (H' := H1) z (.refl _) r))⟩
  | _ => cases e
/-- looked at: a frozen list, a tuple -/
def iV (f : Env → R D) : Env → R (List D) := fun ρ => (f ρ).bind fun d => R.opt (walkD d)
/-- an own list: frozen for the walk -/
def iO (f : Env → R D) : Env → R (List D) := fun ρ => (f ρ).bind fun d => if d.cold = true then R.opt (walkD d.frz) else .no
@[simp] theorem iV_eq (f : Env → R D) (ρ : Env) : iV f ρ = (f ρ).bind fun d => R.opt (walkD d) := rfl
@[simp] theorem iO_eq (f : Env → R D) (ρ : Env) : iO f ρ = (f ρ).bind fun d => if d.cold = true then R.opt (walkD d.frz) else .no := rfl
theorem ei_v {tg e : Expr} {f : Env → R D} (hK : E.k.K = X.K) (h : EV X E W e f) : EI X E W tg e (iV f) := by
  refine ⟨pi_mono (pi_seq h.pe) fun σ H P q => ?_⟩
  obtain ⟨F, ρ, s, q⟩ := q
  refine ⟨F, ρ, s, Res.mono q.bind (fun d _ q F1 H1 v A t1 r1 => ?_) fun c _ z F' H' t => z F' H' t⟩
  obtain ⟨ds, e, p⟩ := Res.opt q
  rw [← hK]
  exact walk_seq t1 r1 e p
theorem ei_o {tg e : Expr} {f : Env → R D} (hK : E.k.K = X.K) (h : EO X E W e f) : EI X E W tg e (iO f) := by
  refine ⟨pi_mono (pi_seq h.pe) fun σ H P q => ?_⟩
  obtain ⟨F, ρ, s, q⟩ := q
  refine ⟨F, ρ, s, Res.mono q.bind (fun d _ q F1 H1 v A t1 r1 nd u => ?_) fun c _ z F' H' t => z F' H' t⟩
  by_cases c : d.cold = true
  · rw [if_pos c] at q
    obtain ⟨ds, e, p⟩ := Res.opt q
    rw [← hK]
    have n := fun a ha => (Rp.dom d v A r1 a ha).1
    exact walk_seq (tr_fz t1 n u) (Rp.frz (H' := H1) n d v A c (fun _ z => z) r1) e p
  · rw [if_neg c] at q
    exact q.elim
/-- the signs of a text -/
def strD : D → Option (List D)
  | .str x => some (x.cps.toList.map fun c => .str ⟨#[c]⟩)
  | _ => none
@[simp] theorem strD_str (x : Str) : strD (.str x) = some (x.cps.toList.map fun c => .str ⟨#[c]⟩) := rfl
def iS (f : Env → R D) : Env → R (List D) := fun ρ => (f ρ).bind fun d => R.opt (strD d)
@[simp] theorem iS_eq (f : Env → R D) (ρ : Env) : iS f ρ = (f ρ).bind fun d => R.opt (strD d) := rfl
theorem ei_s {tg e : Expr} {f : Env → R D} (h : EV X E W e f) : EI X E W tg e (iS f) := by
  refine ⟨pi_mono (pi_str h.pe) fun σ H P q => ?_⟩
  obtain ⟨F, ρ, s, q⟩ := q
  refine ⟨F, ρ, s, Res.mono q.bind (fun d _ q F1 H1 v A t1 r1 => ?_) fun c _ z F' H' t => z F' H' t⟩
  obtain ⟨ds, e, p⟩ := Res.opt q
  cases d with
  | str x => cases e; exact ⟨x, r1.1, p F1 H1 _ t1 wk_str⟩
  | _ => cases e
/-! range -/
def rngL (lo : Int) (n : Nat) : List D := (List.range n).map fun i : Nat => .int (lo + (i : Int))
theorem rngL_len (lo : Int) (n : Nat) : (rngL lo n).length = n := by simp [rngL]
theorem wk_rng {k : Kx} {F : Hp} {lo : Int} {n : Nat} : Wk k (Itr lo n) F (rngL lo n) where
  go := fun i hi F' H' _ _ => by
    rw [rngL_len] at hi
    exact hi
  stop := fun F' H' _ _ => by
    rw [rngL_len]
    exact Nat.le_refl _
  yld := fun i d e F' H' v H'' _ y h => by
    obtain ⟨rfl, rfl⟩ := h
    have hi : i < n := by
      have := (List.getElem?_eq_some_iff.mp e).1
      rw [rngL_len] at this
      exact this
    have e' : d = .int (lo + (i : Int)) := by
      unfold rngL at e
      rw [List.getElem?_map, List.getElem?_range hi] at e
      exact (Option.some.inj e).symm
    subst e'
    exact ⟨rfl, F', Tr.refl y, rfl, rfl⟩
noncomputable def rng1 : List D → Option (List D)
  | [.int j] => if W62 j then some (rngL 0 j.toNat) else none
  | _ => none
noncomputable def rng2 : List D → Option (List D)
  | [.int i, .int j] => if W62 i ∧ W62 j then some (rngL i (j - i).toNat) else none
  | _ => none
@[simp] theorem rng1_int (j : Int) : rng1 [.int j] = if W62 j then some (rngL 0 j.toNat) else none := rfl
@[simp] theorem rng2_int (i j : Int) : rng2 [.int i, .int j] = if W62 i ∧ W62 j then some (rngL i (j - i).toNat) else none := rfl
def iA (g : List D → Option (List D)) (fs : Env → R (List D)) : Env → R (List D) := fun ρ => (fs ρ).bind fun ds => R.opt (g ds)
@[simp] theorem iA_eq (g : List D → Option (List D)) (fs : Env → R (List D)) (ρ : Env) : iA g fs ρ = (fs ρ).bind fun ds => R.opt (g ds) := rfl
theorem ei_rng1 {tg a : Expr} {fs : Env → R (List D)} {p pos : Pos} (hg : Gl X "range") (hm : X.mg "range" = none) (ha : EA X E W [a] fs) (hs : starEach [a] X.env = [(false, eval a X.env)] := by rfl) : EI X E W tg (.Call (.Name "range" p) [a] [] pos) (iA rng1 fs) := by
  refine ⟨pi_mono (pi_range1 hg hm ha.pa hs) fun σ H P q => ?_⟩
  obtain ⟨F, ρ, s, q⟩ := q
  refine ⟨F, ρ, s, Res.mono q.bind (fun ds he q F1 H1 vs t1 r1 => ?_) fun c _ z F' H' t => z F' H' t⟩
  obtain ⟨es, e, p⟩ := Res.opt q
  clear he
  unfold rng1 at e
  split at e
  · obtain ⟨z, e⟩ := if_some e
    cases e
    obtain ⟨v, A, rfl, r⟩ := Vw.one r1
    rw [r.1]
    exact ⟨_, rfl, by have := z.1; omega, by have := z.2; omega, p F1 H1 _ t1 wk_rng⟩
  · cases e
theorem ei_rng2 {tg a b : Expr} {fs : Env → R (List D)} {p pos : Pos} (hg : Gl X "range") (hm : X.mg "range" = none) (ha : EA X E W [a, b] fs) (hs : starEach [a, b] X.env = [(false, eval a X.env), (false, eval b X.env)] := by rfl) (hs2 : starEach [b] X.env = [(false, eval b X.env)] := by rfl) : EI X E W tg (.Call (.Name "range" p) [a, b] [] pos) (iA rng2 fs) := by
  refine ⟨pi_mono (pi_range2 hg hm ha.pa hs hs2) fun σ H P q => ?_⟩
  obtain ⟨F, ρ, s, q⟩ := q
  refine ⟨F, ρ, s, Res.mono q.bind (fun ds he q F1 H1 vs t1 r1 => ?_) fun c _ z F' H' t => z F' H' t⟩
  obtain ⟨es, e, p⟩ := Res.opt q
  clear he
  unfold rng2 at e
  split at e
  · obtain ⟨z, e⟩ := if_some e
    cases e
    obtain ⟨v, w, A, B, rfl, r, r2⟩ := Vw.two r1
    rw [r.1, r2.1]
    obtain ⟨⟨z1, z2⟩, z3, z4⟩ := z
    exact ⟨_, _, rfl, ⟨by omega, by omega, by omega, by omega⟩, p F1 H1 _ t1 wk_rng⟩
  · cases e

/-! ### for -/
def forL (g : D → Env → Option Env) (b : Env → SR) : List D → Env → SR
  | [], ρ => .nx ρ
  | d :: ds, ρ => match g d ρ with
    | none => .no
    | some ρ1 => match b ρ1 with
      | .nx ρ2 => forL g b ds ρ2
      | .ct ρ2 => forL g b ds ρ2
      | .bk ρ2 => .nx ρ2
      | r => r
def sFor (it : Env → R (List D)) (g : D → Env → Option Env) (b : Env → SR) : Env → SR := fun ρ => (it ρ).st ρ fun ds => forL g b ds ρ
@[simp] theorem sFor_eq (it : Env → R (List D)) (g : D → Env → Option Env) (b : Env → SR) (ρ : Env) : sFor it g b ρ = (it ρ).st ρ fun ds => forL g b ds ρ := rfl
@[simp] theorem forL_nil (g : D → Env → Option Env) (b : Env → SR) (ρ : Env) : forL g b [] ρ = .nx ρ := rfl
theorem forL_cons (g : D → Env → Option Env) (b : Env → SR) (d : D) (ds : List D) (ρ : Env) : forL g b (d :: ds) ρ = match g d ρ with
    | none => .no
    | some ρ1 => match b ρ1 with
      | .nx ρ2 => forL g b ds ρ2
      | .ct ρ2 => forL g b ds ρ2
      | .bk ρ2 => .nx ρ2
      | r => r := rfl
theorem ss_for {tg iter : Expr} {body : List Stmt} {it : Env → R (List D)} {g : D → Env → Option Env} {b : Env → SR} {pos : Pos} (hp : PassesOwn (model X.prog X.w) X.A X.env X.xe) (hc : X.calm = true) (hi : EI X E W tg iter it) (hg : EG X E tg g) (hb : SB X E W body b)
    (hs : ∀ x, foldedSetIterable iter X.env x = pure x := by intro _; rfl) : SS X E W (.For tg iter body [] pos) (sFor it g b) := by
  refine ⟨ps_mono (ps_for hp hc hi.pi hg.pg hb.ps hs) fun Z σ H h => ?_⟩
  obtain ⟨F, ρ, s, q⟩ := h
  refine ⟨F, ρ, s, Res.mono q.st (fun ds _ q F1 H1 J t1 wk => ?_) fun c _ z => SRes.exc s z⟩
  refine ⟨fun i m σ' H' => ∃ F' ρ', Ex F1 F' ∧ Stt E F' H' σ' ρ' ∧ i ≤ ds.length ∧ m = ds.length - i ∧ SRes E W F' Z (forL g b (ds.drop i) ρ'), ⟨_, F1, ρ, .refl _, s.tr t1, Nat.zero_le _, rfl, SRes.at q t1.ff⟩, ?_⟩
  rintro i m σ' H' ⟨F', ρ', x, s', hi, rfl, q'⟩
  by_cases hlt : i < ds.length
  · have ed : ds.drop i = ds[i] :: ds.drop (i + 1) := List.drop_eq_getElem_cons hlt
    rw [ed, forL_cons] at q'
    refine .inr ⟨wk.go i hlt F' H' x s'.fh, fun σ2 H2 => ∃ F2 ρ2, Ex F1 F2 ∧ Stt E F2 H2 σ2 ρ2 ∧ SRes E W F2 Z (forL g b (ds.drop (i + 1)) ρ2), ?_, fun v H2 y => ?_⟩
    · rintro σ2 H2 ⟨F2, ρ2, x2, s2, q2⟩
      exact ⟨_, by omega, F2, ρ2, x2, s2, hlt, rfl, q2⟩
    · obtain ⟨pd, F2, t2, r2⟩ := wk.yld i ds[i] (List.getElem?_eq_getElem hlt) F' H' v H2 x s'.fh y
      cases eg : g ds[i] ρ' with
      | none => rw [eg] at q'; exact q'.elim
      | some ρ1 =>
        rw [eg] at q'
        refine ⟨F2, ρ', ds[i], s'.tr t2, pd, r2, ρ1, eg, fun σ3 s3 => ⟨F2, ρ1, s3, ?_⟩⟩
        have x12 := x.trans t2.ff
        have q' : SRes E W F' Z (match b ρ1 with
          | .nx ρ2 => forL g b (ds.drop (i + 1)) ρ2
          | .ct ρ2 => forL g b (ds.drop (i + 1)) ρ2
          | .bk ρ2 => .nx ρ2
          | r => r) := q'
        cases eb : b ρ1 with
        | no => rw [eb] at q'; exact q'
        | nx ρ2 => rw [eb] at q'; exact fun F4 H4 σ4 x4 s4 => ⟨F4, ρ2, x12.trans x4, s4, SRes.at q' (t2.ff.trans x4)⟩
        | ct ρ2 => rw [eb] at q'; exact fun F4 H4 σ4 x4 s4 => ⟨F4, ρ2, x12.trans x4, s4, SRes.at q' (t2.ff.trans x4)⟩
        | bk ρ2 => rw [eb] at q'; exact fun F4 H4 σ4 x4 s4 => q' F4 H4 σ4 (t2.ff.trans x4) s4
        | rt d ρ2 => rw [eb] at q'; exact q'
        | ex c ρ2 => rw [eb] at q'; exact fun F4 H4 σ4 x4 s4 => q' F4 H4 σ4 (t2.ff.trans x4) s4
  · have e : i = ds.length := by omega
    subst e
    rw [List.drop_length, forL_nil] at q'
    exact .inl ⟨wk.stop F' H' x s'.fh, q' F' H' σ' (.refl _) s'⟩

/-! ### while -/
def whN (t : Env → R Bool) (b : Env → SR) : Nat → Env → SR
  | 0, _ => .no
  | n + 1, ρ => (t ρ).st ρ fun c => if c = true then (match b ρ with
      | .nx ρ2 => whN t b n ρ2
      | .ct ρ2 => whN t b n ρ2
      | .bk ρ2 => .nx ρ2
      | r => r) else .nx ρ
open Classical in
noncomputable def sWhile (t : Env → R Bool) (b : Env → SR) : Env → SR := fun ρ => if h : ∃ n, whN t b n ρ ≠ .no then whN t b h.choose ρ else .no
theorem whN_succ (t : Env → R Bool) (b : Env → SR) (n : Nat) (ρ : Env) : whN t b (n + 1) ρ = (t ρ).st ρ fun c => if c = true then (match b ρ with
      | .nx ρ2 => whN t b n ρ2
      | .ct ρ2 => whN t b n ρ2
      | .bk ρ2 => .nx ρ2
      | r => r) else .nx ρ := rfl
theorem whN_more (t : Env → R Bool) (b : Env → SR) : ∀ (n : Nat) (ρ : Env), whN t b n ρ ≠ .no → whN t b (n + 1) ρ = whN t b n ρ
  | 0, _, h => absurd rfl h
  | n + 1, ρ, h => by
    rw [whN_succ] at h
    rw [whN_succ t b (n + 1), whN_succ t b n]
    cases et : t ρ with
    | no => rfl
    | ex c => rfl
    | ok c =>
      rw [et] at h
      cases c with
      | false => rfl
      | true =>
        simp only [R.st_ok, if_true] at h ⊢
        cases eb : b ρ with
        | nx ρ2 => rw [eb] at h; exact whN_more t b n ρ2 h
        | ct ρ2 => rw [eb] at h; exact whN_more t b n ρ2 h
        | _ => rfl
theorem whN_le (t : Env → R Bool) (b : Env → SR) {n m : Nat} {ρ : Env} (h : whN t b n ρ ≠ .no) (l : n ≤ m) : whN t b m ρ = whN t b n ρ := by
  induction l with
  | refl => rfl
  | step l ih => rw [whN_more t b _ ρ (by rw [ih]; exact h), ih]
theorem sWhile_of (t : Env → R Bool) (b : Env → SR) {n : Nat} {ρ : Env} (h : whN t b n ρ ≠ .no) : sWhile t b ρ = whN t b n ρ := by
  have ex : ∃ n, whN t b n ρ ≠ .no := ⟨n, h⟩
  unfold sWhile
  rw [dif_pos ex]
  rcases Nat.le_total n ex.choose with l | l
  · exact whN_le t b h l
  · exact (whN_le t b ex.choose_spec l).symm
/-- one turn -/
theorem sWhile_eq (t : Env → R Bool) (b : Env → SR) (ρ : Env) : sWhile t b ρ = (t ρ).st ρ fun c => if c = true then (match b ρ with
      | .nx ρ2 => sWhile t b ρ2
      | .ct ρ2 => sWhile t b ρ2
      | .bk ρ2 => .nx ρ2
      | r => r) else .nx ρ := by
  have go : ∀ ρ2, (∀ n, whN t b n ρ2 = .no) → sWhile t b ρ2 = .no := fun ρ2 h => by
    unfold sWhile
    rw [dif_neg fun ⟨n, z⟩ => z (h n)]
  have key : ∀ (f : Nat → SR) (r : SR), (∀ n, whN t b (n + 1) ρ = f n) → (∀ n, f n ≠ .no → f n = r) → ((∀ n, f n = .no) → r = .no) → sWhile t b ρ = r := fun f r h1 h2 h3 => by
    by_cases hx : ∃ n, f n ≠ .no
    · obtain ⟨n, hn⟩ := hx
      rw [← h2 n hn, ← h1 n]
      exact sWhile_of t b (by rw [h1 n]; exact hn)
    · have all : ∀ n, f n = .no := fun n => Classical.byContradiction fun z => hx ⟨n, z⟩
      rw [h3 all]
      refine go ρ fun n => ?_
      cases n with
      | zero => rfl
      | succ n => rw [h1 n, all n]
  cases et : t ρ with
  | no => exact key (fun _ => .no) _ (fun n => by rw [whN_succ, et]; rfl) (fun n h => absurd rfl h) fun _ => rfl
  | ex c => exact key (fun _ => .ex c ρ) _ (fun n => by rw [whN_succ, et]; rfl) (fun n _ => rfl) fun h => h 0
  | ok c =>
    cases c with
    | false => exact key (fun _ => .nx ρ) _ (fun n => by rw [whN_succ, et]; rfl) (fun n _ => rfl) fun h => h 0
    | true =>
      simp only [R.st_ok, if_true]
      cases eb : b ρ with
      | nx ρ2 => exact key (fun n => whN t b n ρ2) _ (fun n => by rw [whN_succ, et, eb]; rfl) (fun n h => (sWhile_of t b h).symm) fun h => go ρ2 h
      | ct ρ2 => exact key (fun n => whN t b n ρ2) _ (fun n => by rw [whN_succ, et, eb]; rfl) (fun n h => (sWhile_of t b h).symm) fun h => go ρ2 h
      | no => exact key (fun n => .no) _ (fun n => by rw [whN_succ, et, eb]; rfl) (fun n h => absurd rfl h) fun _ => rfl
      | bk ρ2 => exact key (fun n => .nx ρ2) _ (fun n => by rw [whN_succ, et, eb]; rfl) (fun n _ => rfl) fun h => h 0
      | rt d ρ2 => exact key (fun n => .rt d ρ2) _ (fun n => by rw [whN_succ, et, eb]; rfl) (fun n _ => rfl) fun h => h 0
      | ex c ρ2 => exact key (fun n => .ex c ρ2) _ (fun n => by rw [whN_succ, et, eb]; rfl) (fun n _ => rfl) fun h => h 0
theorem ss_while {c : Expr} {body : List Stmt} {t : Env → R Bool} {b : Env → SR} {pos : Pos} (hp : PassesOwn (model X.prog X.w) X.A X.env X.xe) (hc : ET X E W c t) (hb : SB X E W body b) : SS X E W (.While c body [] pos) (sWhile t b) := by
  refine ⟨ps_mono (ps_while hp hc.pt hb.ps) fun Z σ H h => ?_⟩
  obtain ⟨F, ρ, s, q⟩ := h
  have ex : ∃ n, sWhile t b ρ = whN t b n ρ := by
    by_cases h : ∃ n, whN t b n ρ ≠ .no
    · obtain ⟨n, h⟩ := h
      exact ⟨n, sWhile_of t b h⟩
    · refine ⟨0, ?_⟩
      unfold sWhile
      rw [dif_neg h]
      rfl
  obtain ⟨n, en⟩ := ex
  rw [en] at q
  refine ⟨fun m σ' H' => ∃ F' ρ', Stt E F' H' σ' ρ' ∧ SRes E W F' Z (whN t b m ρ'), ⟨n, F, ρ, s, q⟩, ?_⟩
  rintro m σ' H' ⟨F', ρ', s', q'⟩
  cases m with
  | zero => exact q'.elim
  | succ m =>
    rw [whN_succ] at q'
    refine ⟨F', ρ', s', Res.mono q'.st (fun k _ q F1 H1 t1 => ?_) fun c _ z => SRes.exc s' z⟩
    cases k with
    | false => exact q F1 H1 σ' t1.ff (s'.tr t1)
    | true =>
      rw [if_pos rfl]
      refine ⟨fun σ2 H2 => ∃ F2 ρ2, Stt E F2 H2 σ2 ρ2 ∧ SRes E W F2 Z (whN t b m ρ2), fun σ2 H2 h => ⟨m, by omega, h⟩, F1, ρ', s'.tr t1, ?_⟩
      have q : SRes E W F' Z (match b ρ' with
          | .nx ρ2 => whN t b m ρ2
          | .ct ρ2 => whN t b m ρ2
          | .bk ρ2 => .nx ρ2
          | r => r) := q
      cases eb : b ρ' with
      | no => rw [eb] at q; exact q
      | nx ρ2 => rw [eb] at q; exact fun F4 H4 σ4 x4 s4 => ⟨F4, ρ2, s4, SRes.at q (t1.ff.trans x4)⟩
      | ct ρ2 => rw [eb] at q; exact fun F4 H4 σ4 x4 s4 => ⟨F4, ρ2, s4, SRes.at q (t1.ff.trans x4)⟩
      | bk ρ2 => rw [eb] at q; exact fun F4 H4 σ4 x4 s4 => q F4 H4 σ4 (t1.ff.trans x4) s4
      | rt d ρ2 => rw [eb] at q; exact q
      | ex c ρ2 => rw [eb] at q; exact fun F4 H4 σ4 x4 s4 => q F4 H4 σ4 (t1.ff.trans x4) s4
end
end Dv
end
section
set_option maxRecDepth 100000
set_option maxHeartbeats 1000000
namespace Dv
open PySem PySem.Spec PyProof.Rows L2

/-! ### a def -/
def SR.out : SR → R D
  | .rt d _ => .ok d
  | .nx _ => .ok .non
  | .ex c _ => .ex c
  | _ => .no
@[simp] theorem SR.out_rt (d : D) (ρ : Env) : (SR.rt d ρ).out = .ok d := rfl
@[simp] theorem SR.out_nx (ρ : Env) : (SR.nx ρ).out = .ok .non := rfl
@[simp] theorem SR.out_ex (c : Nat) (ρ : Env) : (SR.ex c ρ).out = .ex c := rfl
@[simp] theorem SR.out_no : SR.no.out = .no := rfl
/-- the meaning of a def: n parameters, m slots -/
def fnD (n m : Nat) (b : Env → SR) : List D → R D := fun ds => if ds.length = n then (b (ds.map some ++ List.replicate (m - n) none)).out else .no
theorem rp_start {k : Kx} {F H : Hp} {ds : List D} {vs : List V} (r : RpL k F H ds vs []) (m : Nat) (i : Nat) (d : D) (e : (ds.map some ++ List.replicate m none)[i]? = some (some d)) : ∃ v, (vs.map some ++ List.replicate m (none : Option V))[i]? = some (some v) ∧ Rp k F H d v [] := by
  have hl := r.len
  by_cases hi : i < ds.length
  · rw [List.getElem?_append_left (by rw [List.length_map]; exact hi), List.getElem?_map] at e
    cases q : ds[i]? with
    | none => rw [q] at e; cases e
    | some d' =>
      rw [q] at e
      cases e
      obtain ⟨v, h1, h2⟩ := r.get0 q
      exact ⟨v, by rw [List.getElem?_append_left (by rw [List.length_map, ← hl]; exact hi), List.getElem?_map, h1]; rfl, h2⟩
  · rw [List.getElem?_append_right (by rw [List.length_map]; omega)] at e
    have := List.mem_of_getElem? e
    rw [List.mem_replicate] at this
    cases this.2
section
variable {P : Program} {w : World} {K : PySem.W.Frag} {mg : Str → Option Value} {base : Heap}
theorem Stt.toTr {E : En} {F H : Hp} {σ : L2.St} {ρ : Env} (hB : E.B = []) (s : Stt E F H σ ρ) : Tr E.F0 E.He F H :=
  ⟨s.e0.ex, fun a o e => s.st a o e (by rw [hB]; exact fun z => nomatch z), s.fh, s.fr⟩
theorem Fin.toTr {E : En} {F H : Hp} {d : D} {v : V} (hB : E.B = []) (s : Fin E F H d v) : Tr E.F0 E.He F H :=
  ⟨s.e0.ex, fun a o e => s.st a o e (by rw [hB]; exact fun z => nomatch z), s.fh, s.fr⟩
/-- a def without borrowed arguments, at its entry -/
abbrev En0 (kx : Kx) (ec : Nat → Value) (He F0 : Hp) (v0 : L2.St) : En := ⟨kx, ec, He, F0, [], [], v0⟩
/-- as Fun.okX, the code object told -/
theorem fun_okC {x qual : Str} {st : Stmt} {f : Addr} {fd : FuncData} {N ps : List Str} {k : Nat} {sp : Sp} (G : Fun K x qual st f fd) (S : FnScope N ps (defScope st)) (len : ∀ vs H Q E, sp vs H Q E → vs.length = ps.length)
    (hb : ∀ (cdv : Value) (A : Around) (outer : List PySem.Env) (s : Shared) (H : Hp) (vs : List V) (Q : VK) (E : XK), fd.code = cdv → Room k (A.deeper (envOfC qual (defScope st) s.heap.objs.size f cdv)) → sp vs H Q E →
      ∃ t, PSs (cxOf (L2.CX P w) P w K mg base N qual (defScope st) f cdv A outer s H E) (defBody st) t ∧ t { nx := fun _ H' => Q .non H', rt := Q } (L2.start N vs) H) : FnOk P w K mg base (L2.CX P w) (k + 1) f fd ps sp := by
  obtain ⟨oc, od, kV, doc, pm, an, cdv, ct, osl, e, lk, hcd⟩ := G.ex
  subst e
  exact fn_of lk hcd S len fun A outer s H vs Q E hr h => hb cdv A outer s H vs Q E rfl hr h
theorem fn_ok {x qual : Str} {st : Stmt} {f : Addr} {fd : FuncData} {N ps : List Str} (k n m : Nat) (kx : Kx) (ec : Nat → Value) {b : Env → SR} (hn : ps.length = n) (hm : N.length = m) (G : Fun K x qual st f fd) (S : FnScope N ps (defScope st))
    (hbody : ∀ (cdv : Value) (A : Around) (outer : List PySem.Env) (s : Shared) (H : Hp) (Ew : XK) (He F0 : Hp) (v0 : L2.St) (W : WX), Room k (A.deeper (envOfC qual (defScope st) s.heap.objs.size f cdv)) →
      Takes (cxOf (L2.CX P w) P w K mg base N qual (defScope st) f cdv A outer s H Ew) W → PassesOwn (model P w) (cxOf (L2.CX P w) P w K mg base N qual (defScope st) f cdv A outer s H Ew).A (cxOf (L2.CX P w) P w K mg base N qual (defScope st) f cdv A outer s H Ew).env (cxOf (L2.CX P w) P w K mg base N qual (defScope st) f cdv A outer s H Ew).xe →
      fd.code = cdv → SB (cxOf (L2.CX P w) P w K mg base N qual (defScope st) f cdv A outer s H Ew) (En0 kx ec He F0 v0) W (defBody st) b) :
    FnOk P w K mg base (L2.CX P w) (k + 1) f fd ps (spD kx ec n (fnD n m b)) := by
  subst hn hm
  refine fun_okC G S (fun vs H Q E h => spD_len h) fun cdv A outer s H vs Q Ew hcd hr h => ?_
  obtain ⟨F, ds, x, tb, r, p, l, h⟩ := h
  have sb := hbody cdv A outer s H Ew H F (L2.start N vs) (fun cls d _ H => Ew cls d H) hr (takes_of rfl rfl rfl rfl) (passes_of rfl) hcd
  refine ⟨_, sb.ps, F, ds.map some ++ List.replicate (N.length - ps.length) none, ?_, ?_⟩
  · have hl := r.len
    refine ⟨⟨.refl _, tb⟩, x, fun a e _ => e, fun a o e _ => e, (fun a z => nomatch z), ?_, (fun i z => nomatch z), fun _ => [], fun i d e => ?_, fun _ _ => rfl, fun _ => .nil, (fun _ _ _ z => nomatch z), (fun _ _ z => nomatch z)⟩
    · unfold L2.start
      rw [List.length_append, List.length_append, List.length_map, List.length_map, List.length_replicate, List.length_replicate, ← hl, l]
    · unfold L2.start
      rw [← hl, l]
      exact rp_start r _ i d e
  · unfold fnD at h
    rw [if_pos l] at h
    cases eb : b (ds.map some ++ List.replicate (N.length - ps.length) none) with
    | no => rw [eb] at h; exact h.elim
    | bk ρ => rw [eb] at h; exact h.elim
    | ct ρ => rw [eb] at h; exact h.elim
    | nx ρ => rw [eb] at h; exact fun F' H' σ _ s' => h F' H' .non [] (s'.toTr rfl) ⟨rfl, rfl⟩ .nil fun _ z => nomatch z
    | rt d ρ =>
      rw [eb] at h
      intro F' H' σ v s' fn _
      obtain ⟨A', r', nd, u⟩ := fn.rp
      exact h F' H' v A' (fn.toTr rfl) r' nd u
    | ex c ρ => rw [eb] at h; exact fun F' H' σ _ s' => h F' H' (s'.toTr rfl)
/-- a module's constant as data -/
def Glob (kx : Kx) (mg : Str → Option Value) (x : Str) (d : D) : Prop := ∃ u v, mg x = some u ∧ RelV v u ∧ ∀ F H, Rp kx F H d v []
theorem glob_int {kx : Kx} {mg : Str → Option Value} {x : Str} {i : Int} {t : Tok} (h : mg x = some (.int i t)) : Glob kx mg x (.int i) := ⟨_, .int i, h, ⟨_, rfl⟩, fun _ _ => ⟨rfl, rfl⟩⟩
theorem glob_str {kx : Kx} {mg : Str → Option Value} {x : Str} {i : Str} {t : Tok} (h : mg x = some (.str i t)) : Glob kx mg x (.str i) := ⟨_, .str i, h, ⟨_, rfl⟩, fun _ _ => ⟨rfl, rfl⟩⟩
theorem eo_g {X : Cx} {E : En} {W : WX} {x : Str} {d : D} {pos : Pos} (hg : Gl X x) (h : Glob E.k X.mg x d) (hd : (x == ("__debug__" : Str)) = false := by decide) : EO X E W (.Name x pos) (eC d) :=
  let ⟨_, _, hm, r, rp⟩ := h
  eo_glob hg hm r rp hd
/-- a weaker meaning -/
theorem FnOk.den {kx : Kx} {ec : Nat → Value} {n k : Nat} {f : Addr} {fd : FuncData} {ps : List Str} {g g' : List D → R D} (G : FnOk P w K mg base (L2.CX P w) k f fd ps (spD kx ec n g)) (h : ∀ ds, g' ds ≠ .no → g ds = g' ds) : FnOk P w K mg base (L2.CX P w) k f fd ps (spD kx ec n g') :=
  G.imp fun vs H Q E ⟨F, ds, x, tb, r, p, l, q⟩ => ⟨F, ds, x, tb, r, p, l, by
    have : g' ds ≠ .no := fun z => by rw [z] at q; exact q.elim
    rw [h ds this]; exact q⟩
end

section
variable {X : Cx} {E : En} {W : WX}
/-! ### raise -/
/-- an own exception class without an __init__ -/
structure ExF (K : PySem.W.Frag) (mg : Str → Option Value) (x : Str) (C : Addr) : Prop where
  g : mg x = some (.ref C)
  k : PySem.W.keepIn K (.ref C) = true
  x : PySem.W.excIn K C [.type "ValueError", .type "Exception", .type "BaseException", .type "object"] "ValueError.__new__" = true
  b : PySem.W.subIn K (.ref C) (.type "BaseException") = some true
  t : PySem.W.typeIn K (.ref C) = some (.type "type")
def sRaise (c : Nat) : Env → SR := fun ρ => .ex c ρ
@[simp] theorem sRaise_eq (c : Nat) (ρ : Env) : sRaise c ρ = .ex c ρ := rfl
theorem ss_raise {c : Nat} {C : Addr} {x m : Str} {j : Nat} {p p2 pos pos2 : Pos} (T : ExF X.K X.mg x C) (hE : E.ec c = .ref C) (hc : X.calm = true) (tk : Takes X W) (hg : Gl X x) (hdb : (x == ("__debug__" : Str)) = false := by decide) :
    SS X E W (.Raise (some (.Call (.Name x p) [.Constant (.str m) j p2] [] pos)) none pos2) (sRaise c) := by
  refine ⟨ps_mono (ps_raise hc tk (pmk_own PySem.F.excBase_ValueError T.x T.g T.k (raises_own T.b T.t) hg hdb)) fun Z σ H h => ?_⟩
  obtain ⟨F, ρ, s, q⟩ := h
  show W (.ref C) none σ H
  rw [← hE]
  exact q F H σ (.refl _) s

/-! ### lists that change -/
theorem lstO {F H : Hp} {xs : List D} {v : V} {A : List Addr} (h : Rp E.k F H (.lst true xs) v A) : ∃ l vs B, v = .ref l ∧ A = l :: B ∧ F l = none ∧ H l = some (.lst vs) ∧ RpL E.k F H xs vs B := by
  obtain ⟨a, vs, B, e, r, _, h2⟩ := h
  exact ⟨a, vs, B, e, (h2 rfl).1, (h2 rfl).2.1, (h2 rfl).2.2, r⟩
theorem RpL.upd {k : Kx} {F H : Hp} {ds : List D} {vs : List V} {A : List Addr} {l : Addr} {o : HO} (r : RpL k F H ds vs A) (n : l ∉ A) : RpL k F (upd H l o) ds vs A :=
  RpL.mono (.refl _) ds vs A (fun a ha o2 e2 m => ⟨by rw [upd_ne fun z => n (by rw [← z]; exact ha)]; exact e2, m⟩) r
theorem Rp.upd {k : Kx} {F H : Hp} {d : D} {v : V} {A : List Addr} {l : Addr} {o : HO} (r : Rp k F H d v A) (n : l ∉ A) : Rp k F (upd H l o) d v A :=
  Rp.mono (.refl _) d v A (fun a ha o2 e2 m => ⟨by rw [upd_ne fun z => n (by rw [← z]; exact ha)]; exact e2, m⟩) r
/-- the list in slot i becomes another one -/
def onL (i : Nat) (ρ : Env) (k : List D → SR) : SR := match ρ[i]?.getD none with
  | some (.lst true xs) => k xs
  | _ => .no
theorem onL_eq (i : Nat) (ρ : Env) (k : List D → SR) : onL i ρ k = match ρ[i]?.getD none with
  | some (.lst true xs) => k xs
  | _ => .no := rfl
theorem onL_of {F : Hp} {Z : Ends} {i : Nat} {ρ : Env} {k : List D → SR} (h : SRes E W F Z (onL i ρ k)) : ∃ xs, ρ[i]? = some (some (.lst true xs)) ∧ SRes E W F Z (k xs) := by
  unfold onL at h
  split at h
  · rename_i xs e
    exact ⟨xs, some_some e, h⟩
  · exact h.elim
theorem SRes.onL {F H : Hp} {Z : Ends} {i : Nat} {ρ : Env} {k : List D → SR} (h : SRes E W F Z (onL i ρ k)) : ∃ xs, ρ[i]? = some (some (.lst true xs)) ∧ SRes E W F Z (k xs) := onL_of h
/-- name.append(e) -/
def sApp (i : Nat) (f : Env → R D) : Env → SR := fun ρ => onL i ρ fun xs => (f ρ).st ρ fun d => if xs.length < 16777216 then .nx (ρ.set i (some (.lst true (xs ++ [d])))) else .no
@[simp] theorem sApp_eq (i : Nat) (f : Env → R D) (ρ : Env) : sApp i f ρ = onL i ρ fun xs => (f ρ).st ρ fun d => if xs.length < 16777216 then .nx (ρ.set i (some (.lst true (xs ++ [d])))) else .no := rfl
theorem res_ok {α : Type} {r : R α} {P : α → Prop} {Ew : Nat → Prop} (h : Res r P Ew) : (∃ a, r = .ok a ∧ P a) ∨ ∃ c, r = .ex c ∧ Ew c := by
  cases r with
  | no => exact h.elim
  | ok a => exact .inl ⟨a, rfl, h⟩
  | ex c => exact .inr ⟨c, rfl, h⟩
theorem ty_lst {k : Kx} {K : PySem.W.Frag} {F H : Hp} {o : Bool} {xs : List D} {v : V} {A : List Addr} (fh : Ex F H) (r : Rp k F H (.lst o xs) v A) : tyV K "list" v H := by
  obtain ⟨a, vs, B, rfl, e, _⟩ := Rp.lstW fh r
  exact .inl ⟨rfl, vs, .inl (.inl e)⟩
theorem ss_app {i : Nat} {o e : Expr} {f : Env → R D} {apos cpos pos : Pos} (ho : PE X o (tVar i)) (h : EO X E W e f) (hs : swapsWith (.Call (.Attribute o "append" apos) [e] [] cpos) none pos.line X.env = pure false := by rfl)
    (hbase : attributeBase o "append" X.env (eval o X.env) = eval o X.env := by rfl)
    (hfew : ((backTo cpos (starEach [e] X.env)).all (fun x => !x.1) && (backToKw cpos (keywordEach [] X.env)).all (fun x => x.1.isSome)
      && decide ([e].length + ([] : List Keyword).length + (if ([] : List Keyword).isEmpty then 0 else 1) < 30)) = true := by rfl)
    (hline : (apos.endLine == cpos.line) = true := by rfl) (hst : starEach [e] X.env = (false, eval e X.env) :: starEach [] X.env := by rfl) (hplain : (backTo cpos (starEach [] X.env)).any (·.1) = false := by rfl) :
    SS X E W (.Expr (.Call (.Attribute o "append" apos) [e] [] cpos) pos) (sApp i f) := by
  refine ⟨ps_mono (ps_expr (pe_bm PySem.F.plainAttrs_list PySem.F.slot_list_append PySem.F.type_list_append mt_append ho (pa_cons h.pe pa_nil hst) hbase hfew hline hst hplain) hs) fun Z σ H h => ?_⟩
  obtain ⟨F, ρ, s, q⟩ := h
  obtain ⟨xs, e, q⟩ := onL_of q
  obtain ⟨fp, sl⟩ := s.sl
  obtain ⟨v, ev, r⟩ := sl.rp i _ e
  refine ⟨v, ev, ty_lst s.fh r, F, ρ, s, Res.mono q.st (fun d _ q F1 H1 w A t1 r1 nd u => ?_) fun c _ z => SRes.exc s z⟩
  by_cases hz : xs.length < 16777216
  · rw [if_pos hz] at q
    have s1 := s.tr t1
    have sl1 : Sl E F1 H1 σ ρ fp := ⟨fun j d e => let ⟨v, ev, r⟩ := sl.rp j d e; ⟨v, ev, r.tr t1⟩, sl.em, sl.nd, sl.dj, sl.nw⟩
    obtain ⟨l, vs, B, rfl, eA, fl, hl, rl⟩ := lstO (r.tr t1)
    have lfp : l ∈ fp i := by rw [eA]; exact List.mem_cons_self
    have new : ∀ a ∈ A, E.He a = none ∧ ∀ j, a ∉ fp j := fun a ha => ⟨s.new (u a ha), fun j hj => (sl.there hj).2 (u a ha)⟩
    have lA : l ∉ A := fun z => (new l z).2 i lfp
    have ndi := sl.nd i
    rw [eA] at ndi
    have lB : l ∉ B := (List.nodup_cons.mp ndi).1
    refine ⟨l, vs, w, rfl, rfl, hl, Nat.lt_of_lt_of_eq (by rw [← rl.len]; exact hz) sizeLine_eq.symm, q F1 _ σ t1.ff ?_⟩
    refine s1.write sl1 (v := .ref l) (A' := l :: (B ++ A)) lfp ev ⟨l, vs ++ [w], B ++ A, rfl, (rl.upd lB).append (RpL.one (r1.upd lA)), (fun z => nomatch z), fun _ => ⟨rfl, fl, upd_same⟩⟩ ?_ fun a ha => ?_
    · refine List.nodup_cons.mpr ⟨fun z => (List.mem_append.mp z).elim lB lA, List.nodup_append.mpr ⟨(List.nodup_cons.mp ndi).2, nd, fun a ha b hb z => ?_⟩⟩
      subst z
      exact (new a hb).2 i (by rw [eA]; exact List.mem_cons_of_mem _ ha)
    · rcases List.mem_cons.mp ha with rfl | ha
      · exact .inl lfp
      · rcases List.mem_append.mp ha with ha | ha
        · exact .inl (by rw [eA]; exact List.mem_cons_of_mem _ ha)
        · exact .inr (new a ha)
  · rw [if_neg hz] at q
    exact q.elim
end
end Dv
end
section
set_option maxRecDepth 100000
set_option maxHeartbeats 1000000
namespace Dv
open PySem PySem.Spec PyProof.Rows L2
/-! ### facts for simp -/
@[simp] theorem isi_int_non  : isiD "int" .non = .ok (.bl false) := isiD_of (fun _ _ _ z => nomatch z) (by show kitB "NoneType" "int" = some false; decide +kernel)
@[simp] theorem isi_int_bl (b : Bool) : isiD "int" (.bl b) = .ok (.bl true) := isiD_of (fun _ _ _ z => nomatch z) (by show kitB "bool" "int" = some true; decide +kernel)
@[simp] theorem isi_int_int (i : Int) : isiD "int" (.int i) = .ok (.bl true) := isiD_of (fun _ _ _ z => nomatch z) (by show kitB "int" "int" = some true; decide +kernel)
@[simp] theorem isi_int_str (x : Str) : isiD "int" (.str x) = .ok (.bl false) := isiD_of (fun _ _ _ z => nomatch z) (by show kitB "str" "int" = some false; decide +kernel)
@[simp] theorem isi_int_tup (xs : List D) : isiD "int" (.tup xs) = .ok (.bl false) := isiD_of (fun _ _ _ z => nomatch z) (by show kitB "tuple" "int" = some false; decide +kernel)
@[simp] theorem isi_int_lst (o : Bool) (xs : List D) : isiD "int" (.lst o xs) = .ok (.bl false) := isiD_of (fun _ _ _ z => nomatch z) (by show kitB "list" "int" = some false; decide +kernel)
@[simp] theorem isi_bool_non  : isiD "bool" .non = .ok (.bl false) := isiD_of (fun _ _ _ z => nomatch z) (by show kitB "NoneType" "bool" = some false; decide +kernel)
@[simp] theorem isi_bool_bl (b : Bool) : isiD "bool" (.bl b) = .ok (.bl true) := isiD_of (fun _ _ _ z => nomatch z) (by show kitB "bool" "bool" = some true; decide +kernel)
@[simp] theorem isi_bool_int (i : Int) : isiD "bool" (.int i) = .ok (.bl false) := isiD_of (fun _ _ _ z => nomatch z) (by show kitB "int" "bool" = some false; decide +kernel)
@[simp] theorem isi_bool_str (x : Str) : isiD "bool" (.str x) = .ok (.bl false) := isiD_of (fun _ _ _ z => nomatch z) (by show kitB "str" "bool" = some false; decide +kernel)
@[simp] theorem isi_bool_tup (xs : List D) : isiD "bool" (.tup xs) = .ok (.bl false) := isiD_of (fun _ _ _ z => nomatch z) (by show kitB "tuple" "bool" = some false; decide +kernel)
@[simp] theorem isi_bool_lst (o : Bool) (xs : List D) : isiD "bool" (.lst o xs) = .ok (.bl false) := isiD_of (fun _ _ _ z => nomatch z) (by show kitB "list" "bool" = some false; decide +kernel)
@[simp] theorem isi_str_non  : isiD "str" .non = .ok (.bl false) := isiD_of (fun _ _ _ z => nomatch z) (by show kitB "NoneType" "str" = some false; decide +kernel)
@[simp] theorem isi_str_bl (b : Bool) : isiD "str" (.bl b) = .ok (.bl false) := isiD_of (fun _ _ _ z => nomatch z) (by show kitB "bool" "str" = some false; decide +kernel)
@[simp] theorem isi_str_int (i : Int) : isiD "str" (.int i) = .ok (.bl false) := isiD_of (fun _ _ _ z => nomatch z) (by show kitB "int" "str" = some false; decide +kernel)
@[simp] theorem isi_str_str (x : Str) : isiD "str" (.str x) = .ok (.bl true) := isiD_of (fun _ _ _ z => nomatch z) (by show kitB "str" "str" = some true; decide +kernel)
@[simp] theorem isi_str_tup (xs : List D) : isiD "str" (.tup xs) = .ok (.bl false) := isiD_of (fun _ _ _ z => nomatch z) (by show kitB "tuple" "str" = some false; decide +kernel)
@[simp] theorem isi_str_lst (o : Bool) (xs : List D) : isiD "str" (.lst o xs) = .ok (.bl false) := isiD_of (fun _ _ _ z => nomatch z) (by show kitB "list" "str" = some false; decide +kernel)
@[simp] theorem isi_tuple_non  : isiD "tuple" .non = .ok (.bl false) := isiD_of (fun _ _ _ z => nomatch z) (by show kitB "NoneType" "tuple" = some false; decide +kernel)
@[simp] theorem isi_tuple_bl (b : Bool) : isiD "tuple" (.bl b) = .ok (.bl false) := isiD_of (fun _ _ _ z => nomatch z) (by show kitB "bool" "tuple" = some false; decide +kernel)
@[simp] theorem isi_tuple_int (i : Int) : isiD "tuple" (.int i) = .ok (.bl false) := isiD_of (fun _ _ _ z => nomatch z) (by show kitB "int" "tuple" = some false; decide +kernel)
@[simp] theorem isi_tuple_str (x : Str) : isiD "tuple" (.str x) = .ok (.bl false) := isiD_of (fun _ _ _ z => nomatch z) (by show kitB "str" "tuple" = some false; decide +kernel)
@[simp] theorem isi_tuple_tup (xs : List D) : isiD "tuple" (.tup xs) = .ok (.bl true) := isiD_of (fun _ _ _ z => nomatch z) (by show kitB "tuple" "tuple" = some true; decide +kernel)
@[simp] theorem isi_tuple_lst (o : Bool) (xs : List D) : isiD "tuple" (.lst o xs) = .ok (.bl false) := isiD_of (fun _ _ _ z => nomatch z) (by show kitB "list" "tuple" = some false; decide +kernel)
@[simp] theorem isi_list_non  : isiD "list" .non = .ok (.bl false) := isiD_of (fun _ _ _ z => nomatch z) (by show kitB "NoneType" "list" = some false; decide +kernel)
@[simp] theorem isi_list_bl (b : Bool) : isiD "list" (.bl b) = .ok (.bl false) := isiD_of (fun _ _ _ z => nomatch z) (by show kitB "bool" "list" = some false; decide +kernel)
@[simp] theorem isi_list_int (i : Int) : isiD "list" (.int i) = .ok (.bl false) := isiD_of (fun _ _ _ z => nomatch z) (by show kitB "int" "list" = some false; decide +kernel)
@[simp] theorem isi_list_str (x : Str) : isiD "list" (.str x) = .ok (.bl false) := isiD_of (fun _ _ _ z => nomatch z) (by show kitB "str" "list" = some false; decide +kernel)
@[simp] theorem isi_list_tup (xs : List D) : isiD "list" (.tup xs) = .ok (.bl false) := isiD_of (fun _ _ _ z => nomatch z) (by show kitB "tuple" "list" = some false; decide +kernel)
@[simp] theorem isi_list_lst (o : Bool) (xs : List D) : isiD "list" (.lst o xs) = .ok (.bl true) := isiD_of (fun _ _ _ z => nomatch z) (by show kitB "list" "list" = some true; decide +kernel)
@[simp] theorem pure_non  : D.pure .non = true := rfl
@[simp] theorem cold_non  : D.cold .non = true := rfl
@[simp] theorem noFz_non  : D.noFz .non = true := rfl
@[simp] theorem frz_non  : D.frz .non = .non := rfl
@[simp] theorem lay_non (n : Nat)  : D.lay n .non = true := by cases n <;> rfl
@[simp] theorem pure_bl (b : Bool) : D.pure (.bl b) = true := rfl
@[simp] theorem cold_bl (b : Bool) : D.cold (.bl b) = true := rfl
@[simp] theorem noFz_bl (b : Bool) : D.noFz (.bl b) = true := rfl
@[simp] theorem frz_bl (b : Bool) : D.frz (.bl b) = (.bl b) := rfl
@[simp] theorem lay_bl (n : Nat) (b : Bool) : D.lay n (.bl b) = true := by cases n <;> rfl
@[simp] theorem pure_int (i : Int) : D.pure (.int i) = true := rfl
@[simp] theorem cold_int (i : Int) : D.cold (.int i) = true := rfl
@[simp] theorem noFz_int (i : Int) : D.noFz (.int i) = true := rfl
@[simp] theorem frz_int (i : Int) : D.frz (.int i) = (.int i) := rfl
@[simp] theorem lay_int (n : Nat) (i : Int) : D.lay n (.int i) = true := by cases n <;> rfl
@[simp] theorem pure_str (x : Str) : D.pure (.str x) = true := rfl
@[simp] theorem cold_str (x : Str) : D.cold (.str x) = true := rfl
@[simp] theorem noFz_str (x : Str) : D.noFz (.str x) = true := rfl
@[simp] theorem frz_str (x : Str) : D.frz (.str x) = (.str x) := rfl
@[simp] theorem lay_str (n : Nat) (x : Str) : D.lay n (.str x) = PyData.strOk x := by cases n <;> rfl
@[simp] theorem pure_tup (xs : List D) : D.pure (.tup xs) = D.pureL xs := rfl
@[simp] theorem pure_lst (o : Bool) (xs : List D) : D.pure (.lst o xs) = (!o && D.pureL xs) := rfl
@[simp] theorem pure_scr (xs : List D) : D.pure (.scr xs) = D.pureL xs := rfl
@[simp] theorem cold_tup (xs : List D) : D.cold (.tup xs) = D.coldL xs := rfl
@[simp] theorem cold_lst (o : Bool) (xs : List D) : D.cold (.lst o xs) = D.coldL xs := rfl
@[simp] theorem cold_scr (xs : List D) : D.cold (.scr xs) = D.coldL xs := rfl
@[simp] theorem frz_tup (xs : List D) : D.frz (.tup xs) = .tup (D.frzL xs) := rfl
@[simp] theorem frz_lst (o : Bool) (xs : List D) : D.frz (.lst o xs) = .lst false (D.frzL xs) := rfl
@[simp] theorem frz_scr (xs : List D) : D.frz (.scr xs) = .scr (D.frzL xs) := rfl
@[simp] theorem noFz_tup (xs : List D) : D.noFz (.tup xs) = D.noFzL xs := rfl
@[simp] theorem noFz_lst (o : Bool) (xs : List D) : D.noFz (.lst o xs) = (o && D.noFzL xs) := rfl
@[simp] theorem lay_tup (n : Nat) (xs : List D) : D.lay (n + 1) (.tup xs) = D.layL n xs := rfl
@[simp] theorem lay_lst (n : Nat) (o : Bool) (xs : List D) : D.lay (n + 1) (.lst o xs) = D.layL n xs := rfl
@[simp] theorem pureL_nil : D.pureL [] = true := rfl
@[simp] theorem pureL_cons (x : D) (xs : List D) : D.pureL (x :: xs) = (x.pure && D.pureL xs) := rfl
@[simp] theorem coldL_nil : D.coldL [] = true := rfl
@[simp] theorem coldL_cons (x : D) (xs : List D) : D.coldL (x :: xs) = (x.cold && D.coldL xs) := rfl
@[simp] theorem frzL_nil : D.frzL [] = [] := rfl
@[simp] theorem frzL_cons (x : D) (xs : List D) : D.frzL (x :: xs) = x.frz :: D.frzL xs := rfl
@[simp] theorem noFzL_nil : D.noFzL [] = true := rfl
@[simp] theorem noFzL_cons (x : D) (xs : List D) : D.noFzL (x :: xs) = (x.noFz && D.noFzL xs) := rfl
@[simp] theorem layL_nil (n : Nat) : D.layL n [] = true := rfl
@[simp] theorem layL_cons (n : Nat) (x : D) (xs : List D) : D.layL n (x :: xs) = (x.lay n && D.layL n xs) := rfl
@[simp] theorem asOwn_eq (f : Env → R D) (ρ : Env) : asOwn f ρ = (f ρ).bind fun d => if d.pure then .ok d else .no := rfl
/-! ints in a list -/
def dInts (ns : List Int) : List D := ns.map D.int
@[simp] theorem dInts_nil : dInts [] = [] := rfl
@[simp] theorem dInts_cons (n : Int) (ns : List Int) : dInts (n :: ns) = .int n :: dInts ns := rfl
@[simp] theorem dInts_len (ns : List Int) : (dInts ns).length = ns.length := List.length_map _
@[simp] theorem dInts_app (ns ms : List Int) : dInts ns ++ dInts ms = dInts (ns ++ ms) := (List.map_append ..).symm
@[simp] theorem dInts_app1 (ns : List Int) (m : Int) : dInts ns ++ [.int m] = dInts (ns ++ [m]) := dInts_app ns [m]
@[simp] theorem dInts_pure : ∀ ns : List Int, D.pureL (dInts ns) = true
  | [] => rfl
  | n :: ns => by rw [dInts_cons, pureL_cons, dInts_pure ns]; rfl
@[simp] theorem dInts_cold (ns : List Int) : D.coldL (dInts ns) = true := D.pureL_cold _ (dInts_pure ns)
@[simp] theorem dInts_frz (ns : List Int) : D.frzL (dInts ns) = dInts ns := D.pureL_frzL _ (dInts_pure ns)
@[simp] theorem dInts_noFz : ∀ ns : List Int, D.noFzL (dInts ns) = true
  | [] => rfl
  | n :: ns => by rw [dInts_cons, noFzL_cons, dInts_noFz ns]; rfl
@[simp] theorem dInts_lay (k : Nat) : ∀ ns : List Int, D.layL k (dInts ns) = true
  | [] => rfl
  | n :: ns => by rw [dInts_cons, layL_cons, dInts_lay k ns, lay_int]; rfl
@[simp] theorem dInts_get (ns : List Int) (i : Nat) : (dInts ns)[i]? = (ns[i]?).map D.int := List.getElem?_map ..
@[simp] theorem dInts_at (ns : List Int) (i : Nat) (h : i < (dInts ns).length) : (dInts ns)[i] = .int (ns[i]'(by rw [dInts_len] at h; exact h)) := List.getElem_map ..
theorem dInts_drop (ns : List Int) (i : Nat) : (dInts ns).drop i = dInts (ns.drop i) := (List.map_drop ..).symm
theorem dInts_take (ns : List Int) (i : Nat) : (dInts ns).take i = dInts (ns.take i) := (List.map_take ..).symm
@[simp] theorem dInts_cut (ns : List Int) (lo hi : Option Int) : cutD (dInts ns) lo hi = dInts (cutD ns lo hi) := by
  unfold cutD
  rw [dInts_len, dInts_drop, dInts_take]
@[simp] theorem dInts_isEmpty (ns : List Int) : (dInts ns).isEmpty = ns.isEmpty := by cases ns <;> rfl
theorem dInts_eqvAll : ∀ ns ms : List Int, PyData.eqvAll (D.toPL (dInts ns)) (D.toPL (dInts ms)) = (ns == ms)
  | [], [] => rfl
  | [], m :: ms => rfl
  | n :: ns, [] => rfl
  | n :: ns, m :: ms => by
    show (PyData.eqv (.int n) (.int m) && PyData.eqvAll (D.toPL (dInts ns)) (D.toPL (dInts ms))) = _
    rw [dInts_eqvAll ns ms]
    rfl
@[simp] theorem gEq_ints (o p : Bool) (ns ms : List Int) : gEq (.lst o (dInts ns)) (.lst p (dInts ms)) = some (.bl (ns == ms)) := by
  have h : ∀ (o : Bool) (ns : List Int), D.lay 60 (.lst o (dInts ns)) = true := fun o ns => dInts_lay 59 ns
  simp only [gEq, h, and_self, if_true]
  show some (D.bl (PyData.eqvAll (D.toPL (dInts ns)) (D.toPL (dInts ms)))) = _
  rw [dInts_eqvAll]
@[simp] theorem gNe_ints (o p : Bool) (ns ms : List Int) : gNe (.lst o (dInts ns)) (.lst p (dInts ms)) = some (.bl (!(ns == ms))) := by
  have h : ∀ (o : Bool) (ns : List Int), D.lay 60 (.lst o (dInts ns)) = true := fun o ns => dInts_lay 59 ns
  simp only [gNe, h, and_self, if_true]
  show some (D.bl (!(PyData.eqvAll (D.toPL (dInts ns)) (D.toPL (dInts ms))))) = _
  rw [dInts_eqvAll]
@[simp] theorem gEq_tints (ns ms : List Int) : gEq (.tup (dInts ns)) (.tup (dInts ms)) = some (.bl (ns == ms)) := by
  have h : ∀ (ns : List Int), D.lay 60 (.tup (dInts ns)) = true := fun ns => dInts_lay 59 ns
  simp only [gEq, h, and_self, if_true]
  show some (D.bl (PyData.eqvAll (D.toPL (dInts ns)) (D.toPL (dInts ms)))) = _
  rw [dInts_eqvAll]
/-- a loop by an invariant -/
theorem forL_inv {g : D → Env → Option Env} {b : Env → SR} (I : Nat → Env → Prop) : ∀ (ds : List D) (i : Nat) (ρ : Env),
    (∀ j d ρ, ds[j]? = some d → I (i + j) ρ → ∃ ρ1 ρ2, g d ρ = some ρ1 ∧ (b ρ1 = .nx ρ2 ∨ b ρ1 = .ct ρ2) ∧ I (i + j + 1) ρ2) → I i ρ → ∃ ρ', forL g b ds ρ = .nx ρ' ∧ I (i + ds.length) ρ'
  | [], i, ρ, _, h => ⟨ρ, rfl, h⟩
  | d :: ds, i, ρ, hs, h => by
    obtain ⟨ρ1, ρ2, e1, e2, h2⟩ := hs 0 d ρ rfl h
    obtain ⟨ρ', e3, h3⟩ := forL_inv I ds (i + 1) ρ2 (fun j d' ρ' e h' => by
      have := hs (j + 1) d' ρ' (by simpa using e) (by rw [show i + (j + 1) = i + 1 + j by omega]; exact h')
      rw [show i + (j + 1) + 1 = i + 1 + j + 1 by omega] at this
      exact this) h2
    refine ⟨ρ', ?_, by rw [List.length_cons, show i + (ds.length + 1) = i + 1 + ds.length by omega]; exact h3⟩
    rw [forL_cons, e1]
    rcases e2 with e2 | e2 <;> (simp only [e2]; exact e3)
/-- ifs carried out -/
theorem R.bind_ite {α β : Type} (c : Prop) [Decidable c] (a b : R α) (f : α → R β) : (if c then a else b).bind f = if c then a.bind f else b.bind f := by split <;> rfl
theorem R.st_ite {α : Type} (c : Prop) [Decidable c] (a b : R α) (ρ : Env) (f : α → SR) : (if c then a else b).st ρ f = if c then a.st ρ f else b.st ρ f := by split <;> rfl
theorem SR.at_ite (c : Prop) [Decidable c] (a b : SR) (f : Env → SR) : (if c then a else b).andThen f = if c then a.andThen f else b.andThen f := by split <;> rfl
theorem SR.out_ite (c : Prop) [Decidable c] (a b : SR) : (if c then a else b).out = if c then a.out else b.out := by split <;> rfl
end Dv
end
section
set_option maxRecDepth 100000
set_option maxHeartbeats 1000000
namespace Dv
open PySem PySem.Spec PyProof.Rows L2

/-! ### the built-ins' names -/
theorem bb_len : bootBuiltins "len" = some (.builtin "len") := by decide +kernel
theorem bb_abs : bootBuiltins "abs" = some (.builtin "abs") := by decide +kernel
theorem bb_max : bootBuiltins "max" = some (.builtin "max") := by decide +kernel
theorem bb_min : bootBuiltins "min" = some (.builtin "min") := by decide +kernel
theorem bb_ord : bootBuiltins "ord" = some (.builtin "ord") := by decide +kernel
theorem bb_sum : bootBuiltins "sum" = some (.builtin "sum") := by decide +kernel
theorem bb_sorted : bootBuiltins "sorted" = some (.builtin "sorted") := by decide +kernel
theorem bb_all : bootBuiltins "all" = some (.builtin "all") := by decide +kernel
theorem bb_any : bootBuiltins "any" = some (.builtin "any") := by decide +kernel
theorem bb_isinstance : bootBuiltins "isinstance" = some (.builtin "isinstance") := by decide +kernel
theorem bb_int : bootBuiltins "int" = some (.type "int") := by decide +kernel
theorem bb_bool : bootBuiltins "bool" = some (.type "bool") := by decide +kernel
theorem bb_str : bootBuiltins "str" = some (.type "str") := by decide +kernel
theorem bb_list : bootBuiltins "list" = some (.type "list") := by decide +kernel
theorem bb_tuple : bootBuiltins "tuple" = some (.type "tuple") := by decide +kernel

/-! ### the law's end -/
def spLaw (K : PySem.W.Frag) : Sp := fun vs H Q _ => ∃ (a : Addr) (ns : List Int), vs = [.ref a] ∧ SqL K H a (ns.map V.int) ∧ ns.length ≤ 63 ∧ ∀ H', Q (.bl true) H'
theorem rp_dInts {k : Kx} {F H : Hp} : ∀ ns : List Int, RpL k F H (dInts ns) (ns.map V.int) []
  | [] => ⟨rfl, rfl⟩
  | n :: ns => ⟨.int n, ns.map V.int, [], [], rfl, rfl, ⟨rfl, rfl⟩, rp_dInts ns⟩
theorem end_of {P : Program} {w : World} {K : PySem.W.Frag} {mg : Str → Option Value} {base : Heap} {kx : Kx} {ec : Nat → Value} {k : Nat} {f : Addr} {fd : FuncData} {ps : List Str} {g : List D → R D} (G : FnOk P w K mg base (L2.CX P w) k f fd ps (spD kx ec 1 g)) (hK : kx.K = K)
    (h : ∀ ns : List Int, ns.length ≤ 63 → g [.scr (dInts ns)] = .ok (.bl true)) (ht : kx.tb = [] := by rfl) : FnOk P w K mg base (L2.CX P w) k f fd ps (spLaw K) := by
  refine G.imp fun vs H Q Ew ⟨a, ns, e, s, hl, q⟩ => ?_
  subst e
  refine ⟨H, [.scr (dInts ns)], .refl _, (fun P hP => by rw [ht] at hP; cases hP), ⟨.ref a, [], [], [], rfl, rfl, ⟨a, _, rfl, rfl, by rw [hK]; exact s, rp_dInts ns⟩, rfl, rfl⟩, ?_, rfl, ?_⟩
  · simp
  · rw [h ns hl]
    intro F' H' v A t r _ _
    rw [r.1]
    exact q H'
theorem callF_pure {n : Nat} {f : List D → R D} {ds : List D} (hl : ds.length = n) (hp : D.pureL ds = true) : callF n f ds = f ds := by
  unfold callF
  rw [if_pos hl, if_pos hp]
theorem cx_no {P : Program} {w : World} {outer : List PySem.Env} {H : Hp} {s : Shared} {e : Value} {s' : Shared} (h : L2.CX P w outer H s (fun _ _ _ => False) e s') : False := by
  obtain ⟨_, _, _, _, _, _, _, _, _, _, _, _, z⟩ := h
  exact z
end Dv
end
section
set_option maxRecDepth 100000
set_option maxHeartbeats 1000000
namespace Dv
open PySem PySem.Spec PyProof.Rows L2

/-! ### comprehensions -/
def wipeE (ρ : Env) : List Nat → Env
  | [] => ρ
  | v :: vs => (wipeE ρ vs).set v none
@[simp] theorem wipeE_nil (ρ : Env) : wipeE ρ [] = ρ := rfl
@[simp] theorem wipeE_cons (ρ : Env) (v : Nat) (vs : List Nat) : wipeE ρ (v :: vs) = (wipeE ρ vs).set v none := rfl
theorem wipe_ext {σ σ' : L2.St} (hl : σ.length = σ'.length) : ∀ {vs : List Nat}, (∀ j, j ∉ vs → σ[j]? = σ'[j]?) → wipe σ vs = wipe σ' vs := fun {vs} h => by
  refine List.ext_getElem? fun j => ?_
  by_cases hj : j ∈ vs
  · have go : ∀ (τ : L2.St) (vs : List Nat), j ∈ vs → j < τ.length → (wipe τ vs)[j]? = some none := fun τ vs => by
      induction vs with
      | nil => intro h; cases h
      | cons v vs ih =>
        intro h hlt
        show ((wipe τ vs).set v none)[j]? = some none
        by_cases q : v = j
        · rw [q, List.getElem?_set_self (by rw [wipe_length]; exact hlt)]
        · rw [List.getElem?_set_ne q]
          exact ih ((List.mem_cons.mp h).resolve_left fun z => q z.symm) hlt
    by_cases hlt : j < σ.length
    · rw [go σ vs hj hlt, go σ' vs hj (by omega)]
    · rw [List.getElem?_eq_none (by rw [wipe_length]; omega), List.getElem?_eq_none (by rw [wipe_length]; omega)]
  · rw [wipe_out hj, wipe_out hj, h j hj]
theorem wipe_set {σ : L2.St} {i : Nat} {x : Option V} {vs : List Nat} (h : i ∈ vs) : wipe (σ.set i x) vs = wipe σ vs :=
  wipe_ext (by rw [List.length_set]) fun j hj => List.getElem?_set_ne fun z => hj (by rw [← z]; exact h)
theorem wipe_wipe {σ : L2.St} {vs : List Nat} : wipe (wipe σ vs) vs = wipe σ vs := wipe_ext (by rw [wipe_length]) fun j hj => wipe_out hj
section
variable {E : En}
theorem Stt.unset {F H : Hp} {σ : L2.St} {ρ : Env} {i : Nat} (s : Stt E F H σ ρ) (hb : i ∉ E.bs) : Stt E F H (σ.set i none) (ρ.set i none) := by
  obtain ⟨fp, sl⟩ := s.sl
  refine ⟨s.e0, s.fh, s.fr, s.st, s.bt, by rw [List.length_set, List.length_set]; exact s.len, fun j hj => ?_, fun j => if j = i then [] else fp j, fun j d' e => ?_, fun j e => ?_, fun j => ?_, fun j j' a ha ha' => ?_, fun j a ha => ?_⟩
  · rw [List.getElem?_set_ne (fun z => hb (by rw [z]; exact hj)), List.length_set]
    exact s.bv j hj
  · by_cases q : j = i
    · subst q
      by_cases hi : j < ρ.length
      · rw [List.getElem?_set_self hi] at e; cases e
      · rw [List.getElem?_eq_none (by rw [List.length_set]; omega)] at e; cases e
    · rw [List.getElem?_set_ne (Ne.symm q)] at e
      obtain ⟨v', e', r'⟩ := sl.rp j d' e
      refine ⟨v', by rw [List.getElem?_set_ne (Ne.symm q)]; exact e', ?_⟩
      show Rp E.k F H d' v' (if j = i then [] else fp j)
      rw [if_neg q]
      exact r'
  · show (if j = i then [] else fp j) = []
    by_cases q : j = i
    · rw [if_pos q]
    · rw [List.getElem?_set_ne (Ne.symm q)] at e
      rw [if_neg q]
      exact sl.em j e
  · show (if j = i then [] else fp j).Nodup
    by_cases q : j = i
    · rw [if_pos q]; exact .nil
    · rw [if_neg q]; exact sl.nd j
  · have ha : a ∈ (if j = i then [] else fp j) := ha
    have ha' : a ∈ (if j' = i then [] else fp j') := ha'
    by_cases q : j = i
    · rw [if_pos q] at ha; cases ha
    · rw [if_neg q] at ha
      by_cases q' : j' = i
      · rw [if_pos q'] at ha'; cases ha'
      · rw [if_neg q'] at ha'
        exact sl.dj j j' a ha ha'
  · have ha : a ∈ (if j = i then [] else fp j) := ha
    by_cases q : j = i
    · rw [if_pos q] at ha; cases ha
    · rw [if_neg q] at ha
      exact sl.nw j a ha
theorem Stt.wipe {F H : Hp} {σ : L2.St} {ρ : Env} (s : Stt E F H σ ρ) : ∀ {vs : List Nat}, (∀ v ∈ vs, v ∉ E.bs) → Stt E F H (L2.wipe σ vs) (wipeE ρ vs)
  | [], _ => s
  | v :: vs, h => (Stt.wipe s fun v hv => h v (List.mem_cons_of_mem _ hv)).unset (h v List.mem_cons_self)
end
/-! targets of a block: only its own names are touched -/
def tGw (E : En) (g : D → Env → Option Env) (vs : List Nat) : TG := fun v σ H Q => ∃ F ρ d, Stt E F H σ ρ ∧ d.pure = true ∧ Rp E.k F H d v [] ∧ ∃ ρ', g d ρ = some ρ' ∧ ∀ σ', Stt E F H σ' ρ' → L2.wipe σ' vs = L2.wipe σ vs → Q σ' H
def tGsw (E : En) (g : List D → Env → Option Env) (vs : List Nat) : TGs := fun ws σ H Q => ∃ F ρ ds, Stt E F H σ ρ ∧ D.pureL ds = true ∧ RpL E.k F H ds ws [] ∧ ∃ ρ', g ds ρ = some ρ' ∧ ∀ σ', Stt E F H σ' ρ' → L2.wipe σ' vs = L2.wipe σ vs → Q σ' H
structure EGw (X : Cx) (E : En) (vs : List Nat) (e : Expr) (g : D → Env → Option Env) : Prop where
  pg : PG X e (tGw E g vs)
structure EGsw (X : Cx) (E : En) (vs : List Nat) (es : List Expr) (g : List D → Env → Option Env) : Prop where
  pg : PGs X es (tGsw E g vs)
section
variable {X : Cx} {E : En} {W : WX} {vs : List Nat}
theorem egw_name {i : Nat} {x : Str} {pos : Pos} (hv : i ∈ vs) (hN : X.N.Nodup) (hi : X.N[i]? = some x) (hx : Loc X.env.scope x) (hb : i ∉ E.bs) (hf : X.fn x = true ∨ X.env.scope.names.lookup x = some .local := by first | exact .inl rfl | exact .inr rfl | assumption) : EGw X E vs (.Name x pos) (gNm i) := by
  refine ⟨pg_mono (pg_name hN hi hx hf) fun v σ H Q h => ?_⟩
  obtain ⟨F, ρ, d, s, p, r, ρ', e, q⟩ := h
  cases e
  exact q _ (s.set (Tr.refl s.fh) r .nil (fun _ z => nomatch z) hb) (wipe_set hv)
theorem egsw_nil : EGsw X E vs [] gsNil := by
  refine ⟨pgs_mono pgs_nil fun vs σ H Q h => ?_⟩
  obtain ⟨F, ρ, ds, s, p, r, ρ', e, q⟩ := h
  cases ds with
  | nil => cases e; exact ⟨r.1, q σ s rfl⟩
  | cons d ds => cases e
theorem egsw_cons {e : Expr} {es : List Expr} {g : D → Env → Option Env} {gs : List D → Env → Option Env} (h1 : EGw X E vs e g) (h2 : EGsw X E vs es gs)
    (hs : (assignEach (e :: es) X.env).map (·.2) = assign e X.env :: (assignEach es X.env).map (·.2) := by rfl) : EGsw X E vs (e :: es) (gsCons g gs) := by
  refine ⟨pgs_mono (pgs_cons h1.pg h2.pg hs) fun ws σ H Q h => ?_⟩
  obtain ⟨F, ρ, ds, s, p, r, ρ', e, q⟩ := h
  cases ds with
  | nil => cases e
  | cons d ds =>
    obtain ⟨v, ws, B, C, e1, e2, r1, r2⟩ := r
    obtain ⟨rfl, rfl⟩ := List.append_eq_nil_iff.mp e2.symm
    have p' : d.pure = true ∧ D.pureL ds = true := by simpa [D.pureL] using p
    rw [gsCons_cons] at e
    cases eg : g d ρ with
    | none => rw [eg] at e; cases e
    | some ρ1 =>
      rw [eg] at e
      exact ⟨v, ws, e1, F, ρ, d, s, p'.1, r1, ρ1, eg, fun σ' s' w' => ⟨F, ρ1, ds, s', p'.2, r2, ρ', e, fun σ2 s2 w2 => q σ2 s2 (w2.trans w')⟩⟩
theorem egw_tup {es : List Expr} {k : Nat} {gs : List D → Env → Option Env} {pos : Pos} (hK : E.k.K = X.K) (hc : X.calm = true) (h : EGsw X E vs es gs) (n : Nat) (hlen : ∀ ds ρ ρ', gs ds ρ = some ρ' → ds.length = n)
    (hn : (assignEach es X.env).length = n := by rfl) (hst : (assignEach es X.env).findIdx? (·.1) = none := by rfl) : EGw X E vs (.Tuple es k pos) (gTp gs) := by
  refine ⟨pg_mono (pg_tup hc h.pg hn hst) fun v σ H Q h => ?_⟩
  obtain ⟨F, ρ, d, s, p, r, ρ', e, q⟩ := h
  cases d with
  | tup ds =>
    obtain ⟨a, vs, rfl, s1, r⟩ := r
    exact ⟨a, vs, rfl, by rw [← hK]; exact ex_t s.fh s1, by rw [← r.len]; exact hlen ds ρ ρ' e, F, ρ, ds, s, p, r, ρ', e, q⟩
  | _ => cases e
end
/-! tests of a clause -/
structure ETs (X : Cx) (E : En) (W : WX) (ifs : List Expr) (f : Env → R Bool) : Prop where
  pt : PTs X ifs (tT E W f)
def tYes : Env → R Bool := fun _ => .ok true
@[simp] theorem tYes_eq (ρ : Env) : tYes ρ = .ok true := rfl
section
variable {X : Cx} {E : En} {W : WX}
theorem pts_mono {es : List Expr} {t t' : TT} (h : PTs X es t) (i : ∀ σ H Q, t' σ H Q → t σ H Q) : PTs X es t' := ⟨fun pins s σ H Q I q => h.run pins s σ H Q I (i σ H Q q)⟩
theorem ets_nil : ETs X E W [] tYes := ⟨pts_mono pts_nil fun σ H Q ⟨F, ρ, s, q⟩ => q F H (Tr.refl s.fh)⟩
theorem ets_one {e : Expr} {f : Env → R Bool} (h : ET X E W e f) : ETs X E W [e] f := ⟨pts_one h.pt⟩
/-- exceptions are not let out of a block -/
def R.calm {α : Type} : R α → R α
  | .ok a => .ok a
  | _ => .no
@[simp] theorem R.calm_ok {α : Type} (a : α) : (R.ok a).calm = .ok a := rfl
@[simp] theorem R.calm_no {α : Type} : (R.no : R α).calm = .no := rfl
theorem R.calm_of {α β : Type} {r : R α} {f : α → R β} {P : β → Prop} {Ew : Nat → Prop} (h : Res (r.calm.bind f) P Ew) : ∃ a, r = .ok a ∧ Res (f a) P Ew := by
  cases r with
  | no => exact h.elim
  | ok a => exact ⟨a, rfl, h⟩
  | ex c => exact h.elim
def lcL (g : D → Env → Option Env) (t : Env → R Bool) (f : Env → R D) (ρ : Env) : List D → List D → R D
  | [], acc => .ok (.lst true acc)
  | d :: ds, acc => match g d ρ with
    | none => .no
    | some ρ1 => (t ρ1).calm.bind fun b => if b = true then (f ρ1).calm.bind fun y => if acc.length < 16777216 then lcL g t f ρ ds (acc ++ [y]) else .no else lcL g t f ρ ds acc
theorem lcL_nil (g : D → Env → Option Env) (t : Env → R Bool) (f : Env → R D) (ρ : Env) (acc : List D) : lcL g t f ρ [] acc = .ok (.lst true acc) := rfl
theorem lcL_cons (g : D → Env → Option Env) (t : Env → R Bool) (f : Env → R D) (ρ : Env) (d : D) (ds acc : List D) : lcL g t f ρ (d :: ds) acc = match g d ρ with
    | none => .no
    | some ρ1 => (t ρ1).calm.bind fun b => if b = true then (f ρ1).calm.bind fun y => if acc.length < 16777216 then lcL g t f ρ ds (acc ++ [y]) else .no else lcL g t f ρ ds acc := rfl
def eLc (it : Env → R (List D)) (g : D → Env → Option Env) (t : Env → R Bool) (f : Env → R D) (vs : List Nat) : Env → R D := fun ρ => (it ρ).bind fun ds => lcL g t f (wipeE ρ vs) ds []
@[simp] theorem eLc_eq (it : Env → R (List D)) (g : D → Env → Option Env) (t : Env → R Bool) (f : Env → R D) (vs : List Nat) (ρ : Env) : eLc it g t f vs ρ = (it ρ).bind fun ds => lcL g t f (wipeE ρ vs) ds [] := rfl
abbrev WN : WX := fun _ _ _ _ => False
theorem takes_no {X : Cx} : Takes X WN := fun u s' ⟨a, B, sI, pins, σ, H, cls, d, e, I, nb, up, sky, na, os, ag, w⟩ => w.elim
/-- a list under way: it is new, what it owns is new -/
structure Acc (k : Kx) (F1 H1 F H : Hp) (D0 : Addr) (acc : List D) : Prop where
  tr : Tr F1 H1 F H
  rp : ∃ vs A, H D0 = some (.lst vs) ∧ F D0 = none ∧ RpL k F H acc vs A ∧ (D0 :: A).Nodup ∧ ∀ a ∈ D0 :: A, H1 a = none
theorem Acc.start {k : Kx} {F H : Hp} {p : Addr} (fh : Ex F H) (h : H p = none) : Acc k F H F (upd H p (.lst [])) p [] := by
  have hf : F p = none := by
    cases q : F p with
    | none => rfl
    | some u => rw [fh p u q] at h; cases h
  exact ⟨tr_new fh h, [], [], upd_same, hf, ⟨rfl, rfl⟩, by simp, fun a ha => by rw [List.mem_singleton.mp ha]; exact h⟩
theorem Acc.next {k : Kx} {F1 H1 F H F' H' : Hp} {p : Addr} {acc : List D} (a : Acc k F1 H1 F H p acc) (t : Tr F H F' H') : Acc k F1 H1 F' H' p acc := by
  obtain ⟨vs, A, h1, h2, h3, h4, h5⟩ := a.rp
  exact ⟨a.tr.trans t, vs, A, t.hh _ _ h1, t.no _ h2 (by rw [h1]; exact fun z => nomatch z), h3.tr t, h4, h5⟩
theorem Acc.add {k : Kx} {F1 H1 F H F' H' : Hp} {p : Addr} {acc : List D} {d : D} {v : V} {A : List Addr} (a : Acc k F1 H1 F H p acc) (t : Tr F H F' H') (r : Rp k F' H' d v A) (nd : A.Nodup) (u : ∀ x ∈ A, H x = none) :
    ∃ vs, H' p = some (.lst vs) ∧ vs.length = acc.length ∧ Acc k F1 H1 F' (upd H' p (.lst (vs ++ [v]))) p (acc ++ [d]) := by
  obtain ⟨vs, B, g1, g2, g3, h4, h5⟩ := a.rp
  have pH : H p ≠ none := by rw [g1]; exact fun z => nomatch z
  have h1 := t.hh _ _ g1
  have h2 := t.no _ g2 pH
  have h3 := g3.tr t
  have pA : p ∉ A := fun z => pH (u p z)
  have pB : p ∉ B := (List.nodup_cons.mp h4).1
  have up : ∀ x, H1 x ≠ none → H x ≠ none := fun x hx => by
    cases q : H1 x with
    | none => exact absurd q hx
    | some o => rw [a.tr.hh x o q]; exact fun z => nomatch z
  have A1 : ∀ x ∈ A, H1 x = none := fun x hx => Classical.byContradiction fun z => up x z (u x hx)
  refine ⟨vs, h1, h3.len.symm, ⟨(a.next t).tr.ff, fun x o e => ?_, fun x o e => ?_, (a.next t).tr.no⟩, vs ++ [v], B ++ A, upd_same, h2, (h3.upd pB).append (RpL.one (r.upd pA)), ?_, fun x hx => ?_⟩
  · rw [upd_ne fun z => by rw [z, h5 p List.mem_cons_self] at e; cases e]
    exact (a.next t).tr.hh x o e
  · rw [upd_ne fun z => by rw [z, h2] at e; cases e]
    exact (a.next t).tr.fh x o e
  · refine List.nodup_cons.mpr ⟨fun z => (List.mem_append.mp z).elim pB pA, List.nodup_append.mpr ⟨(List.nodup_cons.mp h4).2, nd, fun x hx y hy z => ?_⟩⟩
    subst z
    obtain ⟨_, o, h6, _⟩ := RpL.dom _ _ _ g3 x hx
    rw [u x hy] at h6; cases h6
  · rcases List.mem_cons.mp hx with rfl | hx
    · exact h5 _ List.mem_cons_self
    · rcases List.mem_append.mp hx with hx | hx
      · exact h5 x (List.mem_cons_of_mem _ hx)
      · exact A1 x hx
/-- the block's context -/
theorem lc_imp {it : Env → R (List D)} {g : D → Env → Option Env} {t : Env → R Bool} {f : Env → R D} {vs : List Nat} (hb : ∀ v ∈ vs, v ∉ E.bs) {F H : Hp} {σ : L2.St} {ρ : Env} {Q : VK} (s : Stt E F H σ ρ)
    (q : Res (eLc it g t f vs ρ) (fun d => ∀ F' H' v A, Tr F H F' H' → Rp E.k F' H' d v A → A.Nodup → (∀ a ∈ A, H a = none) → Q v H') (fun c => ∀ F' H', Tr F H F' H' → W (E.ec c) none σ H')) :
    tLc (tI E W it) (tGw E g vs) (tT E WN t) (tO E WN f) vs σ H Q := by
  refine ⟨F, ρ, s, Res.mono q.bind (fun ds _ q F1 H1 J t1 wk p hp => ?_) fun c _ z F' H' t => z F' H' t⟩
  have s1 := s.tr t1
  refine ⟨fun i m H' => ∃ F' acc, Acc E.k F1 H1 F' H' p acc ∧ i ≤ ds.length ∧ m = ds.length - i ∧ Res (lcL g t f (wipeE ρ vs) (ds.drop i) acc) (fun d => ∀ F' H' v A, Tr F H F' H' → Rp E.k F' H' d v A → A.Nodup → (∀ a ∈ A, H a = none) → Q v H') (fun c => ∀ F' H', Tr F H F' H' → W (E.ec c) none σ H'), ⟨_, F1, [], Acc.start t1.fh hp, Nat.zero_le _, rfl, q⟩, ?_⟩
  rintro i m H' ⟨F', acc, ac, hi, rfl, q'⟩
  have fh' := ac.tr.fh
  by_cases hlt : i < ds.length
  · have ed : ds.drop i = ds[i] :: ds.drop (i + 1) := List.drop_eq_getElem_cons hlt
    rw [ed, lcL_cons] at q'
    refine .inr ⟨wk.go i hlt F' H' ac.tr.ff fh', fun H2 => ∃ F2 acc2, Acc E.k F1 H1 F2 H2 p acc2 ∧ Res (lcL g t f (wipeE ρ vs) (ds.drop (i + 1)) acc2) (fun d => ∀ F' H' v A, Tr F H F' H' → Rp E.k F' H' d v A → A.Nodup → (∀ a ∈ A, H a = none) → Q v H') (fun c => ∀ F' H', Tr F H F' H' → W (E.ec c) none σ H'), ?_, fun v H2 y => ?_⟩
    · rintro H2 ⟨F2, acc2, a2, q2⟩
      exact ⟨_, by omega, F2, acc2, a2, hlt, rfl, q2⟩
    · obtain ⟨pd, F2, t2, r2⟩ := wk.yld i ds[i] (List.getElem?_eq_getElem hlt) F' H' v H2 ac.tr.ff fh' y
      cases eg : g ds[i] (wipeE ρ vs) with
      | none => rw [eg] at q'; exact q'.elim
      | some ρ1 =>
        rw [eg] at q'
        have a2 := ac.next t2
        refine ⟨F2, wipeE ρ vs, ds[i], (s1.tr a2.tr).wipe hb, pd, r2, ρ1, eg, fun σ3 s3 w3 => ⟨w3.trans wipe_wipe, ?_⟩⟩
        obtain ⟨b, eb, q'⟩ := R.calm_of q'
        refine ⟨F2, ρ1, s3, ?_⟩
        rw [eb]
        show ∀ F' H', Tr F2 H2 F' H' → _
        intro F3 H3 t3
        have a3 := a2.next t3
        cases b with
        | false => exact ⟨F3, acc, a3, q'⟩
        | true =>
          obtain ⟨y, ey, q'⟩ := R.calm_of q'
          rw [if_pos rfl]
          refine ⟨F3, ρ1, s3.tr t3, ?_⟩
          rw [ey]
          show ∀ F' H' v A, Tr F3 H3 F' H' → _
          intro F4 H4 v4 A4 t4 r4 nd4 u4
          obtain ⟨ws, e1, e2, a4⟩ := a3.add t4 r4 nd4 u4
          by_cases hz : acc.length < 16777216
          · rw [if_pos hz] at q'
            exact ⟨ws, e1, Nat.lt_of_lt_of_eq (by rw [e2]; exact hz) sizeLine_eq.symm, F4, _, a4, q'⟩
          · rw [if_neg hz] at q'; exact q'.elim
  · have e : i = ds.length := by omega
    subst e
    rw [List.drop_length, lcL_nil] at q'
    obtain ⟨ws, A, h1, h2, h3, h4, h5⟩ := ac.rp
    refine .inl ⟨wk.stop F' H' ac.tr.ff fh', q' F' H' (.ref p) (p :: A) (t1.trans ac.tr) ⟨p, ws, A, rfl, h3, (fun z => nomatch z), fun _ => ⟨rfl, h2, h1⟩⟩ h4 fun a ha => none_back t1.hh (h5 a ha)⟩
theorem eo_lc {elt tg iter : Expr} {ifs : List Expr} {scope : Scope} {own : List (Str × Nat)} {pos : Pos} {it : Env → R (List D)} {g : D → Env → Option Env} {t : Env → R Bool} {f : Env → R D} (hc : X.calm = true) (hN : X.N.Nodup) (hi : EI X E W tg iter it) (ok : blkC X.N X.env.scope scope own = true)
    (hg : ∀ (s : Shared) (H : Hp) (C : Addr) (cl : List (Str × Addr)) (fp : List Addr), EGw (X.blk s H scope (compEnvC scope cl C X.env) fp) E (own.map (·.2)) tg g) (ht : ∀ (s : Shared) (H : Hp) (C : Addr) (cl : List (Str × Addr)) (fp : List Addr) (tk : Takes (X.blk s H scope (compEnvC scope cl C X.env) fp) WN), ETs (X.blk s H scope (compEnvC scope cl C X.env) fp) E WN ifs t)
    (he : ∀ (s : Shared) (H : Hp) (C : Addr) (cl : List (Str × Addr)) (fp : List Addr) (tk : Takes (X.blk s H scope (compEnvC scope cl C X.env) fp) WN), EO (X.blk s H scope (compEnvC scope cl C X.env) fp) E WN elt f) (hb : ∀ v ∈ own.map (·.2), v ∉ E.bs) (hs : ∀ x, foldedSetIterable iter X.env x = pure x := by intro _; rfl) :
    EO X E W (.ListComp elt [⟨tg, iter, ifs, 0⟩] scope pos) (eLc it g t f (own.map (·.2))) :=
  ⟨pe_mono (pe_lc hc hN hi.pi (blkOk_by ok) (fun s H C cl fp => (hg s H C cl fp).pg) (fun s H C cl fp => (ht s H C cl fp takes_no).pt) (fun s H C cl fp => (he s H C cl fp takes_no).pe) hs) fun σ H Q ⟨F, ρ, s, q⟩ => lc_imp hb s q⟩
theorem ss_setLc {i : Nat} {y : Str} {py : Pos} {elt tg iter : Expr} {ifs : List Expr} {scope : Scope} {own : List (Str × Nat)} {pos spos : Pos} {it : Env → R (List D)} {g : D → Env → Option Env} {t : Env → R Bool} {f : Env → R D} (hc : X.calm = true) (hN : X.N.Nodup) (hy : X.N[i]? = some y) (hyl : X.env.scope.names.lookup y = some .local) (hyb : i ∉ E.bs)
    (hk : X.env.scope.kind = .function) (hl : (py.line == pos.line) = true) (hsp : (pos.line == spos.line) = true) (ha : (scope.names.any fun (n, k) => n == y && (k == .local || k == .cell)) = false)
    (hi : EI X E W tg iter it) (ok : blkC X.N X.env.scope scope own = true)
    (hg : ∀ (s : Shared) (H : Hp) (C : Addr) (cl : List (Str × Addr)) (fp : List Addr), EGw (X.blk s H scope (compEnvC scope cl C X.env) fp) E (own.map (·.2)) tg g) (ht : ∀ (s : Shared) (H : Hp) (C : Addr) (cl : List (Str × Addr)) (fp : List Addr) (tk : Takes (X.blk s H scope (compEnvC scope cl C X.env) fp) WN), ETs (X.blk s H scope (compEnvC scope cl C X.env) fp) E WN ifs t)
    (he : ∀ (s : Shared) (H : Hp) (C : Addr) (cl : List (Str × Addr)) (fp : List Addr) (tk : Takes (X.blk s H scope (compEnvC scope cl C X.env) fp) WN), EO (X.blk s H scope (compEnvC scope cl C X.env) fp) E WN elt f) (hb : ∀ v ∈ own.map (·.2), v ∉ E.bs) (hs : ∀ x, foldedSetIterable iter X.env x = pure x := by intro _; rfl) :
    SS X E W (.Assign [.Name y py] (.ListComp elt [⟨tg, iter, ifs, 0⟩] scope pos) spos) (sAsg i (eLc it g t f (own.map (·.2)))) := by
  have hsw : swapsWith (.ListComp elt [⟨tg, iter, ifs, 0⟩] scope pos) (some (.Name y py)) spos.line X.env = pure true := by
    rw [← beq_iff_eq.mp hsp]
    exact sw_true hk hyl hl ha
  refine ⟨ps_mono (ps_setLc hc hN hy hyl hsw hi.pi (blkOk_by ok) (fun s H C cl fp => (hg s H C cl fp).pg) (fun s H C cl fp => (ht s H C cl fp takes_no).pt) (fun s H C cl fp => (he s H C cl fp takes_no).pe) hs) fun Z σ H h => ?_⟩
  obtain ⟨F, ρ, s, q⟩ := h
  refine lc_imp hb s (Res.mono q.st (fun d _ q F1 H1 v A t1 r1 nd u => ?_) fun c _ z => SRes.exc s z)
  exact q F1 H1 _ t1.ff (s.set t1 r1 nd u hyb)
end
end Dv
end
section
set_option maxRecDepth 100000
set_option maxHeartbeats 1000000
namespace Dv
open PySem PySem.Spec PyProof.Rows L2

section
variable {X : Cx} {E : En} {W : WX}
/-! ### lists that change, once more -/
theorem Sl.tr {F H F' H' : Hp} {σ : L2.St} {ρ : Env} {fp : Nat → List Addr} (sl : Sl E F H σ ρ fp) (t : Tr F H F' H') : Sl E F' H' σ ρ fp :=
  ⟨fun j d e => let ⟨v, ev, r⟩ := sl.rp j d e; ⟨v, ev, r.tr t⟩, sl.em, sl.nd, sl.dj, sl.nw⟩
/-- the list in a slot may get other items: what it owned, or what is new -/
theorem Stt.lst {F H : Hp} {σ : L2.St} {ρ : Env} {fp : Nat → List Addr} {i : Nat} {xs : List D} (s : Stt E F H σ ρ) (sl : Sl E F H σ ρ fp) (e : ρ[i]? = some (some (.lst true xs))) :
    ∃ l vs B, σ[i]? = some (some (.ref l)) ∧ H l = some (.lst vs) ∧ RpL E.k F H xs vs B ∧ (∀ a ∈ B, a ∈ fp i) ∧ B.Nodup ∧
      ∀ xs' vs' C, RpL E.k F H xs' vs' C → C.Nodup → (∀ a ∈ C, a ∈ B ∨ (E.He a = none ∧ ∀ j, a ∉ fp j)) → Stt E F (upd H l (.lst vs')) σ (ρ.set i (some (.lst true xs'))) := by
  obtain ⟨v, ev, r⟩ := sl.rp i _ e
  obtain ⟨l, vs, B, rfl, eA, fl, hl, rl⟩ := lstO r
  have lfp : l ∈ fp i := by rw [eA]; exact List.mem_cons_self
  have Bfp : ∀ a ∈ B, a ∈ fp i := fun a ha => by rw [eA]; exact List.mem_cons_of_mem _ ha
  have ndi := sl.nd i
  rw [eA] at ndi
  have lB : l ∉ B := (List.nodup_cons.mp ndi).1
  refine ⟨l, vs, B, ev, hl, rl, Bfp, (List.nodup_cons.mp ndi).2, fun xs' vs' C rC nC uC => ?_⟩
  have lC : l ∉ C := fun z => (uC l z).elim lB fun h => h.2 i lfp
  refine s.write sl (v := .ref l) (A' := l :: C) lfp ev ⟨l, vs', C, rfl, rC.upd lC, (fun z => nomatch z), fun _ => ⟨rfl, fl, upd_same⟩⟩ (List.nodup_cons.mpr ⟨lC, nC⟩) fun a ha => ?_
  rcases List.mem_cons.mp ha with rfl | ha
  · exact .inl lfp
  · exact (uC a ha).imp_left fun h => Bfp a h
/-- what is new stands in no slot -/
theorem Stt.fresh {F H : Hp} {σ : L2.St} {ρ : Env} {fp : Nat → List Addr} (s : Stt E F H σ ρ) (sl : Sl E F H σ ρ fp) {a : Addr} (u : H a = none) : E.He a = none ∧ ∀ j, a ∉ fp j :=
  ⟨s.new u, fun j hj => (sl.there hj).2 u⟩
def ixK (n : Nat) (i : Int) : Option Nat := L2.ixN n i
/-- name[i] = e -/
def sSet (i : Nat) (fi f : Env → R D) : Env → SR := fun ρ => (f ρ).st ρ fun d => onL i ρ fun xs => (fi ρ).st ρ fun j => match j with
  | .int j => match L2.ixN xs.length j with
    | some k => .nx (ρ.set i (some (.lst true (xs.set k d))))
    | none => .no
  | _ => .no
@[simp] theorem sSet_eq (i : Nat) (fi f : Env → R D) (ρ : Env) : sSet i fi f ρ = (f ρ).st ρ fun d => onL i ρ fun xs => (fi ρ).st ρ fun j => match j with
  | .int j => match L2.ixN xs.length j with
    | some k => .nx (ρ.set i (some (.lst true (xs.set k d))))
    | none => .no
  | _ => .no := rfl
theorem ss_setL {i : Nat} {o ix e : Expr} {fi f : Env → R D} {sp pos : Pos} (ho : PE X o (tVar i)) (h : EO X E W e f) (hx : EV X E W ix fi)
    (ha : ∀ v, assign (.Subscript o ix sp) X.env v = (do
      let ov ← holding [v] (eval o X.env)
      let iv ← holding [v, ov] (eval ix X.env)
      standAt sp
      holding [v, ov, iv] (setItem ov iv v)
      release [v, ov, iv] []) := by intro _; rfl)
    (hs : swapsWithSole [.Subscript o ix sp] e pos.line X.env = pure false := by rfl) (hw : swappedStores [.Subscript o ix sp] e X.env = pure none := by rfl)
    (h1 : (assignEach [.Subscript o ix sp] X.env).map (·.2) = [assign (.Subscript o ix sp) X.env] := by rfl) :
    SS X E W (.Assign [.Subscript o ix sp] e pos) (sSet i fi f) := by
  refine ⟨ps_mono (ps_asg h.pe (pg_sub ho hx.pe set_list ha) hs hw h1) fun Z σ H h => ?_⟩
  obtain ⟨F, ρ, s, q⟩ := h
  refine ⟨F, ρ, s, Res.mono q.st (fun d _ q F1 H1 w A t1 r1 nd u => ?_) fun c _ z => SRes.exc s z⟩
  obtain ⟨xs, e, q⟩ := onL_of q
  obtain ⟨fp, sl⟩ := s.sl
  obtain ⟨v, ev, r⟩ := sl.rp i _ e
  refine ⟨v, ev, F1, ρ, s.tr t1, Res.mono q.st (fun j _ q F2 H2 jv B t2 r2 => ?_) fun c _ z F' H' t => SRes.exc s z F' H' (t1.trans t)⟩
  cases j with
  | int j =>
    have q : SRes E W F Z (match L2.ixN xs.length j with
      | some k => .nx (ρ.set i (some (.lst true (xs.set k d))))
      | none => .no) := q
    have t12 := t1.trans t2
    obtain ⟨l, vs, B, ev', hl, rl, Bfp, nB, wr⟩ := (s.tr t12).lst (sl.tr t12) e
    rw [ev] at ev'
    cases ev'
    cases ek : L2.ixN xs.length j with
    | none => rw [ek] at q; exact q.elim
    | some k =>
      rw [ek] at q
      have hk := (L2.ixN_seq ek).2.1
      refine ⟨l, vs, j, k, rfl, r2.1, hl, by rw [← rl.len]; exact ek, q F2 _ σ t12.ff ?_⟩
      obtain ⟨A1, A2, A3, eB, rn⟩ := rl.set (r1.tr t2) hk
      have new : ∀ a ∈ A, E.He a = none ∧ ∀ j, a ∉ fp j := fun a ha => s.fresh sl (u a ha)
      rw [eB] at nB
      refine wr _ _ _ rn ?_ fun a ha => ?_
      · have n13 : (A1 ++ A3).Nodup := by
          have := List.nodup_append.mp nB
          have h12 := List.nodup_append.mp this.1
          exact List.nodup_append.mpr ⟨h12.1, this.2.1, fun a ha b hb => this.2.2 a (List.mem_append_left _ ha) b hb⟩
        have h13 := List.nodup_append.mp n13
        refine List.nodup_append.mpr ⟨List.nodup_append.mpr ⟨h13.1, nd, fun a ha b hb z => ?_⟩, h13.2.1, fun a ha b hb z => ?_⟩
        · subst z
          exact (new a hb).2 i (Bfp a (by rw [eB]; simp [ha]))
        · rcases List.mem_append.mp ha with ha | ha
          · exact h13.2.2 a ha b hb z
          · subst z
            exact (new a ha).2 i (Bfp a (by rw [eB]; simp [hb]))
      · rcases List.mem_append.mp ha with ha | ha
        · rcases List.mem_append.mp ha with ha | ha
          · exact .inl (by rw [eB]; simp [ha])
          · exact .inr (new a ha)
        · exact .inl (by rw [eB]; simp [ha])
  | _ => exact q.elim
/-- name.extend(e) -/
def lstD : D → Option (List D)
  | .lst _ ys => if D.pureL ys = true then some ys else none
  | _ => none
@[simp] theorem lstD_lst (o : Bool) (ys : List D) : lstD (.lst o ys) = if D.pureL ys = true then some ys else none := rfl
def sExt (i : Nat) (f : Env → R D) : Env → SR := fun ρ => onL i ρ fun xs => (f ρ).st ρ fun d => match lstD d with
  | some ys => if xs.length + ys.length ≤ 16777216 then .nx (ρ.set i (some (.lst true (xs ++ ys)))) else .no
  | none => .no
@[simp] theorem sExt_eq (i : Nat) (f : Env → R D) (ρ : Env) : sExt i f ρ = onL i ρ fun xs => (f ρ).st ρ fun d => match lstD d with
  | some ys => if xs.length + ys.length ≤ 16777216 then .nx (ρ.set i (some (.lst true (xs ++ ys)))) else .no
  | none => .no := rfl
theorem ss_ext {i : Nat} {o e : Expr} {f : Env → R D} {apos cpos pos : Pos} (ho : PE X o (tVar i)) (h : EV X E W e f) (hs : swapsWith (.Call (.Attribute o "extend" apos) [e] [] cpos) none pos.line X.env = pure false := by rfl)
    (hbase : attributeBase o "extend" X.env (eval o X.env) = eval o X.env := by rfl)
    (hfew : ((backTo cpos (starEach [e] X.env)).all (fun x => !x.1) && (backToKw cpos (keywordEach [] X.env)).all (fun x => x.1.isSome)
      && decide ([e].length + ([] : List Keyword).length + (if ([] : List Keyword).isEmpty then 0 else 1) < 30)) = true := by rfl)
    (hline : (apos.endLine == cpos.line) = true := by rfl) (hst : starEach [e] X.env = (false, eval e X.env) :: starEach [] X.env := by rfl) (hplain : (backTo cpos (starEach [] X.env)).any (·.1) = false := by rfl) :
    SS X E W (.Expr (.Call (.Attribute o "extend" apos) [e] [] cpos) pos) (sExt i f) := by
  refine ⟨ps_mono (ps_expr (pe_bm PySem.F.plainAttrs_list PySem.F.slot_list_extend PySem.F.type_list_extend mt_extend ho (pa_cons h.pe pa_nil hst) hbase hfew hline hst hplain) hs) fun Z σ H h => ?_⟩
  obtain ⟨F, ρ, s, q⟩ := h
  obtain ⟨xs, e, q⟩ := onL_of q
  obtain ⟨fp, sl⟩ := s.sl
  obtain ⟨v, ev, r⟩ := sl.rp i _ e
  refine ⟨v, ev, ty_lst s.fh r, F, ρ, s, Res.mono q.st (fun d _ q F1 H1 w A t1 r1 => ?_) fun c _ z => SRes.exc s z⟩
  cases ed : lstD d with
  | none => rw [ed] at q; exact q.elim
  | some ys =>
    rw [ed] at q
    have q : SRes E W F Z (if xs.length + ys.length ≤ 16777216 then .nx (ρ.set i (some (.lst true (xs ++ ys)))) else .no) := q
    by_cases hz : xs.length + ys.length ≤ 16777216
    · rw [if_pos hz] at q
      obtain ⟨l, vs, B, ev', hl, rl, Bfp, nB, wr⟩ := (s.tr t1).lst (sl.tr t1) e
      rw [ev] at ev'
      cases ev'
      cases d with
      | lst o zs =>
        obtain ⟨p, e2⟩ := if_some (show (if D.pureL zs = true then some zs else none) = some ys from ed)
        subst e2
        obtain ⟨b, ws, C, rfl, hb, rw1⟩ := Rp.lstW t1.fh r1
        have rw0 : RpL E.k F1 H1 zs ws [] := RpL.pure p (.refl _) rw1
        refine ⟨l, b, vs, ws, rfl, rfl, hl, hb, (by rw [sizeLine_eq, ← rl.len, ← rw0.len]; exact hz), q F1 _ σ t1.ff ?_⟩
        exact wr _ _ _ (rl.append rw0) (by rw [List.append_nil]; exact nB) fun a ha => .inl (by rw [List.append_nil] at ha; exact ha)
      | _ => cases ed
    · rw [if_neg hz] at q; exact q.elim
/-- name.clear() -/
def sClr (i : Nat) : Env → SR := fun ρ => onL i ρ fun _ => .nx (ρ.set i (some (.lst true [])))
@[simp] theorem sClr_eq (i : Nat) (ρ : Env) : sClr i ρ = onL i ρ fun _ => .nx (ρ.set i (some (.lst true []))) := rfl
theorem ss_clr {i : Nat} {o : Expr} {apos cpos pos : Pos} (ho : PE X o (tVar i)) (hs : swapsWith (.Call (.Attribute o "clear" apos) [] [] cpos) none pos.line X.env = pure false := by rfl)
    (hbase : attributeBase o "clear" X.env (eval o X.env) = eval o X.env := by rfl) (hline : (apos.endLine == cpos.line) = true := by rfl) :
    SS X E W (.Expr (.Call (.Attribute o "clear" apos) [] [] cpos) pos) (sClr i) := by
  refine ⟨ps_mono (ps_expr (pe_bm0 PySem.F.plainAttrs_list PySem.F.slot_list_clear PySem.F.type_list_clear mt_clear ho hbase hline) hs) fun Z σ H h => ?_⟩
  obtain ⟨F, ρ, s, q⟩ := h
  obtain ⟨xs, e, q⟩ := onL_of q
  obtain ⟨fp, sl⟩ := s.sl
  obtain ⟨v, ev, r⟩ := sl.rp i _ e
  obtain ⟨l, vs, B, ev', hl, rl, Bfp, nB, wr⟩ := s.lst sl e
  rw [ev] at ev'
  cases ev'
  exact ⟨_, ev, ty_lst s.fh r, l, vs, rfl, rfl, hl, q F _ σ (.refl _) (wr [] [] [] ⟨rfl, rfl⟩ .nil fun a z => nomatch z)⟩

/-! ### more to walk -/
/-- a list (true) or a tuple (false) that stands -/
def seqD : D → Option (Bool × List D)
  | .lst false xs => if D.pureL xs = true then some (true, xs) else none
  | .scr xs => if D.pureL xs = true then some (true, xs) else none
  | .tup xs => if D.pureL xs = true then some (false, xs) else none
  | _ => none
@[simp] theorem seqD_lst (xs : List D) : seqD (.lst false xs) = if D.pureL xs = true then some (true, xs) else none := rfl
@[simp] theorem seqD_tup (xs : List D) : seqD (.tup xs) = if D.pureL xs = true then some (false, xs) else none := rfl
@[simp] theorem seqD_scr (xs : List D) : seqD (.scr xs) = if D.pureL xs = true then some (true, xs) else none := rfl
def SqB (b : Bool) (K : PySem.W.Frag) (H : Hp) (a : Addr) (vs : List V) : Prop := match b with
  | true => SqL K H a vs
  | false => SqT K H a vs
theorem seq_of {F H : Hp} {d : D} {v : V} {A : List Addr} {b : Bool} {ds : List D} (r : Rp E.k F H d v A) (e : seqD d = some (b, ds)) : D.pureL ds = true ∧ ∃ a vs, v = .ref a ∧ SqB b E.k.K F a vs ∧ RpL E.k F H ds vs [] := by
  cases d with
  | lst o xs =>
    cases o with
    | false =>
      obtain ⟨z, e⟩ := if_some (show (if D.pureL xs = true then some (true, xs) else none) = some (b, ds) from e)
      cases e
      obtain ⟨a, vs, B, rfl, r, h1, h2⟩ := r
      exact ⟨z, a, vs, rfl, .inl (.inl (h1 rfl).1), RpL.pure z (.refl _) r⟩
    | true => cases e
  | tup xs =>
    obtain ⟨z, e⟩ := if_some (show (if D.pureL xs = true then some (false, xs) else none) = some (b, ds) from e)
    cases e
    obtain ⟨a, vs, rfl, s, r⟩ := r
    exact ⟨z, a, vs, rfl, s, RpL.pure z (.refl _) r⟩
  | scr xs =>
    obtain ⟨z, e⟩ := if_some (show (if D.pureL xs = true then some (true, xs) else none) = some (b, ds) from e)
    cases e
    obtain ⟨a, vs, rfl, _, s, r⟩ := r
    exact ⟨z, a, vs, rfl, s, RpL.pure z (.refl _) r⟩
  | _ => cases e
/-- pairs -/
def zipD : List D → List D → List D
  | x :: xs, y :: ys => .tup [x, y] :: zipD xs ys
  | _, _ => []
@[simp] theorem zipD_cons (x y : D) (xs ys : List D) : zipD (x :: xs) (y :: ys) = .tup [x, y] :: zipD xs ys := rfl
@[simp] theorem zipD_nil (ys : List D) : zipD [] ys = [] := by cases ys <;> rfl
@[simp] theorem zipD_nil' (xs : List D) : zipD xs [] = [] := by cases xs <;> rfl
theorem zipD_get : ∀ {xs ys : List D} {i : Nat} {d : D}, (zipD xs ys)[i]? = some d → ∃ x y, xs[i]? = some x ∧ ys[i]? = some y ∧ d = .tup [x, y]
  | x :: xs, y :: ys, 0, d, h => ⟨x, y, rfl, rfl, by simpa using h.symm⟩
  | x :: xs, y :: ys, i + 1, d, h => by simpa using zipD_get (xs := xs) (ys := ys) (i := i) (by simpa using h)
  | [], ys, i, d, h => by rw [zipD_nil] at h; simp at h
  | x :: xs, [], i, d, h => by rw [zipD_nil'] at h; simp at h
theorem zipD_len : ∀ {xs ys : List D}, (zipD xs ys).length = min xs.length ys.length
  | x :: xs, y :: ys => by rw [zipD_cons, List.length_cons, List.length_cons, List.length_cons, zipD_len]; omega
  | [], ys => by simp
  | x :: xs, [] => by simp
def ItzB (b : Bool) (K : PySem.W.Frag) (a c : Addr) : It := match b with
  | true => Itz K a c
  | false => RZ.ItzT K a c
theorem pure_tup2 {x y : D} (hx : x.pure = true) (hy : y.pure = true) : (D.tup [x, y]).pure = true := by simp [D.pure, D.pureL, hx, hy]
theorem rp_pair {k : Kx} {F H : Hp} {x y : D} {v w : V} {T : Addr} (fh : Ex F H) (hT : H T = none) (rx : Rp k F H x v []) (ry : Rp k F H y w []) : Tr F H (upd F T (.tup [v, w])) (upd H T (.tup [v, w])) ∧ Rp k (upd F T (.tup [v, w])) (upd H T (.tup [v, w])) (.tup [x, y]) (.ref T) [] := by
  have t := tr_newF (o := .tup [v, w]) fh hT
  exact ⟨t, T, [v, w], rfl, .inl (.inl upd_same), v, [w], [], [], rfl, rfl, rx.tr t, w, [], [], [], rfl, rfl, ry.tr t, rfl, rfl⟩
theorem wk_zip {k : Kx} {F H : Hp} {b : Bool} {a c : Addr} {vs ws : List V} {xs ys : List D} (sa : SqB b k.K F a vs) (sb : SqB b k.K F c ws) (px : D.pureL xs = true) (py : D.pureL ys = true) (rx : RpL k F H xs vs []) (ry : RpL k F H ys ws []) :
    Wk k (ItzB b k.K a c) F (zipD xs ys) := by
  have hx := rx.len
  have hy := ry.len
  cases b with
  | true =>
    refine ⟨fun i hi F' H' x y => ?_, fun F' H' x y => ?_, fun i d e F' H' v H'' x y h => ?_⟩
    · rw [zipD_len] at hi
      exact ⟨vs, ws, vs[i]'(by omega), ws[i]'(by omega), ex_l (x.trans y) sa, ex_l (x.trans y) sb, List.getElem?_eq_getElem _, List.getElem?_eq_getElem _⟩
    · refine ⟨vs, ws, ex_l (x.trans y) sa, ex_l (x.trans y) sb, ?_⟩
      rw [zipD_len]; omega
    · obtain ⟨T, v1, v2, rfl, hT, rfl, h1, h2⟩ := h
      obtain ⟨d1, d2, e1, e2, rfl⟩ := zipD_get e
      obtain ⟨w1, g1, r1⟩ := rx.get0 e1
      obtain ⟨w2, g2, r2⟩ := ry.get0 e2
      have := (h1 vs (ex_l (x.trans y) sa)).symm.trans g1
      cases this
      have := (h2 ws (ex_l (x.trans y) sb)).symm.trans g2
      cases this
      obtain ⟨t, r⟩ := rp_pair y hT (Rp.pure (H' := H') (pureL_get px e1) x r1) (Rp.pure (H' := H') (pureL_get py e2) x r2)
      exact ⟨pure_tup2 (pureL_get px e1) (pureL_get py e2), _, t, r⟩
  | false =>
    refine ⟨fun i hi F' H' x y => ?_, fun F' H' x y => ?_, fun i d e F' H' v H'' x y h => ?_⟩
    · rw [zipD_len] at hi
      exact ⟨vs, ws, vs[i]'(by omega), ws[i]'(by omega), ex_t (x.trans y) sa, ex_t (x.trans y) sb, List.getElem?_eq_getElem _, List.getElem?_eq_getElem _⟩
    · refine ⟨vs, ws, ex_t (x.trans y) sa, ex_t (x.trans y) sb, ?_⟩
      rw [zipD_len]; omega
    · obtain ⟨T, v1, v2, rfl, hT, rfl, h1, h2⟩ := h
      obtain ⟨d1, d2, e1, e2, rfl⟩ := zipD_get e
      obtain ⟨w1, g1, r1⟩ := rx.get0 e1
      obtain ⟨w2, g2, r2⟩ := ry.get0 e2
      have := (h1 vs (ex_t (x.trans y) sa)).symm.trans g1
      cases this
      have := (h2 ws (ex_t (x.trans y) sb)).symm.trans g2
      cases this
      obtain ⟨t, r⟩ := rp_pair y hT (Rp.pure (H' := H') (pureL_get px e1) x r1) (Rp.pure (H' := H') (pureL_get py e2) x r2)
      exact ⟨pure_tup2 (pureL_get px e1) (pureL_get py e2), _, t, r⟩
def zip2 : List D → Option (List D)
  | [x, y] => match seqD x, seqD y with
    | some (b, xs), some (c, ys) => if b = c then some (zipD xs ys) else none
    | _, _ => none
  | _ => none
@[simp] theorem zip2_eq (x y : D) : zip2 [x, y] = match seqD x, seqD y with
    | some (b, xs), some (c, ys) => if b = c then some (zipD xs ys) else none
    | _, _ => none := rfl
theorem ei_zip {e e2 : Expr} {fs : Env → R (List D)} {p pos tpos : Pos} {elts : List Expr} {kk : Nat} (hK : E.k.K = X.K) (hg : Gl X "zip") (hm : X.mg "zip" = none) (ha : EA X E W [e, e2] fs)
    (hs : starEach [e, e2] X.env = (false, eval e X.env) :: starEach [e2] X.env := by rfl) (hpl : (backTo pos (starEach [e2] X.env)).any (·.1) = false := by rfl) :
    EI X E W (.Tuple elts kk tpos) (.Call (.Name "zip" p) [e, e2] [] pos) (iA zip2 fs) := by
  refine ⟨pi_mono (RZ.pi_zipA hg hm ha.pa hs hpl) fun σ H P q => ?_⟩
  obtain ⟨F, ρ, s, q⟩ := q
  refine ⟨F, ρ, s, Res.mono q.bind (fun ds he q F1 H1 vs t1 r1 => ?_) fun c _ z F' H' t => z F' H' t⟩
  obtain ⟨es, e, p⟩ := Res.opt q
  clear he
  unfold zip2 at e
  split at e
  · rename_i x y
    split at e
    · rename_i b xs c ys ex ey
      obtain ⟨z, e⟩ := if_some e
      cases e
      cases z
      obtain ⟨v, w, A, B, rfl, rx, ry⟩ := Vw.two r1
      obtain ⟨px, a, ws, rfl, sa, q1⟩ := seq_of rx ex
      obtain ⟨py, a2, ws2, rfl, sb, q2⟩ := seq_of ry ey
      have wk := p F1 H1 _ t1 (wk_zip sa sb px py q1 q2)
      rw [← hK]
      refine ⟨a, a2, ws, ws2, rfl, ?_⟩
      cases b with
      | true => exact .inl ⟨ex_l t1.fh sa, ex_l t1.fh sb, wk⟩
      | false => exact .inr ⟨ex_t t1.fh sa, ex_t t1.fh sb, wk⟩
    · cases e
  · cases e
/-! enumerate -/
def enumD : Nat → List D → List D
  | _, [] => []
  | n, x :: xs => .tup [.int (n : Nat), x] :: enumD (n + 1) xs
@[simp] theorem enumD_nil (n : Nat) : enumD n [] = [] := rfl
@[simp] theorem enumD_cons (n : Nat) (x : D) (xs : List D) : enumD n (x :: xs) = .tup [.int (n : Nat), x] :: enumD (n + 1) xs := rfl
theorem enumD_len : ∀ {n : Nat} {xs : List D}, (enumD n xs).length = xs.length
  | _, [] => rfl
  | n, x :: xs => by rw [enumD_cons, List.length_cons, List.length_cons, enumD_len]
theorem enumD_get : ∀ {xs : List D} {n i : Nat}, (enumD n xs)[i]? = xs[i]?.map fun x => .tup [.int ((n + i : Nat) : Int), x]
  | [], n, i => by simp
  | x :: xs, n, 0 => by simp
  | x :: xs, n, i + 1 => by
    rw [enumD_cons, List.getElem?_cons_succ, enumD_get, List.getElem?_cons_succ]
    congr 1
    funext y
    rw [show n + 1 + i = n + (i + 1) by omega]
theorem wk_enum {k : Kx} {F H : Hp} {a : Addr} {vs : List V} {xs : List D} (sa : SqL k.K F a vs) (px : D.pureL xs = true) (rx : RpL k F H xs vs []) : Wk k (Ite k.K a) F (enumD 0 xs) := by
  have hx := rx.len
  refine ⟨fun i hi F' H' x y => ?_, fun F' H' x y => ?_, fun i d e F' H' v H'' x y h => ?_⟩
  · rw [enumD_len] at hi
    exact ⟨vs, vs[i]'(by omega), ex_l (x.trans y) sa, List.getElem?_eq_getElem _⟩
  · refine ⟨vs, ex_l (x.trans y) sa, ?_⟩
    rw [enumD_len]; omega
  · obtain ⟨T, v1, rfl, hT, rfl, h1⟩ := h
    rw [enumD_get] at e
    cases e1 : xs[i]? with
    | none => rw [e1] at e; cases e
    | some d1 =>
      rw [e1] at e
      cases e
      obtain ⟨w1, g1, r1⟩ := rx.get0 e1
      have := (h1 vs (ex_l (x.trans y) sa)).symm.trans g1
      cases this
      have ri : Rp k F' H' (.int ((0 + i : Nat) : Int)) (.int (i : Nat)) [] := by rw [Nat.zero_add]; exact ⟨rfl, rfl⟩
      obtain ⟨t, r⟩ := rp_pair y hT ri (Rp.pure (H' := H') (pureL_get px e1) x r1)
      exact ⟨pure_tup2 rfl (pureL_get px e1), _, t, r⟩
def enum1 : List D → Option (List D)
  | [x] => match seqD x with
    | some (true, xs) => some (enumD 0 xs)
    | _ => none
  | _ => none
@[simp] theorem enum1_eq (x : D) : enum1 [x] = match seqD x with
    | some (true, xs) => some (enumD 0 xs)
    | _ => none := rfl
theorem ei_enum {e : Expr} {fs : Env → R (List D)} {p pos tpos : Pos} {elts : List Expr} {kk : Nat} (hK : E.k.K = X.K) (hg : Gl X "enumerate") (hm : X.mg "enumerate" = none) (ha : EA X E W [e] fs) (hs : starEach [e] X.env = [(false, eval e X.env)] := by rfl) :
    EI X E W (.Tuple elts kk tpos) (.Call (.Name "enumerate" p) [e] [] pos) (iA enum1 fs) := by
  refine ⟨pi_mono (pi_enum hg hm ha.pa hs) fun σ H P q => ?_⟩
  obtain ⟨F, ρ, s, q⟩ := q
  refine ⟨F, ρ, s, Res.mono q.bind (fun ds he q F1 H1 vs t1 r1 => ?_) fun c _ z F' H' t => z F' H' t⟩
  obtain ⟨es, e, p⟩ := Res.opt q
  clear he
  unfold enum1 at e
  split at e
  · rename_i x
    split at e
    · rename_i xs ex
      cases e
      obtain ⟨v, A, rfl, rx⟩ := Vw.one r1
      obtain ⟨px, a, ws, rfl, sa, q1⟩ := seq_of rx ex
      have wk := p F1 H1 _ t1 (wk_enum sa px q1)
      rw [hK] at wk
      have sa : SqL E.k.K F1 a ws := sa
      rw [hK] at sa
      exact ⟨a, ws, rfl, ex_l t1.fh sa, wk⟩
    · cases e
  · cases e
/-! reversed -/
theorem wk_rev {k : Kx} {F H : Hp} {b : Bool} {a : Addr} {vs : List V} {xs : List D} (sa : SqB b k.K F a vs) (px : D.pureL xs = true) (rx : RpL k F H xs vs []) : Wk k (match b with | true => Itv k.K a vs.length | false => RT.ItvT k.K a vs.length) F xs.reverse := by
  have hx := rx.len
  cases b with
  | true =>
    refine ⟨fun i hi F' H' x y => ?_, fun F' H' x y => ?_, fun i d e F' H' v H'' x y h => ?_⟩
    · rw [List.length_reverse] at hi
      exact ⟨by omega, vs, vs[vs.length - 1 - i]'(by omega), ex_l (x.trans y) sa, List.getElem?_eq_getElem _⟩
    · show vs.length ≤ _
      rw [List.length_reverse]; omega
    · obtain ⟨rfl, h1⟩ := h
      have hi : i < xs.length := by
        have := (List.getElem?_eq_some_iff.mp e).1
        rw [List.length_reverse] at this; exact this
      rw [List.getElem?_reverse hi] at e
      obtain ⟨w1, g1, r1⟩ := rx.get0 e
      have := h1 vs (ex_l (x.trans y) sa)
      rw [← hx, g1] at this
      cases this
      exact ⟨pureL_get px e, F', Tr.refl y, Rp.pure (pureL_get px e) x r1⟩
  | false =>
    refine ⟨fun i hi F' H' x y => ?_, fun F' H' x y => ?_, fun i d e F' H' v H'' x y h => ?_⟩
    · rw [List.length_reverse] at hi
      exact ⟨by omega, vs, vs[vs.length - 1 - i]'(by omega), ex_t (x.trans y) sa, List.getElem?_eq_getElem _⟩
    · show vs.length ≤ _
      rw [List.length_reverse]; omega
    · obtain ⟨rfl, h1⟩ := h
      have hi : i < xs.length := by
        have := (List.getElem?_eq_some_iff.mp e).1
        rw [List.length_reverse] at this; exact this
      rw [List.getElem?_reverse hi] at e
      obtain ⟨w1, g1, r1⟩ := rx.get0 e
      have := h1 vs (ex_t (x.trans y) sa)
      rw [← hx, g1] at this
      cases this
      exact ⟨pureL_get px e, F', Tr.refl y, Rp.pure (pureL_get px e) x r1⟩
def revD (d : D) : Option (List D) := (seqD d).map fun x => x.2.reverse
@[simp] theorem revD_eq (d : D) : revD d = (seqD d).map fun x => x.2.reverse := rfl
/-- looked at; an own one is frozen for the walk -/
def iRev (f : Env → R D) : Env → R (List D) := fun ρ => (f ρ).bind fun d => R.opt (revD d)
@[simp] theorem iRev_eq (f : Env → R D) (ρ : Env) : iRev f ρ = (f ρ).bind fun d => R.opt (revD d) := rfl
def iRevO (f : Env → R D) : Env → R (List D) := fun ρ => (f ρ).bind fun d => if d.cold = true then R.opt (revD d.frz) else .no
@[simp] theorem iRevO_eq (f : Env → R D) (ρ : Env) : iRevO f ρ = (f ρ).bind fun d => if d.cold = true then R.opt (revD d.frz) else .no := rfl
theorem rev_seq {F H F1 H1 : Hp} {d : D} {v : V} {A : List Addr} {ds : List D} {P : It → Hp → Prop} (t1 : Tr F H F1 H1) (r1 : Rp E.k F1 H1 d v A) (e : revD d = some ds) (p : ∀ F' H' J, Tr F H F' H' → Wk E.k J F' ds → P J H') :
    ∃ (a : Addr) (xs : List V), v = .ref a ∧ ((SqL E.k.K H1 a xs ∧ P (Itv E.k.K a xs.length) H1) ∨ (SqT E.k.K H1 a xs ∧ P (RT.ItvT E.k.K a xs.length) H1)) := by
  cases ex : seqD d with
  | none => rw [revD_eq, ex] at e; cases e
  | some x =>
    obtain ⟨b, xs⟩ := x
    rw [revD_eq, ex] at e
    cases e
    obtain ⟨px, a, ws, rfl, sa, r1⟩ := seq_of r1 ex
    have wk := p F1 H1 _ t1 (wk_rev sa px r1)
    refine ⟨a, ws, rfl, ?_⟩
    cases b with
    | true => exact .inl ⟨ex_l t1.fh sa, wk⟩
    | false => exact .inr ⟨ex_t t1.fh sa, wk⟩
theorem ei_rev {tg e : Expr} {f : Env → R D} {p pos : Pos} (hK : E.k.K = X.K) (hg : Gl X "reversed") (hm : X.mg "reversed" = none) (h : EV X E W e f) (hs : starEach [e] X.env = (false, eval e X.env) :: starEach [] X.env := by rfl) :
    EI X E W tg (.Call (.Name "reversed" p) [e] [] pos) (iRev f) := by
  refine ⟨pi_mono (RT.pi_revA hg hm h.pe hs) fun σ H P q => ?_⟩
  obtain ⟨F, ρ, s, q⟩ := q
  refine ⟨F, ρ, s, Res.mono q.bind (fun d _ q F1 H1 v A t1 r1 => ?_) fun c _ z F' H' t => z F' H' t⟩
  obtain ⟨ds, e, p⟩ := Res.opt q
  rw [← hK]
  exact rev_seq t1 r1 e p
theorem ei_revO {tg e : Expr} {f : Env → R D} {p pos : Pos} (hK : E.k.K = X.K) (hg : Gl X "reversed") (hm : X.mg "reversed" = none) (h : EO X E W e f) (hs : starEach [e] X.env = (false, eval e X.env) :: starEach [] X.env := by rfl) :
    EI X E W tg (.Call (.Name "reversed" p) [e] [] pos) (iRevO f) := by
  refine ⟨pi_mono (RT.pi_revA hg hm h.pe hs) fun σ H P q => ?_⟩
  obtain ⟨F, ρ, s, q⟩ := q
  refine ⟨F, ρ, s, Res.mono q.bind (fun d _ q F1 H1 v A t1 r1 nd u => ?_) fun c _ z F' H' t => z F' H' t⟩
  by_cases c : d.cold = true
  · rw [if_pos c] at q
    obtain ⟨ds, e, p⟩ := Res.opt q
    rw [← hK]
    have n := fun a ha => (Rp.dom d v A r1 a ha).1
    exact rev_seq (tr_fz t1 n u) (Rp.frz (H' := H1) n d v A c (fun _ z => z) r1) e p
  · rw [if_neg c] at q
    exact q.elim
/-! range of three, reversed ranges -/
def rngC (lo c : Int) (n : Nat) : List D := (List.range n).map fun i : Nat => .int (lo + (i : Int) * c)
theorem rngC_len (lo c : Int) (n : Nat) : (rngC lo c n).length = n := by simp [rngC]
theorem wk_rngC {k : Kx} {F : Hp} {lo c : Int} {n : Nat} : Wk k (Itc lo c n) F (rngC lo c n) where
  go := fun i hi F' H' _ _ => by
    rw [rngC_len] at hi
    exact hi
  stop := fun F' H' _ _ => by
    rw [rngC_len]
    exact Nat.le_refl _
  yld := fun i d e F' H' v H'' _ y h => by
    obtain ⟨rfl, rfl⟩ := h
    have hi : i < n := by
      have := (List.getElem?_eq_some_iff.mp e).1
      rw [rngC_len] at this
      exact this
    have e' : d = .int (lo + (i : Int) * c) := by
      unfold rngC at e
      rw [List.getElem?_map, List.getElem?_range hi] at e
      exact (Option.some.inj e).symm
    subst e'
    exact ⟨rfl, F', Tr.refl y, rfl, rfl⟩
/-- what the library asks of a range of three -/
def R3Ok (i j c : Int) (n : Nat) : Prop := c ≠ 0 ∧ c.natAbs < 1073741824 ∧ Builtin.Range.small i j c = true ∧ Builtin.Range.rangeSize i j c = (n : Int)
noncomputable instance (i j c : Int) (n : Nat) : Decidable (R3Ok i j c n) := Classical.propDecidable _
/-- the number of turns -/
def cntC (i j c : Int) : Nat := (Builtin.Range.rangeSize i j c).toNat
noncomputable def rng3 : List D → Option (List D)
  | [.int i, .int j, .int c] => if R3Ok i j c (cntC i j c) then some (rngC i c (cntC i j c)) else none
  | _ => none
@[simp] theorem rng3_int (i j c : Int) : rng3 [.int i, .int j, .int c] = if R3Ok i j c (cntC i j c) then some (rngC i c (cntC i j c)) else none := rfl
theorem Vw.three {k : Kx} {F H : Hp} {vs : List V} {d e g : D} (h : Vw k F H vs [d, e, g]) : ∃ v w x A B C, vs = [v, w, x] ∧ Rp k F H d v A ∧ Rp k F H e w B ∧ Rp k F H g x C := by
  cases h with
  | cons r t =>
    obtain ⟨A, r⟩ := r
    obtain ⟨w, x, B, C, rfl, r2, r3⟩ := Vw.two t
    exact ⟨_, w, x, A, B, C, rfl, r, r2, r3⟩
theorem ei_rng3 {tg a b c : Expr} {fs : Env → R (List D)} {p pos : Pos} (hg : Gl X "range") (hm : X.mg "range" = none) (ha : EA X E W [a, b, c] fs)
    (hs : starEach [a, b, c] X.env = (false, eval a X.env) :: starEach [b, c] X.env := by rfl) (hpl : (backTo pos (starEach [b, c] X.env)).any (·.1) = false := by rfl) : EI X E W tg (.Call (.Name "range" p) [a, b, c] [] pos) (iA rng3 fs) := by
  refine ⟨pi_mono (pi_range3 hg hm ha.pa hs hpl) fun σ H P q => ?_⟩
  obtain ⟨F, ρ, s, q⟩ := q
  refine ⟨F, ρ, s, Res.mono q.bind (fun ds he q F1 H1 vs t1 r1 => ?_) fun c _ z F' H' t => z F' H' t⟩
  obtain ⟨es, e, p⟩ := Res.opt q
  clear he
  unfold rng3 at e
  split at e
  · obtain ⟨z, e⟩ := if_some e
    cases e
    obtain ⟨v, w, x, A, B, C, rfl, r, r2, r3⟩ := Vw.three r1
    rw [r.1, r2.1, r3.1]
    exact ⟨_, _, _, _, rfl, z, p F1 H1 _ t1 wk_rngC⟩
  · cases e
noncomputable def rvr1 : D → Option (List D)
  | .int n => if W62 n then some (rngC ((n.toNat : Int) - 1) (-1) n.toNat) else none
  | _ => none
@[simp] theorem rvr1_int (n : Int) : rvr1 (.int n) = if W62 n then some (rngC ((n.toNat : Int) - 1) (-1) n.toNat) else none := rfl
noncomputable def iRv1 (f : Env → R D) : Env → R (List D) := fun ρ => (f ρ).bind fun d => R.opt (rvr1 d)
@[simp] theorem iRv1_eq (f : Env → R D) (ρ : Env) : iRv1 f ρ = (f ρ).bind fun d => R.opt (rvr1 d) := rfl
theorem ei_revR1 {tg a : Expr} {f : Env → R D} {p2 pos2 p pos : Pos} (hg : Gl X "reversed") (hm : X.mg "reversed" = none) (hg2 : Gl X "range") (hm2 : X.mg "range" = none) (h : EV X E W a f) (na : starEach [a] X.env = (false, eval a X.env) :: starEach [] X.env := by rfl)
    (hs : starEach [.Call (.Name "range" p2) [a] [] pos2] X.env = (false, eval (.Call (.Name "range" p2) [a] [] pos2) X.env) :: starEach [] X.env := by rfl) :
    EI X E W tg (.Call (.Name "reversed" p) [.Call (.Name "range" p2) [a] [] pos2] [] pos) (iRv1 f) := by
  refine ⟨pi_mono (pi_revR hg hm (prg_1 hg2 hm2 h.pe na) hs) fun σ H P q => ?_⟩
  obtain ⟨F, ρ, s, q⟩ := q
  refine ⟨F, ρ, s, Res.mono q.bind (fun d _ q F1 H1 v A t1 r1 => ?_) fun c _ z F' H' t => z F' H' t⟩
  obtain ⟨ds, e, p⟩ := Res.opt q
  cases d with
  | int n =>
    obtain ⟨z, e⟩ := if_some (show (if W62 n then some (rngC ((n.toNat : Int) - 1) (-1) n.toNat) else none) = some ds from e)
    subst e
    obtain ⟨z1, z2⟩ := z
    refine ⟨n, r1.1, by omega, by omega, by omega, by omega, ?_⟩
    have e1 : (0 : Int) + (((n - 0).toNat : Nat) : Int) - 1 = (n.toNat : Int) - 1 := by rw [Int.sub_zero]; omega
    rw [e1, Int.sub_zero]
    exact p F1 H1 _ t1 wk_rngC
  | _ => cases e
end
end Dv
end
section
set_option maxRecDepth 100000
set_option maxHeartbeats 1000000
namespace Dv
open PySem PySem.Spec PyProof.Rows L2

section
variable {X : Cx} {E : En} {W : WX}
/-! ### in -/
def rInT (K : PySem.W.Frag) : R2 := fun x y H Q => ∃ d ds, Dp K H x d ∧ Dp K H y (.tuple ds) ∧ SeqAt.shaped d = true ∧ SeqAt.shaped (.tuple ds) = true ∧ Q (.bl (ds.any fun z => PyData.eqv z d)) H
def rNotInT (K : PySem.W.Frag) : R2 := fun x y H Q => ∃ d ds, Dp K H x d ∧ Dp K H y (.tuple ds) ∧ SeqAt.shaped d = true ∧ SeqAt.shaped (.tuple ds) = true ∧ Q (.bl (!ds.any fun z => PyData.eqv z d)) H
theorem op_inT (hu : X.A.units + 65 < cLine) : OpR X (compareOp .In) (rInT X.K) := by
  intro pins s σ H x y v u Q I rx ry h
  obtain ⟨d, ds, hd, he, sd, se, q⟩ := h
  obtain ⟨as, r1⟩ := Dp.reads I d x v hd rx
  obtain ⟨bs, r2⟩ := Dp.reads I (.tuple ds) y u he ry
  exact SeqAt.in_tuple_reads r2 r1 (SeqAt.canLay_of_shaped se) (SeqAt.canLay_of_shaped sd) (room_in_shaped sd hu) ⟨.bl _, H, I, rfl, q⟩
theorem op_notInT (hu : X.A.units + 65 < cLine) : OpR X (compareOp .NotIn) (rNotInT X.K) := by
  intro pins s σ H x y v u Q I rx ry h
  obtain ⟨d, ds, hd, he, sd, se, q⟩ := h
  obtain ⟨as, r1⟩ := Dp.reads I d x v hd rx
  obtain ⟨bs, r2⟩ := Dp.reads I (.tuple ds) y u he ry
  exact SeqAt.notIn_tuple_reads r2 r1 (SeqAt.canLay_of_shaped se) (SeqAt.canLay_of_shaped sd) (room_in_shaped sd hu) ⟨.bl _, H, I, rfl, q⟩
theorem D.any_eqv (d : D) : ∀ xs : List D, (D.toPL xs).any (fun z => PyData.eqv z d.toP) = xs.any fun y => y.eqv d
  | [] => rfl
  | x :: xs => by
    rw [D.toPL, List.any_cons, List.any_cons, D.any_eqv d xs]
    rfl
def txs : List D → Option (List Str)
  | [] => some []
  | .str x :: xs => (txs xs).map fun r => x :: r
  | _ :: _ => none
@[simp] theorem txs_nil : txs [] = some [] := rfl
@[simp] theorem txs_cons (x : Str) (xs : List D) : txs (.str x :: xs) = (txs xs).map fun r => x :: r := rfl
theorem txs_rp {k : Kx} {F H : Hp} : ∀ {xs : List D} {vs : List V} {A : List Addr} {ss : List Str}, RpL k F H xs vs A → txs xs = some ss → vs = ss.map V.str
  | [], vs, A, ss, h, e => by
    cases e
    rw [h.1]; rfl
  | .str x :: xs, vs, A, ss, h, e => by
    obtain ⟨v, ws, B, C, rfl, rfl, h1, h2⟩ := h
    rw [txs_cons] at e
    cases z : txs xs with
    | none => rw [z] at e; cases e
    | some r =>
      rw [z] at e
      cases e
      rw [txs_rp h2 z, h1.1]
      rfl
  | .non :: _, _, _, _, _, e => nomatch e
  | .bl _ :: _, _, _, _, _, e => nomatch e
  | .int _ :: _, _, _, _, _, e => nomatch e
  | .tup _ :: _, _, _, _, _, e => nomatch e
  | .lst _ _ :: _, _, _, _, _, e => nomatch e
  | .scr _ :: _, _, _, _, _, e => nomatch e
  | .dic _ _ _ :: _, _, _, _, _, e => nomatch e
  | .dit _ _ _ :: _, _, _, _, _, e => nomatch e
  | .ins _ _ _ :: _, _, _, _, _, e => nomatch e
  | .fn _ :: _, _, _, _, _, e => nomatch e
theorem inV_txs (x : Str) : ∀ ss : List Str, inV (.str x) (ss.map V.str) = ss.any (· == x)
  | [] => rfl
  | s :: ss => by
    have ih := inV_txs x ss
    unfold inV at ih ⊢
    rw [List.map_cons, List.any_cons, List.any_cons, ih]
    rfl
theorem flat_txs : ∀ ss : List Str, (ss.map V.str).all flatV = true
  | [] => rfl
  | s :: ss => by rw [List.map_cons, List.all_cons, flat_txs ss]; rfl
/-- x in a list, a tuple, a text -/
def inB : D → D → Option Bool
  | .str x, .str z => if x.length = 1 then some (decide (x.cps.getD 0 0 ∈ z.cps.toList)) else none
  | x, s => match items s with
    | some xs => match x, txs xs with
      | .str x, some ss => some (ss.any (· == x))
      | _, _ => if x.lay 60 = true ∧ s.lay 60 = true then some (xs.any fun y => y.eqv x) else none
    | none => none
def gIn (x s : D) : Option D := (inB x s).map fun b => .bl b
def gNotIn (x s : D) : Option D := (inB x s).map fun b => .bl (!b)
def rInA (K : PySem.W.Frag) : R2 := fun x y H Q => (rInD K x y H Q ∨ rInT K x y H Q) ∨ (rIn K false x y H Q ∨ ∃ (c : Nat) (z : Str), x = .str ⟨#[c]⟩ ∧ y = .str z ∧ Q (.bl (decide (c ∈ z.cps.toList))) H)
def rNotInA (K : PySem.W.Frag) : R2 := fun x y H Q => (rNotInD K x y H Q ∨ rNotInT K x y H Q) ∨ (rIn K true x y H Q ∨ ∃ (c : Nat) (z : Str), x = .str ⟨#[c]⟩ ∧ y = .str z ∧ Q (.bl (!decide (c ∈ z.cps.toList))) H)
theorem op_inA (hu : X.A.units + 65 < cLine) : OpR X (compareOp .In) (rInA X.K) := ((op_inD hu).or (op_inT hu)).or (op_in_seq.or op_in_sign)
theorem op_notInA (hu : X.A.units + 65 < cLine) : OpR X (compareOp .NotIn) (rNotInA X.K) := ((op_notInD hu).or (op_notInT hu)).or (op_notIn_seq.or op_notIn_sign)
theorem one_sign {x : Str} (h : x.length = 1) : x = ⟨#[x.cps.getD 0 0]⟩ := by
  obtain ⟨a⟩ := x
  have h : a.size = 1 := h
  congr 1
  refine Array.ext h fun i h1 h2 => ?_
  have : i = 0 := by omega
  subst this
  simp [Array.getD, h]
theorem inB_says {F H : Hp} {x s : D} {v w : V} {A B : List Addr} {b : Bool} (fh : Ex F H) (rx : Rp E.k F H x v A) (ry : Rp E.k F H s w B) (e : inB x s = some b) :
    ((∃ d ds, Dp E.k.K H v d ∧ Dp E.k.K H w (.list ds) ∧ SeqAt.shaped d = true ∧ SeqAt.shaped (.list ds) = true ∧ (ds.any fun z => PyData.eqv z d) = b) ∨ (∃ d ds, Dp E.k.K H v d ∧ Dp E.k.K H w (.tuple ds) ∧ SeqAt.shaped d = true ∧ SeqAt.shaped (.tuple ds) = true ∧ (ds.any fun z => PyData.eqv z d) = b)) ∨
    ((∃ p xs, w = .ref p ∧ (SqL E.k.K H p xs ∨ SqT E.k.K H p xs) ∧ flatV v = true ∧ xs.all flatV = true ∧ inV v xs = b) ∨ ∃ (c : Nat) (z : Str), v = .str ⟨#[c]⟩ ∧ w = .str z ∧ decide (c ∈ z.cps.toList) = b) := by
  have deep : ∀ xs, items s = some xs → (if x.lay 60 = true ∧ s.lay 60 = true then some (xs.any fun y => y.eqv x) else none) = some b → ((∃ d ds, Dp E.k.K H v d ∧ Dp E.k.K H w (.list ds) ∧ SeqAt.shaped d = true ∧ SeqAt.shaped (.list ds) = true ∧ (ds.any fun z => PyData.eqv z d) = b) ∨ (∃ d ds, Dp E.k.K H v d ∧ Dp E.k.K H w (.tuple ds) ∧ SeqAt.shaped d = true ∧ SeqAt.shaped (.tuple ds) = true ∧ (ds.any fun z => PyData.eqv z d) = b)) := fun xs es e => by
    obtain ⟨z, eb⟩ := if_some e
    cases s with
    | lst o ys =>
      cases es
      refine .inl ⟨x.toP, D.toPL xs, Rp.dp fh 60 x v A z.1 rx, Rp.dp fh 60 (.lst o xs) w B z.2 ry, D.lay_shaped z.1, D.lay_shaped (d := .lst o xs) z.2, ?_⟩
      rw [D.any_eqv, eb]
    | tup ys =>
      cases es
      refine .inr ⟨x.toP, D.toPL xs, Rp.dp fh 60 x v A z.1 rx, Rp.dp fh 60 (.tup xs) w B z.2 ry, D.lay_shaped z.1, D.lay_shaped (d := .tup xs) z.2, ?_⟩
      rw [D.any_eqv, eb]
    | _ => cases es
  unfold inB at e
  split at e
  · obtain ⟨z, e⟩ := if_some e
    rw [rx.1, ry.1]
    exact .inr (.inr ⟨_, _, congrArg V.str (one_sign z), rfl, e⟩)
  · split at e
    · rename_i xs es
      split at e
      · rename_i ess _
        obtain ⟨a, vs, B', rfl, sq, r⟩ := ry.items fh es
        have := txs_rp r ess
        subst this
        rw [rx.1]
        refine .inr (.inl ⟨a, _, rfl, sq.symm, rfl, flat_txs _, ?_⟩)
        rw [inV_txs]
        exact Option.some.inj e
      · exact .inl (deep xs es e)
    · cases e
theorem says_in : Says2 E (rInA E.k.K) gIn := by
  intro F H x y v w A B Q d fh rx ry e g
  unfold gIn at e
  cases eb : inB x y with
  | none => rw [eb] at e; cases e
  | some b =>
    rw [eb] at e
    cases e
    have qb : Q (.bl b) H := g.scal fh fun _ _ => ⟨rfl, rfl⟩
    rcases inB_says fh rx ry eb with (⟨d, ds, h1, h2, h3, h4, h5⟩ | ⟨d, ds, h1, h2, h3, h4, h5⟩) | (⟨p, xs, h1, h2, h3, h4, h5⟩ | ⟨c, z, h1, h2, h3⟩)
    · exact .inl (.inl ⟨d, ds, h1, h2, h3, h4, by rw [h5]; exact qb⟩)
    · exact .inl (.inr ⟨d, ds, h1, h2, h3, h4, by rw [h5]; exact qb⟩)
    · exact .inr (.inl ⟨p, xs, h1, h2, h3, h4, by rw [if_neg Bool.false_ne_true, h5]; exact qb⟩)
    · exact .inr (.inr ⟨c, z, h1, h2, by rw [h3]; exact qb⟩)
theorem says_notIn : Says2 E (rNotInA E.k.K) gNotIn := by
  intro F H x y v w A B Q d fh rx ry e g
  unfold gNotIn at e
  cases eb : inB x y with
  | none => rw [eb] at e; cases e
  | some b =>
    rw [eb] at e
    cases e
    have qb : Q (.bl (!b)) H := g.scal fh fun _ _ => ⟨rfl, rfl⟩
    rcases inB_says fh rx ry eb with (⟨d, ds, h1, h2, h3, h4, h5⟩ | ⟨d, ds, h1, h2, h3, h4, h5⟩) | (⟨p, xs, h1, h2, h3, h4, h5⟩ | ⟨c, z, h1, h2, h3⟩)
    · exact .inl (.inl ⟨d, ds, h1, h2, h3, h4, by rw [h5]; exact qb⟩)
    · exact .inl (.inr ⟨d, ds, h1, h2, h3, h4, by rw [h5]; exact qb⟩)
    · exact .inr (.inl ⟨p, xs, h1, h2, h3, h4, by rw [if_pos rfl, h5]; exact qb⟩)
    · exact .inr (.inr ⟨c, z, h1, h2, by rw [h3]; exact qb⟩)
section
variable {a b : Expr} {fa fb : Env → R D} {pos : Pos}
theorem room65 {k : Nat} {A : Around} (r : Room k A) : A.units + 65 < cLine := by have := r.un; omega
theorem eo_in (hK : E.k.K = X.K) (hu : X.A.units + 65 < cLine) (ha : EV X E W a fa) (hb : EV X E W b fb) (hm : behindInMarks .In b = false := by rfl) : EO X E W (.Compare a [.In] [b] pos) (e2 gIn fa fb) := eo_cmp (op_inA hu) (by rw [← hK]; exact says_in) hm ha hb
theorem eo_notIn (hK : E.k.K = X.K) (hu : X.A.units + 65 < cLine) (ha : EV X E W a fa) (hb : EV X E W b fb) (hm : behindInMarks .NotIn b = false := by rfl) : EO X E W (.Compare a [.NotIn] [b] pos) (e2 gNotIn fa fb) := eo_cmp (op_notInA hu) (by rw [← hK]; exact says_notIn) hm ha hb
end
/-! ### built-ins over a list of ints -/
def dInts? : List D → Option (List Int)
  | [] => some []
  | .int x :: xs => (dInts? xs).map fun r => x :: r
  | _ :: _ => none
@[simp] theorem dIntsO_nil : dInts? [] = some [] := rfl
@[simp] theorem dIntsO_cons (x : Int) (xs : List D) : dInts? (.int x :: xs) = (dInts? xs).map fun r => x :: r := rfl
@[simp] theorem dIntsO_dInts : ∀ ns : List Int, dInts? (dInts ns) = some ns
  | [] => rfl
  | n :: ns => by
    show (dInts? (dInts ns)).map (fun r => n :: r) = _
    rw [dIntsO_dInts ns]; rfl
theorem dIntsO_some : ∀ {xs : List D} {ns : List Int}, dInts? xs = some ns → xs = dInts ns
  | [], ns, e => by cases e; rfl
  | .int x :: xs, ns, e => by
    rw [dIntsO_cons] at e
    cases z : dInts? xs with
    | none => rw [z] at e; cases e
    | some r =>
      rw [z] at e
      cases e
      rw [dIntsO_some z]; rfl
  | .non :: _, _, e => nomatch e
  | .bl _ :: _, _, e => nomatch e
  | .str _ :: _, _, e => nomatch e
  | .tup _ :: _, _, e => nomatch e
  | .lst _ _ :: _, _, e => nomatch e
  | .scr _ :: _, _, e => nomatch e
  | .dic _ _ _ :: _, _, e => nomatch e
  | .dit _ _ _ :: _, _, e => nomatch e
  | .ins _ _ _ :: _, _, e => nomatch e
  | .fn _ :: _, _, e => nomatch e
theorem rp_ints {k : Kx} {F H : Hp} : ∀ {ns : List Int} {vs : List V} {A : List Addr}, RpL k F H (dInts ns) vs A → vs = ns.map V.int
  | [], vs, A, h => by rw [h.1]; rfl
  | n :: ns, vs, A, h => by
    obtain ⟨v, ws, B, C, rfl, rfl, h1, h2⟩ := h
    rw [rp_ints h2, h1.1]
    rfl
/-- a list of ints, looked at -/
def lInts : D → Option (List Int)
  | .lst _ xs => dInts? xs
  | .scr xs => dInts? xs
  | _ => none
@[simp] theorem lInts_lst (o : Bool) (xs : List D) : lInts (.lst o xs) = dInts? xs := rfl
@[simp] theorem lInts_scr (xs : List D) : lInts (.scr xs) = dInts? xs := rfl
theorem lInts_sq {F H : Hp} {d : D} {v : V} {A : List Addr} {ns : List Int} (fh : Ex F H) (r : Rp E.k F H d v A) (e : lInts d = some ns) : ∃ a, v = .ref a ∧ SqL E.k.K H a (ns.map V.int) := by
  cases d with
  | lst o xs =>
    obtain ⟨a, vs, B, rfl, s, r⟩ := Rp.lstW fh r
    have := dIntsO_some (show dInts? xs = some ns from e)
    subst this
    rw [rp_ints r] at s
    exact ⟨a, rfl, .inl (.inl s)⟩
  | scr xs =>
    obtain ⟨a, vs, rfl, _, s, r⟩ := r
    have := dIntsO_some (show dInts? xs = some ns from e)
    subst this
    rw [rp_ints r] at s
    exact ⟨a, rfl, ex_l fh s⟩
  | _ => cases e
def gSum : List D → Option D
  | [x] => (lInts x).map fun ns => .int ns.sum
  | _ => none
@[simp] theorem gSum_one (x : D) : gSum [x] = (lInts x).map fun ns => .int ns.sum := rfl
theorem says_sum : SaysC E (rSum E.k.K) gSum := by
  intro F H ds vs Q d fh r e g
  unfold gSum at e
  split at e
  · rename_i x
    cases ex : lInts x with
    | none => rw [ex] at e; cases e
    | some ns =>
      rw [ex] at e
      cases e
      obtain ⟨v, A, rfl, rr⟩ := r.one
      obtain ⟨a, rfl, s⟩ := lInts_sq fh rr ex
      exact ⟨a, ns, rfl, s, g.scal fh fun _ _ => ⟨rfl, rfl⟩⟩
  · cases e
/-- the greatest, the least -/
def maxL : List Int → Int
  | [] => 0
  | [x] => x
  | x :: xs => max x (maxL xs)
def minL : List Int → Int
  | [] => 0
  | [x] => x
  | x :: xs => min x (minL xs)
theorem maxL_cons (x y : Int) (xs : List Int) : maxL (x :: y :: xs) = max x (maxL (y :: xs)) := rfl
theorem minL_cons (x y : Int) (xs : List Int) : minL (x :: y :: xs) = min x (minL (y :: xs)) := rfl
theorem maxL_ge : ∀ (ns : List Int), ∀ y ∈ ns, y ≤ maxL ns
  | [], y, h => nomatch h
  | [x], y, h => by rw [List.mem_singleton.mp h]; exact Int.le_refl _
  | x :: z :: xs, y, h => by
    rw [maxL_cons]
    rcases List.mem_cons.mp h with rfl | h
    · exact Int.le_max_left _ _
    · exact Int.le_trans (maxL_ge (z :: xs) y h) (Int.le_max_right _ _)
theorem maxL_mem : ∀ (ns : List Int), ns ≠ [] → maxL ns ∈ ns
  | [], h => absurd rfl h
  | [x], _ => List.mem_singleton.mpr rfl
  | x :: z :: xs, _ => by
    rw [maxL_cons]
    rcases Int.le_total x (maxL (z :: xs)) with h | h
    · rw [Int.max_eq_right h]; exact List.mem_cons_of_mem _ (maxL_mem _ (by simp))
    · rw [Int.max_eq_left h]; exact List.mem_cons_self
theorem minL_le : ∀ (ns : List Int), ∀ y ∈ ns, minL ns ≤ y
  | [], y, h => nomatch h
  | [x], y, h => by rw [List.mem_singleton.mp h]; exact Int.le_refl _
  | x :: z :: xs, y, h => by
    rw [minL_cons]
    rcases List.mem_cons.mp h with rfl | h
    · exact Int.min_le_left _ _
    · exact Int.le_trans (Int.min_le_right _ _) (minL_le (z :: xs) y h)
theorem minL_mem : ∀ (ns : List Int), ns ≠ [] → minL ns ∈ ns
  | [], h => absurd rfl h
  | [x], _ => List.mem_singleton.mpr rfl
  | x :: z :: xs, _ => by
    rw [minL_cons]
    rcases Int.le_total x (minL (z :: xs)) with h | h
    · rw [Int.min_eq_left h]; exact List.mem_cons_self
    · rw [Int.min_eq_right h]; exact List.mem_cons_of_mem _ (minL_mem _ (by simp))
def gMax1 : List D → Option D
  | [x] => (lInts x).bind fun ns => if 0 < ns.length then some (.int (maxL ns)) else none
  | _ => none
def gMin1 : List D → Option D
  | [x] => (lInts x).bind fun ns => if 0 < ns.length then some (.int (minL ns)) else none
  | _ => none
@[simp] theorem gMax1_one (x : D) : gMax1 [x] = (lInts x).bind fun ns => if 0 < ns.length then some (.int (maxL ns)) else none := rfl
@[simp] theorem gMin1_one (x : D) : gMin1 [x] = (lInts x).bind fun ns => if 0 < ns.length then some (.int (minL ns)) else none := rfl
theorem says_max1 : SaysC E (rMax E.k.K) gMax1 := by
  intro F H ds vs Q d fh r e g
  unfold gMax1 at e
  split at e
  · rename_i x
    cases ex : lInts x with
    | none => rw [ex] at e; cases e
    | some ns =>
      rw [ex] at e
      obtain ⟨z, e⟩ := if_some (show (if 0 < ns.length then some (D.int (maxL ns)) else none) = some d from e)
      cases e
      obtain ⟨v, A, rfl, rr⟩ := r.one
      obtain ⟨a, rfl, s⟩ := lInts_sq fh rr ex
      refine ⟨a, ns, rfl, s, z, fun m h1 h2 => ?_⟩
      have : m = maxL ns := Int.le_antisymm (maxL_ge ns m h1) (h2 _ (maxL_mem ns (by intro q; subst q; cases h1)))
      rw [this]
      exact g.scal fh fun _ _ => ⟨rfl, rfl⟩
  · cases e
theorem says_min1 : SaysC E (rMin E.k.K) gMin1 := by
  intro F H ds vs Q d fh r e g
  unfold gMin1 at e
  split at e
  · rename_i x
    cases ex : lInts x with
    | none => rw [ex] at e; cases e
    | some ns =>
      rw [ex] at e
      obtain ⟨z, e⟩ := if_some (show (if 0 < ns.length then some (D.int (minL ns)) else none) = some d from e)
      cases e
      obtain ⟨v, A, rfl, rr⟩ := r.one
      obtain ⟨a, rfl, s⟩ := lInts_sq fh rr ex
      refine ⟨a, ns, rfl, s, z, fun m h1 h2 => ?_⟩
      have : m = minL ns := Int.le_antisymm (h2 _ (minL_mem ns (by intro q; subst q; cases h1))) (minL_le ns m h1)
      rw [this]
      exact g.scal fh fun _ _ => ⟨rfl, rfl⟩
  · cases e
/-- sorted -/
def sortI (ns : List Int) : List Int := ns.mergeSort (fun a b => decide (a ≤ b))
theorem sortI_perm (ns : List Int) : (sortI ns).Perm ns := List.mergeSort_perm _ _
theorem sortI_sorted (ns : List Int) : (sortI ns).Pairwise (· ≤ ·) := by
  have h := List.pairwise_mergeSort (le := fun a b : Int => decide (a ≤ b)) (fun a b c h1 h2 => by simp at *; omega) (fun a b => by simp; omega) ns
  exact h.imp fun h => by simpa using h
theorem sorted_unique {xs ys : List Int} (p : xs.Perm ys) (hx : xs.Pairwise (· ≤ ·)) (hy : ys.Pairwise (· ≤ ·)) : xs = ys := p.eq_of_pairwise (fun a b _ _ h1 h2 => Int.le_antisymm h1 h2) hx hy
def gSorted : List D → Option D
  | [x] => (lInts x).map fun ns => .lst true (dInts (sortI ns))
  | _ => none
@[simp] theorem gSorted_one (x : D) : gSorted [x] = (lInts x).map fun ns => .lst true (dInts (sortI ns)) := rfl
theorem says_sorted : SaysC E (rSortedI E.k.K) gSorted := by
  intro F H ds vs Q d fh r e g
  unfold gSorted at e
  split at e
  · rename_i x
    cases ex : lInts x with
    | none => rw [ex] at e; cases e
    | some ns =>
      rw [ex] at e
      cases e
      obtain ⟨v, A, rfl, rr⟩ := r.one
      obtain ⟨a, rfl, s⟩ := lInts_sq fh rr ex
      refine ⟨a, ns, rfl, s, fun ns' p h1 h2 hp => ?_⟩
      rw [sorted_unique (h1.trans (sortI_perm ns).symm) h2 (sortI_sorted ns)]
      exact GOk.lst fh g hp (rp_dInts _)
  · cases e
def gChr : List D → Option D
  | [.int i] => if 0 ≤ i ∧ i ≤ 1114111 then some (.str ⟨#[i.toNat]⟩) else none
  | _ => none
@[simp] theorem gChr_int (i : Int) : gChr [.int i] = if 0 ≤ i ∧ i ≤ 1114111 then some (.str ⟨#[i.toNat]⟩) else none := rfl
theorem says_chr : SaysC E (fun xs H Q => ∃ i, xs = [.int i] ∧ 0 ≤ i ∧ i ≤ 1114111 ∧ Q (.str ⟨#[i.toNat]⟩) H) gChr := by
  intro F H ds vs Q d fh r e g
  unfold gChr at e
  split at e
  · obtain ⟨z, e⟩ := if_some e
    cases e
    obtain ⟨v, A, rfl, rr⟩ := r.one
    rw [rr.1]
    exact ⟨_, rfl, z.1, z.2, g.scal fh fun _ _ => ⟨rfl, rfl⟩⟩
  · cases e
/-! ### methods of a text -/
def isStr : D → Bool
  | .str _ => true
  | _ => false
@[simp] theorem isStr_str (x : Str) : isStr (.str x) = true := rfl
def eM1 (g : D → D → Option D) (fo f : Env → R D) : Env → R D := fun ρ => (fo ρ).bind fun x => if isStr x = true then (f ρ).bind fun y => R.opt (g x y) else .no
@[simp] theorem eM1_eq (g : D → D → Option D) (fo f : Env → R D) (ρ : Env) : eM1 g fo f ρ = (fo ρ).bind fun x => if isStr x = true then (f ρ).bind fun y => R.opt (g x y) else .no := rfl
def eM0 (g : D → Option D) (fo : Env → R D) : Env → R D := fun ρ => (fo ρ).bind fun x => R.opt (g x)
@[simp] theorem eM0_eq (g : D → Option D) (fo : Env → R D) (ρ : Env) : eM0 g fo ρ = (fo ρ).bind fun x => R.opt (g x) := rfl
/-- g says what the method r does -/
def SaysM1 (E : En) (r : V → List V → Hp → VK → Prop) (g : D → D → Option D) : Prop := ∀ F H x y v w A B Q d, Ex F H → Rp E.k F H x v A → Rp E.k F H y w B → g x y = some d → GOk E F H Q d → r v [w] H Q
def SaysM0 (E : En) (r : V → List V → Hp → VK → Prop) (g : D → Option D) : Prop := ∀ F H x v A Q d, Ex F H → Rp E.k F H x v A → g x = some d → GOk E F H Q d → (∃ a, v = .str a) ∧ r v [] H Q
theorem eo_m1 {id : String} {name : Str} {o e : Expr} {fo f : Env → R D} {apos pos : Pos} {r : V → List V → Hp → VK → Prop} {g : D → D → Option D} (slot : Slot "str" name id) (ty : typeOf (.builtin id) = pure (.type "method_descriptor")) (rule : MtR X id r) (hg : SaysM1 E r g) (ho : EV X E W o fo) (he : EV X E W e f)
    (hs : starEach [e] X.env = [(false, eval e X.env)] := by rfl) (hbase : attributeBase o name X.env (eval o X.env) = eval o X.env := by rfl) (hline : (apos.endLine == pos.line) = true := by rfl) :
    EO X E W (.Call (.Attribute o name apos) [e] [] pos) (eM1 g fo f) := by
  refine ⟨pe_mono (pe_m1 slot ty rule ho.pe he.pe hs hbase hline) fun σ H Q h => ?_⟩
  obtain ⟨F, ρ, s, q⟩ := h
  refine ⟨F, ρ, s, Res.mono q.bind (fun x _ q F1 H1 v A t1 r1 => ?_) fun c _ z F' H' t => z F' H' t⟩
  by_cases hx : isStr x = true
  · rw [if_pos hx] at q
    refine ⟨?_, F1, ρ, s.tr t1, Res.mono q.bind (fun y _ q F2 H2 w B t2 r2 => ?_) fun c _ z F' H' t => z F' H' (t1.trans t)⟩
    · cases x with
      | str a => exact ⟨a, r1.1⟩
      | _ => cases hx
    · obtain ⟨d, e, p⟩ := Res.opt q
      exact hg F2 H2 x y v w A B Q d t2.fh (r1.tr t2) r2 e (GOk.back (E := E) (F := F) (H := H) p (t1.trans t2))
  · rw [if_neg hx] at q; exact q.elim
theorem eo_m0 {id : String} {name : Str} {o : Expr} {fo : Env → R D} {apos pos : Pos} {r : V → List V → Hp → VK → Prop} {g : D → Option D} (slot : Slot "str" name id) (ty : typeOf (.builtin id) = pure (.type "method_descriptor")) (rule : MtR X id r) (hg : SaysM0 E r g) (ho : EV X E W o fo)
    (hbase : attributeBase o name X.env (eval o X.env) = eval o X.env := by rfl) (hline : (apos.endLine == pos.line) = true := by rfl) : EO X E W (.Call (.Attribute o name apos) [] [] pos) (eM0 g fo) := by
  refine ⟨pe_mono (pe_m0 slot ty rule ho.pe hbase hline) fun σ H Q h => ?_⟩
  obtain ⟨F, ρ, s, q⟩ := h
  refine ⟨F, ρ, s, Res.mono q.bind (fun x _ q F1 H1 v A t1 r1 => ?_) fun c _ z F' H' t => z F' H' t⟩
  obtain ⟨d, e, p⟩ := Res.opt q
  exact hg F1 H1 x v A Q d t1.fh r1 e (GOk.back (E := E) (F := F) (H := H) p t1)
def gJoin : D → D → Option D
  | .str a, x => match items x with
    | some xs => match txs xs with
      | some ss => if (ss.map (·.length)).sum + ss.length * a.length ≤ 16777216 then some (.str (Txt.join a ss)) else none
      | none => none
    | none => none
  | _, _ => none
@[simp] theorem gJoin_eq (a : Str) (x : D) : gJoin (.str a) x = match items x with
    | some xs => match txs xs with
      | some ss => if (ss.map (·.length)).sum + ss.length * a.length ≤ 16777216 then some (.str (Txt.join a ss)) else none
      | none => none
    | none => none := by cases x <;> rfl
theorem says_join : SaysM1 E (fun x xs H Q => ∃ a p, ∃ ys : List Str, x = .str a ∧ xs = [.ref p] ∧ (SqL E.k.K H p (ys.map V.str) ∨ SqT E.k.K H p (ys.map V.str)) ∧
    (ys.map (·.length)).sum + ys.length * a.length ≤ 16777216 ∧ Q (.str (Txt.join a ys)) H) gJoin := by
  intro F H x y v w A B Q d fh rx ry e g
  cases x with
  | str a =>
    rw [gJoin_eq] at e
    split at e
    · rename_i xs es
      split at e
      · rename_i ss ess
        obtain ⟨z, e⟩ := if_some e
        cases e
        obtain ⟨p, vs, B', rfl, sq, r⟩ := ry.items fh es
        have := txs_rp r ess
        subst this
        exact ⟨a, p, ss, rx.1, rfl, sq.symm, z, g.scal fh fun _ _ => ⟨rfl, rfl⟩⟩
      · cases e
    · cases e
  | _ => cases e
theorem eo_join {o e : Expr} {fo f : Env → R D} {apos pos : Pos} (hK : E.k.K = X.K) (ho : EV X E W o fo) (he : EV X E W e f) (hs : starEach [e] X.env = [(false, eval e X.env)] := by rfl) (hbase : attributeBase o "join" X.env (eval o X.env) = eval o X.env := by rfl) (hline : (apos.endLine == pos.line) = true := by rfl) :
    EO X E W (.Call (.Attribute o "join" apos) [e] [] pos) (eM1 gJoin fo f) := eo_m1 PySem.F.slot_str_join PySem.F.type_str_join mt_join (by rw [← hK]; exact says_join) ho he hs hbase hline
end
end Dv
end
section
set_option maxRecDepth 100000
set_option maxHeartbeats 1000000
namespace Dv
open PySem PySem.Spec PyProof.Rows L2

/-! ### the module's tuples and lists -/
def Rv (k : Kx) (d : D) (u : Value) : Prop := ∃ v, RelV v u ∧ ∀ F H, Rp k F H d v []
def RvL (k : Kx) : List D → List Value → Prop
  | [], [] => True
  | d :: ds, u :: us => Rv k d u ∧ RvL k ds us
  | _, _ => False
theorem rv_int {k : Kx} {i : Int} {t : Tok} : Rv k (.int i) (.int i t) := ⟨.int i, ⟨_, rfl⟩, fun _ _ => ⟨rfl, rfl⟩⟩
theorem rv_str {k : Kx} {i : Str} {t : Tok} : Rv k (.str i) (.str i t) := ⟨.str i, ⟨_, rfl⟩, fun _ _ => ⟨rfl, rfl⟩⟩
theorem rv_bl {k : Kx} {b : Bool} : Rv k (.bl b) (.bool b) := ⟨.bl b, rfl, fun _ _ => ⟨rfl, rfl⟩⟩
theorem rv_non {k : Kx} : Rv k .non .none := ⟨.non, rfl, fun _ _ => ⟨rfl, rfl⟩⟩
theorem rvL_nil {k : Kx} : RvL k [] [] := trivial
theorem rvL_cons {k : Kx} {d : D} {u : Value} {ds : List D} {us : List Value} (h : Rv k d u) (t : RvL k ds us) : RvL k (d :: ds) (u :: us) := ⟨h, t⟩
theorem RvL.get {k : Kx} : ∀ {ds : List D} {us : List Value}, RvL k ds us → ∃ vs, Vals vs us ∧ ∀ F H, RpL k F H ds vs []
  | [], [], _ => ⟨[], .nil, fun _ _ => ⟨rfl, rfl⟩⟩
  | d :: ds, u :: us, ⟨⟨v, r, h⟩, t⟩ => by
    obtain ⟨vs, rs, hs⟩ := RvL.get t
    exact ⟨v :: vs, .cons r rs, fun F H => ⟨v, vs, [], [], rfl, rfl, h F H, hs F H⟩⟩
  | [], _ :: _, h => h.elim
  | _ :: _, [], h => h.elim
theorem rv_tup {k : Kx} {a : Addr} {od : Option Addr} {its : Array Value} {n : Nat} {sl : Array (Option Value)} {ds : List D} (l : k.K.lookup a = some ⟨.type "tuple", od, .seq its n, sl⟩) (hz : its.size ≤ 16777216) (h : RvL k ds its.toList) : Rv k (.tup ds) (.ref a) := by
  obtain ⟨vs, r, hs⟩ := h.get
  exact ⟨.ref a, rfl, fun F H => ⟨a, vs, rfl, .inr ⟨_, its, n, l, rfl, rfl, by rw [sizeLine_eq]; exact hz, r⟩, hs F H⟩⟩
theorem rv_lst {k : Kx} {a : Addr} {its : Array Value} {n : Nat} {sl : Array (Option Value)} {ds : List D} (l : k.K.lookup a = some ⟨.type "list", none, .seq its n, sl⟩) (hz : its.size ≤ 16777216) (h : RvL k ds its.toList) : Rv k (.scr ds) (.ref a) := by
  obtain ⟨vs, r, hs⟩ := h.get
  exact ⟨.ref a, rfl, fun F H => ⟨a, vs, rfl, rfl, .inr ⟨_, its, n, l, rfl, rfl, rfl, by rw [sizeLine_eq]; exact hz, r⟩, hs F H⟩⟩
theorem glob_rv {k : Kx} {mg : Str → Option Value} {x : Str} {d : D} {u : Value} (h : mg x = some u) (r : Rv k d u) : Glob k mg x d :=
  let ⟨v, r, h'⟩ := r
  ⟨u, v, h, r, h'⟩
/-! ### more about comprehensions, for the mathematics -/
/-- what is made of the items that stay -/
theorem lcL_of {g : D → Env → Option Env} {t : Env → R Bool} {f : Env → R D} {ρ : Env} (ty : D → Bool) (y : D → D) : ∀ (ds acc : List D), (∀ d ∈ ds, ∃ ρ1, g d ρ = some ρ1 ∧ t ρ1 = .ok (ty d) ∧ (ty d = true → f ρ1 = .ok (y d))) → acc.length + ds.length ≤ 16777216 →
    lcL g t f ρ ds acc = .ok (.lst true (acc ++ (ds.filter ty).map y))
  | [], acc, _, _ => by rw [lcL_nil]; simp
  | d :: ds, acc, h, hl => by
    obtain ⟨ρ1, e1, e2, e3⟩ := h d List.mem_cons_self
    rw [List.length_cons] at hl
    have ih := fun acc => lcL_of (g := g) (t := t) (f := f) (ρ := ρ) ty y ds acc fun d hd => h d (List.mem_cons_of_mem _ hd)
    rw [lcL_cons, e1]
    simp only [e2, R.calm_ok, R.bind_ok]
    cases q : ty d with
    | false => rw [if_neg Bool.false_ne_true, ih acc (by omega), List.filter_cons_of_neg (by rw [q]; exact Bool.false_ne_true)]
    | true =>
      rw [if_pos rfl, e3 q, R.calm_ok, R.bind_ok, if_pos (by omega), ih _ (by rw [List.length_append, List.length_singleton]; omega), List.filter_cons_of_pos q, List.map_cons, List.append_assoc]
      rfl
/-- without a test -/
theorem lcL_map {g : D → Env → Option Env} {t : Env → R Bool} {f : Env → R D} {ρ : Env} (y : D → D) (ds : List D) (h : ∀ d ∈ ds, ∃ ρ1, g d ρ = some ρ1 ∧ t ρ1 = .ok true ∧ f ρ1 = .ok (y d)) (hl : ds.length ≤ 16777216) :
    lcL g t f ρ ds [] = .ok (.lst true (ds.map y)) := by
  rw [lcL_of (fun _ => true) y ds [] (fun d hd => let ⟨ρ1, h1, h2, h3⟩ := h d hd; ⟨ρ1, h1, h2, fun _ => h3⟩) (by simpa using hl), List.nil_append, List.filter_eq_self.mpr fun _ _ => rfl]
end Dv
end
section
set_option maxRecDepth 100000
set_option maxHeartbeats 1000000
namespace Dv
open PySem PySem.Spec PyProof.Rows L2

section
variable {X : Cx} {E : En} {W : WX}
/-! ### a call without arguments -/
theorem pe_callS0 {CX : CXT} {k : Nat} {f : Addr} {fd : FuncData} {ps : List Str} {sp : Sp} {Ex : L2.St → XK} {x : Str} {p pos : Pos} (F : FnOk X.prog X.w X.K X.mg X.base CX k f fd ps sp) (hr : Room k X.A) (hg : Gl X x) (hm : X.mg x = some (.ref f)) (hk : PySem.W.keepIn X.K (.ref f) = true) (hb : Binds X.K fd ps []) (hx : ∀ σ, PassesAt CX X σ (Ex σ))
    (hdb : (x == ("__debug__" : Str)) = false := by decide) : PE X (.Call (.Name x p) [] [] pos) (fun σ H Q => sp [] H Q (Ex σ)) := by
  refine ⟨fun pins s σ H Q I h => ?_⟩
  refine wpAny_Call_Name_kw (ld_glob I hg hm ?_ hdb)
  exact PySem.W.callWith_K0 I.kIn hk (run_fnS F hr hb (hx σ) I .nil h)
theorem eo_call0 {k : Nat} {fa : Addr} {fd : FuncData} {ps : List Str} {f : List D → R D} {x : Str} {p pos : Pos} (G : FnOk X.prog X.w X.K X.mg X.base (L2.CX X.prog X.w) k fa fd ps (spD E.k E.ec 0 f)) (tk : Takes X W) (hr : Room k X.A) (hg : Gl X x) (hm : X.mg x = some (.ref fa)) (hk : PySem.W.keepIn X.K (.ref fa) = true) (hb : Binds X.K fd ps [])
    (hdb : (x == ("__debug__" : Str)) = false := by decide) : EO X E W (.Call (.Name x p) [] [] pos) (eCall 0 f aNil) := by
  refine ⟨pe_mono (pe_callS0 (Ex := WE W) G hr hg hm hk hb (fun σ => passAt tk σ) hdb) fun σ H Q h => ?_⟩
  obtain ⟨F, ρ, s, q⟩ := h
  refine call_of (E := E) (n := 0) (f := f) (ds := []) (Ew := WE W σ) s.e0.tb (Tr.refl s.fh) .nil ?_
  exact q
/-! ### a list within a slot's list or tuple -/
theorem RpL.nth {k : Kx} {F H : Hp} : ∀ {ds : List D} {vs : List V} {A : List Addr} {i : Nat} {d : D}, RpL k F H ds vs A → ds[i]? = some d →
    ∃ v A1 B A3, vs[i]? = some v ∧ A = A1 ++ B ++ A3 ∧ Rp k F H d v B ∧ ∀ (F' H' : Hp) (d' : D) (B' : List Addr), Ex F F' → (∀ a, a ∈ A1 ∨ a ∈ A3 → ∀ o, H a = some o → F a = none → H' a = some o ∧ F' a = none) → Rp k F' H' d' v B' → RpL k F' H' (ds.set i d') vs (A1 ++ B' ++ A3)
  | [], _, _, _, _, _, e => by simp at e
  | d0 :: ds, _, _, 0, d, h, e => by
    obtain ⟨w, vs, A1, A2, rfl, rfl, h1, h2⟩ := h
    have e' : d0 = d := by simpa using e
    subst e'
    exact ⟨w, [], A1, A2, rfl, rfl, h1, fun F' H' d' B' x hp r => ⟨w, vs, B', A2, rfl, rfl, r, RpL.mono x ds vs A2 (fun a ha o e n => hp a (.inr ha) o e n) h2⟩⟩
  | d0 :: ds, _, _, i + 1, d, h, e => by
    obtain ⟨w, vs, A1, A2, rfl, rfl, h1, h2⟩ := h
    obtain ⟨v, C1, B, C3, e1, rfl, r, up⟩ := RpL.nth (i := i) h2 (by simpa using e)
    refine ⟨v, A1 ++ C1, B, C3, by simpa using e1, by simp, r, fun F' H' d' B' x hp r' => ?_⟩
    refine ⟨w, vs, A1, C1 ++ B' ++ C3, rfl, by simp, Rp.mono x d0 w A1 (fun a ha o e n => hp a (.inl (List.mem_append_left _ ha)) o e n) h1, up F' H' d' B' x (fun a ha o e n => hp a (ha.imp_left fun z => List.mem_append_right _ z) o e n) r'⟩
/-- the list at place n of slot i's list or tuple -/
def nstD (d : D) (n : Nat) : Option (List D × (List D → D)) := match d with
  | .tup xs => match xs[n]? with
    | some (.lst true ys) => some (ys, fun zs => .tup (xs.set n (.lst true zs)))
    | _ => none
  | .lst true xs => match xs[n]? with
    | some (.lst true ys) => some (ys, fun zs => .lst true (xs.set n (.lst true zs)))
    | _ => none
  | _ => none
def lenD (d : D) : Nat := match d with
  | .tup xs => xs.length
  | .lst _ xs => xs.length
  | _ => 0
theorem Stt.nst {F H : Hp} {σ : L2.St} {ρ : Env} {fp : Nat → List Addr} {i n : Nat} {d : D} {ys : List D} {up : List D → D} (s : Stt E F H σ ρ) (sl : Sl E F H σ ρ fp) (e : ρ[i]? = some (some d)) (en : nstD d n = some (ys, up)) :
    ∃ a vs l ws B, σ[i]? = some (some (.ref a)) ∧ (SqL E.k.K H a vs ∨ SqT E.k.K H a vs) ∧ vs.length = lenD d ∧ vs[n]? = some (.ref l) ∧ H l = some (.lst ws) ∧ RpL E.k F H ys ws B ∧ (∀ a ∈ B, a ∈ fp i) ∧ B.Nodup ∧
      ∀ F' H', Tr F H F' H' → ∀ ys' ws' C, RpL E.k F' H' ys' ws' C → C.Nodup → (∀ a ∈ C, a ∈ B ∨ (E.He a = none ∧ ∀ j, a ∉ fp j)) → Stt E F' (upd H' l (.lst ws')) σ (ρ.set i (some (up ys'))) := by
  obtain ⟨v, ev, r⟩ := sl.rp i _ e
  have ndi := sl.nd i
  -- the core, for what stands around
  have core : ∀ (xs : List D) (vs : List V) (A P : List Addr), fp i = P ++ A → RpL E.k F H xs vs A → xs[n]? = some (.lst true ys) →
      ∃ l ws B, vs[n]? = some (.ref l) ∧ H l = some (.lst ws) ∧ RpL E.k F H ys ws B ∧ (∀ a ∈ B, a ∈ fp i) ∧ B.Nodup ∧ l ∈ fp i ∧ l ∉ P ∧
        ∀ F' H', Tr F H F' H' → ∀ ys' ws' C, RpL E.k F' H' ys' ws' C → C.Nodup → (∀ a ∈ C, a ∈ B ∨ (E.He a = none ∧ ∀ j, a ∉ fp j)) →
          ∃ A', RpL E.k F' (upd H' l (.lst ws')) (xs.set n (.lst true ys')) vs A' ∧ (P ++ A').Nodup ∧ ∀ a ∈ P ++ A', a ∈ fp i ∨ (E.He a = none ∧ ∀ j, a ∉ fp j) := by
    intro xs vs A P eA rl ex
    obtain ⟨v, A1, B0, A3, g1, rfl, g3, g4⟩ := rl.nth ex
    obtain ⟨l, ws, B, rfl, rfl, fl, hl, rB⟩ := lstO g3
    rw [eA] at ndi
    have n1 := List.nodup_append.mp ndi
    have n2 := List.nodup_append.mp n1.2.1
    have n3 := List.nodup_append.mp n2.1
    have n4 := List.nodup_cons.mp n3.2.1
    have lfp : l ∈ fp i := by rw [eA]; simp
    have Bfp : ∀ a ∈ B, a ∈ fp i := fun a ha => by rw [eA]; simp [ha]
    refine ⟨l, ws, B, g1, hl, rB, Bfp, n4.2, lfp, fun z => n1.2.2 l z l (by simp) rfl, fun F' H' t ys' ws' C rC nC uC => ?_⟩
    have lC : l ∉ C := fun z => (uC l z).elim n4.1 fun h => h.2 i lfp
    have notC : ∀ a, a ∈ fp i → a ∉ B → a ∉ C := fun a ha hb z => (uC a z).elim hb fun h => h.2 i ha
    refine ⟨A1 ++ (l :: C) ++ A3, g4 F' (upd H' l (.lst ws')) (.lst true ys') (l :: C) t.ff (fun a ha o e n => ?_) ⟨l, ws', C, rfl, rC.upd lC, (fun z => nomatch z), fun _ => ⟨rfl, t.no l fl (by rw [hl]; exact fun z => nomatch z), upd_same⟩⟩, ?_, fun a ha => ?_⟩
    · rw [upd_ne fun z => ?_]
      · exact ⟨t.hh a o e, t.no a n (by rw [e]; exact fun z => nomatch z)⟩
      · subst z
        rcases ha with ha | ha
        · exact n3.2.2 a ha a List.mem_cons_self rfl
        · exact n2.2.2 a (by simp) a ha rfl
    · have fpm : ∀ a, a ∈ P ∨ a ∈ A1 ∨ a ∈ A3 → a ∈ fp i := fun a ha => by rw [eA]; rcases ha with h | h | h <;> simp [h]
      have nB : ∀ a, a ∈ P ∨ a ∈ A1 ∨ a ∈ A3 → a ∉ l :: B := fun a ha hb => by
        rcases ha with h | h | h
        · exact n1.2.2 a h a (by rcases List.mem_cons.mp hb with z | z <;> simp [z]) rfl
        · exact n3.2.2 a h a hb rfl
        · exact n2.2.2 a (List.mem_append_right _ hb) a h rfl
      have nlC : ∀ a, a ∈ P ∨ a ∈ A1 ∨ a ∈ A3 → a ∉ l :: C := fun a ha hb => by
        rcases List.mem_cons.mp hb with z | z
        · exact nB a ha (by rw [z]; exact List.mem_cons_self)
        · exact notC a (fpm a ha) (fun y => nB a ha (List.mem_cons_of_mem _ y)) z
      refine List.nodup_append.mpr ⟨n1.1, List.nodup_append.mpr ⟨List.nodup_append.mpr ⟨n3.1, List.nodup_cons.mpr ⟨lC, nC⟩, fun a ha b hb z => ?_⟩, n2.2.1, fun a ha b hb z => ?_⟩, fun a ha b hb z => ?_⟩
      · subst z; exact nlC a (.inr (.inl ha)) hb
      · subst z
        rcases List.mem_append.mp ha with ha | ha
        · exact n2.2.2 a (List.mem_append_left _ ha) a hb rfl
        · exact nlC a (.inr (.inr hb)) ha
      · subst z
        rcases List.mem_append.mp hb with hb | hb
        · rcases List.mem_append.mp hb with hb | hb
          · exact n1.2.2 a ha a (by simp [hb]) rfl
          · exact nlC a (.inl ha) hb
        · exact n1.2.2 a ha a (by simp [hb]) rfl
    · rcases List.mem_append.mp ha with ha | ha
      · exact .inl (by rw [eA]; simp [ha])
      · rcases List.mem_append.mp ha with ha | ha
        · rcases List.mem_append.mp ha with ha | ha
          · exact .inl (by rw [eA]; simp [ha])
          · rcases List.mem_cons.mp ha with rfl | ha
            · exact .inl lfp
            · exact (uC a ha).imp_left fun h => Bfp a h
        · exact .inl (by rw [eA]; simp [ha])
  cases d with
  | tup xs =>
    obtain ⟨a, vs, rfl, sq, rl⟩ := r
    have en : (match xs[n]? with
      | some (.lst true ys) => some (ys, fun zs => D.tup (xs.set n (.lst true zs)))
      | _ => none) = some (ys, up) := en
    split at en
    · rename_i ys0 ex
      cases en
      obtain ⟨l, ws, B, h1, h2, h3, h4, h5, h6, h7, h8⟩ := core xs vs (fp i) [] rfl rl ex
      refine ⟨a, vs, l, ws, B, ev, .inr (ex_t s.fh sq), rl.len.symm, h1, h2, h3, h4, h5, fun F' H' t ys' ws' C rC nC uC => ?_⟩
      obtain ⟨A', k1, k2, k3⟩ := h8 F' H' t ys' ws' C rC nC uC
      exact (s.tr t).write (sl.tr t) (v := .ref a) (A' := A') h6 ev ⟨a, vs, rfl, ex_t t.ff sq, k1⟩ k2 k3
    · cases en
  | lst o xs =>
    cases o with
    | false => cases en
    | true =>
      obtain ⟨a, vs, A, rfl, eA, fa, ha, rl⟩ := lstO r
      have en : (match xs[n]? with
        | some (.lst true ys) => some (ys, fun zs => D.lst true (xs.set n (.lst true zs)))
        | _ => none) = some (ys, up) := en
      split at en
      · rename_i ys0 ex
        cases en
        obtain ⟨l, ws, B, h1, h2, h3, h4, h5, h6, h7, h8⟩ := core xs vs A [a] eA rl ex
        refine ⟨a, vs, l, ws, B, ev, .inl (.inl (.inl ha)), rl.len.symm, h1, h2, h3, h4, h5, fun F' H' t ys' ws' C rC nC uC => ?_⟩
        obtain ⟨A', k1, k2, k3⟩ := h8 F' H' t ys' ws' C rC nC uC
        have na : a ≠ l := fun z => h7 (by rw [z]; exact List.mem_singleton_self _)
        exact (s.tr t).write (sl.tr t) (v := .ref a) (A' := a :: A') h6 ev ⟨a, vs, A', rfl, k1, (fun z => nomatch z), fun _ => ⟨rfl, t.no a fa (by rw [ha]; exact fun z => nomatch z), by rw [upd_ne na]; exact t.hh _ _ ha⟩⟩ k2 k3
      · cases en
  | _ => cases en
/-- slot i's element at j -/
def onN (i : Nat) (j : D) (ρ : Env) (k : List D → (List D → D) → SR) : SR := match ρ[i]?.getD none with
  | some d => match j with
    | .int j => match L2.ixN (lenD d) j with
      | some n => match nstD d n with
        | some (ys, up) => k ys up
        | none => .no
      | none => .no
    | _ => .no
  | _ => .no
theorem onN_of {F : Hp} {Z : Ends} {i : Nat} {j : D} {ρ : Env} {k : List D → (List D → D) → SR} (h : SRes E W F Z (onN i j ρ k)) : ∃ d j' n ys up, ρ[i]? = some (some d) ∧ j = .int j' ∧ L2.ixN (lenD d) j' = some n ∧ nstD d n = some (ys, up) ∧ SRes E W F Z (k ys up) := by
  unfold onN at h
  split at h
  · rename_i d e
    split at h
    · rename_i j'
      split at h
      · rename_i n en
        split at h
        · rename_i ys up eu
          exact ⟨d, j', n, ys, up, some_some e, rfl, en, eu, h⟩
        · exact h.elim
      · exact h.elim
    · exact h.elim
  · exact h.elim
theorem atI_of {vs : List V} {j : Int} {n m : Nat} {v : V} (hl : vs.length = m) (e : L2.ixN m j = some n) (h : vs[n]? = some v) : atI vs j = some v := by
  unfold atI
  rw [hl, e]
  exact h
/-- name[j].append(e) -/
def nApp (i : Nat) (fi f : Env → R D) : Env → SR := fun ρ => match ρ[i]?.getD none with
  | none => .no
  | some _ => (fi ρ).st ρ fun j => onN i j ρ fun ys up => (f ρ).st ρ fun d => if ys.length < 16777216 then .nx (ρ.set i (some (up (ys ++ [d])))) else .no
theorem nApp_eq (i : Nat) (fi f : Env → R D) (ρ : Env) : nApp i fi f ρ = match ρ[i]?.getD none with
  | none => .no
  | some _ => (fi ρ).st ρ fun j => onN i j ρ fun ys up => (f ρ).st ρ fun d => if ys.length < 16777216 then .nx (ρ.set i (some (up (ys ++ [d])))) else .no := rfl
theorem slot_of {F : Hp} {Z : Ends} {i : Nat} {ρ : Env} {k : SR} (h : SRes E W F Z (match ρ[i]?.getD none with
  | none => .no
  | some _ => k)) : ∃ d, ρ[i]? = some (some d) ∧ SRes E W F Z k := by
  split at h
  · exact h.elim
  · rename_i d e
    exact ⟨d, some_some e, h⟩
theorem ty_ref {k : Kx} {K : PySem.W.Frag} {H : Hp} {l : Addr} {ws : List V} (h : H l = some (.lst ws)) : tyV K "list" (.ref l) H := .inl ⟨rfl, ws, .inl (.inl h)⟩
theorem ss_nApp {i : Nat} {o ix e : Expr} {fi f : Env → R D} {sp apos cpos pos : Pos} (hK : E.k.K = X.K) (ho : PE X o (tVar i)) (hx : EV X E W ix fi) (h : EO X E W e f) (hpl : PlainIx ix := by exact fun _ _ => rfl) (hs : swapsWith (.Call (.Attribute (.Subscript o ix sp) "append" apos) [e] [] cpos) none pos.line X.env = pure false := by rfl)
    (hbase : attributeBase (.Subscript o ix sp) "append" X.env (eval (.Subscript o ix sp) X.env) = eval (.Subscript o ix sp) X.env := by rfl)
    (hfew : ((backTo cpos (starEach [e] X.env)).all (fun x => !x.1) && (backToKw cpos (keywordEach [] X.env)).all (fun x => x.1.isSome)
      && decide ([e].length + ([] : List Keyword).length + (if ([] : List Keyword).isEmpty then 0 else 1) < 30)) = true := by rfl)
    (hline : (apos.endLine == cpos.line) = true := by rfl) (hst : starEach [e] X.env = (false, eval e X.env) :: starEach [] X.env := by rfl) (hplain : (backTo cpos (starEach [] X.env)).any (·.1) = false := by rfl) :
    SS X E W (.Expr (.Call (.Attribute (.Subscript o ix sp) "append" apos) [e] [] cpos) pos) (nApp i fi f) := by
  refine ⟨ps_mono (ps_expr (pe_bm PySem.F.plainAttrs_list PySem.F.slot_list_append PySem.F.type_list_append mt_append (pe_ix ix_seq ho hx.pe hpl) (pa_cons h.pe pa_nil hst) hbase hfew hline hst hplain) hs) fun Z σ H h => ?_⟩
  obtain ⟨F, ρ, s, q⟩ := h
  obtain ⟨d0, e0, q⟩ := slot_of q
  obtain ⟨fp, sl⟩ := s.sl
  obtain ⟨v0, ev0, r0⟩ := sl.rp i _ e0
  refine ⟨v0, ev0, F, ρ, s, Res.mono q.st (fun j _ q F1 H1 w A t1 r1 => ?_) fun c _ z => SRes.exc s z⟩
  obtain ⟨d, j', n, ys, up, e1, rfl, en, eu, q⟩ := onN_of q
  rw [e0] at e1
  cases e1
  obtain ⟨a, vs, l, ws, B, h1, h2, h3, h4, h5, h6, h7, h8, h9⟩ := (s.tr t1).nst (sl.tr t1) e0 eu
  rw [ev0] at h1
  cases h1
  have core : tyV E.k.K "list" (.ref l) H1 ∧ tCons (tO E W f) tNil σ H1 fun xs H2 => rAppend (.ref l) xs H2 fun _ H3 => Z.nx σ H3 := by
    refine ⟨ty_ref (k := E.k) h5, F1, ρ, s.tr t1, Res.mono q.st (fun y _ q F2 H2 u C t2 r2 nd un => ?_) fun c _ z F' H' t => SRes.exc s z F' H' (t1.trans t)⟩
    by_cases hz : ys.length < 16777216
    · rw [if_pos hz] at q
      have t12 := t1.trans t2
      have new : ∀ a ∈ C, E.He a = none ∧ ∀ j, a ∉ fp j := fun a ha => (s.tr t1).fresh (sl.tr t1) (un a ha)
      have rl := h6.tr t2
      refine ⟨l, ws, u, rfl, rfl, t2.hh _ _ h5, Nat.lt_of_lt_of_eq (by rw [← rl.len]; exact hz) sizeLine_eq.symm, q F2 _ σ t12.ff (h9 F2 H2 t2 (ys ++ [y]) (ws ++ [u]) (B ++ C) (rl.append (RpL.one r2)) ?_ fun a ha => ?_)⟩
      · refine List.nodup_append.mpr ⟨h8, nd, fun a ha b hb z => ?_⟩
        subst z
        exact (new a hb).2 i (h7 a ha)
      · rcases List.mem_append.mp ha with ha | ha
        · exact .inl ha
        · exact .inr (new a ha)
    · rw [if_neg hz] at q
      exact q.elim
  rw [← hK]
  rcases h2 with h2 | h2
  · exact .inl ⟨a, vs, j', _, rfl, r1.1, h2, atI_of h3 en h4, core⟩
  · exact .inr (.inl ⟨a, vs, j', _, rfl, r1.1, h2, atI_of h3 en h4, core⟩)
/-- name[j].extend(e) -/
def nExt (i : Nat) (fi f : Env → R D) : Env → SR := fun ρ => match ρ[i]?.getD none with
  | none => .no
  | some _ => (fi ρ).st ρ fun j => onN i j ρ fun ys up => (f ρ).st ρ fun d => match lstD d with
    | some zs => if ys.length + zs.length ≤ 16777216 then .nx (ρ.set i (some (up (ys ++ zs)))) else .no
    | none => .no
theorem nExt_eq (i : Nat) (fi f : Env → R D) (ρ : Env) : nExt i fi f ρ = match ρ[i]?.getD none with
  | none => .no
  | some _ => (fi ρ).st ρ fun j => onN i j ρ fun ys up => (f ρ).st ρ fun d => match lstD d with
    | some zs => if ys.length + zs.length ≤ 16777216 then .nx (ρ.set i (some (up (ys ++ zs)))) else .no
    | none => .no := rfl
theorem ss_nExt {i : Nat} {o ix e : Expr} {fi f : Env → R D} {sp apos cpos pos : Pos} (hK : E.k.K = X.K) (ho : PE X o (tVar i)) (hx : EV X E W ix fi) (h : EV X E W e f) (hpl : PlainIx ix := by exact fun _ _ => rfl) (hs : swapsWith (.Call (.Attribute (.Subscript o ix sp) "extend" apos) [e] [] cpos) none pos.line X.env = pure false := by rfl)
    (hbase : attributeBase (.Subscript o ix sp) "extend" X.env (eval (.Subscript o ix sp) X.env) = eval (.Subscript o ix sp) X.env := by rfl)
    (hfew : ((backTo cpos (starEach [e] X.env)).all (fun x => !x.1) && (backToKw cpos (keywordEach [] X.env)).all (fun x => x.1.isSome)
      && decide ([e].length + ([] : List Keyword).length + (if ([] : List Keyword).isEmpty then 0 else 1) < 30)) = true := by rfl)
    (hline : (apos.endLine == cpos.line) = true := by rfl) (hst : starEach [e] X.env = (false, eval e X.env) :: starEach [] X.env := by rfl) (hplain : (backTo cpos (starEach [] X.env)).any (·.1) = false := by rfl) :
    SS X E W (.Expr (.Call (.Attribute (.Subscript o ix sp) "extend" apos) [e] [] cpos) pos) (nExt i fi f) := by
  refine ⟨ps_mono (ps_expr (pe_bm PySem.F.plainAttrs_list PySem.F.slot_list_extend PySem.F.type_list_extend mt_extend (pe_ix ix_seq ho hx.pe hpl) (pa_cons h.pe pa_nil hst) hbase hfew hline hst hplain) hs) fun Z σ H h => ?_⟩
  obtain ⟨F, ρ, s, q⟩ := h
  obtain ⟨d0, e0, q⟩ := slot_of q
  obtain ⟨fp, sl⟩ := s.sl
  obtain ⟨v0, ev0, r0⟩ := sl.rp i _ e0
  refine ⟨v0, ev0, F, ρ, s, Res.mono q.st (fun j _ q F1 H1 w A t1 r1 => ?_) fun c _ z => SRes.exc s z⟩
  obtain ⟨d, j', n, ys, up, e1, rfl, en, eu, q⟩ := onN_of q
  rw [e0] at e1
  cases e1
  obtain ⟨a, vs, l, ws, B, h1, h2, h3, h4, h5, h6, h7, h8, h9⟩ := (s.tr t1).nst (sl.tr t1) e0 eu
  rw [ev0] at h1
  cases h1
  have core : tyV E.k.K "list" (.ref l) H1 ∧ tCons (tV E W f) tNil σ H1 fun xs H2 => rExtend (.ref l) xs H2 fun _ H3 => Z.nx σ H3 := by
    refine ⟨ty_ref (k := E.k) h5, F1, ρ, s.tr t1, Res.mono q.st (fun y _ q F2 H2 u C t2 r2 => ?_) fun c _ z F' H' t => SRes.exc s z F' H' (t1.trans t)⟩
    cases ed : lstD y with
    | none => rw [ed] at q; exact q.elim
    | some zs =>
      rw [ed] at q
      have q : SRes E W F Z (if ys.length + zs.length ≤ 16777216 then .nx (ρ.set i (some (up (ys ++ zs)))) else .no) := q
      by_cases hz : ys.length + zs.length ≤ 16777216
      · rw [if_pos hz] at q
        cases y with
        | lst o zs' =>
          obtain ⟨p, e2⟩ := if_some (show (if D.pureL zs' = true then some zs' else none) = some zs from ed)
          subst e2
          obtain ⟨b, us, C, rfl, hb, rw1⟩ := Rp.lstW t2.fh r2
          have rw0 : RpL E.k F2 H2 zs' us [] := RpL.pure p (.refl _) rw1
          have t12 := t1.trans t2
          have rl := h6.tr t2
          refine ⟨l, b, ws, us, rfl, rfl, t2.hh _ _ h5, hb, (by rw [sizeLine_eq, ← rl.len, ← rw0.len]; exact hz), q F2 _ σ t12.ff (h9 F2 H2 t2 (ys ++ zs') (ws ++ us) (B ++ []) (rl.append rw0) (by rw [List.append_nil]; exact h8) fun a ha => .inl (by rw [List.append_nil] at ha; exact ha))⟩
        | _ => cases ed
      · rw [if_neg hz] at q
        exact q.elim
  rw [← hK]
  rcases h2 with h2 | h2
  · exact .inl ⟨a, vs, j', _, rfl, r1.1, h2, atI_of h3 en h4, core⟩
  · exact .inr (.inl ⟨a, vs, j', _, rfl, r1.1, h2, atI_of h3 en h4, core⟩)
/-- name[j][k] = e -/
def nSet (i : Nat) (fi fk f : Env → R D) : Env → SR := fun ρ => (f ρ).st ρ fun d => match ρ[i]?.getD none with
  | none => .no
  | some _ => (fi ρ).st ρ fun j => onN i j ρ fun ys up => (fk ρ).st ρ fun x => match x with
    | .int x => match L2.ixN ys.length x with
      | some m => .nx (ρ.set i (some (up (ys.set m d))))
      | none => .no
    | _ => .no
theorem nSet_eq (i : Nat) (fi fk f : Env → R D) (ρ : Env) : nSet i fi fk f ρ = (f ρ).st ρ fun d => match ρ[i]?.getD none with
  | none => .no
  | some _ => (fi ρ).st ρ fun j => onN i j ρ fun ys up => (fk ρ).st ρ fun x => match x with
    | .int x => match L2.ixN ys.length x with
      | some m => .nx (ρ.set i (some (up (ys.set m d))))
      | none => .no
    | _ => .no := rfl
theorem ss_nSet {i : Nat} {o ix kx e : Expr} {fi fk f : Env → R D} {sp0 sp pos : Pos} (hK : E.k.K = X.K) (ho : PE X o (tVar i)) (hx : EV X E W ix fi) (hk : EV X E W kx fk) (h : EO X E W e f) (hpl : PlainIx ix := by exact fun _ _ => rfl)
    (ha : ∀ v, assign (.Subscript (.Subscript o ix sp0) kx sp) X.env v = (do
      let ov ← holding [v] (eval (.Subscript o ix sp0) X.env)
      let iv ← holding [v, ov] (eval kx X.env)
      standAt sp
      holding [v, ov, iv] (setItem ov iv v)
      release [v, ov, iv] []) := by intro _; rfl)
    (hs : swapsWithSole [.Subscript (.Subscript o ix sp0) kx sp] e pos.line X.env = pure false := by rfl) (hw : swappedStores [.Subscript (.Subscript o ix sp0) kx sp] e X.env = pure none := by rfl)
    (h1 : (assignEach [.Subscript (.Subscript o ix sp0) kx sp] X.env).map (·.2) = [assign (.Subscript (.Subscript o ix sp0) kx sp) X.env] := by rfl) :
    SS X E W (.Assign [.Subscript (.Subscript o ix sp0) kx sp] e pos) (nSet i fi fk f) := by
  refine ⟨ps_mono (ps_asg h.pe (pg_sub (pe_ix ix_seq ho hx.pe hpl) hk.pe set_list ha) hs hw h1) fun Z σ H h => ?_⟩
  obtain ⟨F, ρ, s, q⟩ := h
  refine ⟨F, ρ, s, Res.mono q.st (fun d _ q F0 H0 dv DA t0 r0 nd u => ?_) fun c _ z => SRes.exc s z⟩
  obtain ⟨d0, e0, q⟩ := slot_of q
  obtain ⟨fp, sl⟩ := s.sl
  obtain ⟨v0, ev0, _⟩ := sl.rp i _ e0
  refine ⟨v0, ev0, F0, ρ, s.tr t0, Res.mono q.st (fun j _ q F1 H1 w A t1 r1 => ?_) fun c _ z F' H' t => SRes.exc s z F' H' (t0.trans t)⟩
  obtain ⟨d1, j', n, ys, up, e1, rfl, en, eu, q⟩ := onN_of q
  rw [e0] at e1
  cases e1
  have t01 := t0.trans t1
  obtain ⟨a, vs, l, ws, B, h1, h2, h3, h4, h5, h6, h7, h8, h9⟩ := (s.tr t01).nst (sl.tr t01) e0 eu
  rw [ev0] at h1
  cases h1
  have core : tV E W fk σ H1 fun x H2 => rSetL (.ref l) x dv H2 fun H3 => Z.nx σ H3 := by
    refine ⟨F1, ρ, s.tr t01, Res.mono q.st (fun x _ q F2 H2 xv C t2 r2 => ?_) fun c _ z F' H' t => SRes.exc s z F' H' (t01.trans t)⟩
    cases x with
    | int x =>
      have q : SRes E W F Z (match L2.ixN ys.length x with
        | some m => .nx (ρ.set i (some (up (ys.set m d))))
        | none => .no) := q
      cases em : L2.ixN ys.length x with
      | none => rw [em] at q; exact q.elim
      | some m =>
        rw [em] at q
        have hm := (L2.ixN_seq em).2.1
        have t12 := t01.trans t2
        have rl := h6.tr t2
        obtain ⟨A1, A2, A3, eB, rn⟩ := rl.set (r0.tr (t1.trans t2)) hm
        have new : ∀ a ∈ DA, E.He a = none ∧ ∀ j, a ∉ fp j := fun a ha => s.fresh sl (u a ha)
        refine ⟨l, ws, x, m, rfl, r2.1, t2.hh _ _ h5, by rw [← rl.len]; exact em, q F2 _ σ t12.ff (h9 F2 H2 t2 _ _ _ rn ?_ fun a ha => ?_)⟩
        · rw [eB] at h8
          have n13 : (A1 ++ A3).Nodup := by
            have := List.nodup_append.mp h8
            have h12 := List.nodup_append.mp this.1
            exact List.nodup_append.mpr ⟨h12.1, this.2.1, fun a ha b hb => this.2.2 a (List.mem_append_left _ ha) b hb⟩
          have h13 := List.nodup_append.mp n13
          refine List.nodup_append.mpr ⟨List.nodup_append.mpr ⟨h13.1, nd, fun a ha b hb z => ?_⟩, h13.2.1, fun a ha b hb z => ?_⟩
          · subst z
            exact (new a hb).2 i (h7 a (by rw [eB]; simp [ha]))
          · rcases List.mem_append.mp ha with ha | ha
            · exact h13.2.2 a ha b hb z
            · subst z
              exact (new a ha).2 i (h7 a (by rw [eB]; simp [hb]))
        · rcases List.mem_append.mp ha with ha | ha
          · rcases List.mem_append.mp ha with ha | ha
            · exact .inl (by rw [eB]; simp [ha])
            · exact .inr (new a ha)
          · exact .inl (by rw [eB]; simp [ha])
    | _ => exact q.elim
  rw [← hK]
  rcases h2 with h2 | h2
  · exact .inl ⟨a, vs, j', _, rfl, r1.1, h2, atI_of h3 en h4, core⟩
  · exact .inr (.inl ⟨a, vs, j', _, rfl, r1.1, h2, atI_of h3 en h4, core⟩)
end
end Dv
end
section
set_option maxRecDepth 100000
set_option maxHeartbeats 1000000
namespace Dv
open PySem PySem.Spec PyProof.Rows L2

section
variable {X : Cx} {E : En} {W : WX}
theorem gIn_isbl (x y d : D) (e : gIn x y = some d) : ∃ b, d = .bl b := by
  unfold gIn at e
  cases z : inB x y with
  | none => rw [z] at e; cases e
  | some b => rw [z] at e; cases e; exact ⟨_, rfl⟩
theorem gNotIn_isbl (x y d : D) (e : gNotIn x y = some d) : ∃ b, d = .bl b := by
  unfold gNotIn at e
  cases z : inB x y with
  | none => rw [z] at e; cases e
  | some b => rw [z] at e; cases e; exact ⟨_, rfl⟩
section
variable {a b : Expr} {fa fb : Env → R D} {pos : Pos}
theorem et_in (hK : E.k.K = X.K) (hu : X.A.units + 65 < cLine) (ha : EV X E W a fa) (hb : EV X E W b fb) (hm : behindInMarks .In b = false := by rfl) : ET X E W (.Compare a [.In] [b] pos) (eT (e2 gIn fa fb)) := et_cmp (op_inA hu) (by rw [← hK]; exact says_in) gIn_isbl hm ha hb
theorem et_notIn (hK : E.k.K = X.K) (hu : X.A.units + 65 < cLine) (ha : EV X E W a fa) (hb : EV X E W b fb) (hm : behindInMarks .NotIn b = false := by rfl) : ET X E W (.Compare a [.NotIn] [b] pos) (eT (e2 gNotIn fa fb)) := et_cmp (op_notInA hu) (by rw [← hK]; exact says_notIn) gNotIn_isbl hm ha hb
end
/-! ### any, all of a list of bools -/
def dBls (bs : List Bool) : List D := bs.map .bl
def lBls : List D → Option (List Bool)
  | [] => some []
  | .bl x :: xs => (lBls xs).map fun r => x :: r
  | _ :: _ => none
@[simp] theorem lBls_nil : lBls [] = some [] := rfl
@[simp] theorem lBls_cons (x : Bool) (xs : List D) : lBls (.bl x :: xs) = (lBls xs).map fun r => x :: r := rfl
theorem lBls_some : ∀ {xs : List D} {bs : List Bool}, lBls xs = some bs → xs = dBls bs
  | [], ns, e => by cases e; rfl
  | .bl x :: xs, ns, e => by
    rw [lBls_cons] at e
    cases z : lBls xs with
    | none => rw [z] at e; cases e
    | some r =>
      rw [z] at e
      cases e
      rw [lBls_some z]; rfl
  | .non :: _, _, e => nomatch e
  | .int _ :: _, _, e => nomatch e
  | .str _ :: _, _, e => nomatch e
  | .tup _ :: _, _, e => nomatch e
  | .lst _ _ :: _, _, e => nomatch e
  | .scr _ :: _, _, e => nomatch e
  | .dic _ _ _ :: _, _, e => nomatch e
  | .dit _ _ _ :: _, _, e => nomatch e
  | .ins _ _ _ :: _, _, e => nomatch e
  | .fn _ :: _, _, e => nomatch e
theorem lBls_map {α : Type} (f : α → Bool) : ∀ xs : List α, lBls (xs.map fun x => .bl (f x)) = some (xs.map f)
  | [] => rfl
  | x :: xs => by rw [List.map_cons, lBls_cons, lBls_map f xs]; rfl
theorem rp_bls {k : Kx} {F H : Hp} : ∀ {bs : List Bool} {vs : List V} {A : List Addr}, RpL k F H (dBls bs) vs A → vs = bs.map V.bl
  | [], vs, A, h => by rw [h.1]; rfl
  | n :: ns, vs, A, h => by
    obtain ⟨v, ws, B, C, rfl, rfl, h1, h2⟩ := h
    rw [rp_bls h2, h1.1]
    rfl
def blsD : D → Option (List Bool)
  | .lst _ xs => lBls xs
  | _ => none
@[simp] theorem blsD_lst (o : Bool) (xs : List D) : blsD (.lst o xs) = lBls xs := rfl
def gAny : List D → Option D
  | [x] => (blsD x).map fun bs => .bl (bs.any id)
  | _ => none
def gAll : List D → Option D
  | [x] => (blsD x).map fun bs => .bl (bs.all id)
  | _ => none
@[simp] theorem gAny_one (x : D) : gAny [x] = (blsD x).map fun bs => .bl (bs.any id) := rfl
@[simp] theorem gAll_one (x : D) : gAll [x] = (blsD x).map fun bs => .bl (bs.all id) := rfl
theorem bls_sq {F H : Hp} {d : D} {v : V} {A : List Addr} {bs : List Bool} (fh : Ex F H) (r : Rp E.k F H d v A) (e : blsD d = some bs) : ∃ a, v = .ref a ∧ SqL E.k.K H a (bs.map V.bl) := by
  cases d with
  | lst o xs =>
    obtain ⟨a, vs, B, rfl, s, r⟩ := Rp.lstW fh r
    have := lBls_some (show lBls xs = some bs from e)
    subst this
    rw [rp_bls r] at s
    exact ⟨a, rfl, .inl (.inl s)⟩
  | _ => cases e
theorem says_any : SaysC E (rAny E.k.K) gAny := by
  intro F H ds vs Q d fh r e g
  unfold gAny at e
  split at e
  · rename_i x
    cases ex : blsD x with
    | none => rw [ex] at e; cases e
    | some ns =>
      rw [ex] at e
      cases e
      obtain ⟨v, A, rfl, rr⟩ := r.one
      obtain ⟨a, rfl, s⟩ := bls_sq fh rr ex
      exact ⟨a, ns, rfl, s, g.scal fh fun _ _ => ⟨rfl, rfl⟩⟩
  · cases e
theorem says_all : SaysC E (rAll E.k.K) gAll := by
  intro F H ds vs Q d fh r e g
  unfold gAll at e
  split at e
  · rename_i x
    cases ex : blsD x with
    | none => rw [ex] at e; cases e
    | some ns =>
      rw [ex] at e
      cases e
      obtain ⟨v, A, rfl, rr⟩ := r.one
      obtain ⟨a, rfl, s⟩ := bls_sq fh rr ex
      exact ⟨a, ns, rfl, s, g.scal fh fun _ _ => ⟨rfl, rfl⟩⟩
  · cases e
def gStr : List D → Option D
  | [.int i] => if i.natAbs.log2 < 1920 then some (.str (toString i)) else none
  | _ => none
@[simp] theorem gStr_int (i : Int) : gStr [.int i] = if i.natAbs.log2 < 1920 then some (.str (toString i)) else none := rfl
theorem says_str : SaysC E (fun xs H Q => ∃ i, xs = [.int i] ∧ i.natAbs.log2 < 1920 ∧ Q (.str (toString i)) H) gStr := by
  intro F H ds vs Q d fh r e g
  unfold gStr at e
  split at e
  · obtain ⟨z, e⟩ := if_some e
    cases e
    obtain ⟨v, A, rfl, rr⟩ := r.one
    rw [rr.1]
    exact ⟨_, rfl, z, g.scal fh fun _ _ => ⟨rfl, rfl⟩⟩
  · cases e
end
end Dv
end
section
set_option maxRecDepth 100000
set_option maxHeartbeats 1000000
namespace Dv
open PySem PySem.Spec PyProof.Rows L2

/-! ### displays that own their items; names may be moved into them -/
def mNil : Env → R (List D) := fun _ => .ok []
def mV (f : Env → R D) (g : Env → R (List D)) : Env → R (List D) := fun ρ => (f ρ).bind fun x => if x.pure = true then (g ρ).bind fun xs => .ok (x :: xs) else .no
def mO (f : Env → R D) (g : Env → R (List D)) : Env → R (List D) := fun ρ => (f ρ).bind fun x => (g ρ).bind fun xs => .ok (x :: xs)
def mM (i : Nat) (g : Env → R (List D)) : Env → R (List D) := fun ρ => match ρ[i]?.getD none with
  | some d => (g ρ).bind fun xs => .ok (d :: xs)
  | none => .no
@[simp] theorem mNil_eq (ρ : Env) : mNil ρ = .ok [] := rfl
@[simp] theorem mV_eq (f : Env → R D) (g : Env → R (List D)) (ρ : Env) : mV f g ρ = (f ρ).bind fun x => if x.pure = true then (g ρ).bind fun xs => .ok (x :: xs) else .no := rfl
@[simp] theorem mO_eq (f : Env → R D) (g : Env → R (List D)) (ρ : Env) : mO f g ρ = (f ρ).bind fun x => (g ρ).bind fun xs => .ok (x :: xs) := rfl
@[simp] theorem mM_eq (i : Nat) (g : Env → R (List D)) (ρ : Env) : mM i g ρ = match ρ[i]?.getD none with
  | some d => (g ρ).bind fun xs => .ok (d :: xs)
  | none => .no := rfl
def tM (E : En) (W : WX) (f : Env → R (List D)) (mv : List Nat) : TA := fun σ H Q => ∃ F ρ fp, Stt E F H σ ρ ∧ Sl E F H σ ρ fp ∧
  Res (f ρ) (fun ds => ∀ F' H' vs A, Tr F H F' H' → RpL E.k F' H' ds vs A → A.Nodup → (∀ a ∈ A, H a = none ∨ ∃ i ∈ mv, a ∈ fp i) → Q vs H') (fun c => ∀ F' H', Tr F H F' H' → W (E.ec c) none σ H')
structure EM (X : Cx) (E : En) (W : WX) (es : List Expr) (f : Env → R (List D)) (mv : List Nat) : Prop where
  pa : PA X es (tM E W f mv)
section
variable {X : Cx} {E : En} {W : WX}
theorem em_nil : EM X E W [] mNil [] := ⟨pa_mono pa_nil fun σ H Q ⟨F, ρ, fp, s, sl, q⟩ => q F H [] [] (Tr.refl s.fh) ⟨rfl, rfl⟩ .nil fun _ z => nomatch z⟩
/-- what stands at the head is new, or a slot's -/
theorem em_step {F H F1 H1 : Hp} {σ : L2.St} {ρ : Env} {fp : Nat → List Addr} {g : Env → R (List D)} {mv hv : List Nat} {d : D} {v : V} {A : List Addr} {Q : List V → Hp → Prop} (s : Stt E F H σ ρ) (sl : Sl E F H σ ρ fp) (t1 : Tr F H F1 H1) (r1 : Rp E.k F1 H1 d v A) (nd : A.Nodup)
    (u : ∀ a ∈ A, H a = none ∨ ∃ i ∈ hv, a ∈ fp i) (dis : ∀ i ∈ hv, i ∉ mv)
    (q : Res ((g ρ).bind fun xs => R.ok (d :: xs)) (fun ds => ∀ F' H' vs A, Tr F H F' H' → RpL E.k F' H' ds vs A → A.Nodup → (∀ a ∈ A, H a = none ∨ ∃ i ∈ hv ++ mv, a ∈ fp i) → Q vs H') (fun c => ∀ F' H', Tr F H F' H' → W (E.ec c) none σ H')) :
    tM E W g mv σ H1 fun xs H2 => Q (v :: xs) H2 := by
  refine ⟨F1, ρ, fp, s.tr t1, sl.tr t1, Res.mono q.bind (fun xs _ q F2 H2 vs B t2 r2 nd2 u2 => ?_) fun c _ z F' H' t => z F' H' (t1.trans t)⟩
  have q : ∀ F' H' vs A, Tr F H F' H' → RpL E.k F' H' (d :: xs) vs A → A.Nodup → (∀ a ∈ A, H a = none ∨ ∃ i ∈ hv ++ mv, a ∈ fp i) → Q vs H' := q
  refine q F2 H2 (v :: vs) (A ++ B) (t1.trans t2) ⟨v, vs, A, B, rfl, rfl, r1.tr t2, r2⟩ (List.nodup_append.mpr ⟨nd, nd2, fun a ha b hb z => ?_⟩) fun a ha => ?_
  · subst z
    obtain ⟨_, o, h1, _⟩ := Rp.dom d v A r1 a ha
    rcases u2 a hb with h | ⟨j, hj, h⟩
    · rw [h] at h1; cases h1
    · rcases u a ha with h0 | ⟨i, hi, h0⟩
      · exact (sl.there h).2 h0
      · have := sl.dj i j a h0 h
        subst this
        exact dis i hi hj
  · rcases List.mem_append.mp ha with ha | ha
    · exact (u a ha).imp_right fun ⟨i, hi, h⟩ => ⟨i, List.mem_append_left _ hi, h⟩
    · rcases u2 a ha with h | ⟨j, hj, h⟩
      · exact .inl (none_back t1.hh h)
      · exact .inr ⟨j, List.mem_append_right _ hj, h⟩
theorem em_o {e : Expr} {es : List Expr} {f : Env → R D} {g : Env → R (List D)} {mv : List Nat} (h : EO X E W e f) (hr : EM X E W es g mv) (hs : starEach (e :: es) X.env = (false, eval e X.env) :: starEach es X.env := by rfl) : EM X E W (e :: es) (mO f g) mv := by
  refine ⟨pa_mono (pa_cons h.pe hr.pa hs) fun σ H Q ⟨F, ρ, fp, s, sl, q⟩ => ?_⟩
  refine ⟨F, ρ, s, Res.mono q.bind (fun d _ q F1 H1 v A t1 r1 nd u => ?_) fun c _ z F' H' t => z F' H' t⟩
  exact em_step (hv := []) s sl t1 r1 nd (fun a ha => .inl (u a ha)) (fun i z => nomatch z) q
theorem em_v {e : Expr} {es : List Expr} {f : Env → R D} {g : Env → R (List D)} {mv : List Nat} (h : EV X E W e f) (hr : EM X E W es g mv) (hs : starEach (e :: es) X.env = (false, eval e X.env) :: starEach es X.env := by rfl) : EM X E W (e :: es) (mV f g) mv := by
  refine ⟨pa_mono (pa_cons h.pe hr.pa hs) fun σ H Q ⟨F, ρ, fp, s, sl, q⟩ => ?_⟩
  refine ⟨F, ρ, s, Res.mono q.bind (fun d _ q F1 H1 v A t1 r1 => ?_) fun c _ z F' H' t => z F' H' t⟩
  by_cases p : d.pure = true
  · rw [if_pos p] at q
    have e := Rp.own_nil d v A p r1
    subst e
    exact em_step (hv := []) s sl t1 r1 .nil (fun a z => nomatch z) (fun i z => nomatch z) q
  · rw [if_neg p] at q; exact q.elim
theorem em_m {i : Nat} {e : Expr} {es : List Expr} {g : Env → R (List D)} {mv : List Nat} (hi : i ∉ mv) (h : PE X e (tVar i)) (hr : EM X E W es g mv) (hs : starEach (e :: es) X.env = (false, eval e X.env) :: starEach es X.env := by rfl) : EM X E W (e :: es) (mM i g) (i :: mv) := by
  refine ⟨pa_mono (pa_cons h hr.pa hs) fun σ H Q ⟨F, ρ, fp, s, sl, q⟩ => ?_⟩
  rw [mM_eq] at q
  split at q
  · rename_i d ed
    obtain ⟨v, ev, r⟩ := sl.rp i d (some_some ed)
    exact ⟨v, ev, em_step (hv := [i]) s sl (Tr.refl s.fh) r (sl.nd i) (fun a ha => .inr ⟨i, List.mem_singleton_self _, ha⟩) (fun j hj => by rw [List.mem_singleton.mp hj]; exact hi) q⟩
  · exact q.elim
/-- the display -/
def eTupM (fs : Env → R (List D)) : Env → R D := fun ρ => (fs ρ).bind fun ds => if ds.length ≤ 16777216 then .ok (.tup ds) else .no
def eLstM (fs : Env → R (List D)) : Env → R D := fun ρ => (fs ρ).bind fun ds => if ds.length ≤ 16777216 then .ok (.lst true ds) else .no
@[simp] theorem eTupM_eq (fs : Env → R (List D)) (ρ : Env) : eTupM fs ρ = (fs ρ).bind fun ds => if ds.length ≤ 16777216 then .ok (.tup ds) else .no := rfl
@[simp] theorem eLstM_eq (fs : Env → R (List D)) (ρ : Env) : eLstM fs ρ = (fs ρ).bind fun ds => if ds.length ≤ 16777216 then .ok (.lst true ds) else .no := rfl
theorem rp_newT {k : Kx} {F H : Hp} {ds : List D} {vs : List V} {A : List Addr} {p : Addr} (fh : Ex F H) (hp : H p = none) (r : RpL k F H ds vs A) : Tr F H (upd F p (.tup vs)) (upd H p (.tup vs)) ∧ Rp k (upd F p (.tup vs)) (upd H p (.tup vs)) (.tup ds) (.ref p) A :=
  ⟨tr_newF fh hp, p, vs, rfl, .inl (.inl upd_same), r.tr (tr_newF fh hp)⟩
theorem rp_newL {k : Kx} {F H : Hp} {ds : List D} {vs : List V} {A : List Addr} {p : Addr} (fh : Ex F H) (hp : H p = none) (r : RpL k F H ds vs A) : Tr F H F (upd H p (.lst vs)) ∧ Rp k F (upd H p (.lst vs)) (.lst true ds) (.ref p) (p :: A) := by
  have hf : F p = none := by
    cases q : F p with
    | none => rfl
    | some u => rw [fh p u q] at hp; cases hp
  exact ⟨tr_new fh hp, p, vs, A, rfl, r.tr (tr_new fh hp), (fun z => nomatch z), fun _ => ⟨rfl, hf, upd_same⟩⟩
theorem not_new {k : Kx} {F H : Hp} {ds : List D} {vs : List V} {A : List Addr} {p : Addr} (hp : H p = none) (r : RpL k F H ds vs A) : p ∉ A := fun z => by
  obtain ⟨_, o, h, _⟩ := RpL.dom ds vs A r p z
  rw [hp] at h; cases h
theorem eo_tupM {es : List Expr} {fs : Env → R (List D)} {x1 : Nat} {pos : Pos} (h : EM X E W es fs []) : EO X E W (.Tuple es x1 pos) (eTupM fs) := by
  refine ⟨pe_mono (pe_tup h.pa) fun σ H Q ⟨F, ρ, s, q⟩ => ?_⟩
  obtain ⟨fp, sl⟩ := s.sl
  refine ⟨F, ρ, fp, s, sl, Res.mono q.bind (fun ds _ q F1 H1 vs A t1 r1 nd u => ?_) fun c _ z F' H' t => z F' H' t⟩
  by_cases hz : ds.length ≤ 16777216
  · rw [if_pos hz] at q
    refine ⟨big_le (by rw [← r1.len]; exact hz), fun p hp => ?_⟩
    obtain ⟨t2, r2⟩ := rp_newT t1.fh hp r1
    exact q _ _ _ A (t1.trans t2) r2 nd fun a ha => (u a ha).elim (fun z => z) fun ⟨i, z, _⟩ => nomatch z
  · rw [if_neg hz] at q; exact q.elim
theorem eo_lstM {es : List Expr} {fs : Env → R (List D)} {pos : Pos} (h : EM X E W es fs []) : EO X E W (.List es pos) (eLstM fs) := by
  refine ⟨pe_mono (pe_lst h.pa) fun σ H Q ⟨F, ρ, s, q⟩ => ?_⟩
  obtain ⟨fp, sl⟩ := s.sl
  refine ⟨F, ρ, fp, s, sl, Res.mono q.bind (fun ds _ q F1 H1 vs A t1 r1 nd u => ?_) fun c _ z F' H' t => z F' H' t⟩
  by_cases hz : ds.length ≤ 16777216
  · rw [if_pos hz] at q
    refine ⟨big_le (by rw [← r1.len]; exact hz), fun p hp => ?_⟩
    obtain ⟨t2, r2⟩ := rp_newL t1.fh hp r1
    have u' : ∀ a ∈ A, H a = none := fun a ha => (u a ha).elim (fun z => z) fun ⟨i, z, _⟩ => nomatch z
    refine q _ _ _ (p :: A) (t1.trans t2) r2 (List.nodup_cons.mpr ⟨not_new hp r1, nd⟩) fun a ha => ?_
    rcases List.mem_cons.mp ha with rfl | ha
    · exact none_back t1.hh hp
    · exact u' a ha
  · rw [if_neg hz] at q; exact q.elim
/-- return (a, b, ..), names moved -/
theorem ss_retT {es : List Expr} {fs : Env → R (List D)} {mv : List Nat} {x1 : Nat} {p pos : Pos} (hb : ∀ i ∈ mv, i ∉ E.bs) (h : EM X E W es fs mv) (hE : E.bs = [] := by rfl) : SS X E W (.Return (some (.Tuple es x1 p)) pos) (sRet (eTupM fs)) := by
  refine ⟨ps_mono (ps_ret (pe_tup h.pa)) fun Z σ H ⟨F, ρ, s, q⟩ => ?_⟩
  obtain ⟨fp, sl⟩ := s.sl
  refine ⟨F, ρ, fp, s, sl, Res.mono q.st.bind (fun ds _ q F1 H1 vs A t1 r1 nd u => ?_) fun c _ z => SRes.exc s z⟩
  by_cases hz : ds.length ≤ 16777216
  · rw [if_pos hz] at q
    refine ⟨big_le (by rw [← r1.len]; exact hz), fun p hp => ?_⟩
    obtain ⟨t2, r2⟩ := rp_newT t1.fh hp r1
    have s2 := s.tr (t1.trans t2)
    refine q _ _ σ _ s2 ⟨s2.e0, s2.fh, s2.fr, s2.st, s2.bt, A, r2, nd, fun a ha => ?_⟩ (.inl hE)
    rcases u a ha with h | ⟨i, hi, h⟩
    · exact s.new h
    · exact (sl.nw i a h).elim (fun z => z) fun z => absurd z.2 (hb i hi)
  · rw [if_neg hz] at q; exact q.elim
theorem ss_retL {es : List Expr} {fs : Env → R (List D)} {mv : List Nat} {p pos : Pos} (hb : ∀ i ∈ mv, i ∉ E.bs) (h : EM X E W es fs mv) (hE : E.bs = [] := by rfl) : SS X E W (.Return (some (.List es p)) pos) (sRet (eLstM fs)) := by
  refine ⟨ps_mono (ps_ret (pe_lst h.pa)) fun Z σ H ⟨F, ρ, s, q⟩ => ?_⟩
  obtain ⟨fp, sl⟩ := s.sl
  refine ⟨F, ρ, fp, s, sl, Res.mono q.st.bind (fun ds _ q F1 H1 vs A t1 r1 nd u => ?_) fun c _ z => SRes.exc s z⟩
  by_cases hz : ds.length ≤ 16777216
  · rw [if_pos hz] at q
    refine ⟨big_le (by rw [← r1.len]; exact hz), fun p hp => ?_⟩
    obtain ⟨t2, r2⟩ := rp_newL t1.fh hp r1
    have s2 := s.tr (t1.trans t2)
    refine q _ _ σ _ s2 ⟨s2.e0, s2.fh, s2.fr, s2.st, s2.bt, p :: A, r2, List.nodup_cons.mpr ⟨not_new hp r1, nd⟩, fun a ha => ?_⟩ (.inl hE)
    rcases List.mem_cons.mp ha with rfl | ha
    · exact s.new (none_back t1.hh hp)
    · rcases u a ha with h | ⟨i, hi, h⟩
      · exact s.new h
      · exact (sl.nw i a h).elim (fun z => z) fun z => absurd z.2 (hb i hi)
  · rw [if_neg hz] at q; exact q.elim
/-- a, b = e, e's value its own: what it owns is frozen -/
def sUnO (g : D → Env → Option Env) (f : Env → R D) : Env → SR := fun ρ => (f ρ).st ρ fun d => if d.cold = true then (if d.frz.pure = true then (match g d.frz ρ with
  | some ρ' => .nx ρ'
  | none => .no) else .no) else .no
@[simp] theorem sUnO_eq (g : D → Env → Option Env) (f : Env → R D) (ρ : Env) : sUnO g f ρ = (f ρ).st ρ fun d => if d.cold = true then (if d.frz.pure = true then (match g d.frz ρ with
  | some ρ' => .nx ρ'
  | none => .no) else .no) else .no := rfl
theorem ss_unO {tg e : Expr} {f : Env → R D} {g : D → Env → Option Env} {pos : Pos} (h : EO X E W e f) (hg : EG X E tg g) (hs : swapsWithSole [tg] e pos.line X.env = pure false := by rfl) (hw : swappedStores [tg] e X.env = pure none := by rfl)
    (h1 : (assignEach [tg] X.env).map (·.2) = [assign tg X.env] := by rfl) : SS X E W (.Assign [tg] e pos) (sUnO g f) := by
  refine ⟨ps_mono (ps_asg h.pe hg.pg hs hw h1) fun Z σ H h => ?_⟩
  obtain ⟨F, ρ, s, q⟩ := h
  refine ⟨F, ρ, s, Res.mono q.st (fun d _ q F1 H1 v A t1 r1 nd u => ?_) fun c _ z => SRes.exc s z⟩
  by_cases c : d.cold = true
  · rw [if_pos c] at q
    by_cases p : d.frz.pure = true
    · rw [if_pos p] at q
      cases eg : g d.frz ρ with
      | none => rw [eg] at q; exact q.elim
      | some ρ' =>
        rw [eg] at q
        have n := fun a ha => (Rp.dom d v A r1 a ha).1
        have t2 := tr_fz t1 n u
        exact ⟨_, ρ, d.frz, s.tr t2, p, Rp.frz (H' := H1) n d v A c (fun _ z => z) r1, ρ', eg, fun σ' s' => q _ H1 σ' t2.ff s'⟩
    · rw [if_neg p] at q; exact q.elim
  · rw [if_neg c] at q; exact q.elim
end
end Dv
end
section
set_option maxRecDepth 100000
set_option maxHeartbeats 1000000
namespace Dv
open PySem PySem.Spec PyProof.Rows L2

section
variable {X : Cx} {E : En} {W : WX}
/-! ### what may be a text, a list or a tuple is walked -/
def iAny (K : PySem.W.Frag) (tl : TE) : TI := fun σ H P => tl σ H fun x H1 => ((∃ a xs, x = .ref a ∧ SqL K H1 a xs ∧ P (Itl K a) H1) ∨ ∃ a xs, x = .ref a ∧ SqT K H1 a xs ∧ P (Itt K a) H1) ∨ ∃ z, x = .str z ∧ P (Its z) H1
theorem pi_any {tg l : Expr} {tl : TE} (hl : PE X l tl) : PI X tg l (iAny X.K tl) := by
  refine ⟨fun pins s σ H P I h => thn (hl.run pins s σ H _ I h) ?_⟩
  rintro v s1 ⟨x, H1, I1, r1, (⟨a, xs, rfl, hq, q⟩ | ⟨a, xs, rfl, hq, q⟩) | ⟨z, rfl, q⟩⟩
  · cases r1
    obtain ⟨its, _, pl, _⟩ := I1.list hq
    exact wpAny_pyIter_list pl.isList (pi_one I1 _ (turn_list a _) ⟨_, Heap.get?_push_size _ rfl, rfl, rfl⟩ q)
  · cases r1
    obtain ⟨its, _, pl, _⟩ := I1.tuple hq
    exact wpAny_pyIter_tuple (show s1.heap.IsTuple a its.toArray from pl) (pi_one I1 _ (turn_tuple a _) ⟨_, Heap.get?_push_size _ rfl, rfl, rfl⟩ q)
  · obtain ⟨t, rfl⟩ := r1
    cases ha : z.cps.all (· < 128)
    · exact wpAny_pyIter_wide ha (pi_one (tk := s1.toks) I1 _ (turn_str _ z t "str_iterator" (.inr rfl)) ⟨_, Heap.get?_push_size _ rfl, rfl, rfl⟩ q)
    · exact wpAny_pyIter_ascii ha (pi_one (tk := s1.toks) I1 _ (turn_str _ z t "str_ascii_iterator" (.inl rfl)) ⟨_, Heap.get?_push_size _ rfl, rfl, rfl⟩ q)
def walkW : D → Option (List D)
  | .str x => some (x.cps.toList.map fun c => .str ⟨#[c]⟩)
  | d => walkD d
@[simp] theorem walkW_str (x : Str) : walkW (.str x) = some (x.cps.toList.map fun c => .str ⟨#[c]⟩) := rfl
@[simp] theorem walkW_lst (o : Bool) (xs : List D) : walkW (.lst o xs) = walkD (.lst o xs) := rfl
@[simp] theorem walkW_tup (xs : List D) : walkW (.tup xs) = walkD (.tup xs) := rfl
@[simp] theorem walkW_scr (xs : List D) : walkW (.scr xs) = walkD (.scr xs) := rfl
/-- looked at -/
def iW (f : Env → R D) : Env → R (List D) := fun ρ => (f ρ).bind fun d => R.opt (walkW d)
@[simp] theorem iW_eq (f : Env → R D) (ρ : Env) : iW f ρ = (f ρ).bind fun d => R.opt (walkW d) := rfl
theorem ei_w {tg e : Expr} {f : Env → R D} (hK : E.k.K = X.K) (h : EV X E W e f) : EI X E W tg e (iW f) := by
  refine ⟨pi_mono (pi_any h.pe) fun σ H P q => ?_⟩
  obtain ⟨F, ρ, s, q⟩ := q
  refine ⟨F, ρ, s, Res.mono q.bind (fun d _ q F1 H1 v A t1 r1 => ?_) fun c _ z F' H' t => z F' H' t⟩
  obtain ⟨ds, e, p⟩ := Res.opt q
  rw [← hK]
  cases d with
  | str x => cases e; exact .inr ⟨x, r1.1, p F1 H1 _ t1 wk_str⟩
  | _ => exact .inl (walk_seq t1 r1 e p)
end
end Dv
end
section
set_option maxRecDepth 100000
set_option maxHeartbeats 1000000
namespace Dv
open PySem PySem.Spec PyProof.Rows L2
variable {X : Cx} {E : En} {W : WX}
/-- an own value, frozen to be looked at -/
def eFz (f : Env → R D) : Env → R D := fun ρ => (f ρ).bind fun d => if d.cold = true then .ok d.frz else .no
@[simp] theorem eFz_eq (f : Env → R D) (ρ : Env) : eFz f ρ = (f ρ).bind fun d => if d.cold = true then .ok d.frz else .no := rfl
theorem EO.vz {e : Expr} {f : Env → R D} (h : EO X E W e f) : EV X E W e (eFz f) := by
  refine ⟨pe_mono h.pe fun σ H Q ⟨F, ρ, s, q⟩ => ⟨F, ρ, s, ?_⟩⟩
  refine Res.mono q.bind (fun d _ p F' H' v A t r n u => ?_) fun _ _ z => z
  by_cases c : d.cold = true
  · rw [if_pos c] at p
    have n' := fun a ha => (Rp.dom d v A r a ha).1
    exact p _ H' v [] (tr_fz t n' u) (Rp.frz (H' := H') n' d v A c (fun _ z => z) r)
  · rw [if_neg c] at p
    exact p.elim
end Dv
end
section
set_option maxRecDepth 100000
set_option maxHeartbeats 1000000
namespace L2
open PySem PySem.Spec PyProof.Rows
theorem flat_ints (ys : List Int) : (ys.map V.int).all flatV = true := by
  rw [List.all_map]
  exact List.all_eq_true.mpr fun _ _ => rfl
section
variable {X : Cx}
/-- t.index(i), the first place, among ints -/
theorem mt_tup_indexI : MtR X "tuple.index" (fun x xs H Q => ∃ p, ∃ ys : List Int, ∃ z j, x = .ref p ∧ xs = [.int z] ∧ SqT X.K H p (ys.map V.int) ∧ ys[j]? = some z ∧ (∀ m, m < j → ys[m]? ≠ some z) ∧ Q (.int (j : Nat)) H) := by
  intro pins s σ H x xs v us Q I rx rs h
  obtain ⟨p, ys, z, j, rfl, rfl, hq, hy, hno, q⟩ := h
  cases rx
  obtain ⟨u, rfl, t, rfl⟩ := vals1 rs
  obtain ⟨its, r, pl, hz⟩ := I.tuple hq
  obtain ⟨⟨cls, dd, dt, sl⟩, ho, hc, n, hd⟩ := pl
  simp only at hc hd
  subst hc
  subst hd
  have hl : its.toArray.size = ys.length := by rw [List.size_toArray, ← r.length, List.length_map]
  have hj : j < its.toArray.size := by rw [hl]; exact (List.getElem?_eq_some_iff.mp hy).1
  have at' : ∀ (m : Nat) (hm : m < its.toArray.size), ∃ y t', ys[m]? = some y ∧ its.toArray[m] = Value.int y t' := fun m hm => by
    have hm' : m < ys.length := by rw [← hl]; exact hm
    obtain ⟨w, hw, t', hw'⟩ := r.get (i := m) (x := .int ys[m]) (by simp [hm'])
    refine ⟨ys[m], t', List.getElem?_eq_getElem hm', ?_⟩
    have e := (List.getElem?_eq_some_iff.mp hw).2
    rw [← hw', ← e]
    simp
  refine call_meets PySem.F.slot_tuple_index ⟨_, ho, rfl⟩ PySem.F.entry_tuple_index (PySem.F.args_tuple_index_2 _ _) (TI.tuple_indexAt p its.toArray n dd sl (.int z t) (eqU (.int z)) j hj ?_ ?_)
    ⟨ho, fun w hw => mem_eqAt (x := .int z) ⟨t, rfl⟩ rfl r (flat_ints ys) w (by simpa using hw), ⟨.int (j : Nat), H, I.tok _, ⟨_, rfl⟩, q⟩⟩
  · obtain ⟨y, t', h1, h2⟩ := at' j hj
    rw [hy] at h1
    cases h1
    rw [h2]
    show (z == z) = true
    exact beq_self_eq_true z
  · intro m hm hmj
    obtain ⟨y, t', h1, h2⟩ := at' m hm
    rw [h2]
    show (y == z) = false
    exact beq_eq_false_iff_ne.mpr fun e => hno m hmj (e ▸ h1)
end
end L2
namespace Dv
open PySem PySem.Spec PyProof.Rows L2
variable {X : Cx} {E : En} {W : WX}
/-- the first place of an equal one, in a tuple of ints or of texts -/
def idxD : D → D → Option Nat
  | .tup xs, .int i => (dInts? xs).bind fun ns => ns.findIdx? (· == i)
  | .tup xs, .str z => (txs xs).bind fun ss => ss.findIdx? (· == z)
  | _, _ => none
def eIdx (d : D) (f : Env → R D) : Env → R D := fun ρ => (f ρ).bind fun y => R.opt ((idxD d y).map fun (k : Nat) => D.int (k : Int))
@[simp] theorem eIdx_eq (d : D) (f : Env → R D) (ρ : Env) : eIdx d f ρ = (f ρ).bind fun y => R.opt ((idxD d y).map fun (k : Nat) => D.int (k : Int)) := rfl
/-- a module's tuple, as an object of its own -/
def GlobT (kx : Kx) (mg : Str → Option Value) (x : Str) : Prop := ∃ a o, mg x = some (.ref a) ∧ kx.K.lookup a = some o ∧ o.cls = .type "tuple" ∧ o.dict = none
def rTIx (K : PySem.W.Frag) : V → List V → Hp → VK → Prop := fun x xs H Q => (∃ p, ∃ ys : List Int, ∃ z j, x = .ref p ∧ xs = [.int z] ∧ SqT K H p (ys.map V.int) ∧ ys[j]? = some z ∧ (∀ m, m < j → ys[m]? ≠ some z) ∧ Q (.int (j : Nat)) H) ∨
  (∃ p, ∃ ys : List Str, ∃ z j, x = .ref p ∧ xs = [.str z] ∧ SqT K H p (ys.map V.str) ∧ ys[j]? = some z ∧ (∀ m, m < j → ys[m]? ≠ some z) ∧ Q (.int (j : Nat)) H)
theorem mt_tix : MtR X "tuple.index" (rTIx X.K) := mt_tup_indexI.or mt_tup_index
theorem find_at {α : Type} [BEq α] [LawfulBEq α] {xs : List α} {z : α} {j : Nat} (h : xs.findIdx? (· == z) = some j) : xs[j]? = some z ∧ ∀ m, m < j → xs[m]? ≠ some z := by
  obtain ⟨hj, h1, h2⟩ := List.findIdx?_eq_some_iff_getElem.mp h
  refine ⟨by rw [List.getElem?_eq_getElem hj, eq_of_beq h1], fun m hm e => ?_⟩
  obtain ⟨hm', e⟩ := List.getElem?_eq_some_iff.mp e
  exact h2 m hm (by rw [e]; exact beq_self_eq_true z)
theorem eo_gidx {x : Str} {d : D} {a : Expr} {fa : Env → R D} {p apos pos : Pos} (hK : E.k.K = X.K) (hg : Gl X x) (h : Glob E.k X.mg x d) (ht : GlobT E.k X.mg x) (ha : EV X E W a fa) (hd : (x == ("__debug__" : Str)) = false := by decide)
    (hbase : attributeBase (.Name x p) "index" X.env (eval (.Name x p) X.env) = eval (.Name x p) X.env := by rfl)
    (hfew : ((backTo pos (starEach [a] X.env)).all (fun x => !x.1) && (backToKw pos (keywordEach [] X.env)).all (fun x => x.1.isSome)
      && decide (([a] : List Expr).length + ([] : List Keyword).length + (if ([] : List Keyword).isEmpty then 0 else 1) < 30)) = true := by rfl)
    (hline : (apos.endLine == pos.line) = true := by rfl) (hs : starEach [a] X.env = (false, eval a X.env) :: starEach [] X.env := by rfl) (hplain : (backTo pos (starEach [] X.env)).any (·.1) = false := by rfl) :
    EO X E W (.Call (.Attribute (.Name x p) "index" apos) [a] [] pos) (eIdx d fa) := by
  obtain ⟨b, o, e1, e2, e3, e4⟩ := ht
  obtain ⟨u, v, h1, rv, rp⟩ := h
  rw [e1] at h1
  cases h1
  have hv : v = .ref b := by cases v <;> first | (cases rv; rfl) | (obtain ⟨_, z⟩ := rv; cases z) | cases rv
  subst hv
  refine ⟨pe_mono (pe_bm PySem.F.plainAttrs_tuple PySem.F.slot_tuple_index PySem.F.type_tuple_index mt_tix (pe_glob (v := .ref b) hg e1 rv hd) (pa_cons ha.pe pa_nil hs) hbase hfew hline hs hplain) fun σ H Q q => ?_⟩
  obtain ⟨F, ρ, s, q⟩ := q
  refine ⟨.inr (.inl ⟨rfl, o, by rw [← hK]; exact e2, e3, e4⟩), F, ρ, s, Res.mono q.bind (fun y _ q F2 H2 w B t2 r2 => ?_) fun c _ z F' H' t => z F' H' t⟩
  obtain ⟨d', e, p⟩ := Res.opt q
  obtain ⟨k, ek, e⟩ := Option.map_eq_some_iff.mp e
  subst e
  have g : Q (.int (k : Int)) H2 := p F2 H2 (.int (k : Int)) [] t2 ⟨rfl, rfl⟩ List.nodup_nil fun _ z => nomatch z
  show rTIx X.K (V.ref b) [w] H2 Q
  have rr := rp F2 H2
  rw [← hK]
  cases d with
  | tup xs =>
    obtain ⟨a', vs, ea, sq, rl⟩ := rr
    cases ea
    have sq := ex_t t2.fh sq
    cases y with
    | int i =>
      obtain ⟨ns, en, ei⟩ := Option.bind_eq_some_iff.mp (show (dInts? xs).bind (fun ns => ns.findIdx? (· == i)) = some k from ek)
      have := dIntsO_some en
      subst this
      rw [rp_ints rl] at sq
      obtain ⟨f1, f2⟩ := find_at ei
      exact .inl ⟨b, ns, i, k, rfl, by rw [r2.1], sq, f1, f2, g⟩
    | str z =>
      obtain ⟨ss, en, ei⟩ := Option.bind_eq_some_iff.mp (show (txs xs).bind (fun ss => ss.findIdx? (· == z)) = some k from ek)
      rw [txs_rp rl en] at sq
      obtain ⟨f1, f2⟩ := find_at ei
      exact .inr ⟨b, ss, z, k, rfl, by rw [r2.1], sq, f1, f2, g⟩
    | _ => cases ek
  | _ => cases ek
end Dv
end
section
set_option maxRecDepth 100000
set_option maxHeartbeats 1000000
namespace Dv
open PySem PySem.Spec PyProof.Rows L2
open Builtin Builtin.Str Builtin.Int Builtin.Float
def F16 : FormatSpec := { fill := 48, align := 61, width := some 16, type := some 120 }
def S16 : Str := ⟨#[48, 49, 54, 120]⟩
theorem parse16 (n : String) : parseFormatSpec S16.cps.toList n 62 = .ok F16 := by
  show parseFormatSpec [48, 49, 54, 120] n 62 = .ok F16
  rfl
def hexT (a : Int) : Str := intField' F16 false [] ((Nat.toDigits 16 a.natAbs).map fun c => (if (120 : Nat) == 88 then c.toUpper else c).toNat) [] 4
theorem wp_typeNameOfCut_int {prog : Program} {w : World} {A : Around} {E : Value → Shared → Prop} {s : Shared} {a : Int} {t : Tok} {Q : String → Shared → Prop} (h : Q "int" s) : wpAny (model prog w) A (typeNameOfCut 200 (.int a t)) Q E s := wpAny_typeNameOfCut_int h
theorem gives_hexF (a : Int) (t u : Tok) (f : FormatSpec) (sp : Str) (hne : (sp.length == 0) = false) (hasc : ((sp.cps.toList.drop 1).any (· ≥ 128) || (sp.cps.getD 0 0 ≥ 128 && !([60, 62, 61, 94] : List Nat).contains (sp.cps.getD 1 0))) = false)
    (hp : parseFormatSpec sp.cps.toList "int" 62 = .ok f) (hty : f.type.getD (if (sp.cps.back? == some 0) = true then 0 else 100) = 120) (hpr : f.precision = none) (hz : f.noNeg0 = false) (hal : f.alt = false) (hw : f.width.getD 0 ≤ 100000) (hf : f = F16) :
    Gives («int.__format__» ⟨[.int a t, .str sp u], []⟩) (.str (intField' f (decide (a < 0)) [] ((Nat.toDigits 16 a.natAbs).map fun c => (if (120 : Nat) == 88 then c.toUpper else c).toNat) [] 4)) := by
  intro prog w A R s hq
  unfold Builtin.«int.__format__»
  simp only [selfAndOne, noKeywords, Int.intOfSelf, asInt?, asStr?, List.isEmpty_nil, if_true, pure_bind, bind_pure, bind_assoc, Bool.false_eq_true, if_false, hne, hasc,
    show (Value.str sp u == Value.none) = false from rfl]
  refine wpAny_bind (wpAny_typeNameOf (T := "str") (typeIs_str _ _ _) (by decide) fun _ => ?_)
  refine wpAny_bind (wp_typeNameOfCut_int ?_)
  simp only [hp, hty]
  rw [if_pos (by decide)]
  show wpAny _ _ (if _ then _ else _) _ _ _
  rw [if_neg (by simp [hpr])]
  show wpAny _ _ (if _ then _ else _) _ _ _
  rw [if_neg (by simp [hz])]
  show wpAny _ _ (if _ then _ else _) _ _ _
  rw [if_neg (by decide)]
  show wpAny _ _ (if _ then _ else _) _ _ _
  rw [if_neg (by decide)]
  show wpAny _ _ (if _ then _ else _) _ _ _
  have hw' : ¬ (f.width.getD 0 > 100000) := by omega
  rw [if_neg (by simpa using hw')]
  show wpAny _ _ (retStr _) _ _ _
  have e : ∀ (Y : Str), Y = (intField' f (decide (a < 0)) [] ((Nat.toDigits 16 a.natAbs).map fun c => (if (120 : Nat) == 88 then c.toUpper else c).toNat) [] 4) → wpAny (model prog w) A.in1 (retStr Y) (fun fin s' =>
      match fin with
      | Fin.done f => R (Except.ok f) s'
      | Fin.again c' => c'.quiet = true ∧ codeAny (model prog w) A c' R s') (fun e s' => R (Except.error e) s') s := by
    rintro _ rfl
    exact wpAny_bind (wpAny_mkStr (wpAny_pure hq.2) hq.1)
  refine e _ ?_
  subst hf
  rfl
theorem gives_hex16 (a : Int) (t u : Tok) (h : 0 ≤ a) : Gives («int.__format__» ⟨[.int a t, .str S16 u], []⟩) (.str (hexT a)) := by
  have := gives_hexF a t u F16 S16 rfl (by decide) (parse16 _) rfl rfl rfl rfl (by decide) rfl
  rw [show decide (a < 0) = false from decide_eq_false (by omega)] at this
  exact this
/-! the digits -/
def hd : Nat → Nat → List Nat
  | 0, _ => []
  | k + 1, n => hd k (n / 16) ++ [(Nat.digitChar (n % 16)).toNat]
theorem hd_len : ∀ k n, (hd k n).length = k
  | 0, _ => rfl
  | k + 1, n => by rw [hd, List.length_append, hd_len k]; rfl
theorem hd_zero : ∀ k, hd k 0 = List.replicate k 48
  | 0 => rfl
  | k + 1 => by
    rw [hd, Nat.zero_div, hd_zero k, List.replicate_succ']
    rfl
theorem hd_dig : ∀ (k n : Nat), 1 ≤ k → n < 16 ^ k → List.replicate (k - (Nat.toDigits 16 n).length) 48 ++ (Nat.toDigits 16 n).map Char.toNat = hd k n
  | 0, _, h, _ => absurd h (by omega)
  | k + 1, n, _, h => by
    by_cases g : n < 16
    · rw [Nat.toDigits_of_lt_base g, hd, Nat.div_eq_of_lt g, hd_zero, Nat.mod_eq_of_lt g]
      simp
    · have h1 : n / 16 < 16 ^ k := by
        rw [Nat.pow_succ] at h
        exact Nat.div_lt_of_lt_mul (by rw [Nat.mul_comm]; exact h)
      have k1 : 1 ≤ k := by
        rcases Nat.eq_zero_or_pos k with z | z
        · subst z; simp at h; omega
        · exact z
      rw [Nat.toDigits_of_base_le (by decide) (by omega), hd, ← hd_dig k _ k1 h1, List.map_append, List.length_append]
      simp [Nat.add_sub_add_right]
theorem hexT_eq (n : Nat) (h : n < 18446744073709551616) : hexT (n : Int) = ⟨(hd 16 n).toArray⟩ := by
  have e := hd_dig 16 n (by decide) h
  rw [← e]
  have l : ((Nat.toDigits 16 n).map fun c => c.toNat).isEmpty = false := by
    have := Nat.length_toDigits_pos (b := 16) (n := n)
    cases q : Nat.toDigits 16 n with
    | nil => rw [q] at this; simp at this
    | cons _ _ => rfl
  unfold hexT F16 intField'
  simp [l]
  omega
theorem hd_inj16 : ∀ a : Nat, a < 16 → ∀ b : Nat, b < 16 → (Nat.digitChar a).toNat = (Nat.digitChar b).toNat → a = b := by decide +kernel
theorem hd_inj : ∀ (k n m : Nat), hd k n = hd k m → n % 16 ^ k = m % 16 ^ k
  | 0, n, m, _ => by simp [Nat.mod_one]
  | k + 1, n, m, h => by
    rw [hd, hd] at h
    obtain ⟨h1, h2⟩ := List.append_inj h (by rw [hd_len, hd_len])
    have a := hd_inj k _ _ h1
    have b := hd_inj16 (n % 16) (Nat.mod_lt _ (by decide)) (m % 16) (Nat.mod_lt _ (by decide)) (List.cons.inj h2).1
    rw [Nat.pow_succ, Nat.mul_comm, Nat.mod_mul, Nat.mod_mul, a, b]
theorem hexT_len (i : Int) (h0 : 0 ≤ i) (h : i < 18446744073709551616) : (hexT i).length = 16 := by
  obtain ⟨n, rfl⟩ := Int.eq_ofNat_of_zero_le h0
  rw [hexT_eq n (by omega)]
  show (hd 16 n).toArray.size = 16
  rw [List.size_toArray, hd_len]
theorem pe_hex {X : Cx} {e : Expr} {te : TE} {j : Nat} {p1 p2 p3 pos : Pos} (he : PE X e te) : PE X (.JoinedStr [.FormattedValue e (-1) (some (.JoinedStr [.Constant (.str (Str.ofString "016x")) j p1] p2)) p3] pos) (fun σ H Q => te σ H fun x H1 => ∃ i : Int, x = .int i ∧ 0 ≤ i ∧ i < 18446744073709551616 ∧ Q (.str (hexT i)) H1) := by
  refine ⟨fun pins s σ H Q I h => ?_⟩
  refine wpAny_JoinedStr_one (wpAny_FormattedValue_spec (thn (he.run pins s σ H _ I h) fun v s1 hv => ?_))
  obtain ⟨x, H1, I1, r1, i, rfl, h0, h2, q⟩ := hv
  obtain ⟨t, rfl⟩ := r1
  have hs := (pe_joined1 (pos := p2) (pe_str (X := X) (x := Str.ofString "016x") (j := j) (pos := p1))).run pins s1 σ H1 (fun y H2 => y = .str (Str.ofString "016x") ∧ H2 = H1) I1 ⟨rfl, rfl⟩
  refine thn hs fun r s2 hr => ?_
  obtain ⟨y, H2, I2, r2, rfl, rfl⟩ := hr
  obtain ⟨t2, rfl⟩ := r2
  have e16 : Str.ofString "016x" = S16 := by decide +kernel
  have hl := hexT_len i h0 h2
  refine ⟨Str.ofString "016x", t2, rfl, ?_⟩
  rw [e16]
  exact wpAny_formatField_spec (by rfl) (fun s' => typeIs_int s' i t) F.slot_int_format F.entry_int_format F.args_int_format_2 (fun u => gives_hex16 i t u h0) ⟨.str (hexT i), H2, I2.tok _, ⟨_, rfl⟩, q⟩ (by rw [sizeLine_eq]; decide) (by rw [hl, sizeLine_eq]; decide)
def gHex : D → Option D
  | .int i => if 0 ≤ i ∧ i < 18446744073709551616 then some (.str (hexT i)) else none
  | _ => none
@[simp] theorem gHex_int (i : Int) : gHex (.int i) = if 0 ≤ i ∧ i < 18446744073709551616 then some (.str (hexT i)) else none := rfl
/-- f'{e:016x}' -/
theorem eo_hex {X : Cx} {E : En} {W : WX} {e : Expr} {f : Env → R D} {j : Nat} {p1 p2 p3 pos : Pos} (h : EV X E W e f) : EO X E W (.JoinedStr [.FormattedValue e (-1) (some (.JoinedStr [.Constant (.str (Str.ofString "016x")) j p1] p2)) p3] pos) (e1 gHex f) := by
  refine ⟨pe_mono (pe_hex h.pe) fun σ H Q hh => ?_⟩
  obtain ⟨F, ρ, s, q⟩ := hh
  refine ⟨F, ρ, s, Res.mono q.bind (fun x _ q F1 H1 v A t1 r1 => ?_) fun c _ z F' H' t => z F' H' t⟩
  obtain ⟨d, e, p⟩ := q.opt
  cases x with
  | int i =>
    simp only [gHex_int] at e
    by_cases c : 0 ≤ i ∧ i < 18446744073709551616
    · rw [if_pos c] at e
      cases e
      exact ⟨i, r1.1, c.1, c.2, p F1 H1 _ [] t1 ⟨rfl, rfl⟩ .nil fun _ z => nomatch z⟩
    · rw [if_neg c] at e; cases e
  | _ => cases e
end Dv
end
section
set_option maxRecDepth 100000
set_option maxHeartbeats 1000000
namespace Dv
open PySem PySem.Spec PyProof.Rows L2

/-! ## expressions with an effect on what slots own -/
/-- what such an expression comes to: a value and the slots behind it -/
inductive XR (α : Type) where
  | no | ok (a : α) (ρ : Env) | ex (c : Nat) (ρ : Env)
def XR.bind {α β : Type} (r : XR α) (f : α → Env → XR β) : XR β := match r with
  | .no => .no
  | .ok a ρ => f a ρ
  | .ex c ρ => .ex c ρ
@[simp] theorem XR.bind_no {α β : Type} (f : α → Env → XR β) : (XR.no).bind f = .no := rfl
@[simp] theorem XR.bind_ok {α β : Type} (a : α) (ρ : Env) (f : α → Env → XR β) : (XR.ok a ρ).bind f = f a ρ := rfl
@[simp] theorem XR.bind_ex {α β : Type} (c : Nat) (ρ : Env) (f : α → Env → XR β) : (XR.ex c ρ : XR α).bind f = .ex c ρ := rfl
def XR.opt {α : Type} (o : Option α) (ρ : Env) : XR α := match o with
  | some a => .ok a ρ
  | none => .no
@[simp] theorem XR.opt_some {α : Type} (a : α) (ρ : Env) : XR.opt (some a) ρ = .ok a ρ := rfl
@[simp] theorem XR.opt_none {α : Type} (ρ : Env) : (XR.opt none ρ : XR α) = .no := rfl
/-- without an effect -/
def R.x {α : Type} (r : R α) (ρ : Env) : XR α := match r with
  | .no => .no
  | .ok a => .ok a ρ
  | .ex c => .ex c ρ
@[simp] theorem R.x_no {α : Type} (ρ : Env) : (R.no : R α).x ρ = .no := rfl
@[simp] theorem R.x_ok {α : Type} (a : α) (ρ : Env) : (R.ok a).x ρ = .ok a ρ := rfl
@[simp] theorem R.x_ex {α : Type} (c : Nat) (ρ : Env) : (R.ex c : R α).x ρ = .ex c ρ := rfl
def XRes {α : Type} (r : XR α) (P : α → Env → Prop) (E : Nat → Env → Prop) : Prop := match r with
  | .no => False
  | .ok a ρ => P a ρ
  | .ex c ρ => E c ρ
theorem XRes.mono {α : Type} {r : XR α} {P P' : α → Env → Prop} {E E' : Nat → Env → Prop} (h : XRes r P E) (p : ∀ a ρ, r = .ok a ρ → P a ρ → P' a ρ) (e : ∀ c ρ, E c ρ → E' c ρ) : XRes r P' E' := by
  cases r with
  | no => exact h
  | ok a ρ => exact p a ρ rfl h
  | ex c ρ => exact e c ρ h
theorem XRes.bind {α β : Type} {r : XR α} {f : α → Env → XR β} {P : β → Env → Prop} {E : Nat → Env → Prop} (h : XRes (r.bind f) P E) : XRes r (fun a ρ => XRes (f a ρ) P E) E := by
  cases r with
  | no => exact h
  | ok a ρ => exact h
  | ex c ρ => exact h
theorem XRes.x {α : Type} {r : R α} {ρ : Env} {P : α → Env → Prop} {E : Nat → Env → Prop} (h : XRes (r.x ρ) P E) : Res r (fun a => P a ρ) (fun c => E c ρ) := by
  cases r with
  | no => exact h
  | ok a => exact h
  | ex c => exact h
theorem XRes.opt {α : Type} {o : Option α} {ρ : Env} {P : α → Env → Prop} {E : Nat → Env → Prop} (h : XRes (XR.opt o ρ) P E) : ∃ a, o = some a ∧ P a ρ := by
  cases o with
  | none => exact h.elim
  | some a => exact ⟨a, rfl, h⟩

section
variable {E : En} {F H F' H' : Hp}
/-- the last one held is let go -/
theorem Stt.pop' {σ : L2.St} {ρ : Env} {o : Option V} {p : Option D} {fp : Nat → List Addr} (s : Stt E F H (σ ++ [o]) (ρ ++ [p])) (sl : Sl E F H (σ ++ [o]) (ρ ++ [p]) fp) (hb : ∀ i ∈ E.bs, i < σ.length) :
    Stt E F H σ ρ ∧ Sl E F H σ ρ (fun j => if j = σ.length then [] else fp j) ∧ (∀ d, p = some d → ∃ v, o = some v ∧ Rp E.k F H d v (fp σ.length)) ∧ (fp σ.length).Nodup ∧ ∀ a ∈ fp σ.length, E.He a = none ∧ ∀ j, a ∉ (if j = σ.length then [] else fp j) := by
  have hl : ρ.length = σ.length := by have := s.len; simpa using this
  have at' : ∀ j, j ≠ σ.length → ((ρ ++ [p])[j]?).getD none = (ρ[j]?).getD none := fun j n => by
    by_cases q : j < ρ.length
    · rw [List.getElem?_append_left q]
    · rw [List.getElem?_append_right (by omega), List.getElem?_singleton, if_neg (by omega), List.getElem?_eq_none (by omega)]
  have sl' : Sl E F H σ ρ (fun j => if j = σ.length then [] else fp j) := by
    refine ⟨fun j d e => ?_, fun j e => ?_, fun j => ?_, fun j j' a ha ha' => ?_, fun j a ha => ?_⟩
    · have lj : j < ρ.length := (List.getElem?_eq_some_iff.mp e).1
      obtain ⟨v, h1, h2⟩ := sl.rp j d (by rw [List.getElem?_append_left lj]; exact e)
      rw [List.getElem?_append_left (by omega)] at h1
      exact ⟨v, h1, by show Rp _ _ _ _ _ (if j = σ.length then [] else fp j); rw [if_neg (by omega)]; exact h2⟩
    · show (if j = σ.length then [] else fp j) = []
      by_cases q : j = σ.length
      · rw [if_pos q]
      · rw [if_neg q]; exact sl.em j (by rw [at' j q]; exact e)
    · show (if j = σ.length then [] else fp j).Nodup
      by_cases q : j = σ.length
      · rw [if_pos q]; exact .nil
      · rw [if_neg q]; exact sl.nd j
    · have ha : a ∈ (if j = σ.length then [] else fp j) := ha
      have ha' : a ∈ (if j' = σ.length then [] else fp j') := ha'
      by_cases q : j = σ.length
      · rw [if_pos q] at ha; cases ha
      · by_cases q' : j' = σ.length
        · rw [if_pos q'] at ha'; cases ha'
        · rw [if_neg q] at ha; rw [if_neg q'] at ha'; exact sl.dj j j' a ha ha'
    · have ha : a ∈ (if j = σ.length then [] else fp j) := ha
      by_cases q : j = σ.length
      · rw [if_pos q] at ha; cases ha
      · rw [if_neg q] at ha; exact sl.nw j a ha
  refine ⟨⟨s.e0, s.fh, s.fr, s.st, s.bt, hl, fun j hj => ⟨hb j hj, by have := (s.bv j hj).2; rwa [List.getElem?_append_left (hb j hj)] at this⟩, _, sl'⟩, sl', fun d e => ?_, sl.nd _, fun a ha => ⟨?_, fun j hj => ?_⟩⟩
  · obtain ⟨v, h1, h2⟩ := sl.rp σ.length d (by rw [List.getElem?_append_right (by omega), e, hl, Nat.sub_self]; rfl)
    rw [List.getElem?_append_right (Nat.le_refl _), Nat.sub_self] at h1
    exact ⟨v, by simpa using h1, h2⟩
  · exact (sl.nw _ a ha).elim (fun z => z) fun z => absurd (hb _ z.2) (Nat.lt_irrefl _)
  · by_cases q : j = σ.length
    · rw [if_pos q] at hj; cases hj
    · rw [if_neg q] at hj; exact q (sl.dj _ _ a hj ha)
theorem Stt.pop {σ : L2.St} {ρ : Env} {o : Option V} {p : Option D} (s : Stt E F H (σ ++ [o]) (ρ ++ [p])) (hb : ∀ i ∈ E.bs, i < σ.length) : Stt E F H σ ρ := by
  obtain ⟨fp, sl⟩ := s.sl
  exact (s.pop' sl hb).1
theorem Stt.top {σ : L2.St} {ρ : Env} {o : Option V} {d : D} (s : Stt E F H (σ ++ [o]) (ρ ++ [some d])) (hb : ∀ i ∈ E.bs, i < σ.length) : ∃ v A, o = some v ∧ Rp E.k F H d v A ∧ A.Nodup := by
  obtain ⟨fp, sl⟩ := s.sl
  obtain ⟨_, _, h, n, _⟩ := s.pop' sl hb
  obtain ⟨v, e, r⟩ := h d rfl
  exact ⟨v, _, e, r, n⟩
/-- several held ones together -/
theorem Stt.collect : ∀ (vs : List V) (ds : List D) {σ : L2.St} {ρ : Env} {fp : Nat → List Addr}, vs.length = ds.length → Stt E F H (σ ++ vs.map some) (ρ ++ ds.map some) → Sl E F H (σ ++ vs.map some) (ρ ++ ds.map some) fp → (∀ i ∈ E.bs, i < σ.length) →
    ∃ fp' A, Stt E F H σ ρ ∧ Sl E F H σ ρ fp' ∧ RpL E.k F H ds vs A ∧ A.Nodup ∧ ∀ a ∈ A, E.He a = none ∧ ∀ j, a ∉ fp' j
  | [], ds, σ, ρ, fp, hl, s, sl, hb => by
    cases ds with
    | cons _ _ => cases hl
    | nil =>
      simp only [List.map_nil, List.append_nil] at s sl
      exact ⟨fp, [], s, sl, ⟨rfl, rfl⟩, .nil, fun _ z => nomatch z⟩
  | v :: vs, ds, σ, ρ, fp, hl, s, sl, hb => by
    cases ds with
    | nil => cases hl
    | cons d ds =>
      have e1 : σ ++ (v :: vs).map some = (σ ++ [some v]) ++ vs.map some := by simp
      have e2 : ρ ++ (d :: ds).map some = (ρ ++ [some d]) ++ ds.map some := by simp
      rw [e1, e2] at s sl
      obtain ⟨fp1, B, s1, sl1, r1, n1, u1⟩ := Stt.collect vs ds (by simpa using hl) s sl (fun i hi => by have := hb i hi; rw [List.length_append]; omega)
      obtain ⟨s2, sl2, h2, n2, u2⟩ := s1.pop' sl1 hb
      obtain ⟨w, ew, r2⟩ := h2 d rfl
      cases ew
      refine ⟨_, fp1 σ.length ++ B, s2, sl2, ⟨v, vs, _, B, rfl, rfl, r2, r1⟩, List.nodup_append.mpr ⟨n2, n1, fun a ha b hb' z => ?_⟩, fun a ha => ?_⟩
      · subst z; exact (u1 a hb').2 _ ha
      · rcases List.mem_append.mp ha with ha | ha
        · exact u2 a ha
        · refine ⟨(u1 a ha).1, fun j hj => ?_⟩
          by_cases q : j = σ.length
          · rw [if_pos q] at hj; cases hj
          · rw [if_neg q] at hj; exact (u1 a ha).2 j hj
end

/-! ### the judgement -/
def tX (E : En) (W : WX) (f : Env → XR D) : TE := fun σ H Q => ∃ (F : Hp) (ρ : Env) (τ : L2.St) (δ : Env), Stt E F H (σ ++ τ) (ρ ++ δ) ∧ ρ.length = σ.length ∧ (∀ i ∈ E.bs, i < σ.length) ∧
  XRes (f ρ) (fun d ρ' => ∀ F' H' v, Ex F F' → ρ'.length = σ.length → Stt E F' H' (σ ++ (τ ++ [some v])) (ρ' ++ (δ ++ [some d])) → Q v H') (fun c ρ' => ∀ F' H', Ex F F' → ρ'.length = σ.length → Stt E F' H' (σ ++ τ) (ρ' ++ δ) → W (E.ec c) none σ H')
def tXT (E : En) (W : WX) (f : Env → XR Bool) : TT := fun σ H Q => ∃ (F : Hp) (ρ : Env) (τ : L2.St) (δ : Env), Stt E F H (σ ++ τ) (ρ ++ δ) ∧ ρ.length = σ.length ∧ (∀ i ∈ E.bs, i < σ.length) ∧
  XRes (f ρ) (fun b ρ' => ∀ F' H', Ex F F' → ρ'.length = σ.length → Stt E F' H' (σ ++ τ) (ρ' ++ δ) → Q b H') (fun c ρ' => ∀ F' H', Ex F F' → ρ'.length = σ.length → Stt E F' H' (σ ++ τ) (ρ' ++ δ) → W (E.ec c) none σ H')
/-- arguments: all held -/
def tXA (E : En) (W : WX) (f : Env → XR (List D)) : TA := fun σ H Q => ∃ (F : Hp) (ρ : Env) (τ : L2.St) (δ : Env), Stt E F H (σ ++ τ) (ρ ++ δ) ∧ ρ.length = σ.length ∧ (∀ i ∈ E.bs, i < σ.length) ∧
  XRes (f ρ) (fun ds ρ' => ∀ F' H' vs, Ex F F' → ρ'.length = σ.length → vs.length = ds.length → Stt E F' H' (σ ++ (τ ++ vs.map some)) (ρ' ++ (δ ++ ds.map some)) → Q vs H') (fun c ρ' => ∀ F' H', Ex F F' → ρ'.length = σ.length → Stt E F' H' (σ ++ τ) (ρ' ++ δ) → W (E.ec c) none σ H')
structure EX (X : Cx) (E : En) (W : WX) (e : Expr) (f : Env → XR D) : Prop where
  pe : PE X e (tX E W f)
structure EXT (X : Cx) (E : En) (W : WX) (e : Expr) (f : Env → XR Bool) : Prop where
  pt : PT X e (tXT E W f)
structure EXW (X : Cx) (E : En) (W : WX) (e : Expr) (f : Env → XR Bool) : Prop where
  pw : PW X e (tXT E W f)
structure EXA (X : Cx) (E : En) (W : WX) (es : List Expr) (f : Env → XR (List D)) : Prop where
  pa : PA X es (tXA E W f)

section
variable {X : Cx} {E : En} {W : WX}
theorem blt {σ : L2.St} {τ : L2.St} (hb : ∀ i ∈ E.bs, i < σ.length) : ∀ i ∈ E.bs, i < (σ ++ τ).length := fun i hi => by rw [List.length_append]; exact Nat.lt_of_lt_of_le (hb i hi) (Nat.le_add_right _ _)
/-- the slots alone -/
theorem Stt.slots {F H : Hp} {σ : L2.St} {ρ : Env} : ∀ {τ : L2.St} {δ : Env}, Stt E F H (σ ++ τ) (ρ ++ δ) → ρ.length = σ.length → (∀ i ∈ E.bs, i < σ.length) → Stt E F H σ ρ := fun {τ δ} s hl hb => by
  obtain ⟨n, hn⟩ : ∃ n, τ.length = n := ⟨_, rfl⟩
  induction n generalizing τ δ with
  | zero =>
    have e1 : τ = [] := List.length_eq_zero_iff.mp hn
    subst e1
    have : δ = [] := by have := s.len; simp [hl] at this; exact this
    subst this
    simpa using s
  | succ n ih =>
    rcases List.eq_nil_or_concat τ with e | ⟨τ', o, e⟩
    · subst e; cases hn
    · rcases List.eq_nil_or_concat δ with e' | ⟨δ', p, e'⟩
      · subst e'; have := s.len; simp [hl] at this; rw [this] at hn; cases hn
      · rw [e', e, List.concat_eq_append, List.concat_eq_append] at s
        rw [e, List.length_concat] at hn
        rw [← List.append_assoc, ← List.append_assoc] at s
        exact ih (s.pop (blt hb)) (by omega)
theorem Stt.pushX {F H F' H' : Hp} {σ τ : L2.St} {ρ δ : Env} {d : D} {v : V} {A : List Addr} (s : Stt E F H (σ ++ τ) (ρ ++ δ)) (t : Tr F H F' H') (r : Rp E.k F' H' d v A) (nd : A.Nodup) (u : ∀ a ∈ A, H a = none) : Stt E F' H' (σ ++ (τ ++ [some v])) (ρ ++ (δ ++ [some d])) := by
  rw [← List.append_assoc, ← List.append_assoc]
  exact s.push t r nd u
theorem Stt.popX {F H : Hp} {σ τ : L2.St} {ρ δ : Env} {o : Option V} {p : Option D} (s : Stt E F H (σ ++ (τ ++ [o])) (ρ ++ (δ ++ [p]))) (hb : ∀ i ∈ E.bs, i < σ.length) : Stt E F H (σ ++ τ) (ρ ++ δ) := by
  rw [← List.append_assoc, ← List.append_assoc] at s
  exact s.pop (blt hb)
theorem Stt.topX {F H : Hp} {σ τ : L2.St} {ρ δ : Env} {v : V} {d : D} (s : Stt E F H (σ ++ (τ ++ [some v])) (ρ ++ (δ ++ [some d]))) (hb : ∀ i ∈ E.bs, i < σ.length) : ∃ A, Rp E.k F H d v A ∧ A.Nodup := by
  rw [← List.append_assoc, ← List.append_assoc] at s
  obtain ⟨w, A, e, r, n⟩ := s.top (blt hb)
  cases e
  exact ⟨A, r, n⟩
theorem Stt.slotX {F H : Hp} {σ τ : L2.St} {ρ δ : Env} {i : Nat} {d : D} (s : Stt E F H (σ ++ τ) (ρ ++ δ)) (hl : ρ.length = σ.length) (e : ρ[i]? = some (some d)) : ∃ v A, σ[i]? = some (some v) ∧ Rp E.k F H d v A := by
  obtain ⟨fp, sl⟩ := s.sl
  have hi := (List.getElem?_eq_some_iff.mp e).1
  obtain ⟨v, h1, h2⟩ := sl.rp i d (by rw [List.getElem?_append_left hi]; exact e)
  rw [List.getElem?_append_left (by omega)] at h1
  exact ⟨v, _, h1, h2⟩
/-- what is made out of what is held, in their place -/
theorem GOk.ofX {F F0 H : Hp} {σ τ : L2.St} {ρ δ : Env} {Q : VK} {d : D} (s : Stt E F H (σ ++ τ) (ρ ++ δ)) (hl : ρ.length = σ.length) (x : Ex F0 F) (q : ∀ F' H' v, Ex F0 F' → ρ.length = σ.length → Stt E F' H' (σ ++ (τ ++ [some v])) (ρ ++ (δ ++ [some d])) → Q v H') : GOk E F H Q d :=
  fun F' H' v A t r nd u => q F' H' v (x.trans t.ff) hl (s.pushX t r nd u)

/-! ### without an effect -/
def xO (f : Env → R D) : Env → XR D := fun ρ => (f ρ).x ρ
@[simp] theorem xO_eq (f : Env → R D) (ρ : Env) : xO f ρ = (f ρ).x ρ := rfl
theorem xe_o {e : Expr} {f : Env → R D} (h : EO X E W e f) : EX X E W e (xO f) := by
  refine ⟨pe_mono h.pe fun σ H Q ⟨F, ρ, τ, δ, s, hl, hb, q⟩ => ⟨F, ρ, s.slots hl hb, Res.mono (XRes.x q) (fun d _ q F' H' v A t r nd u => q F' H' v t.ff hl (s.pushX t r nd u)) fun c _ z F' H' t => z F' H' t.ff hl (s.tr t)⟩⟩
def xT (f : Env → R Bool) : Env → XR Bool := fun ρ => (f ρ).x ρ
@[simp] theorem xT_eq (f : Env → R Bool) (ρ : Env) : xT f ρ = (f ρ).x ρ := rfl
theorem xt_t {e : Expr} {f : Env → R Bool} (h : ET X E W e f) : EXT X E W e (xT f) := by
  refine ⟨pt_mono h.pt fun σ H Q ⟨F, ρ, τ, δ, s, hl, hb, q⟩ => ⟨F, ρ, s.slots hl hb, Res.mono (XRes.x q) (fun d _ q F' H' t => q F' H' t.ff hl (s.tr t)) fun c _ z F' H' t => z F' H' t.ff hl (s.tr t)⟩⟩
/-! ### one and two operands -/
def x1 (g : D → Option D) (fa : Env → XR D) : Env → XR D := fun ρ => (fa ρ).bind fun x ρ => XR.opt (g x) ρ
@[simp] theorem x1_eq (g : D → Option D) (fa : Env → XR D) (ρ : Env) : x1 g fa ρ = (fa ρ).bind fun x ρ => XR.opt (g x) ρ := rfl
def x2 (g : D → D → Option D) (fa fb : Env → XR D) : Env → XR D := fun ρ => (fa ρ).bind fun x ρ => (fb ρ).bind fun y ρ => XR.opt (g x y) ρ
@[simp] theorem x2_eq (g : D → D → Option D) (fa fb : Env → XR D) (ρ : Env) : x2 g fa fb ρ = (fa ρ).bind fun x ρ => (fb ρ).bind fun y ρ => XR.opt (g x y) ρ := rfl
/-- the first one a name, looked at behind the second -/
def x2n (g : D → D → Option D) (i : Nat) (fb : Env → XR D) : Env → XR D := fun ρ => match ρ[i]?.getD none with
  | some _ => (fb ρ).bind fun y ρ => match ρ[i]?.getD none with
    | some x => XR.opt (g x y) ρ
    | none => .no
  | none => .no
@[simp] theorem x2n_eq (g : D → D → Option D) (i : Nat) (fb : Env → XR D) (ρ : Env) : x2n g i fb ρ = match ρ[i]?.getD none with
  | some _ => (fb ρ).bind fun y ρ => match ρ[i]?.getD none with
    | some x => XR.opt (g x y) ρ
    | none => .no
  | none => .no := rfl
/-- the second one is looked at -/
def x2v (g : D → D → Option D) (fa : Env → XR D) (fb : Env → R D) : Env → XR D := fun ρ => (fa ρ).bind fun x ρ => ((fb ρ).x ρ).bind fun y ρ => XR.opt (g x y) ρ
@[simp] theorem x2v_eq (g : D → D → Option D) (fa : Env → XR D) (fb : Env → R D) (ρ : Env) : x2v g fa fb ρ = (fa ρ).bind fun x ρ => ((fb ρ).x ρ).bind fun y ρ => XR.opt (g x y) ρ := rfl
/-- the frame of a first operand's exception -/
theorem saysX1 {r : V → Hp → VK → Prop} {g : D → Option D} (hg : Says1 E r g) {fa : Env → XR D} {σ : L2.St} {H : Hp} {Q : VK} (h : tX E W (x1 g fa) σ H Q) : tUn r (tX E W fa) σ H Q := by
  obtain ⟨F, ρ, τ, δ, s, hl, hb, q⟩ := h
  refine ⟨F, ρ, τ, δ, s, hl, hb, XRes.mono q.bind (fun x ρ1 _ q F1 H1 v e1 l1 s1 => ?_) fun c ρ1 z => z⟩
  obtain ⟨d, e, p⟩ := q.opt
  obtain ⟨A, ra, _⟩ := s1.topX hb
  exact hg F1 H1 x v A Q d s1.fh ra e (GOk.ofX (s1.popX hb) l1 e1 p)
theorem saysX2 {r : R2} {g : D → D → Option D} (hg : Says2 E r g) {fa fb : Env → XR D} {σ : L2.St} {H : Hp} {Q : VK} (h : tX E W (x2 g fa fb) σ H Q) : tOp r (tX E W fa) (tX E W fb) σ H Q := by
  obtain ⟨F, ρ, τ, δ, s, hl, hb, q⟩ := h
  refine ⟨F, ρ, τ, δ, s, hl, hb, XRes.mono q.bind (fun x ρ1 _ q F1 H1 v e1 l1 s1 => ?_) fun c ρ1 z => z⟩
  refine ⟨F1, ρ1, _, _, s1, l1, hb, XRes.mono q.bind (fun y ρ2 _ q F2 H2 w e2 l2 s2 => ?_) fun c ρ2 z F2 H2 e2 l2 s2 => z F2 H2 (e1.trans e2) l2 (s2.popX hb)⟩
  obtain ⟨d, e, p⟩ := q.opt
  obtain ⟨B, rb, _⟩ := s2.topX hb
  have s2' := s2.popX hb
  obtain ⟨A, ra, _⟩ := s2'.topX hb
  exact hg F2 H2 x y v w A B Q d s2.fh ra rb e (GOk.ofX (s2'.popX hb) l2 (e1.trans e2) p)
theorem saysX2n {r : R2} {g : D → D → Option D} (hg : Says2 E r g) {i : Nat} {fb : Env → XR D} {σ : L2.St} {H : Hp} {Q : VK} (h : tX E W (x2n g i fb) σ H Q) : tOp r (tVar i) (tX E W fb) σ H Q := by
  obtain ⟨F, ρ, τ, δ, s, hl, hb, q⟩ := h
  rw [x2n_eq] at q
  cases e0 : ρ[i]?.getD none with
  | none => rw [e0] at q; exact q.elim
  | some d0 =>
    rw [e0] at q
    obtain ⟨v, A, ev, _⟩ := s.slotX hl (some_some e0)
    refine ⟨v, ev, F, ρ, τ, δ, s, hl, hb, XRes.mono q.bind (fun y ρ1 _ q F1 H1 w e1 l1 s1 => ?_) fun c ρ1 z => z⟩
    cases e2 : ρ1[i]?.getD none with
    | none => rw [e2] at q; exact q.elim
    | some x =>
      rw [e2] at q
      obtain ⟨d, e, p⟩ := q.opt
      obtain ⟨B, rb, _⟩ := s1.topX hb
      obtain ⟨v', A', ev', ra⟩ := (s1.popX hb).slotX l1 (some_some e2)
      rw [ev] at ev'
      cases ev'
      exact hg F1 H1 x y v w A' B Q d s1.fh ra rb e (GOk.ofX (s1.popX hb) l1 e1 p)
theorem saysX2v {r : R2} {g : D → D → Option D} (hg : Says2 E r g) {fa : Env → XR D} {fb : Env → R D} {σ : L2.St} {H : Hp} {Q : VK} (h : tX E W (x2v g fa fb) σ H Q) : tOp r (tX E W fa) (tV E W fb) σ H Q := by
  obtain ⟨F, ρ, τ, δ, s, hl, hb, q⟩ := h
  refine ⟨F, ρ, τ, δ, s, hl, hb, XRes.mono q.bind (fun x ρ1 _ q F1 H1 v e1 l1 s1 => ?_) fun c ρ1 z => z⟩
  refine ⟨F1, ρ1, s1.slots l1 hb, Res.mono (XRes.x q.bind) (fun y _ q F2 H2 w B t2 rb => ?_) fun c _ z F2 H2 t2 => z F2 H2 (e1.trans t2.ff) l1 ((s1.popX hb).tr t2)⟩
  obtain ⟨d, e, p⟩ := q.opt
  obtain ⟨A, ra, _⟩ := s1.topX hb
  exact hg F2 H2 x y v w A B Q d t2.fh (ra.tr t2) rb e (GOk.ofX ((s1.popX hb).tr t2) l1 (e1.trans t2.ff) p)
section
variable {a b : Expr} {op : Operator} {cop : CmpOp} {r : R2} {g : D → D → Option D} {fa fb : Env → XR D} {fv : Env → R D} {i : Nat} {pos : Pos}
theorem xe_op (ho : OpR X (binaryOp op) r) (hg : Says2 E r g) (ha : EX X E W a fa) (hb : EX X E W b fb) : EX X E W (.BinOp a op b pos) (x2 g fa fb) :=
  ⟨pe_mono (pe_op ho ha.pe hb.pe) fun _ _ _ h => saysX2 hg h⟩
theorem xe_opn (ho : OpR X (binaryOp op) r) (hg : Says2 E r g) (ha : PE X a (tVar i)) (hb : EX X E W b fb) : EX X E W (.BinOp a op b pos) (x2n g i fb) :=
  ⟨pe_mono (pe_op ho ha hb.pe) fun _ _ _ h => saysX2n hg h⟩
theorem xe_opv (ho : OpR X (binaryOp op) r) (hg : Says2 E r g) (ha : EX X E W a fa) (hb : EV X E W b fv) : EX X E W (.BinOp a op b pos) (x2v g fa fv) :=
  ⟨pe_mono (pe_op ho ha.pe hb.pe) fun _ _ _ h => saysX2v hg h⟩
theorem xe_cmp (ho : OpR X (compareOp cop) r) (hg : Says2 E r g) (hm : behindInMarks cop b = false) (ha : EX X E W a fa) (hb : EX X E W b fb) : EX X E W (.Compare a [cop] [b] pos) (x2 g fa fb) :=
  ⟨pe_mono (pe_cmpR ho ha.pe hb.pe hm) fun _ _ _ h => saysX2 hg h⟩
theorem xe_cmpn (ho : OpR X (compareOp cop) r) (hg : Says2 E r g) (hm : behindInMarks cop b = false) (ha : PE X a (tVar i)) (hb : EX X E W b fb) : EX X E W (.Compare a [cop] [b] pos) (x2n g i fb) :=
  ⟨pe_mono (pe_cmpR ho ha hb.pe hm) fun _ _ _ h => saysX2n hg h⟩
theorem xe_cmpv (ho : OpR X (compareOp cop) r) (hg : Says2 E r g) (hm : behindInMarks cop b = false) (ha : EX X E W a fa) (hb : EV X E W b fv) : EX X E W (.Compare a [cop] [b] pos) (x2v g fa fv) :=
  ⟨pe_mono (pe_cmpR ho ha.pe hb.pe hm) fun _ _ _ h => saysX2v hg h⟩
end
theorem xe_un {a : Expr} {op : UnaryOp} {r : V → Hp → VK → Prop} {g : D → Option D} {fa : Env → XR D} {pos : Pos} (ho : UnR X (unaryOp op) r) (hg : Says1 E r g) (ha : EX X E W a fa) : EX X E W (.UnaryOp op a pos) (x1 g fa) :=
  ⟨pe_mono (pe_un ho ha.pe) fun _ _ _ h => saysX1 hg h⟩
theorem says_addX (hK : E.k.K = X.K) : Says2 E (rAddA X.K) gAdd := by rw [← hK]; exact says_add
end
end Dv
end
section
set_option maxRecDepth 100000
set_option maxHeartbeats 1000000
namespace Dv
open PySem PySem.Spec PyProof.Rows L2
section
variable {X : Cx} {E : En} {W : WX}
/-! ### tests -/
def xTe (f : Env → XR D) : Env → XR Bool := fun ρ => (f ρ).bind fun d ρ => XR.opt (asT d) ρ
@[simp] theorem xTe_eq (f : Env → XR D) (ρ : Env) : xTe f ρ = (f ρ).bind fun d ρ => XR.opt (asT d) ρ := rfl
theorem xt_tru (hK : E.k.K = X.K) {a : Expr} {fa : Env → XR D} (ha : EX X E W a fa) (he : ∀ whole, isTrue a X.env whole = (do let v ← whole; standAt a.pos; holding [v] (truthy v)) := by intro _; rfl) : EXT X E W a (xTe fa) := by
  refine ⟨pt_mono (pt_truth ha.pe he) fun σ H Q h => ?_⟩
  obtain ⟨F, ρ, τ, δ, s, hl, hb, q⟩ := h
  refine ⟨F, ρ, τ, δ, s, hl, hb, XRes.mono q.bind (fun x ρ1 _ q F1 H1 v e1 l1 s1 => ?_) fun c ρ1 z => z⟩
  obtain ⟨b, e, p⟩ := q.opt
  obtain ⟨A, ra, _⟩ := s1.topX hb
  exact ⟨b, by rw [← hK]; exact ra.tru s1.fh e, p F1 H1 e1 l1 (s1.popX hb)⟩
theorem tXT_of {fa : Env → XR D} {t : TE} (hbl : ∀ ρ d ρ', fa ρ = .ok d ρ' → ∃ b, d = .bl b) (h : ∀ σ H Q, tX E W fa σ H Q → t σ H Q) {σ : L2.St} {H : Hp} {Q : Bool → Hp → Prop} (q : tXT E W (xTe fa) σ H Q) : t σ H fun x H' => ∃ k, x = .bl k ∧ Q k H' := by
  obtain ⟨F, ρ, τ, δ, s, hl, hb, q⟩ := q
  refine h σ H _ ⟨F, ρ, τ, δ, s, hl, hb, XRes.mono q.bind (fun x ρ1 e q F1 H1 v e1 l1 s1 => ?_) fun c ρ1 z => z⟩
  obtain ⟨b, rfl⟩ := hbl ρ x ρ1 e
  obtain ⟨A, ra, _⟩ := s1.topX hb
  exact ⟨b, ra.1, q F1 H1 e1 l1 (s1.popX hb)⟩
theorem x2_bl {g : D → D → Option D} (hg : ∀ x y d, g x y = some d → ∃ b, d = .bl b) {fa fb : Env → XR D} (ρ : Env) (d : D) (ρ' : Env) (e : x2 g fa fb ρ = .ok d ρ') : ∃ b, d = .bl b := by
  rw [x2_eq] at e
  cases ea : fa ρ with
  | ok x ρ1 =>
    rw [ea, XR.bind_ok] at e
    cases eb : fb ρ1 with
    | ok y ρ2 =>
      rw [eb, XR.bind_ok] at e
      cases eg : g x y with
      | some z => rw [eg] at e; cases e; exact hg x y d eg
      | none => rw [eg] at e; cases e
    | _ => rw [eb] at e; cases e
  | _ => rw [ea] at e; cases e
theorem x2n_bl {g : D → D → Option D} (hg : ∀ x y d, g x y = some d → ∃ b, d = .bl b) {i : Nat} {fb : Env → XR D} (ρ : Env) (d : D) (ρ' : Env) (e : x2n g i fb ρ = .ok d ρ') : ∃ b, d = .bl b := by
  rw [x2n_eq] at e
  split at e
  · cases eb : fb ρ with
    | ok y ρ2 =>
      rw [eb, XR.bind_ok] at e
      split at e
      · rename_i x _
        cases eg : g x y with
        | some z => rw [eg] at e; cases e; exact hg x y d eg
        | none => rw [eg] at e; cases e
      · cases e
    | _ => rw [eb] at e; cases e
  · cases e
theorem x2v_bl {g : D → D → Option D} (hg : ∀ x y d, g x y = some d → ∃ b, d = .bl b) {fa : Env → XR D} {fb : Env → R D} (ρ : Env) (d : D) (ρ' : Env) (e : x2v g fa fb ρ = .ok d ρ') : ∃ b, d = .bl b := by
  rw [x2v_eq] at e
  cases ea : fa ρ with
  | ok x ρ1 =>
    rw [ea, XR.bind_ok] at e
    cases eb : fb ρ1 with
    | ok y =>
      rw [eb, R.x_ok, XR.bind_ok] at e
      cases eg : g x y with
      | some z => rw [eg] at e; cases e; exact hg x y d eg
      | none => rw [eg] at e; cases e
    | _ => rw [eb] at e; cases e
  | _ => rw [ea] at e; cases e
section
variable {a b : Expr} {cop : CmpOp} {r : R2} {g : D → D → Option D} {fa fb : Env → XR D} {fv : Env → R D} {i : Nat} {pos : Pos}
theorem xt_cmp (ho : OpR X (compareOp cop) r) (hg : Says2 E r g) (hbl : ∀ x y d, g x y = some d → ∃ b, d = .bl b) (hm : behindInMarks cop b = false) (ha : EX X E W a fa) (hb : EX X E W b fb) : EXT X E W (.Compare a [cop] [b] pos) (xTe (x2 g fa fb)) :=
  ⟨pt_mono (pt_cmpR ho ha.pe hb.pe hm) fun _ _ _ h => tXT_of (x2_bl hbl) (fun _ _ _ q => saysX2 hg q) h⟩
theorem xt_cmpn (ho : OpR X (compareOp cop) r) (hg : Says2 E r g) (hbl : ∀ x y d, g x y = some d → ∃ b, d = .bl b) (hm : behindInMarks cop b = false) (ha : PE X a (tVar i)) (hb : EX X E W b fb) : EXT X E W (.Compare a [cop] [b] pos) (xTe (x2n g i fb)) :=
  ⟨pt_mono (pt_cmpR ho ha hb.pe hm) fun _ _ _ h => tXT_of (x2n_bl hbl) (fun _ _ _ q => saysX2n hg q) h⟩
theorem xt_cmpv (ho : OpR X (compareOp cop) r) (hg : Says2 E r g) (hbl : ∀ x y d, g x y = some d → ∃ b, d = .bl b) (hm : behindInMarks cop b = false) (ha : EX X E W a fa) (hb : EV X E W b fv) : EXT X E W (.Compare a [cop] [b] pos) (xTe (x2v g fa fv)) :=
  ⟨pt_mono (pt_cmpR ho ha.pe hb.pe hm) fun _ _ _ h => tXT_of (x2v_bl hbl) (fun _ _ _ q => saysX2v hg q) h⟩
end
def xNotF (f : Env → XR Bool) : Env → XR Bool := fun ρ => (f ρ).bind fun b ρ => .ok (!b) ρ
def xAndF (f g : Env → XR Bool) : Env → XR Bool := fun ρ => (f ρ).bind fun b ρ => if b = true then g ρ else .ok false ρ
def xOrF (f g : Env → XR Bool) : Env → XR Bool := fun ρ => (f ρ).bind fun b ρ => if b = true then .ok true ρ else g ρ
@[simp] theorem xNotF_eq (f : Env → XR Bool) (ρ : Env) : xNotF f ρ = (f ρ).bind fun b ρ => .ok (!b) ρ := rfl
@[simp] theorem xAndF_eq (f g : Env → XR Bool) (ρ : Env) : xAndF f g ρ = (f ρ).bind fun b ρ => if b = true then g ρ else .ok false ρ := rfl
@[simp] theorem xOrF_eq (f g : Env → XR Bool) (ρ : Env) : xOrF f g ρ = (f ρ).bind fun b ρ => if b = true then .ok true ρ else g ρ := rfl
section
variable {a b : Expr} {rest : List Expr} {f g : Env → XR Bool} {pos : Pos}
theorem xt_not (h : EXT X E W a f) : EXT X E W (.UnaryOp .Not a pos) (xNotF f) := by
  refine ⟨pt_mono (pt_not h.pt) fun σ H Q h => ?_⟩
  obtain ⟨F, ρ, τ, δ, s, hl, hb, q⟩ := h
  exact ⟨F, ρ, τ, δ, s, hl, hb, XRes.mono q.bind (fun x ρ1 _ q => q) fun c ρ1 z => z⟩
theorem xw_and1 (h : EXT X E W a f) : EXW X E W (.BoolOp .And [a] pos) f := ⟨pw_and1 h.pt⟩
theorem xw_or1 (h : EXT X E W a f) : EXW X E W (.BoolOp .Or [a] pos) f := ⟨pw_or1 h.pt⟩
theorem xw_and (ha : EXT X E W a f) (hb : EXW X E W (.BoolOp .And (b :: rest) pos) g) : EXW X E W (.BoolOp .And (a :: b :: rest) pos) (xAndF f g) := by
  refine ⟨pw_mono (pw_and ha.pt hb.pw) fun σ H Q h => ?_⟩
  obtain ⟨F, ρ, τ, δ, s, hl, hb, q⟩ := h
  refine ⟨F, ρ, τ, δ, s, hl, hb, XRes.mono q.bind (fun x ρ1 _ q F1 H1 e1 l1 s1 => ?_) fun c ρ1 z => z⟩
  cases x with
  | true => exact ⟨F1, ρ1, τ, δ, s1, l1, hb, XRes.mono q (fun y ρ2 _ q F2 H2 e2 l2 s2 => q F2 H2 (e1.trans e2) l2 s2) fun c ρ2 z F2 H2 e2 l2 s2 => z F2 H2 (e1.trans e2) l2 s2⟩
  | false => exact q F1 H1 e1 l1 s1
theorem xw_or (ha : EXT X E W a f) (hb : EXW X E W (.BoolOp .Or (b :: rest) pos) g) : EXW X E W (.BoolOp .Or (a :: b :: rest) pos) (xOrF f g) := by
  refine ⟨pw_mono (pw_or ha.pt hb.pw) fun σ H Q h => ?_⟩
  obtain ⟨F, ρ, τ, δ, s, hl, hb, q⟩ := h
  refine ⟨F, ρ, τ, δ, s, hl, hb, XRes.mono q.bind (fun x ρ1 _ q F1 H1 e1 l1 s1 => ?_) fun c ρ1 z => z⟩
  cases x with
  | false => exact ⟨F1, ρ1, τ, δ, s1, l1, hb, XRes.mono q (fun y ρ2 _ q F2 H2 e2 l2 s2 => q F2 H2 (e1.trans e2) l2 s2) fun c ρ2 z F2 H2 e2 l2 s2 => z F2 H2 (e1.trans e2) l2 s2⟩
  | true => exact q F1 H1 e1 l1 s1
theorem EXW.t {e : Expr} (h : EXW X E W e f) : EXT X E W e f := ⟨h.pw.pt⟩
end
def xIf (t : Env → XR Bool) (f g : Env → XR D) : Env → XR D := fun ρ => (t ρ).bind fun b ρ => if b = true then f ρ else g ρ
@[simp] theorem xIf_eq (t : Env → XR Bool) (f g : Env → XR D) (ρ : Env) : xIf t f g ρ = (t ρ).bind fun b ρ => if b = true then f ρ else g ρ := rfl
theorem xe_if {a b c : Expr} {t : Env → XR Bool} {f g : Env → XR D} {pos : Pos} (hc : EXT X E W c t) (ha : EX X E W a f) (hb : EX X E W b g) : EX X E W (.IfExp c a b pos) (xIf t f g) := by
  refine ⟨pe_mono (pe_ifExp hc.pt ha.pe hb.pe) fun σ H Q h => ?_⟩
  obtain ⟨F, ρ, τ, δ, s, hl, hb, q⟩ := h
  refine ⟨F, ρ, τ, δ, s, hl, hb, XRes.mono q.bind (fun x ρ1 _ q F1 H1 e1 l1 s1 => ?_) fun c ρ1 z => z⟩
  cases x with
  | true => exact ⟨F1, ρ1, τ, δ, s1, l1, hb, XRes.mono q (fun y ρ2 _ q F2 H2 v e2 l2 s2 => q F2 H2 v (e1.trans e2) l2 s2) fun c ρ2 z F2 H2 e2 l2 s2 => z F2 H2 (e1.trans e2) l2 s2⟩
  | false => exact ⟨F1, ρ1, τ, δ, s1, l1, hb, XRes.mono q (fun y ρ2 _ q F2 H2 v e2 l2 s2 => q F2 H2 v (e1.trans e2) l2 s2) fun c ρ2 z F2 H2 e2 l2 s2 => z F2 H2 (e1.trans e2) l2 s2⟩

/-! ### subscripts: the item must be pure -/
theorem ix_says (hK : E.k.K = X.K) {F H : Hp} {x y d : D} {v w : V} {A B : List Addr} {Q : VK} (fh : Ex F H) (rx : Rp E.k F H x v A) (ry : Rp E.k F H y w B) (e : gIx x y = some d) (p : ∀ z C, Rp E.k F H d z C → Q z H) : rIx X.K v w H Q := by
  rw [← hK]
  cases y with
  | int i =>
    have ew : w = .int i := ry.1
    cases x with
    | lst o xs =>
      obtain ⟨a, vs, B, rfl, s1, r⟩ := Rp.lstW fh rx
      obtain ⟨z, C, h1, h2⟩ := r.ix e
      exact .inl ⟨a, vs, i, z, rfl, ew, .inl (.inl s1), h1, p z C h2⟩
    | scr xs =>
      obtain ⟨a, vs, rfl, _, s1, r⟩ := rx
      obtain ⟨z, C, h1, h2⟩ := r.ix e
      exact .inl ⟨a, vs, i, z, rfl, ew, ex_l fh s1, h1, p z C h2⟩
    | tup xs =>
      obtain ⟨a, vs, rfl, s1, r⟩ := rx
      obtain ⟨z, C, h1, h2⟩ := r.ix e
      exact .inr (.inl ⟨a, vs, i, z, rfl, ew, ex_t fh s1, h1, p z C h2⟩)
    | str z =>
      by_cases hz : z.length ≤ 16777216
      · have e' : (if z.length ≤ 16777216 then (ixD z.cps.toList i).map fun c => D.str ⟨#[c]⟩ else none) = some d := e
        rw [if_pos hz] at e'
        cases ec : ixD z.cps.toList i with
        | none => rw [ec] at e'; cases e'
        | some c =>
          rw [ec] at e'
          cases e'
          exact .inr (.inr ⟨z, i, c, rx.1, ew, big_le hz, by rw [ixD_atI]; exact ec, p _ [] ⟨rfl, rfl⟩⟩)
      · have e' : (if z.length ≤ 16777216 then (ixD z.cps.toList i).map fun c => D.str ⟨#[c]⟩ else none) = some d := e
        rw [if_neg hz] at e'
        cases e'
    | _ => cases e
  | _ => cases x <;> cases e
/-- the item, if it is pure -/
def gIxP (x y : D) : Option D := (gIx x y).bind fun d => if d.pure = true then some d else none
@[simp] theorem gIxP_eq (x y : D) : gIxP x y = (gIx x y).bind fun d => if d.pure = true then some d else none := rfl
theorem says_ixP (hK : E.k.K = X.K) : Says2 E (rIx X.K) gIxP := by
  intro F H x y v w A B Q d fh rx ry e g
  rw [gIxP_eq] at e
  cases eg : gIx x y with
  | none => rw [eg] at e; cases e
  | some z =>
    rw [eg] at e
    obtain ⟨p, e⟩ := if_some (show (if z.pure = true then some z else none) = some d from e)
    subst e
    exact ix_says hK fh rx ry eg fun u C r => g F H u [] (Tr.refl fh) (Rp.pure p (.refl _) r) .nil fun _ z => nomatch z
section
variable {a b : Expr} {fa fb : Env → XR D} {fv : Env → R D} {i : Nat} {pos : Pos}
theorem xe_ix (hK : E.k.K = X.K) (ha : EX X E W a fa) (hb : EX X E W b fb) (hs : PlainIx b := by exact fun _ _ => rfl) : EX X E W (.Subscript a b pos) (x2 gIxP fa fb) :=
  ⟨pe_mono (pe_ix ix_seq ha.pe hb.pe hs) fun _ _ _ h => saysX2 (says_ixP hK) h⟩
theorem xe_ixn (hK : E.k.K = X.K) (ha : PE X a (tVar i)) (hb : EX X E W b fb) (hs : PlainIx b := by exact fun _ _ => rfl) : EX X E W (.Subscript a b pos) (x2n gIxP i fb) :=
  ⟨pe_mono (pe_ix ix_seq ha hb.pe hs) fun _ _ _ h => saysX2n (says_ixP hK) h⟩
theorem xe_ixv (hK : E.k.K = X.K) (ha : EX X E W a fa) (hb : EV X E W b fv) (hs : PlainIx b := by exact fun _ _ => rfl) : EX X E W (.Subscript a b pos) (x2v gIxP fa fv) :=
  ⟨pe_mono (pe_ix ix_seq ha.pe hb.pe hs) fun _ _ _ h => saysX2v (says_ixP hK) h⟩
end
/-! ### slices -/
def tXO (E : En) (W : WX) (f : Env → XR (Option Int)) : TO := fun σ H Q => ∃ (F : Hp) (ρ : Env) (τ : L2.St) (δ : Env), Stt E F H (σ ++ τ) (ρ ++ δ) ∧ ρ.length = σ.length ∧ (∀ i ∈ E.bs, i < σ.length) ∧
  XRes (f ρ) (fun o ρ' => ∀ F' H', Ex F F' → ρ'.length = σ.length → Stt E F' H' (σ ++ τ) (ρ' ++ δ) → Q o H') (fun c ρ' => ∀ F' H', Ex F F' → ρ'.length = σ.length → Stt E F' H' (σ ++ τ) (ρ' ++ δ) → W (E.ec c) none σ H')
structure EXP (X : Cx) (E : En) (W : WX) (e : Option Expr) (f : Env → XR (Option Int)) : Prop where
  po : PO X e (tXO E W f)
def xNo : Env → XR (Option Int) := fun ρ => .ok none ρ
def xPt (f : Env → XR D) : Env → XR (Option Int) := fun ρ => (f ρ).bind fun d ρ => XR.opt (oI d) ρ
@[simp] theorem xNo_eq (ρ : Env) : xNo ρ = .ok none ρ := rfl
@[simp] theorem xPt_eq (f : Env → XR D) (ρ : Env) : xPt f ρ = (f ρ).bind fun d ρ => XR.opt (oI d) ρ := rfl
theorem xp_no : EXP X E W none xNo := ⟨⟨fun pins s σ H Q I ⟨F, ρ, τ, δ, st, hl, hb, q⟩ => po_none.run pins s σ H Q I (q F H (.refl _) hl st)⟩⟩
theorem xp_pt {e : Expr} {f : Env → XR D} (h : EX X E W e f) : EXP X E W (some e) (xPt f) := by
  refine ⟨⟨fun pins s σ H Q I h' => (po_some h.pe).run pins s σ H Q I ?_⟩⟩
  obtain ⟨F, ρ, τ, δ, st, hl, hb, q⟩ := h'
  refine ⟨F, ρ, τ, δ, st, hl, hb, XRes.mono q.bind (fun x ρ1 _ q F1 H1 v e1 l1 s1 => ?_) fun c ρ1 z => z⟩
  obtain ⟨o, e, p⟩ := q.opt
  obtain ⟨A, ra, _⟩ := s1.topX hb
  cases x with
  | int i => cases e; exact ⟨i, ra.1, p F1 H1 e1 l1 (s1.popX hb)⟩
  | _ => cases e
theorem sl_says (hK : E.k.K = X.K) {F H : Hp} {x d : D} {v : V} {A : List Addr} {a b : Option Int} {Q : VK} (fh : Ex F H) (r1' : Rp E.k F H x v A) (e : gSl x a b = some d) (g : GOk E F H Q d) :
    (∃ p xs, v = .ref p ∧ SqL X.K H p xs ∧ ∀ q, H q = none → Q (.ref q) (upd H q (.lst (cutV xs a b)))) ∨
    (∃ p xs, v = .ref p ∧ SqT X.K H p xs ∧ (HT.sIx xs.length 0 a = 0 ∧ HT.sIx xs.length xs.length b = xs.length → Q (.ref p) H) ∧ (¬ (HT.sIx xs.length 0 a = 0 ∧ HT.sIx xs.length xs.length b = xs.length) → ∀ q, H q = none → Q (.ref q) (upd H q (.tup (cutV xs a b))))) ∨
    ∃ z, v = .str z ∧ z.length ≤ sizeLine ∧ Q (.str (cutS z a b)) H := by
  rw [← hK]
  cases x with
  | lst o xs =>
    obtain ⟨z, e⟩ := if_some e
    cases e
    obtain ⟨ad, vs, rfl, s1, r⟩ := Rp.lstR fh z r1'
    exact .inl ⟨ad, vs, rfl, .inl (.inl s1), fun p hp => g.lst fh hp (r.cut a b)⟩
  | tup xs =>
    obtain ⟨z, e⟩ := if_some e
    cases e
    obtain ⟨ad, vs, rfl, s1, r⟩ := r1'
    have r' : RpL E.k F H xs vs [] := RpL.pure z (.refl _) r
    refine .inr (.inl ⟨ad, vs, rfl, ex_t fh s1, fun hw => ?_, fun _ p hp => g.tup fh hp (r'.cut a b)⟩)
    refine g F H (.ref ad) [] (Tr.refl fh) ⟨ad, vs, rfl, s1, ?_⟩ .nil fun _ z => nomatch z
    have := r'.cut a b
    rw [cutV_whole hw] at this
    exact this
  | str z =>
    obtain ⟨hz, e⟩ := if_some e
    cases e
    exact .inr (.inr ⟨z, r1'.1, big_le hz, g.scal fh fun _ _ => ⟨rfl, rfl⟩⟩)
  | _ => cases e
def xSl (f : Env → XR D) (lo hi : Env → XR (Option Int)) : Env → XR D := fun ρ => (f ρ).bind fun d ρ => (lo ρ).bind fun a ρ => (hi ρ).bind fun b ρ => XR.opt (gSl d a b) ρ
@[simp] theorem xSl_eq (f : Env → XR D) (lo hi : Env → XR (Option Int)) (ρ : Env) : xSl f lo hi ρ = (f ρ).bind fun d ρ => (lo ρ).bind fun a ρ => (hi ρ).bind fun b ρ => XR.opt (gSl d a b) ρ := rfl
def xSln (i : Nat) (lo hi : Env → XR (Option Int)) : Env → XR D := fun ρ => match ρ[i]?.getD none with
  | some _ => (lo ρ).bind fun a ρ => (hi ρ).bind fun b ρ => match ρ[i]?.getD none with
    | some d => XR.opt (gSl d a b) ρ
    | none => .no
  | none => .no
@[simp] theorem xSln_eq (i : Nat) (lo hi : Env → XR (Option Int)) (ρ : Env) : xSln i lo hi ρ = match ρ[i]?.getD none with
  | some _ => (lo ρ).bind fun a ρ => (hi ρ).bind fun b ρ => match ρ[i]?.getD none with
    | some d => XR.opt (gSl d a b) ρ
    | none => .no
  | none => .no := rfl
theorem xe_sl {a : Expr} {lo hi : Option Expr} {fa : Env → XR D} {fl fh : Env → XR (Option Int)} {pos p2 : Pos} (hK : E.k.K = X.K) (ha : EX X E W a fa) (hl : EXP X E W lo fl) (hh : EXP X E W hi fh) : EX X E W (.Subscript a (.Slice lo hi none p2) pos) (xSl fa fl fh) := by
  refine ⟨pe_mono (pe_slice (sl_list.or (sl_tupA.or sl_str)) ha.pe hl.po hh.po) fun σ H Q h => ?_⟩
  obtain ⟨F, ρ, τ, δ, s, hl, hb, q⟩ := h
  refine ⟨F, ρ, τ, δ, s, hl, hb, XRes.mono q.bind (fun x ρ1 _ q F1 H1 v e1 l1 s1 => ?_) fun c ρ1 z => z⟩
  refine ⟨F1, ρ1, _, _, s1, l1, hb, XRes.mono q.bind (fun lo ρ2 _ q F2 H2 e2 l2 s2 => ?_) fun c ρ2 z F2 H2 e2 l2 s2 => z F2 H2 (e1.trans e2) l2 (s2.popX hb)⟩
  refine ⟨F2, ρ2, _, _, s2, l2, hb, XRes.mono q.bind (fun hi ρ3 _ q F3 H3 e3 l3 s3 => ?_) fun c ρ3 z F3 H3 e3 l3 s3 => z F3 H3 ((e1.trans e2).trans e3) l3 (s3.popX hb)⟩
  obtain ⟨d, e, p⟩ := q.opt
  obtain ⟨A, ra, _⟩ := s3.topX hb
  exact sl_says hK s3.fh ra e (GOk.ofX (s3.popX hb) l3 ((e1.trans e2).trans e3) p)
theorem xe_sln {i : Nat} {a : Expr} {lo hi : Option Expr} {fl fh : Env → XR (Option Int)} {pos p2 : Pos} (hK : E.k.K = X.K) (ha : PE X a (tVar i)) (hl : EXP X E W lo fl) (hh : EXP X E W hi fh) : EX X E W (.Subscript a (.Slice lo hi none p2) pos) (xSln i fl fh) := by
  refine ⟨pe_mono (pe_slice (sl_list.or (sl_tupA.or sl_str)) ha hl.po hh.po) fun σ H Q h => ?_⟩
  obtain ⟨F, ρ, τ, δ, s, hl, hb, q⟩ := h
  rw [xSln_eq] at q
  cases e0 : ρ[i]?.getD none with
  | none => rw [e0] at q; exact q.elim
  | some d0 =>
    rw [e0] at q
    obtain ⟨v, A, ev, _⟩ := s.slotX hl (some_some e0)
    refine ⟨v, ev, F, ρ, τ, δ, s, hl, hb, XRes.mono q.bind (fun lo ρ1 _ q F1 H1 e1 l1 s1 => ?_) fun c ρ1 z => z⟩
    refine ⟨F1, ρ1, _, _, s1, l1, hb, XRes.mono q.bind (fun hi ρ2 _ q F2 H2 e2 l2 s2 => ?_) fun c ρ2 z F2 H2 e2 l2 s2 => z F2 H2 (e1.trans e2) l2 s2⟩
    cases e3 : ρ2[i]?.getD none with
    | none => rw [e3] at q; exact q.elim
    | some x =>
      rw [e3] at q
      obtain ⟨d, e, p⟩ := q.opt
      obtain ⟨v', A', ev', ra⟩ := s2.slotX l2 (some_some e3)
      rw [ev] at ev'
      cases ev'
      exact sl_says hK s2.fh ra e (GOk.ofX s2 l2 (e1.trans e2) p)
end
end Dv
end
section
set_option maxRecDepth 100000
set_option maxHeartbeats 1000000
namespace Dv
open PySem PySem.Spec PyProof.Rows L2
theorem app1 {α : Type} (τ : List α) (a : α) (l : List α) : (τ ++ [a]) ++ l = τ ++ (a :: l) := by simp
section
variable {X : Cx} {E : En} {W : WX}
/-! ### arguments that are held -/
def xaNil : Env → XR (List D) := fun ρ => .ok [] ρ
def xaO (f : Env → XR D) (g : Env → XR (List D)) : Env → XR (List D) := fun ρ => (f ρ).bind fun x ρ => (g ρ).bind fun xs ρ => .ok (x :: xs) ρ
@[simp] theorem xaNil_eq (ρ : Env) : xaNil ρ = .ok [] ρ := rfl
@[simp] theorem xaO_eq (f : Env → XR D) (g : Env → XR (List D)) (ρ : Env) : xaO f g ρ = (f ρ).bind fun x ρ => (g ρ).bind fun xs ρ => .ok (x :: xs) ρ := rfl
theorem xa_nil : EXA X E W [] xaNil := ⟨pa_mono pa_nil fun σ H Q ⟨F, ρ, τ, δ, s, hl, hb, q⟩ => q F H [] (.refl _) hl rfl (by simpa using s)⟩
theorem xa_o {e : Expr} {es : List Expr} {f : Env → XR D} {g : Env → XR (List D)} (h : EX X E W e f) (hr : EXA X E W es g) (hs : starEach (e :: es) X.env = (false, eval e X.env) :: starEach es X.env := by rfl) : EXA X E W (e :: es) (xaO f g) := by
  refine ⟨pa_mono (pa_cons h.pe hr.pa hs) fun σ H Q h => ?_⟩
  obtain ⟨F, ρ, τ, δ, s, hl, hb, q⟩ := h
  refine ⟨F, ρ, τ, δ, s, hl, hb, XRes.mono q.bind (fun x ρ1 _ q F1 H1 v e1 l1 s1 => ?_) fun c ρ1 z => z⟩
  refine ⟨F1, ρ1, _, _, s1, l1, hb, XRes.mono q.bind (fun xs ρ2 _ q F2 H2 vs e2 l2 n2 s2 => ?_) fun c ρ2 z F2 H2 e2 l2 s2 => z F2 H2 (e1.trans e2) l2 (s2.popX hb)⟩
  refine q F2 H2 (v :: vs) (e1.trans e2) l2 (by rw [List.length_cons, List.length_cons, n2]) ?_
  rw [app1, app1] at s2
  exact s2
theorem Stt.collectX {F H : Hp} {σ τ : L2.St} {ρ δ : Env} {vs : List V} {ds : List D} (s : Stt E F H (σ ++ (τ ++ vs.map some)) (ρ ++ (δ ++ ds.map some))) (hb : ∀ i ∈ E.bs, i < σ.length) (hl : vs.length = ds.length) :
    ∃ fp A, Stt E F H (σ ++ τ) (ρ ++ δ) ∧ Sl E F H (σ ++ τ) (ρ ++ δ) fp ∧ RpL E.k F H ds vs A ∧ A.Nodup ∧ ∀ a ∈ A, E.He a = none ∧ ∀ j, a ∉ fp j := by
  rw [← List.append_assoc, ← List.append_assoc] at s
  obtain ⟨fp, sl⟩ := s.sl
  exact Stt.collect vs ds hl s sl (blt hb)
/-! displays -/
def xTup (g : Env → XR (List D)) : Env → XR D := fun ρ => (g ρ).bind fun ds ρ => if ds.length ≤ 16777216 then .ok (.tup ds) ρ else .no
def xLst (g : Env → XR (List D)) : Env → XR D := fun ρ => (g ρ).bind fun ds ρ => if ds.length ≤ 16777216 then .ok (.lst true ds) ρ else .no
@[simp] theorem xTup_eq (g : Env → XR (List D)) (ρ : Env) : xTup g ρ = (g ρ).bind fun ds ρ => if ds.length ≤ 16777216 then .ok (.tup ds) ρ else .no := rfl
@[simp] theorem xLst_eq (g : Env → XR (List D)) (ρ : Env) : xLst g ρ = (g ρ).bind fun ds ρ => if ds.length ≤ 16777216 then .ok (.lst true ds) ρ else .no := rfl
theorem Stt.pushS {F H F' H' : Hp} {σ τ : L2.St} {ρ δ : Env} {fp : Nat → List Addr} {d : D} {v : V} {A : List Addr} (s : Stt E F H (σ ++ τ) (ρ ++ δ)) (sl : Sl E F H (σ ++ τ) (ρ ++ δ) fp) (t : Tr F H F' H') (r : Rp E.k F' H' d v A) (nd : A.Nodup) (u : ∀ a ∈ A, E.He a = none ∧ ∀ j, a ∉ fp j) : Stt E F' H' (σ ++ (τ ++ [some v])) (ρ ++ (δ ++ [some d])) := by
  rw [← List.append_assoc, ← List.append_assoc]
  exact (s.tr t).push' (sl.tr t) r nd u
theorem xe_tup {es : List Expr} {x1 : Nat} {pos : Pos} {g : Env → XR (List D)} (h : EXA X E W es g) : EX X E W (.Tuple es x1 pos) (xTup g) := by
  refine ⟨pe_mono (pe_tup h.pa) fun σ H Q h => ?_⟩
  obtain ⟨F, ρ, τ, δ, s, hl, hb, q⟩ := h
  refine ⟨F, ρ, τ, δ, s, hl, hb, XRes.mono q.bind (fun ds ρ1 _ q F1 H1 vs e1 l1 n1 s1 => ?_) fun c ρ1 z => z⟩
  by_cases hz : ds.length ≤ 16777216
  · rw [if_pos hz] at q
    refine ⟨big_le (by omega), fun p hp => ?_⟩
    obtain ⟨fp, A, s2, sl2, r2, n2, u2⟩ := s1.collectX hb n1
    obtain ⟨t3, r3⟩ := rp_newT s2.fh hp r2
    exact q _ _ _ (e1.trans t3.ff) l1 (s2.pushS sl2 t3 r3 n2 u2)
  · rw [if_neg hz] at q; exact q.elim
theorem xe_lst {es : List Expr} {pos : Pos} {g : Env → XR (List D)} (h : EXA X E W es g) : EX X E W (.List es pos) (xLst g) := by
  refine ⟨pe_mono (pe_lst h.pa) fun σ H Q h => ?_⟩
  obtain ⟨F, ρ, τ, δ, s, hl, hb, q⟩ := h
  refine ⟨F, ρ, τ, δ, s, hl, hb, XRes.mono q.bind (fun ds ρ1 _ q F1 H1 vs e1 l1 n1 s1 => ?_) fun c ρ1 z => z⟩
  by_cases hz : ds.length ≤ 16777216
  · rw [if_pos hz] at q
    refine ⟨big_le (by omega), fun p hp => ?_⟩
    obtain ⟨fp, A, s2, sl2, r2, n2, u2⟩ := s1.collectX hb n1
    obtain ⟨t3, r3⟩ := rp_newL s2.fh hp r2
    refine q _ _ _ (e1.trans t3.ff) l1 (s2.pushS sl2 t3 r3 (List.nodup_cons.mpr ⟨not_new hp r2, n2⟩) fun a ha => ?_)
    rcases List.mem_cons.mp ha with rfl | ha
    · exact s2.fresh sl2 hp
    · exact u2 a ha
  · rw [if_neg hz] at q; exact q.elim
/-! built-ins -/
def xB (g : List D → Option D) (fs : Env → XR (List D)) : Env → XR D := fun ρ => (fs ρ).bind fun ds ρ => XR.opt (g ds) ρ
@[simp] theorem xB_eq (g : List D → Option D) (fs : Env → XR (List D)) (ρ : Env) : xB g fs ρ = (fs ρ).bind fun ds ρ => XR.opt (g ds) ρ := rfl
theorem saysCX {r : List V → Hp → VK → Prop} {g : List D → Option D} (hg : SaysC E r g) {fs : Env → XR (List D)} {σ : L2.St} {H : Hp} {Q : VK} (h : tX E W (xB g fs) σ H Q) : tCB r (tXA E W fs) σ H Q := by
  obtain ⟨F, ρ, τ, δ, s, hl, hb, q⟩ := h
  refine ⟨F, ρ, τ, δ, s, hl, hb, XRes.mono q.bind (fun ds ρ1 _ q F1 H1 vs e1 l1 n1 s1 => ?_) fun c ρ1 z => z⟩
  obtain ⟨d, e, p⟩ := q.opt
  obtain ⟨fp, A, s2, sl2, r2, n2, u2⟩ := s1.collectX hb n1
  exact hg F1 H1 ds vs Q d s1.fh r2.vw e (GOk.ofX s2 l1 e1 p)
section
variable {x : Str} {p pos : Pos} {e : Expr} {es : List Expr} {fs : Env → XR (List D)} {id T : String} {r : List V → Hp → VK → Prop} {g : List D → Option D}
theorem xe_B (hc : CallR X (.builtin id) r) (hg : SaysC E r g) (gl : Gl X x) (hm : X.mg x = none) (hv : bootBuiltins x = some (.builtin id)) (ha : EXA X E W (e :: es) fs) (hn : x ≠ "__name__" := by decide) (hdb : (x == ("__debug__" : Str)) = false := by decide)
    (he : starEach (e :: es) X.env = (false, eval e X.env) :: starEach es X.env := by rfl) (hpl : (backTo pos (starEach es X.env)).any (·.1) = false := by rfl) : EX X E W (.Call (.Name x p) (e :: es) [] pos) (xB g fs) :=
  ⟨pe_mono (pe_callB hc gl hm hv ha.pa hn hdb he hpl) fun _ _ _ h => saysCX hg h⟩
theorem xe_T (hc : CallR X (.type T) r) (hg : SaysC E r g) (gl : Gl X x) (hm : X.mg x = none) (hv : bootBuiltins x = some (.type T)) (ha : EXA X E W (e :: es) fs) (hn : x ≠ "__name__" := by decide) (hdb : (x == ("__debug__" : Str)) = false := by decide)
    (he : starEach (e :: es) X.env = (false, eval e X.env) :: starEach es X.env := by rfl) (hpl : (backTo pos (starEach es X.env)).any (·.1) = false := by rfl) : EX X E W (.Call (.Name x p) (e :: es) [] pos) (xB g fs) :=
  ⟨pe_mono (pe_callTy hc gl hm hv ha.pa hn hdb he hpl) fun _ _ _ h => saysCX hg h⟩
end
/-! ### arguments of a def: names (some i), or held and frozen -/
def Mg (σ : L2.St) : List (Option Nat) → List V → List V → Prop
  | [], p, q => p = [] ∧ q = []
  | none :: sh, p, q => ∃ v p' q', p = v :: p' ∧ q = v :: q' ∧ Mg σ sh p' q'
  | some i :: sh, p, q => ∃ v q', σ[i]? = some (some v) ∧ q = v :: q' ∧ Mg σ sh p q'
def tXC (E : En) (W : WX) (sh : List (Option Nat)) (f : Env → XR (List D)) : TA := fun σ H Q => ∃ (F : Hp) (ρ : Env) (τ : L2.St) (δ : Env), Stt E F H (σ ++ τ) (ρ ++ δ) ∧ ρ.length = σ.length ∧ (∀ i ∈ E.bs, i < σ.length) ∧
  XRes (f ρ) (fun ds ρ' => ∀ F' H' ps vs, Ex F F' → ρ'.length = σ.length → ps.length = ds.length → D.pureL ds = true → Mg σ sh ps vs → Stt E F' H' (σ ++ (τ ++ ps.map some)) (ρ' ++ (δ ++ ds.map some)) → Q vs H') (fun c ρ' => ∀ F' H', Ex F F' → ρ'.length = σ.length → Stt E F' H' (σ ++ τ) (ρ' ++ δ) → W (E.ec c) none σ H')
structure EXC (X : Cx) (E : En) (W : WX) (es : List Expr) (sh : List (Option Nat)) (f : Env → XR (List D)) : Prop where
  pa : PA X es (tXC E W sh f)
theorem xc_nil : EXC X E W [] [] xaNil := ⟨pa_mono pa_nil fun σ H Q ⟨F, ρ, τ, δ, s, hl, hb, q⟩ => q F H [] [] (.refl _) hl rfl rfl ⟨rfl, rfl⟩ (by simpa using s)⟩
def xcP (f : Env → XR D) (g : Env → XR (List D)) : Env → XR (List D) := fun ρ => (f ρ).bind fun x ρ => if x.cold = true then (g ρ).bind fun xs ρ => .ok (x.frz :: xs) ρ else .no
def xcN (i : Nat) (g : Env → XR (List D)) : Env → XR (List D) := fun ρ => match ρ[i]?.getD none with
  | some _ => g ρ
  | none => .no
@[simp] theorem xcP_eq (f : Env → XR D) (g : Env → XR (List D)) (ρ : Env) : xcP f g ρ = (f ρ).bind fun x ρ => if x.cold = true then (g ρ).bind fun xs ρ => .ok (x.frz :: xs) ρ else .no := rfl
@[simp] theorem xcN_eq (i : Nat) (g : Env → XR (List D)) (ρ : Env) : xcN i g ρ = match ρ[i]?.getD none with
  | some _ => g ρ
  | none => .no := rfl
theorem frz_top {σ : L2.St} {ρ : Env} {d : D} (h : d.cold = true) : frzAt ρ.length (ρ ++ [some d]) = ρ ++ [some d.frz] := by
  unfold frzAt
  rw [List.getElem?_append_right (Nat.le_refl _), Nat.sub_self]
  show (if d.cold = true then (ρ ++ [some d]).set ρ.length (some d.frz) else _) = _
  rw [if_pos h, List.set_append_right (h := Nat.le_refl _), Nat.sub_self]
  rfl
theorem Stt.frzTop {F H : Hp} {σ τ : L2.St} {ρ δ : Env} {v : V} {d : D} (s : Stt E F H (σ ++ (τ ++ [some v])) (ρ ++ (δ ++ [some d]))) (hb : ∀ i ∈ E.bs, i < σ.length) (h : d.cold = true) : ∃ F', Ex F F' ∧ Stt E F' H (σ ++ (τ ++ [some v])) (ρ ++ (δ ++ [some d.frz])) := by
  rw [← List.append_assoc, ← List.append_assoc] at s ⊢
  have hl : (ρ ++ δ).length = (σ ++ τ).length := by have := s.len; rw [List.length_append (bs := [_]), List.length_append (bs := [_])] at this; simpa using this
  obtain ⟨F', x, s'⟩ := s.frz (ρ ++ δ).length fun z => by have := blt (τ := τ) hb _ z; omega
  rw [frz_top (σ := σ) h] at s'
  exact ⟨F', x, s'⟩
theorem xc_p {e : Expr} {es : List Expr} {sh : List (Option Nat)} {f : Env → XR D} {g : Env → XR (List D)} (h : EX X E W e f) (hr : EXC X E W es sh g) (hs : starEach (e :: es) X.env = (false, eval e X.env) :: starEach es X.env := by rfl) : EXC X E W (e :: es) (none :: sh) (xcP f g) := by
  refine ⟨pa_mono (pa_cons h.pe hr.pa hs) fun σ H Q h => ?_⟩
  obtain ⟨F, ρ, τ, δ, s, hl, hb, q⟩ := h
  refine ⟨F, ρ, τ, δ, s, hl, hb, XRes.mono q.bind (fun x ρ1 _ q F1 H1 v e1 l1 s1 => ?_) fun c ρ1 z => z⟩
  by_cases hc : x.cold = true
  · rw [if_pos hc] at q
    obtain ⟨F1', x1, s1'⟩ := s1.frzTop hb hc
    refine ⟨F1', ρ1, _, _, s1', l1, hb, XRes.mono q.bind (fun xs ρ2 _ q F2 H2 ps vs e2 l2 n2 p2 m2 s2 => ?_) fun c ρ2 z F2 H2 e2 l2 s2 => z F2 H2 ((e1.trans x1).trans e2) l2 (s2.popX hb)⟩
    refine q F2 H2 (v :: ps) (v :: vs) ((e1.trans x1).trans e2) l2 (by rw [List.length_cons, List.length_cons, n2]) (by rw [D.pureL, D.frz_pure x hc, p2]; rfl) ⟨v, ps, vs, rfl, rfl, m2⟩ ?_
    rw [app1, app1] at s2
    exact s2
  · rw [if_neg hc] at q; exact q.elim
theorem xc_n {i : Nat} {e : Expr} {es : List Expr} {sh : List (Option Nat)} {g : Env → XR (List D)} (h : PE X e (tVar i)) (hr : EXC X E W es sh g) (hs : starEach (e :: es) X.env = (false, eval e X.env) :: starEach es X.env := by rfl) : EXC X E W (e :: es) (some i :: sh) (xcN i g) := by
  refine ⟨pa_mono (pa_cons h hr.pa hs) fun σ H Q h => ?_⟩
  obtain ⟨F, ρ, τ, δ, s, hl, hb, q⟩ := h
  rw [xcN_eq] at q
  cases e0 : ρ[i]?.getD none with
  | none => rw [e0] at q; exact q.elim
  | some d0 =>
    rw [e0] at q
    obtain ⟨v, A, ev, _⟩ := s.slotX hl (some_some e0)
    exact ⟨v, ev, F, ρ, τ, δ, s, hl, hb, XRes.mono q (fun xs ρ1 _ q F1 H1 ps vs e1 l1 n1 p1 m1 s1 => q F1 H1 ps (v :: vs) e1 l1 n1 p1 ⟨v, vs, ev, rfl, m1⟩ s1) fun c ρ1 z => z⟩
/-- all arguments as data -/
def mergeD : List (Option Nat) → List D → Env → Option (List D)
  | [], _, _ => some []
  | none :: sh, d :: ds, ρ => (mergeD sh ds ρ).map (d :: ·)
  | none :: _, [], _ => none
  | some i :: sh, ds, ρ => match ρ[i]?.getD none with
    | some d => (mergeD sh ds ρ).map (d :: ·)
    | none => none
@[simp] theorem mergeD_nil (ds : List D) (ρ : Env) : mergeD [] ds ρ = some [] := rfl
@[simp] theorem mergeD_none (sh : List (Option Nat)) (d : D) (ds : List D) (ρ : Env) : mergeD (none :: sh) (d :: ds) ρ = (mergeD sh ds ρ).map (d :: ·) := rfl
@[simp] theorem mergeD_some (sh : List (Option Nat)) (i : Nat) (ds : List D) (ρ : Env) : mergeD (some i :: sh) ds ρ = match ρ[i]?.getD none with
    | some d => (mergeD sh ds ρ).map (d :: ·)
    | none => none := rfl
theorem mergeD_vw {F H : Hp} {σ τ : L2.St} {ρ δ : Env} (s : Stt E F H (σ ++ τ) (ρ ++ δ)) (hl : ρ.length = σ.length) : ∀ {sh : List (Option Nat)} {ps vs : List V} {ds ds' : List D}, Mg σ sh ps vs → Vw E.k F H ps ds → mergeD sh ds ρ = some ds' → Vw E.k F H vs ds'
  | [], ps, vs, ds, ds', m, w, e => by cases e; rw [m.2]; exact .nil
  | none :: sh, ps, vs, ds, ds', m, w, e => by
    obtain ⟨v, p', q', rfl, rfl, m⟩ := m
    cases w with
    | cons r w =>
      rename_i d ds
      rw [mergeD_none] at e
      cases em : mergeD sh ds ρ with
      | none => rw [em] at e; cases e
      | some ds2 => rw [em] at e; cases e; exact .cons r (mergeD_vw s hl m w em)
  | some i :: sh, ps, vs, ds, ds', m, w, e => by
    obtain ⟨v, q', ev, rfl, m⟩ := m
    rw [mergeD_some] at e
    cases ei : ρ[i]?.getD none with
    | none => rw [ei] at e; cases e
    | some d =>
      rw [ei] at e
      have e : (mergeD sh ds ρ).map (d :: ·) = some ds' := e
      cases em : mergeD sh ds ρ with
      | none => rw [em] at e; cases e
      | some ds2 =>
        rw [em] at e; cases e
        obtain ⟨v', A, ev', r⟩ := s.slotX hl (some_some ei)
        rw [ev] at ev'
        cases ev'
        exact .cons ⟨A, r⟩ (mergeD_vw s hl m w em)
/-! ### a call of a def without an effect, behind arguments with one -/
def xCallP (n : Nat) (f : List D → R D) (sh : List (Option Nat)) (fs : Env → XR (List D)) : Env → XR D := fun ρ => (fs ρ).bind fun ds ρ => match mergeD sh ds ρ with
  | some ds => (callF n f ds).x ρ
  | none => .no
@[simp] theorem xCallP_eq (n : Nat) (f : List D → R D) (sh : List (Option Nat)) (fs : Env → XR (List D)) (ρ : Env) : xCallP n f sh fs ρ = (fs ρ).bind fun ds ρ => match mergeD sh ds ρ with
  | some ds => (callF n f ds).x ρ
  | none => .no := rfl
theorem xe_callP {k n : Nat} {fa : Addr} {fd : FuncData} {ps : List Str} {f : List D → R D} {sh : List (Option Nat)} {fs : Env → XR (List D)} {x : Str} {p pos : Pos} {e : Expr} {es : List Expr} (G : FnOk X.prog X.w X.K X.mg X.base (L2.CX X.prog X.w) k fa fd ps (spD E.k E.ec n f)) (tk : Takes X W) (hr : Room k X.A) (hg : Gl X x) (hm : X.mg x = some (.ref fa)) (hk : PySem.W.keepIn X.K (.ref fa) = true) (hb : Binds X.K fd ps [])
    (ha : EXC X E W (e :: es) sh fs) (hdb : (x == ("__debug__" : Str)) = false := by decide) (he : starEach (e :: es) X.env = (false, eval e X.env) :: starEach es X.env := by rfl) (hpl : (backTo pos (starEach es X.env)).any (·.1) = false := by rfl) : EX X E W (.Call (.Name x p) (e :: es) [] pos) (xCallP n f sh fs) := by
  refine ⟨pe_mono (pe_callS (E := WE W) G hr hg hm hk hb (fun σ => passAt tk σ) ha.pa hdb he hpl) fun σ H Q h => ?_⟩
  obtain ⟨F, ρ, τ, δ, s, hl, hb, q⟩ := h
  refine ⟨F, ρ, τ, δ, s, hl, hb, XRes.mono q.bind (fun ds ρ1 _ q F1 H1 ps vs e1 l1 n1 p1 m1 s1 => ?_) fun c ρ1 z => z⟩
  cases em : mergeD sh ds ρ1 with
  | none => rw [em] at q; exact q.elim
  | some ds' =>
    rw [em] at q
    obtain ⟨fp, A, s2, sl2, r2, n2, u2⟩ := s1.collectX hb n1
    exact call_of (Ew := WE W σ) s2.e0.tb (Tr.refl s2.fh) (mergeD_vw s2 l1 m1 r2.vw em) (Res.mono (XRes.x q) (fun d _ q F' H' v A t r nd u => q F' H' v (e1.trans t.ff) l1 (s2.pushX t r nd u)) fun c _ z F' H' t => z F' H' (e1.trans t.ff) l1 (s2.tr t))
end
end Dv
end
section
set_option maxRecDepth 100000
set_option maxHeartbeats 1000000
namespace Dv
open PySem PySem.Spec PyProof.Rows L2
/-! ## defs that change what their arguments own -/
/-- places of the borrowed parameters -/
def bsM (mk : List Bool) : List Nat := (List.range mk.length).filter fun i => mk.getD i false
theorem mem_bsM {mk : List Bool} {i : Nat} : i ∈ bsM mk ↔ mk[i]? = some true := by
  unfold bsM
  rw [List.mem_filter, List.mem_range, List.getD_eq_getElem?_getD]
  constructor
  · rintro ⟨h, e⟩
    rw [List.getElem?_eq_getElem h] at e ⊢
    exact congrArg some e
  · intro e
    obtain ⟨h, _⟩ := List.getElem?_eq_some_iff.mp e
    exact ⟨h, by rw [e]; rfl⟩
/-- what is left of the parameters: the borrowed ones -/
def keepB : List Bool → Env → Env
  | b :: mk, x :: ρ => (if b = true then x else none) :: keepB mk ρ
  | _ :: mk, [] => none :: keepB mk []
  | [], _ => []
@[simp] theorem keepB_nil (ρ : Env) : keepB [] ρ = [] := by cases ρ <;> rfl
@[simp] theorem keepB_true (mk : List Bool) (x : Option D) (ρ : Env) : keepB (true :: mk) (x :: ρ) = x :: keepB mk ρ := rfl
@[simp] theorem keepB_false (mk : List Bool) (x : Option D) (ρ : Env) : keepB (false :: mk) (x :: ρ) = none :: keepB mk ρ := rfl
theorem keepB_len : ∀ {mk : List Bool} {ρ : Env}, (keepB mk ρ).length = mk.length
  | [], ρ => by simp
  | b :: mk, [] => by rw [keepB, List.length_cons, List.length_cons, keepB_len]
  | b :: mk, x :: ρ => by rw [keepB, List.length_cons, List.length_cons, keepB_len]
theorem keepB_get : ∀ {mk : List Bool} {ρ : Env} {i : Nat} {d : D}, (keepB mk ρ)[i]? = some (some d) → mk[i]? = some true ∧ ρ[i]? = some (some d)
  | [], ρ, i, d, e => by simp at e
  | b :: mk, [], 0, d, e => by simp [keepB] at e
  | b :: mk, [], i + 1, d, e => by
    have := keepB_get (mk := mk) (ρ := []) (i := i) (d := d) (by simpa [keepB] using e)
    exact ⟨by simpa using this.1, by simp at this⟩
  | b :: mk, x :: ρ, 0, d, e => by
    cases b with
    | true => exact ⟨rfl, by simpa using e⟩
    | false => simp at e
  | b :: mk, x :: ρ, i + 1, d, e => keepB_get (mk := mk) (ρ := ρ) (i := i) (by simpa [keepB] using e)
theorem keepB_at : ∀ {mk : List Bool} {ρ : Env} {i : Nat}, mk[i]? = some true → (keepB mk ρ)[i]?.getD none = ρ[i]?.getD none
  | [], ρ, i, e => by simp at e
  | b :: mk, [], 0, e => by simp [keepB]
  | b :: mk, [], i + 1, e => by
    have := keepB_at (mk := mk) (ρ := []) (i := i) (by simpa using e)
    simpa [keepB] using this
  | b :: mk, x :: ρ, 0, e => by
    have : b = true := by simpa using e
    subst this; rfl
  | b :: mk, x :: ρ, i + 1, e => by
    have := keepB_at (mk := mk) (ρ := ρ) (i := i) (by simpa using e)
    simpa [keepB] using this
abbrev EnB (kx : Kx) (ec : Nat → Value) (mk : List Bool) (He F0 : Hp) (B : List Addr) (v0 : L2.St) : En := ⟨kx, ec, He, F0, B, bsM mk, v0⟩
/-- what is promised of such a def: its arguments and its result as a state of its own -/
def spX (k : Kx) (ec : Nat → Value) (mk : List Bool) (f : List D → XR D) : Sp := fun vs H Q Ew => ∃ F ds B, vs.length = mk.length ∧ Stt (EnB k ec mk H F B (vs.map some)) F H (vs.map some) (ds.map some) ∧
  XRes (f ds) (fun d ps => ∀ F' H' v, Ex F F' → ps.length = mk.length → Stt (EnB k ec mk H F B (vs.map some)) F' H' (vs.map some ++ [some v]) (ps ++ [some d]) → Q v H')
    (fun c ps => ∀ F' H', Ex F F' → ps.length = mk.length → Stt (EnB k ec mk H F B (vs.map some)) F' H' (vs.map some) ps → Ew (ec c) none H')
def SR.outX (mk : List Bool) : SR → XR D
  | .rt d ρ => .ok d (keepB mk ρ)
  | .nx ρ => .ok .non (keepB mk ρ)
  | .ex c ρ => .ex c (keepB mk ρ)
  | _ => .no
@[simp] theorem SR.outX_rt (mk : List Bool) (d : D) (ρ : Env) : (SR.rt d ρ).outX mk = .ok d (keepB mk ρ) := rfl
@[simp] theorem SR.outX_nx (mk : List Bool) (ρ : Env) : (SR.nx ρ).outX mk = .ok .non (keepB mk ρ) := rfl
@[simp] theorem SR.outX_ex (mk : List Bool) (c : Nat) (ρ : Env) : (SR.ex c ρ).outX mk = .ex c (keepB mk ρ) := rfl
@[simp] theorem SR.outX_no (mk : List Bool) : SR.no.outX mk = .no := rfl
def fnX (mk : List Bool) (m : Nat) (b : Env → SR) : List D → XR D := fun ds => if ds.length = mk.length then (b (ds.map some ++ List.replicate (m - mk.length) none)).outX mk else .no
/-- slots that hold nothing -/
theorem Stt.more {E : En} {F H : Hp} {σ : L2.St} {ρ : Env} (s : Stt E F H σ ρ) (n : Nat) : Stt E F H (σ ++ List.replicate n none) (ρ ++ List.replicate n none) := by
  obtain ⟨fp, sl⟩ := s.sl
  have hl := s.len
  have out : ∀ j, ¬ j < ρ.length → (ρ ++ List.replicate n (none : Option D))[j]?.getD none = none := fun j h => by
    rw [List.getElem?_append_right (by omega), List.getElem?_replicate]
    split <;> rfl
  refine ⟨s.e0, s.fh, s.fr, s.st, s.bt, by simp [hl], fun j hj => ⟨by have := (s.bv j hj).1; rw [List.length_append]; omega, by rw [List.getElem?_append_left (s.bv j hj).1]; exact (s.bv j hj).2⟩, fp, fun j d e => ?_, fun j e => ?_, sl.nd, sl.dj, sl.nw⟩
  · by_cases q : j < ρ.length
    · rw [List.getElem?_append_left q] at e
      obtain ⟨v, h1, h2⟩ := sl.rp j d e
      exact ⟨v, by rw [List.getElem?_append_left (by omega)]; exact h1, h2⟩
    · have := out j q
      rw [e] at this; cases this
  · by_cases q : j < ρ.length
    · rw [List.getElem?_append_left q] at e; exact sl.em j e
    · exact sl.em j (by rw [List.getElem?_eq_none (by omega)]; rfl)
/-- the borrowed parameters alone, and what is held -/
theorem Stt.keep {kx : Kx} {ec : Nat → Value} {mk : List Bool} {He F0 : Hp} {B : List Addr} {vs : List V} {F H : Hp} {σ : L2.St} {ρ : Env} (s : Stt (EnB kx ec mk He F0 B (vs.map some)) F H σ ρ) (hv : vs.length = mk.length) :
    Stt (EnB kx ec mk He F0 B (vs.map some)) F H (vs.map some) (keepB mk ρ) := by
  obtain ⟨fp, sl⟩ := s.sl
  refine ⟨s.e0, s.fh, s.fr, s.st, s.bt, by rw [keepB_len, List.length_map, hv], fun j hj => ⟨by
    have := mem_bsM.mp hj
    have := (List.getElem?_eq_some_iff.mp this).1
    rw [List.length_map]; omega, rfl⟩, fun j => if mk[j]? = some true then fp j else [], fun j d e => ?_, fun j e => ?_, fun j => ?_, fun j j' a ha ha' => ?_, fun j a ha => ?_⟩
  · obtain ⟨h1, h2⟩ := keepB_get e
    obtain ⟨v, e1, r⟩ := sl.rp j d h2
    refine ⟨v, by rw [← (s.bv j (mem_bsM.mpr h1)).2]; exact e1, ?_⟩
    show Rp kx F H d v (if mk[j]? = some true then fp j else [])
    rw [if_pos h1]; exact r
  · show (if mk[j]? = some true then fp j else []) = []
    by_cases q : mk[j]? = some true
    · rw [if_pos q]
      rw [keepB_at q] at e
      exact sl.em j e
    · rw [if_neg q]
  · show (if mk[j]? = some true then fp j else []).Nodup
    split
    · exact sl.nd j
    · exact .nil
  · have ha : a ∈ (if mk[j]? = some true then fp j else []) := ha
    have ha' : a ∈ (if mk[j']? = some true then fp j' else []) := ha'
    split at ha
    · split at ha'
      · exact sl.dj j j' a ha ha'
      · cases ha'
    · cases ha
  · have ha : a ∈ (if mk[j]? = some true then fp j else []) := ha
    split at ha
    · exact sl.nw j a ha
    · cases ha
theorem Stt.keepTop {kx : Kx} {ec : Nat → Value} {mk : List Bool} {He F0 : Hp} {B : List Addr} {vs : List V} {F H : Hp} {σ : L2.St} {ρ : Env} {v : V} {d : D} (s : Stt (EnB kx ec mk He F0 B (vs.map some)) F H (σ ++ [some v]) (ρ ++ [some d])) (hv : vs.length = mk.length) (hb : ∀ i ∈ bsM mk, i < σ.length) :
    Stt (EnB kx ec mk He F0 B (vs.map some)) F H (vs.map some ++ [some v]) (keepB mk ρ ++ [some d]) := by
  obtain ⟨fp, sl⟩ := s.sl
  obtain ⟨s2, sl2, h2, n2, u2⟩ := s.pop' sl hb
  obtain ⟨v', ev, r⟩ := h2 d rfl
  cases ev
  have s3 := s2.keep hv
  -- the footprints of the kept ones are among the old ones
  have sl3 : Sl (EnB kx ec mk He F0 B (vs.map some)) F H (vs.map some) (keepB mk ρ) fun j => if mk[j]? = some true then (if j = σ.length then [] else fp j) else [] := by
    refine ⟨fun j d e => ?_, fun j e => ?_, fun j => ?_, fun j j' a ha ha' => ?_, fun j a ha => ?_⟩
    · obtain ⟨h1, h2⟩ := keepB_get e
      obtain ⟨v, e1, r⟩ := sl2.rp j d h2
      refine ⟨v, by rw [← (s2.bv j (mem_bsM.mpr h1)).2]; exact e1, ?_⟩
      show Rp kx F H d v (if mk[j]? = some true then _ else [])
      rw [if_pos h1]; exact r
    · show (if mk[j]? = some true then _ else []) = []
      by_cases q : mk[j]? = some true
      · rw [if_pos q]
        rw [keepB_at q] at e
        exact sl2.em j e
      · rw [if_neg q]
    · show (if mk[j]? = some true then _ else []).Nodup
      split
      · exact sl2.nd j
      · exact .nil
    · have ha : a ∈ (if mk[j]? = some true then (if j = σ.length then [] else fp j) else []) := ha
      have ha' : a ∈ (if mk[j']? = some true then (if j' = σ.length then [] else fp j') else []) := ha'
      split at ha
      · split at ha'
        · exact sl2.dj j j' a ha ha'
        · cases ha'
      · cases ha
    · have ha : a ∈ (if mk[j]? = some true then (if j = σ.length then [] else fp j) else []) := ha
      split at ha
      · exact sl2.nw j a ha
      · cases ha
  refine s3.push' sl3 r n2 fun a ha => ⟨(u2 a ha).1, fun j hj => ?_⟩
  have hj : a ∈ (if mk[j]? = some true then (if j = σ.length then [] else fp j) else []) := hj
  split at hj
  · exact (u2 a ha).2 j hj
  · cases hj
section
variable {P : Program} {w : World} {K : PySem.W.Frag} {mg : Str → Option Value} {base : Heap}
theorem fn_okX {x qual : Str} {st : Stmt} {f : Addr} {fd : FuncData} {N ps : List Str} (k : Nat) (mk : List Bool) (m : Nat) (kx : Kx) (ec : Nat → Value) {b : Env → SR} (hn : ps.length = mk.length) (hm : N.length = m) (hnm : mk.length ≤ m) (hbs : bsM mk ≠ []) (G : Fun K x qual st f fd) (S : FnScope N ps (defScope st))
    (hbody : ∀ (cdv : Value) (A : Around) (outer : List PySem.Env) (s : Shared) (H : Hp) (Ew : XK) (He F0 : Hp) (B : List Addr) (v0 : L2.St) (W : WX), Room k (A.deeper (envOfC qual (defScope st) s.heap.objs.size f cdv)) →
      Takes (cxOf (L2.CX P w) P w K mg base N qual (defScope st) f cdv A outer s H Ew) W → PassesOwn (model P w) (cxOf (L2.CX P w) P w K mg base N qual (defScope st) f cdv A outer s H Ew).A (cxOf (L2.CX P w) P w K mg base N qual (defScope st) f cdv A outer s H Ew).env (cxOf (L2.CX P w) P w K mg base N qual (defScope st) f cdv A outer s H Ew).xe →
      SB (cxOf (L2.CX P w) P w K mg base N qual (defScope st) f cdv A outer s H Ew) (EnB kx ec mk He F0 B v0) W (defBody st) b) :
    FnOk P w K mg base (L2.CX P w) (k + 1) f fd ps (spX kx ec mk (fnX mk m b)) := by
  subst hm
  refine G.okX S (fun vs H Q E ⟨F, ds, B, h, _⟩ => by rw [h, hn]) fun cdv A outer s H vs Q Ew hr h => ?_
  obtain ⟨F, ds, B, hv, st0, h⟩ := h
  have sb := hbody cdv A outer s H Ew H F B (vs.map some) (fun cls d _ H => Ew cls d H) hr (takes_of rfl rfl rfl rfl) (passes_of rfl)
  have hd : ds.length = mk.length := by have := st0.len; rw [List.length_map, List.length_map] at this; omega
  have start : L2.start N vs = vs.map some ++ List.replicate (N.length - mk.length) none := by unfold L2.start; rw [hv]
  refine ⟨_, sb.ps, F, ds.map some ++ List.replicate (N.length - mk.length) none, ?_, ?_⟩
  · rw [start]; exact st0.more _
  · unfold fnX at h
    rw [if_pos hd] at h
    have bl : ∀ {σ : L2.St} {ρ : Env} {F' H' : Hp}, Stt (EnB kx ec mk H F B (vs.map some)) F' H' σ ρ → ∀ i ∈ bsM mk, i < σ.length := fun s i hi => (s.bv i hi).1
    cases eb : b (ds.map some ++ List.replicate (N.length - mk.length) none) with
    | no => rw [eb] at h; exact h.elim
    | bk ρ => rw [eb] at h; exact h.elim
    | ct ρ => rw [eb] at h; exact h.elim
    | nx ρ =>
      rw [eb] at h
      exact fun F' H' σ x s' => h F' H' .non x keepB_len ((s'.push (Tr.refl s'.fh) (d := .non) (v := .non) (A := []) ⟨rfl, rfl⟩ .nil fun _ z => nomatch z).keepTop hv (bl s'))
    | rt d ρ =>
      rw [eb] at h
      exact fun F' H' σ v s' fn sx => sx.elim (fun z => absurd z hbs) fun sx => h F' H' v s'.e0.ex keepB_len (sx.keepTop hv (bl s'))
    | ex c ρ =>
      rw [eb] at h
      exact fun F' H' σ x s' => h F' H' x keepB_len (s'.keep hv)
end
end Dv
end
section
set_option maxRecDepth 100000
set_option maxHeartbeats 1000000
namespace Dv
open PySem PySem.Spec PyProof.Rows L2
/-! ## the caller's side -/
theorem Mg_len {σ : L2.St} : ∀ {sh : List (Option Nat)} {ps vs : List V}, Mg σ sh ps vs → vs.length = sh.length
  | [], ps, vs, m => by rw [m.2]; rfl
  | none :: sh, ps, vs, m => by obtain ⟨v, p', q', rfl, rfl, m⟩ := m; rw [List.length_cons, List.length_cons, Mg_len m]
  | some i :: sh, ps, vs, m => by obtain ⟨v, q', _, rfl, m⟩ := m; rw [List.length_cons, List.length_cons, Mg_len m]
theorem Mg_at {σ : L2.St} : ∀ {sh : List (Option Nat)} {ps vs : List V} {k i : Nat}, Mg σ sh ps vs → sh[k]? = some (some i) → ∃ v, σ[i]? = some (some v) ∧ vs[k]? = some v
  | [], ps, vs, k, i, m, e => by simp at e
  | none :: sh, ps, vs, 0, i, m, e => by simp at e
  | none :: sh, ps, vs, k + 1, i, m, e => by
    obtain ⟨v, p', q', rfl, rfl, m⟩ := m
    obtain ⟨w, h1, h2⟩ := Mg_at (k := k) (i := i) m (by simpa using e)
    exact ⟨w, h1, by simpa using h2⟩
  | some i0 :: sh, ps, vs, 0, i, m, e => by
    obtain ⟨v, q', ev, rfl, m⟩ := m
    have : i0 = i := by simpa using e
    subst this
    exact ⟨v, ev, rfl⟩
  | some i0 :: sh, ps, vs, k + 1, i, m, e => by
    obtain ⟨v, q', ev, rfl, m⟩ := m
    obtain ⟨w, h1, h2⟩ := Mg_at (k := k) (i := i) m (by simpa using e)
    exact ⟨w, h1, by simpa using h2⟩
theorem mergeD_len : ∀ {sh : List (Option Nat)} {ds ds' : List D} {ρ : Env}, mergeD sh ds ρ = some ds' → ds'.length = sh.length
  | [], ds, ds', ρ, e => by cases e; rfl
  | none :: sh, [], ds', ρ, e => by cases e
  | none :: sh, d :: ds, ds', ρ, e => by
    rw [mergeD_none] at e
    cases em : mergeD sh ds ρ with
    | none => rw [em] at e; cases e
    | some x => rw [em] at e; cases e; rw [List.length_cons, List.length_cons, mergeD_len em]
  | some i :: sh, ds, ds', ρ, e => by
    rw [mergeD_some] at e
    split at e
    · cases em : mergeD sh ds ρ with
      | none => rw [em] at e; cases e
      | some x => rw [em] at e; cases e; rw [List.length_cons, List.length_cons, mergeD_len em]
    · cases e
theorem mergeD_lt : ∀ {sh : List (Option Nat)} {ds ds' : List D} {ρ : Env} {k i : Nat}, mergeD sh ds ρ = some ds' → sh[k]? = some (some i) → i < ρ.length
  | [], ds, ds', ρ, k, i, e, h => by simp at h
  | none :: sh, [], ds', ρ, k, i, e, h => by cases e
  | none :: sh, d :: ds, ds', ρ, 0, i, e, h => by simp at h
  | none :: sh, d :: ds, ds', ρ, k + 1, i, e, h => by
    rw [mergeD_none] at e
    cases em : mergeD sh ds ρ with
    | none => rw [em] at e; cases e
    | some x => exact mergeD_lt (k := k) em (by simpa using h)
  | some i0 :: sh, ds, ds', ρ, k, i, e, h => by
    rw [mergeD_some] at e
    split at e
    · rename_i d ed
      cases em : mergeD sh ds ρ with
      | none => rw [em] at e; cases e
      | some x =>
        cases k with
        | zero =>
          have : i0 = i := by simpa using h
          subst this
          exact (List.getElem?_eq_some_iff.mp (some_some ed)).1
        | succ k => exact mergeD_lt (k := k) em (by simpa using h)
    · cases e
/-- the slots are different -/
def shOk (sh : List (Option Nat)) : Bool := decide (sh.filterMap id).Nodup
theorem shOk_inj : ∀ {sh : List (Option Nat)}, shOk sh = true → ∀ {k k' i : Nat}, sh[k]? = some (some i) → sh[k']? = some (some i) → k = k' := fun {sh} h0 => by
  have h : (sh.filterMap id).Nodup := by simpa [shOk] using h0
  clear h0
  induction sh with
  | nil => intro k k' i e; simp at e
  | cons x sh ih =>
    have mem : ∀ {k i : Nat}, sh[k]? = some (some i) → i ∈ sh.filterMap id := fun {k i} e => List.mem_filterMap.mpr ⟨some i, List.mem_of_getElem? e, rfl⟩
    intro k k' i e e'
    cases x with
    | none =>
      cases k with
      | zero => simp at e
      | succ k => cases k' with
        | zero => simp at e'
        | succ k' => rw [ih (by simpa using h) (k := k) (k' := k') (i := i) (by simpa using e) (by simpa using e')]
    | some j =>
      have h' : j ∉ sh.filterMap id ∧ (sh.filterMap id).Nodup := by simpa using h
      cases k with
      | zero =>
        have e1 : j = i := by simpa using e
        cases k' with
        | zero => rfl
        | succ k' => exact absurd (mem (k := k') (i := i) (by simpa using e')) (e1 ▸ h'.1)
      | succ k =>
        cases k' with
        | zero =>
          have e1 : j = i := by simpa using e'
          exact absurd (mem (k := k) (i := i) (by simpa using e)) (e1 ▸ h'.1)
        | succ k' => rw [ih h'.2 (k := k) (k' := k') (i := i) (by simpa using e) (by simpa using e')]
/-- the slots behind the call -/
def putD : List (Option Nat) → Env → Env → Env
  | none :: sh, _ :: qs, ρ => putD sh qs ρ
  | some i :: sh, q :: qs, ρ => putD sh qs (ρ.set i q)
  | _, _, ρ => ρ
@[simp] theorem putD_nil (qs ρ : Env) : putD [] qs ρ = ρ := by cases qs <;> rfl
@[simp] theorem putD_none (sh : List (Option Nat)) (q : Option D) (qs ρ : Env) : putD (none :: sh) (q :: qs) ρ = putD sh qs ρ := rfl
@[simp] theorem putD_some (sh : List (Option Nat)) (i : Nat) (q : Option D) (qs ρ : Env) : putD (some i :: sh) (q :: qs) ρ = putD sh qs (ρ.set i q) := rfl
theorem putD_len : ∀ {sh : List (Option Nat)} {qs ρ : Env}, (putD sh qs ρ).length = ρ.length
  | [], qs, ρ => by rw [putD_nil]
  | none :: sh, [], ρ => rfl
  | some i :: sh, [], ρ => rfl
  | none :: sh, q :: qs, ρ => by rw [putD_none, putD_len]
  | some i :: sh, q :: qs, ρ => by rw [putD_some, putD_len, List.length_set]
theorem putD_out : ∀ {sh : List (Option Nat)} {qs ρ : Env} {j : Nat}, (∀ k : Nat, sh[k]? ≠ some (some j)) → (putD sh qs ρ)[j]? = ρ[j]?
  | [], qs, ρ, j, h => by rw [putD_nil]
  | none :: sh, [], ρ, j, h => rfl
  | some i :: sh, [], ρ, j, h => rfl
  | none :: sh, q :: qs, ρ, j, h => by rw [putD_none]; exact putD_out fun k z => h (k + 1) (by simpa using z)
  | some i :: sh, q :: qs, ρ, j, h => by
    rw [putD_some, putD_out fun k z => h (k + 1) (by simpa using z)]
    exact List.getElem?_set_ne fun z => h 0 (by rw [z]; rfl)
theorem putD_at : ∀ {sh : List (Option Nat)} {qs ρ : Env} {k j : Nat}, qs.length = sh.length → shOk sh = true → sh[k]? = some (some j) → j < ρ.length → (putD sh qs ρ)[j]? = qs[k]?
  | [], qs, ρ, k, j, hl, ok, e, hj => by simp at e
  | _ :: sh, [], ρ, k, j, hl, ok, e, hj => by cases hl
  | none :: sh, q :: qs, ρ, 0, j, hl, ok, e, hj => by simp at e
  | none :: sh, q :: qs, ρ, k + 1, j, hl, ok, e, hj => by
    rw [putD_none, putD_at (k := k) (by simpa using hl) (by simpa [shOk] using ok) (by simpa using e) hj]
    rfl
  | some i :: sh, q :: qs, ρ, 0, j, hl, ok, e, hj => by
    have e1 : i = j := by simpa using e
    subst e1
    rw [putD_some, putD_out fun k z => absurd (shOk_inj ok (k := 0) (k' := k + 1) (i := i) rfl (by simpa using z)) (by omega), List.getElem?_set_self hj]
    rfl
  | some i :: sh, q :: qs, ρ, k + 1, j, hl, ok, e, hj => by
    have ok' : shOk sh = true := by
      have : i ∉ sh.filterMap id ∧ (sh.filterMap id).Nodup := by simpa [shOk] using ok
      simpa [shOk] using this.2
    rw [putD_some, putD_at (k := k) (by simpa using hl) ok' (by simpa using e) (by rw [List.length_set]; exact hj)]
    rfl
section
variable {E : En} {F H : Hp}
theorem args_at {σ τ : L2.St} {ρ δ : Env} {fp : Nat → List Addr} (sl : Sl E F H (σ ++ τ) (ρ ++ δ) fp) (hl : ρ.length = σ.length) : ∀ {sh : List (Option Nat)} {ps vs : List V} {ds ds' : List D}, Mg σ sh ps vs → RpL E.k F H ds ps [] → mergeD sh ds ρ = some ds' → ∀ (k : Nat) (d : D), ds'[k]? = some d →
    ∃ v, vs[k]? = some v ∧ Rp E.k F H d v (match sh[k]? with | some (some i) => fp i | _ => [])
  | [], ps, vs, ds, ds', m, r, e, k, d, ed => by cases e; simp at ed
  | none :: sh, ps, vs, ds, ds', m, r, e, k, d, ed => by
    obtain ⟨v, p', q', rfl, rfl, m⟩ := m
    cases ds with
    | nil => cases e
    | cons d0 ds =>
      rw [mergeD_none] at e
      cases em : mergeD sh ds ρ with
      | none => rw [em] at e; cases e
      | some ds2 =>
        rw [em] at e; cases e
        obtain ⟨w, ws, A1, A2, e1, e2, r1, r2⟩ := r
        cases e1
        obtain ⟨rfl, rfl⟩ := List.append_eq_nil_iff.mp e2.symm
        cases k with
        | zero =>
          have : d0 = d := by simpa using ed
          subst this
          exact ⟨v, rfl, r1⟩
        | succ k =>
          obtain ⟨u, h1, h2⟩ := args_at sl hl m r2 em k d (by simpa using ed)
          exact ⟨u, by simpa using h1, by simpa using h2⟩
  | some i :: sh, ps, vs, ds, ds', m, r, e, k, d, ed => by
    obtain ⟨v, q', ev, rfl, m⟩ := m
    rw [mergeD_some] at e
    cases ei : ρ[i]?.getD none with
    | none => rw [ei] at e; cases e
    | some d0 =>
      rw [ei] at e
      have e : (mergeD sh ds ρ).map (d0 :: ·) = some ds' := e
      cases em : mergeD sh ds ρ with
      | none => rw [em] at e; cases e
      | some ds2 =>
        rw [em] at e; cases e
        cases k with
        | zero =>
          have : d0 = d := by simpa using ed
          subst this
          have hi := (List.getElem?_eq_some_iff.mp (some_some ei)).1
          obtain ⟨w, h1, h2⟩ := sl.rp i d0 (by rw [List.getElem?_append_left hi]; exact some_some ei)
          rw [List.getElem?_append_left (by omega), ev] at h1
          cases h1
          exact ⟨v, rfl, h2⟩
        | succ k =>
          obtain ⟨u, h1, h2⟩ := args_at sl hl m r em k d (by simpa using ed)
          exact ⟨u, by simpa using h1, by simpa using h2⟩
/-- what the called def begins with -/
theorem Stt.enter {σ τ : L2.St} {ρ δ : Env} {fp : Nat → List Addr} {sh : List (Option Nat)} {ps vs : List V} {ds ds' : List D} {mk : List Bool} (s : Stt E F H (σ ++ τ) (ρ ++ δ)) (sl : Sl E F H (σ ++ τ) (ρ ++ δ) fp) (hl : ρ.length = σ.length) (m : Mg σ sh ps vs) (r : RpL E.k F H ds ps []) (e : mergeD sh ds ρ = some ds') (hmk : mk = sh.map Option.isSome) (ok : shOk sh = true) :
    Stt (EnB E.k E.ec mk H F ((sh.filterMap id).flatMap fp) (vs.map some)) F H (vs.map some) (ds'.map some) := by
  have at' := args_at sl hl m r e
  have lv := Mg_len m
  have ld := mergeD_len e
  have memB : ∀ {k i : Nat} {a : Addr}, sh[k]? = some (some i) → a ∈ fp i → a ∈ (sh.filterMap id).flatMap fp := fun {k i a} h ha => List.mem_flatMap.mpr ⟨i, List.mem_filterMap.mpr ⟨some i, List.mem_of_getElem? h, rfl⟩, ha⟩
  have bsk : ∀ {k i : Nat}, sh[k]? = some (some i) → k ∈ bsM mk := fun {k i} h => mem_bsM.mpr (by rw [hmk, List.getElem?_map, h]; rfl)
  refine ⟨⟨.refl _, s.e0.tb⟩, s.fh, fun a h _ => h, fun a o h _ => h, fun a ha => ?_, by rw [List.length_map, List.length_map, ld, lv], fun k hk => ⟨?_, rfl⟩, fun k => match sh[k]? with | some (some i) => fp i | _ => [], fun k d h => ?_, fun k h => ?_, fun k => ?_, fun k k' a ha ha' => ?_, fun k a ha => ?_⟩
  · obtain ⟨i, _, ha⟩ := List.mem_flatMap.mp ha
    exact (sl.there ha).2
  · have := mem_bsM.mp hk
    have := (List.getElem?_eq_some_iff.mp this).1
    rw [hmk, List.length_map] at this
    rw [List.length_map]; omega
  · rw [List.getElem?_map] at h
    cases hd : ds'[k]? with
    | none => rw [hd] at h; cases h
    | some d' =>
      rw [hd] at h; cases h
      obtain ⟨v, h1, h2⟩ := at' k d hd
      exact ⟨v, by rw [List.getElem?_map, h1]; rfl, h2⟩
  · rw [List.getElem?_map] at h
    cases hd : ds'[k]? with
    | some d' => rw [hd] at h; cases h
    | none =>
      have : sh.length ≤ k := by rw [← ld]; exact List.getElem?_eq_none_iff.mp hd
      show (match sh[k]? with | some (some i) => fp i | _ => []) = []
      rw [List.getElem?_eq_none this]
  · show (match sh[k]? with | some (some i) => fp i | _ => []).Nodup
    split
    · exact sl.nd _
    · exact .nil
  · have ha : a ∈ (match sh[k]? with | some (some i) => fp i | _ => []) := ha
    have ha' : a ∈ (match sh[k']? with | some (some i) => fp i | _ => []) := ha'
    split at ha
    · rename_i i hi
      split at ha'
      · rename_i i' hi'
        have := sl.dj i i' a ha ha'
        subst this
        exact shOk_inj ok hi hi'
      · cases ha'
    · cases ha
  · have ha : a ∈ (match sh[k]? with | some (some i) => fp i | _ => []) := ha
    split at ha
    · rename_i i hi
      exact .inr ⟨memB hi ha, bsk hi⟩
    · cases ha
/-- what it leaves -/
theorem Stt.leave {σ τ : L2.St} {ρ δ : Env} {fp : Nat → List Addr} {sh : List (Option Nat)} {ps vs : List V} {ds ds' : List D} {mk : List Bool} {F' H' : Hp} {qs : Env} {fp3 : Nat → List Addr} (s : Stt E F H (σ ++ τ) (ρ ++ δ)) (sl : Sl E F H (σ ++ τ) (ρ ++ δ) fp) (hl : ρ.length = σ.length) (m : Mg σ sh ps vs) (e : mergeD sh ds ρ = some ds') (ok : shOk sh = true)
    (hall : (∀ i ∈ sh.filterMap id, i ∈ E.bs) ∨ ∀ i ∈ sh.filterMap id, i ∉ E.bs) (hq : qs.length = sh.length)
    (s3 : Stt (EnB E.k E.ec mk H F ((sh.filterMap id).flatMap fp) (vs.map some)) F' H' (vs.map some) qs) (sl3 : Sl (EnB E.k E.ec mk H F ((sh.filterMap id).flatMap fp) (vs.map some)) F' H' (vs.map some) qs fp3) :
    ∃ fp', Stt E F' H' (σ ++ τ) (putD sh qs ρ ++ δ) ∧ Sl E F' H' (σ ++ τ) (putD sh qs ρ ++ δ) fp' ∧ ∀ j a, a ∈ fp' j → (∃ k, a ∈ fp3 k) ∨ a ∈ fp j := by
  classical
  have lp : ∀ {k i : Nat}, sh[k]? = some (some i) → i < ρ.length := fun h => mergeD_lt e h
  have mem : ∀ {k i : Nat}, sh[k]? = some (some i) → i ∈ sh.filterMap id := fun {k i} h => List.mem_filterMap.mpr ⟨some i, List.mem_of_getElem? h, rfl⟩
  have inB : ∀ {a : Addr}, a ∈ (sh.filterMap id).flatMap fp → ∃ k i : Nat, sh[k]? = some (some i) ∧ a ∈ fp i := fun {a} h => by
    obtain ⟨i, hi, ha⟩ := List.mem_flatMap.mp h
    obtain ⟨x, hx, ex⟩ := List.mem_filterMap.mp hi
    obtain ⟨k, hk⟩ := List.mem_iff_getElem?.mp hx
    exact ⟨k, i, by rw [hk]; exact congrArg some ex, ha⟩
  have he : ∀ {a}, a ∈ (sh.filterMap id).flatMap fp → ∀ {o}, E.He a = some o → a ∈ E.B := fun {a} h {o} eo => by
    obtain ⟨k, i, _, ha⟩ := inB h
    exact (sl.nw i a ha).elim (fun z => by rw [z] at eo; cases eo) fun z => z.1
  -- by place: borrowed, or not
  let f' : Nat → List Addr := fun j => if h : ∃ k : Nat, sh[k]? = some (some j) then fp3 h.choose else fp j
  have f1 : ∀ {j k : Nat}, sh[k]? = some (some j) → f' j = fp3 k := fun {j k} h => by
    have ex : ∃ k : Nat, sh[k]? = some (some j) := ⟨k, h⟩
    show (if h : ∃ k : Nat, sh[k]? = some (some j) then fp3 h.choose else fp j) = _
    rw [dif_pos ex, shOk_inj ok ex.choose_spec h]
  have f0 : ∀ {j : Nat}, (∀ k : Nat, sh[k]? ≠ some (some j)) → f' j = fp j := fun {j} h => dif_neg fun ⟨k, z⟩ => h k z
  have cs : ∀ j : Nat, (∃ k : Nat, sh[k]? = some (some j)) ∨ ∀ k : Nat, sh[k]? ≠ some (some j) := fun j => (Classical.em (∃ k : Nat, sh[k]? = some (some j))).imp_right fun h k z => h ⟨k, z⟩
  have g1 : ∀ {j k : Nat}, sh[k]? = some (some j) → (putD sh qs ρ ++ δ)[j]? = qs[k]? := fun {j k} h => by
    rw [List.getElem?_append_left (by rw [putD_len]; exact lp h)]
    exact putD_at hq ok h (lp h)
  have g0 : ∀ {j : Nat}, (∀ k : Nat, sh[k]? ≠ some (some j)) → (putD sh qs ρ ++ δ)[j]? = (ρ ++ δ)[j]? := fun {j} h => by
    by_cases q : j < ρ.length
    · rw [List.getElem?_append_left (by rw [putD_len]; exact q), List.getElem?_append_left q, putD_out h]
    · rw [List.getElem?_append_right (by rw [putD_len]; omega), List.getElem?_append_right (by omega), putD_len]
  have out : ∀ {j : Nat} {a : Addr}, (∀ k : Nat, sh[k]? ≠ some (some j)) → a ∈ fp j → a ∉ (sh.filterMap id).flatMap fp := fun {j a} h ha z => by
    obtain ⟨k, i, hk, hi⟩ := inB z
    have := sl.dj j i a ha hi
    subst this
    exact h k hk
  -- what a borrowed one owns is new, or was borrowed
  have own3 : ∀ {k a}, a ∈ fp3 k → H a = none ∨ a ∈ (sh.filterMap id).flatMap fp := fun {k a} h => (sl3.nw k a h).imp_right fun z => z.1
  have sl' : Sl E F' H' (σ ++ τ) (putD sh qs ρ ++ δ) f' := by
    refine ⟨fun j d h => ?_, fun j h => ?_, fun j => ?_, fun j j' a ha ha' => ?_, fun j a ha => ?_⟩
    · rcases cs j with ⟨k, hk⟩ | hk
      · rw [g1 hk] at h
        obtain ⟨v, h1, h2⟩ := sl3.rp k d h
        obtain ⟨w, h3, h4⟩ := Mg_at m hk
        rw [List.getElem?_map, h4] at h1
        cases h1
        rw [f1 hk]
        exact ⟨v, by rw [List.getElem?_append_left (List.getElem?_eq_some_iff.mp h3).1]; exact h3, h2⟩
      · rw [g0 hk] at h
        obtain ⟨v, h1, h2⟩ := sl.rp j d h
        rw [f0 hk]
        exact ⟨v, h1, Rp.mono s3.e0.ex d v _ (fun a ha o ho n => ⟨s3.st a o ho (out hk ha), s3.fr a n (fun z => by have ho' : H a = some o := ho; have z' : H a = none := z; rw [z'] at ho'; cases ho')⟩) h2⟩
    · rcases cs j with ⟨k, hk⟩ | hk
      · rw [f1 hk]; rw [g1 hk] at h; exact sl3.em k h
      · rw [f0 hk]; rw [g0 hk] at h; exact sl.em j h
    · rcases cs j with ⟨k, hk⟩ | hk
      · rw [f1 hk]; exact sl3.nd k
      · rw [f0 hk]; exact sl.nd j
    · rcases cs j with ⟨k, hk⟩ | hk
      · rw [f1 hk] at ha
        rcases cs j' with ⟨k', hk'⟩ | hk'
        · rw [f1 hk'] at ha'
          have := sl3.dj k k' a ha ha'
          subst this
          rw [hk] at hk'
          simpa using hk'
        · rw [f0 hk'] at ha'
          rcases own3 ha with z | z
          · exact absurd z (sl.there ha').2
          · exact absurd z (out hk' ha')
      · rw [f0 hk] at ha
        rcases cs j' with ⟨k', hk'⟩ | hk'
        · rw [f1 hk'] at ha'
          rcases own3 ha' with z | z
          · exact absurd z (sl.there ha).2
          · exact absurd z (out hk ha)
        · rw [f0 hk'] at ha'
          exact sl.dj j j' a ha ha'
    · rcases cs j with ⟨k, hk⟩ | hk
      · rw [f1 hk] at ha
        rcases own3 ha with z | z
        · exact .inl (s.new z)
        · obtain ⟨k2, i2, hk2, hi2⟩ := inB z
          rcases sl.nw i2 a hi2 with h | h
          · exact .inl h
          · rcases hall with ha' | ha'
            · exact .inr ⟨h.1, ha' j (mem hk)⟩
            · exact absurd h.2 (ha' i2 (mem hk2))
      · rw [f0 hk] at ha
        exact sl.nw j a ha
  refine ⟨f', ⟨s.e0.trans s3.e0.ex, s3.fh, fun a h1 h2 => s3.fr a (s.fr a h1 h2) (s.there h2), fun a o h1 h2 => s3.st a o (s.st a o h1 h2) fun z => h2 (he z h1), fun a ha => ?_, ?_, s.bv, f', sl'⟩, sl', fun j a ha => ?_⟩
  · by_cases z : a ∈ (sh.filterMap id).flatMap fp
    · exact s3.bt a z
    · have := s.bt a ha
      cases h : H a with
      | none => exact absurd h this
      | some o => rw [s3.st a o h z]; exact fun z => nomatch z
  · rw [List.length_append, putD_len, ← List.length_append]; exact s.len
  · rcases cs j with ⟨k, hk⟩ | hk
    · rw [f1 hk] at ha; exact .inl ⟨k, ha⟩
    · rw [f0 hk] at ha; exact .inr ha
end
section
variable {X : Cx} {E : En} {W : WX}
def XR.put (r : XR D) (sh : List (Option Nat)) (ρ : Env) : XR D := match r with
  | .ok d qs => .ok d (putD sh qs ρ)
  | .ex c qs => .ex c (putD sh qs ρ)
  | .no => .no
@[simp] theorem XR.put_ok (d : D) (qs : Env) (sh : List (Option Nat)) (ρ : Env) : (XR.ok d qs).put sh ρ = .ok d (putD sh qs ρ) := rfl
@[simp] theorem XR.put_ex (c : Nat) (qs : Env) (sh : List (Option Nat)) (ρ : Env) : (XR.ex c qs : XR D).put sh ρ = .ex c (putD sh qs ρ) := rfl
@[simp] theorem XR.put_no (sh : List (Option Nat)) (ρ : Env) : (XR.no : XR D).put sh ρ = .no := rfl
def xCall (f : List D → XR D) (sh : List (Option Nat)) (fs : Env → XR (List D)) : Env → XR D := fun ρ => (fs ρ).bind fun ds ρ => match mergeD sh ds ρ with
  | some ds => (f ds).put sh ρ
  | none => .no
@[simp] theorem xCall_eq (f : List D → XR D) (sh : List (Option Nat)) (fs : Env → XR (List D)) (ρ : Env) : xCall f sh fs ρ = (fs ρ).bind fun ds ρ => match mergeD sh ds ρ with
  | some ds => (f ds).put sh ρ
  | none => .no := rfl
theorem xe_call {k : Nat} {mk : List Bool} {fa : Addr} {fd : FuncData} {ps : List Str} {f : List D → XR D} {sh : List (Option Nat)} {fs : Env → XR (List D)} {x : Str} {p pos : Pos} {e : Expr} {es : List Expr} (G : FnOk X.prog X.w X.K X.mg X.base (L2.CX X.prog X.w) k fa fd ps (spX E.k E.ec mk f)) (tk : Takes X W) (hr : Room k X.A) (hg : Gl X x) (hm : X.mg x = some (.ref fa)) (hk : PySem.W.keepIn X.K (.ref fa) = true) (hb : Binds X.K fd ps [])
    (hmk : mk = sh.map Option.isSome) (ok : shOk sh = true) (hall : (∀ i ∈ sh.filterMap id, i ∈ E.bs) ∨ ∀ i ∈ sh.filterMap id, i ∉ E.bs)
    (ha : EXC X E W (e :: es) sh fs) (hdb : (x == ("__debug__" : Str)) = false := by decide) (he : starEach (e :: es) X.env = (false, eval e X.env) :: starEach es X.env := by rfl) (hpl : (backTo pos (starEach es X.env)).any (·.1) = false := by rfl) : EX X E W (.Call (.Name x p) (e :: es) [] pos) (xCall f sh fs) := by
  refine ⟨pe_mono (pe_callS (E := WE W) G hr hg hm hk hb (fun σ => passAt tk σ) ha.pa hdb he hpl) fun σ H Q h => ?_⟩
  obtain ⟨F, ρ, τ, δ, s, hl, hb, q⟩ := h
  refine ⟨F, ρ, τ, δ, s, hl, hb, XRes.mono q.bind (fun ds ρ1 _ q F1 H1 ps vs e1 l1 n1 p1 m1 s1 => ?_) fun c ρ1 z => z⟩
  cases em : mergeD sh ds ρ1 with
  | none => rw [em] at q; exact q.elim
  | some ds' =>
    rw [em] at q
    have q : XRes ((f ds').put sh ρ1) _ _ := q
    obtain ⟨fp, A, s2, sl2, r2, n2, u2⟩ := s1.collectX hb n1
    have r2' : RpL E.k F1 H1 ds ps [] := RpL.pure p1 (.refl _) r2
    have lv := Mg_len m1
    have lk : mk.length = sh.length := by rw [hmk, List.length_map]
    have bl : ∀ i ∈ bsM mk, i < (vs.map some).length := fun i hi => by
      have := (List.getElem?_eq_some_iff.mp (mem_bsM.mp hi)).1
      rw [List.length_map]; omega
    refine ⟨F1, ds', _, by rw [lv, lk], s2.enter sl2 l1 m1 r2' em hmk ok, ?_⟩
    cases ef : f ds' with
    | no => rw [ef] at q; exact q.elim
    | ok d qs =>
      rw [ef] at q
      intro F' H' v x2 lq s3
      obtain ⟨fp3, sl3⟩ := s3.sl
      obtain ⟨s4, sl4, h4, n4, u4⟩ := s3.pop' sl3 bl
      obtain ⟨v', ev, r4⟩ := h4 d rfl
      cases ev
      obtain ⟨fp', s5, sl5, u5⟩ := s2.leave sl2 l1 m1 em ok hall (by rw [lq, lk]) s4 sl4
      refine q F' H' v (e1.trans x2) (by rw [putD_len]; exact l1) (s5.pushS sl5 (Tr.refl s5.fh) r4 n4 fun a ha => ⟨s2.new (u4 a ha).1, fun j hj => ?_⟩)
      rcases u5 j a hj with ⟨k, z⟩ | z
      · exact (u4 a ha).2 k z
      · exact (sl2.there z).2 (u4 a ha).1
    | ex c qs =>
      rw [ef] at q
      intro F' H' x2 lq s3
      obtain ⟨fp3, sl3⟩ := s3.sl
      obtain ⟨fp', s5, sl5, u5⟩ := s2.leave sl2 l1 m1 em ok hall (by rw [lq, lk]) s3 sl3
      exact q F' H' (e1.trans x2) (by rw [putD_len]; exact l1) s5
end
end Dv
end
section
set_option maxRecDepth 100000
set_option maxHeartbeats 1000000
namespace Dv
open PySem PySem.Spec PyProof.Rows L2
/-! ## statements over expressions with an effect -/
def XR.st {α : Type} (r : XR α) (k : α → Env → SR) : SR := match r with
  | .no => .no
  | .ok a ρ => k a ρ
  | .ex c ρ => .ex c ρ
@[simp] theorem XR.st_no {α : Type} (k : α → Env → SR) : (XR.no : XR α).st k = .no := rfl
@[simp] theorem XR.st_ok {α : Type} (a : α) (ρ : Env) (k : α → Env → SR) : (XR.ok a ρ).st k = k a ρ := rfl
@[simp] theorem XR.st_ex {α : Type} (c : Nat) (ρ : Env) (k : α → Env → SR) : (XR.ex c ρ : XR α).st k = .ex c ρ := rfl
section
variable {X : Cx} {E : En} {W : WX}
theorem SRes.xst {α : Type} {F : Hp} {Z : Ends} {r : XR α} {k : α → Env → SR} (h : SRes E W F Z (r.st k)) : XRes r (fun a ρ => SRes E W F Z (k a ρ)) (fun c ρ => SRes E W F Z (.ex c ρ)) := by
  cases r with
  | no => exact h
  | ok a ρ => exact h
  | ex c ρ => exact h
theorem Stt.bl {F H : Hp} {σ : L2.St} {ρ : Env} (s : Stt E F H σ ρ) : ∀ i ∈ E.bs, i < σ.length := fun i hi => (s.bv i hi).1
/-- at a statement: the value is taken from what is held -/
theorem tX_st {F H : Hp} {σ : L2.St} {ρ : Env} {Q : VK} {f : Env → XR D} (s : Stt E F H σ ρ)
    (q : XRes (f ρ) (fun d ρ' => ∀ F' H' v fp A, Ex F F' → Stt E F' H' σ ρ' → Sl E F' H' σ ρ' fp → Rp E.k F' H' d v A → A.Nodup → (∀ a ∈ A, E.He a = none ∧ ∀ j, a ∉ fp j) → Stt E F' H' (σ ++ [some v]) (ρ' ++ [some d]) → Q v H') (fun c ρ' => ∀ F' H', Ex F F' → Stt E F' H' σ ρ' → W (E.ec c) none σ H')) : tX E W f σ H Q := by
  refine ⟨F, ρ, [], [], by simpa using s, s.len, s.bl, XRes.mono q (fun d ρ1 _ q F1 H1 v e1 l1 s1 => ?_) fun c ρ1 z F1 H1 e1 l1 s1 => z F1 H1 e1 (by simpa using s1)⟩
  simp only [List.nil_append] at s1
  obtain ⟨fp, sl⟩ := s1.sl
  obtain ⟨s2, sl2, h2, n2, u2⟩ := s1.pop' sl s.bl
  obtain ⟨v', ev, r⟩ := h2 d rfl
  cases ev
  exact q F1 H1 v _ _ e1 s2 sl2 r n2 u2 s1
theorem tXT_st {F H : Hp} {σ : L2.St} {ρ : Env} {Q : Bool → Hp → Prop} {f : Env → XR Bool} (s : Stt E F H σ ρ)
    (q : XRes (f ρ) (fun d ρ' => ∀ F' H', Ex F F' → Stt E F' H' σ ρ' → Q d H') (fun c ρ' => ∀ F' H', Ex F F' → Stt E F' H' σ ρ' → W (E.ec c) none σ H')) : tXT E W f σ H Q :=
  ⟨F, ρ, [], [], by simpa using s, s.len, s.bl, XRes.mono q (fun d ρ1 _ q F1 H1 e1 l1 s1 => q F1 H1 e1 (by simpa using s1)) fun c ρ1 z F1 H1 e1 l1 s1 => z F1 H1 e1 (by simpa using s1)⟩
/-- a slot gets what was held -/
theorem Stt.setS {F H : Hp} {σ : L2.St} {ρ : Env} {fp : Nat → List Addr} {i : Nat} {d : D} {v : V} {A : List Addr} (s : Stt E F H σ ρ) (sl : Sl E F H σ ρ fp) (r : Rp E.k F H d v A) (nd : A.Nodup) (u : ∀ a ∈ A, E.He a = none ∧ ∀ j, a ∉ fp j) (hb : i ∉ E.bs) : Stt E F H (σ.set i (some v)) (ρ.set i (some d)) := by
  by_cases hi : i < ρ.length
  · refine ⟨s.e0, s.fh, s.fr, s.st, s.bt, by rw [List.length_set, List.length_set]; exact s.len, fun j hj => ?_, fun j => if j = i then A else fp j, fun j d' e => ?_, fun j e => ?_, fun j => ?_, fun j j' a ha ha' => ?_, fun j a ha => ?_⟩
    · rw [List.getElem?_set_ne (fun z => hb (by rw [z]; exact hj)), List.length_set]
      exact s.bv j hj
    · show ∃ w, _ ∧ Rp E.k F H d' w (if j = i then A else fp j)
      by_cases q : j = i
      · subst q
        rw [List.getElem?_set_self hi] at e
        cases e
        rw [if_pos rfl]
        exact ⟨v, by rw [List.getElem?_set_self (by rw [← s.len]; exact hi)], r⟩
      · rw [List.getElem?_set_ne (Ne.symm q)] at e
        obtain ⟨v', e', r'⟩ := sl.rp j d' e
        rw [if_neg q]
        exact ⟨v', by rw [List.getElem?_set_ne (Ne.symm q)]; exact e', r'⟩
    · show (if j = i then A else fp j) = []
      by_cases q : j = i
      · subst q
        rw [List.getElem?_set_self hi] at e
        cases e
      · rw [List.getElem?_set_ne (Ne.symm q)] at e
        rw [if_neg q]
        exact sl.em j e
    · show (if j = i then A else fp j).Nodup
      by_cases q : j = i
      · rw [if_pos q]; exact nd
      · rw [if_neg q]; exact sl.nd j
    · have ha : a ∈ (if j = i then A else fp j) := ha
      have ha' : a ∈ (if j' = i then A else fp j') := ha'
      by_cases q : j = i
      · by_cases q' : j' = i
        · rw [q, q']
        · rw [if_pos q] at ha
          rw [if_neg q'] at ha'
          exact absurd ha' ((u a ha).2 j')
      · rw [if_neg q] at ha
        by_cases q' : j' = i
        · rw [if_pos q'] at ha'
          exact absurd ha ((u a ha').2 j)
        · rw [if_neg q'] at ha'
          exact sl.dj j j' a ha ha'
    · have ha : a ∈ (if j = i then A else fp j) := ha
      by_cases q : j = i
      · rw [if_pos q] at ha
        exact .inl (u a ha).1
      · rw [if_neg q] at ha
        exact sl.nw j a ha
  · have e1 : ρ.set i (some d) = ρ := List.set_eq_of_length_le (by omega)
    have e2 : σ.set i (some v) = σ := List.set_eq_of_length_le (by have := s.len; omega)
    rw [e1, e2]
    exact s
/-- what a slot holds is no longer spoken of -/
theorem Stt.forget {F H : Hp} {σ : L2.St} {ρ : Env} {fp : Nat → List Addr} (i : Nat) (s : Stt E F H σ ρ) (sl : Sl E F H σ ρ fp) : Stt E F H σ (ρ.set i none) ∧ Sl E F H σ (ρ.set i none) (fun j => if j = i then [] else fp j) := by
  have sl' : Sl E F H σ (ρ.set i none) (fun j => if j = i then [] else fp j) := by
    refine ⟨fun j d' e => ?_, fun j e => ?_, fun j => ?_, fun j j' a ha ha' => ?_, fun j a ha => ?_⟩
    · show ∃ w, _ ∧ Rp E.k F H d' w (if j = i then [] else fp j)
      by_cases q : j = i
      · subst q
        by_cases hj : j < ρ.length
        · rw [List.getElem?_set_self hj] at e; cases e
        · rw [List.getElem?_eq_none (by rw [List.length_set]; omega)] at e; cases e
      · rw [List.getElem?_set_ne (Ne.symm q)] at e
        rw [if_neg q]; exact sl.rp j d' e
    · show (if j = i then [] else fp j) = []
      by_cases q : j = i
      · rw [if_pos q]
      · rw [List.getElem?_set_ne (Ne.symm q)] at e
        rw [if_neg q]; exact sl.em j e
    · show (if j = i then [] else fp j).Nodup
      split
      · exact .nil
      · exact sl.nd j
    · have ha : a ∈ (if j = i then [] else fp j) := ha
      have ha' : a ∈ (if j' = i then [] else fp j') := ha'
      split at ha
      · cases ha
      · split at ha'
        · cases ha'
        · exact sl.dj j j' a ha ha'
    · have ha : a ∈ (if j = i then [] else fp j) := ha
      split at ha
      · cases ha
      · exact sl.nw j a ha
  exact ⟨⟨s.e0, s.fh, s.fr, s.st, s.bt, by rw [List.length_set]; exact s.len, s.bv, _, sl'⟩, sl'⟩

/-! ### small statements -/
def zAsg (i : Nat) (f : Env → XR D) : Env → SR := fun ρ => (f ρ).st fun d ρ => .nx (ρ.set i (some d))
@[simp] theorem zAsg_eq (i : Nat) (f : Env → XR D) (ρ : Env) : zAsg i f ρ = (f ρ).st fun d ρ => .nx (ρ.set i (some d)) := rfl
theorem sx_asg {i : Nat} {x : Str} {e : Expr} {f : Env → XR D} {pos pos' : Pos} (hN : X.N.Nodup) (hi : X.N[i]? = some x) (hx : Loc X.env.scope x) (hb : i ∉ E.bs) (h : EX X E W e f) (hs : swapsWith e (some (.Name x pos')) pos.line X.env = pure false := by rfl) (hf : X.fn x = true ∨ X.env.scope.names.lookup x = some .local := by first | exact .inl rfl | exact .inr rfl | assumption) :
    SS X E W (.Assign [.Name x pos'] e pos) (zAsg i f) := by
  refine ⟨ps_mono (ps_set hN hi hx h.pe hs hf) fun Z σ H h => ?_⟩
  obtain ⟨F, ρ, s, q⟩ := h
  exact tX_st s (XRes.mono q.xst (fun d ρ1 _ q F1 H1 v fp A e1 s1 sl1 r nd u _ => q F1 H1 _ e1 (s1.setS sl1 r nd u hb)) fun c ρ1 z F1 H1 e1 s1 => z F1 H1 σ e1 s1)
theorem sx_aug {i : Nat} {x : Str} {e : Expr} {op : Operator} {r : R2} {g : D → D → Option D} {f : Env → XR D} {pos pos' : Pos} (hN : X.N.Nodup) (hi : X.N[i]? = some x) (hx : Loc X.env.scope x) (hb : i ∉ E.bs) (ho : PIp X op r) (hg : Says2 E r g) (h : EX X E W e f) (hf : X.fn x = true ∨ X.env.scope.names.lookup x = some .local := by first | exact .inl rfl | exact .inr rfl | assumption) :
    SS X E W (.AugAssign (.Name x pos') op e pos) (zAsg i (x2n g i f)) := by
  refine ⟨ps_mono (ps_aug hN hi hx h.pe ho hf) fun Z σ H h => ?_⟩
  obtain ⟨F, ρ, s, q⟩ := h
  have q := q.xst
  rw [x2n_eq] at q
  cases e0 : ρ[i]?.getD none with
  | none => rw [e0] at q; exact q.elim
  | some d0 =>
    rw [e0] at q
    obtain ⟨fp, sl⟩ := s.sl
    obtain ⟨v0, ev0, _⟩ := sl.rp i d0 (some_some e0)
    refine ⟨v0, ev0, tX_st s (XRes.mono (XRes.bind q) (fun y ρ1 _ q F1 H1 v fp A e1 s1 sl1 rr nd u _ => ?_) fun c ρ1 z F1 H1 e1 s1 => z F1 H1 σ e1 s1)⟩
    cases e2 : ρ1[i]?.getD none with
    | none => rw [e2] at q; exact q.elim
    | some x =>
      rw [e2] at q
      obtain ⟨d, e, p⟩ := XRes.opt q
      obtain ⟨v', ev', rx⟩ := sl1.rp i x (some_some e2)
      rw [ev0] at ev'
      cases ev'
      exact hg F1 H1 x y v0 v _ A _ d s1.fh rx rr e fun F2 H2 w B t2 r2 nd2 u2 => p F2 H2 _ (e1.trans t2.ff) (s1.set t2 r2 nd2 u2 hb)
def zRet (f : Env → XR D) : Env → SR := fun ρ => (f ρ).st fun d ρ => .rt d ρ
@[simp] theorem zRet_eq (f : Env → XR D) (ρ : Env) : zRet f ρ = (f ρ).st fun d ρ => .rt d ρ := rfl
theorem sx_ret {e : Expr} {f : Env → XR D} {pos : Pos} (h : EX X E W e f) : SS X E W (.Return (some e) pos) (zRet f) := by
  refine ⟨ps_mono (ps_ret h.pe) fun Z σ H h => ?_⟩
  obtain ⟨F, ρ, s, q⟩ := h
  exact tX_st s (XRes.mono q.xst (fun d ρ1 _ q F1 H1 v fp A e1 s1 sl1 r nd u sp => q F1 H1 σ v s1 ⟨s1.e0, s1.fh, s1.fr, s1.st, s1.bt, A, r, nd, fun a ha => (u a ha).1⟩ (.inr sp)) fun c ρ1 z F1 H1 e1 s1 => z F1 H1 σ e1 s1)
/-- return of a name, with what it owns -/
def zRetV (i : Nat) : Env → SR := fun ρ => match ρ[i]?.getD none with
  | some d => .rt d (ρ.set i none)
  | none => .no
@[simp] theorem zRetV_eq (i : Nat) (ρ : Env) : zRetV i ρ = match ρ[i]?.getD none with
  | some d => .rt d (ρ.set i none)
  | none => .no := rfl
theorem sx_retV {i : Nat} {e : Expr} {pos : Pos} (hb : i ∉ E.bs) (h : PE X e (tVar i)) : SS X E W (.Return (some e) pos) (zRetV i) := by
  refine ⟨ps_mono (ps_ret h) fun Z σ H h => ?_⟩
  obtain ⟨F, ρ, s, q⟩ := h
  rw [zRetV_eq] at q
  cases e0 : ρ[i]?.getD none with
  | none => rw [e0] at q; exact q.elim
  | some d =>
    rw [e0] at q
    obtain ⟨fp, sl⟩ := s.sl
    obtain ⟨v, ev, r⟩ := sl.rp i d (some_some e0)
    obtain ⟨s1, sl1⟩ := s.forget i sl
    have u : ∀ a ∈ fp i, E.He a = none := fun a ha => (sl.nw i a ha).elim (fun z => z) fun z => absurd z.2 hb
    refine ⟨v, ev, q F H σ v s1 ⟨s.e0, s.fh, s.fr, s.st, s.bt, fp i, r, sl.nd i, u⟩ (.inr (s1.push' sl1 r (sl.nd i) fun a ha => ⟨u a ha, fun j hj => ?_⟩))⟩
    by_cases q : j = i
    · rw [if_pos q] at hj; cases hj
    · rw [if_neg q] at hj; exact q (sl.dj j i a hj ha)
def zIf (t : Env → XR Bool) (f g : Env → SR) : Env → SR := fun ρ => (t ρ).st fun b ρ => if b = true then f ρ else g ρ
@[simp] theorem zIf_eq (t : Env → XR Bool) (f g : Env → SR) (ρ : Env) : zIf t f g ρ = (t ρ).st fun b ρ => if b = true then f ρ else g ρ := rfl
theorem sx_if {c : Expr} {a b : List Stmt} {t : Env → XR Bool} {f g : Env → SR} {pos : Pos} (hc : EXT X E W c t) (ha : SB X E W a f) (hb : SB X E W b g) : SS X E W (.If c a b pos) (zIf t f g) := by
  refine ⟨ps_mono (ps_if hc.pt ha.ps hb.ps) fun Z σ H h => ?_⟩
  obtain ⟨F, ρ, s, q⟩ := h
  refine tXT_st s (XRes.mono q.xst (fun b ρ1 _ q F1 H1 e1 s1 => ?_) fun c ρ1 z F1 H1 e1 s1 => z F1 H1 σ e1 s1)
  cases b with
  | true => exact ⟨F1, ρ1, s1, SRes.at q e1⟩
  | false => exact ⟨F1, ρ1, s1, SRes.at q e1⟩
def zDrop (f : Env → XR D) : Env → SR := fun ρ => (f ρ).st fun _ ρ => .nx ρ
@[simp] theorem zDrop_eq (f : Env → XR D) (ρ : Env) : zDrop f ρ = (f ρ).st fun _ ρ => .nx ρ := rfl
theorem sx_drop {e : Expr} {f : Env → XR D} {pos : Pos} (h : EX X E W e f) (hs : swapsWith e none pos.line X.env = pure false := by rfl) : SS X E W (.Expr e pos) (zDrop f) := by
  refine ⟨ps_mono (ps_expr h.pe hs) fun Z σ H h => ?_⟩
  obtain ⟨F, ρ, s, q⟩ := h
  exact tX_st s (XRes.mono q.xst (fun d ρ1 _ q F1 H1 v fp A e1 s1 sl1 r nd u _ => q F1 H1 σ e1 s1) fun c ρ1 z F1 H1 e1 s1 => z F1 H1 σ e1 s1)
/-- a, b = e: what e's value owns is frozen -/
def zUn (g : D → Env → Option Env) (f : Env → XR D) : Env → SR := fun ρ => (f ρ).st fun d ρ => if d.cold = true then (if d.frz.pure = true then (match g d.frz ρ with
  | some ρ' => .nx ρ'
  | none => .no) else .no) else .no
@[simp] theorem zUn_eq (g : D → Env → Option Env) (f : Env → XR D) (ρ : Env) : zUn g f ρ = (f ρ).st fun d ρ => if d.cold = true then (if d.frz.pure = true then (match g d.frz ρ with
  | some ρ' => .nx ρ'
  | none => .no) else .no) else .no := rfl
theorem tX_frz {F H : Hp} {σ : L2.St} {ρ : Env} {d : D} {v : V} (s : Stt E F H (σ ++ [some v]) (ρ ++ [some d])) (hb : ∀ i ∈ E.bs, i < σ.length) (c : d.cold = true) : ∃ F', Ex F F' ∧ Stt E F' H σ ρ ∧ Rp E.k F' H d.frz v [] := by
  have hl : ρ.length = σ.length := by have := s.len; simpa using this
  obtain ⟨F', x, s'⟩ := s.frz ρ.length fun z => by have := hb _ z; omega
  rw [frz_top (σ := σ) c] at s'
  obtain ⟨w, A, e, r, _⟩ := s'.top hb
  cases e
  exact ⟨F', x, s'.pop hb, Rp.pure (D.frz_pure d c) (.refl _) r⟩
theorem sx_un {tg e : Expr} {f : Env → XR D} {g : D → Env → Option Env} {pos : Pos} (h : EX X E W e f) (hg : EG X E tg g) (hs : swapsWithSole [tg] e pos.line X.env = pure false := by rfl) (hw : swappedStores [tg] e X.env = pure none := by rfl)
    (h1 : (assignEach [tg] X.env).map (·.2) = [assign tg X.env] := by rfl) : SS X E W (.Assign [tg] e pos) (zUn g f) := by
  refine ⟨ps_mono (ps_asg h.pe hg.pg hs hw h1) fun Z σ H h => ?_⟩
  obtain ⟨F, ρ, s, q⟩ := h
  refine tX_st s (XRes.mono q.xst (fun d ρ1 _ q F1 H1 v fp A e1 s1 sl1 r nd u sp => ?_) fun c ρ1 z F1 H1 e1 s1 => z F1 H1 σ e1 s1)
  by_cases c : d.cold = true
  · rw [if_pos c] at q
    by_cases p : d.frz.pure = true
    · rw [if_pos p] at q
      cases eg : g d.frz ρ1 with
      | none => rw [eg] at q; exact q.elim
      | some ρ' =>
        rw [eg] at q
        obtain ⟨F2, x2, s2, r2⟩ := tX_frz sp s1.bl c
        exact ⟨F2, ρ1, d.frz, s2, p, r2, ρ', eg, fun σ' s' => q F2 H1 σ' (e1.trans x2) s'⟩
    · rw [if_neg p] at q; exact q.elim
  · rw [if_neg c] at q; exact q.elim

/-! ### lists that change -/
/-- the list in a slot, behind an expression that was held -/
def zApp (i : Nat) (f : Env → XR D) : Env → SR := fun ρ => onL i ρ fun _ => (f ρ).st fun d ρ => onL i ρ fun xs => if xs.length < 16777216 then .nx (ρ.set i (some (.lst true (xs ++ [d])))) else .no
@[simp] theorem zApp_eq (i : Nat) (f : Env → XR D) (ρ : Env) : zApp i f ρ = onL i ρ fun _ => (f ρ).st fun d ρ => onL i ρ fun xs => if xs.length < 16777216 then .nx (ρ.set i (some (.lst true (xs ++ [d])))) else .no := rfl
theorem sx_app {i : Nat} {o e : Expr} {f : Env → XR D} {apos cpos pos : Pos} (ho : PE X o (tVar i)) (h : EX X E W e f) (hs : swapsWith (.Call (.Attribute o "append" apos) [e] [] cpos) none pos.line X.env = pure false := by rfl)
    (hbase : attributeBase o "append" X.env (eval o X.env) = eval o X.env := by rfl)
    (hfew : ((backTo cpos (starEach [e] X.env)).all (fun x => !x.1) && (backToKw cpos (keywordEach [] X.env)).all (fun x => x.1.isSome)
      && decide ([e].length + ([] : List Keyword).length + (if ([] : List Keyword).isEmpty then 0 else 1) < 30)) = true := by rfl)
    (hline : (apos.endLine == cpos.line) = true := by rfl) (hst : starEach [e] X.env = (false, eval e X.env) :: starEach [] X.env := by rfl) (hplain : (backTo cpos (starEach [] X.env)).any (·.1) = false := by rfl) :
    SS X E W (.Expr (.Call (.Attribute o "append" apos) [e] [] cpos) pos) (zApp i f) := by
  refine ⟨ps_mono (ps_expr (pe_bm PySem.F.plainAttrs_list PySem.F.slot_list_append PySem.F.type_list_append mt_append ho (pa_cons h.pe pa_nil hst) hbase hfew hline hst hplain) hs) fun Z σ H h => ?_⟩
  obtain ⟨F, ρ, s, q⟩ := h
  obtain ⟨xs0, e0, q⟩ := onL_of q
  obtain ⟨fp0, sl0⟩ := s.sl
  obtain ⟨v, ev, r⟩ := sl0.rp i _ e0
  refine ⟨v, ev, ty_lst s.fh r, tX_st s (XRes.mono q.xst (fun d ρ1 _ q F1 H1 w fp A e1 s1 sl1 r1 nd u _ => ?_) fun c ρ1 z F1 H1 e1 s1 => z F1 H1 σ e1 s1)⟩
  obtain ⟨xs, ex, q⟩ := onL_of q
  by_cases hz : xs.length < 16777216
  · rw [if_pos hz] at q
    obtain ⟨l, vs, B, ev', hl, rl, Bfp, nB, wr⟩ := s1.lst sl1 ex
    rw [ev] at ev'
    cases ev'
    refine ⟨l, vs, w, rfl, rfl, hl, Nat.lt_of_lt_of_eq (by rw [← rl.len]; exact hz) sizeLine_eq.symm, q F1 _ σ e1 ?_⟩
    refine wr _ _ _ (rl.append (RpL.one r1)) (List.nodup_append.mpr ⟨nB, nd, fun a ha b hb z => ?_⟩) fun a ha => ?_
    · subst z; exact (u a hb).2 i (Bfp a ha)
    · exact (List.mem_append.mp ha).imp_right fun h => u a h
  · rw [if_neg hz] at q
    exact q.elim
def zExt (i : Nat) (f : Env → XR D) : Env → SR := fun ρ => onL i ρ fun _ => (f ρ).st fun d ρ => onL i ρ fun xs => match lstD d with
  | some ys => if xs.length + ys.length ≤ 16777216 then .nx (ρ.set i (some (.lst true (xs ++ ys)))) else .no
  | none => .no
@[simp] theorem zExt_eq (i : Nat) (f : Env → XR D) (ρ : Env) : zExt i f ρ = onL i ρ fun _ => (f ρ).st fun d ρ => onL i ρ fun xs => match lstD d with
  | some ys => if xs.length + ys.length ≤ 16777216 then .nx (ρ.set i (some (.lst true (xs ++ ys)))) else .no
  | none => .no := rfl
theorem sx_ext {i : Nat} {o e : Expr} {f : Env → XR D} {apos cpos pos : Pos} (ho : PE X o (tVar i)) (h : EX X E W e f) (hs : swapsWith (.Call (.Attribute o "extend" apos) [e] [] cpos) none pos.line X.env = pure false := by rfl)
    (hbase : attributeBase o "extend" X.env (eval o X.env) = eval o X.env := by rfl)
    (hfew : ((backTo cpos (starEach [e] X.env)).all (fun x => !x.1) && (backToKw cpos (keywordEach [] X.env)).all (fun x => x.1.isSome)
      && decide ([e].length + ([] : List Keyword).length + (if ([] : List Keyword).isEmpty then 0 else 1) < 30)) = true := by rfl)
    (hline : (apos.endLine == cpos.line) = true := by rfl) (hst : starEach [e] X.env = (false, eval e X.env) :: starEach [] X.env := by rfl) (hplain : (backTo cpos (starEach [] X.env)).any (·.1) = false := by rfl) :
    SS X E W (.Expr (.Call (.Attribute o "extend" apos) [e] [] cpos) pos) (zExt i f) := by
  refine ⟨ps_mono (ps_expr (pe_bm PySem.F.plainAttrs_list PySem.F.slot_list_extend PySem.F.type_list_extend mt_extend ho (pa_cons h.pe pa_nil hst) hbase hfew hline hst hplain) hs) fun Z σ H h => ?_⟩
  obtain ⟨F, ρ, s, q⟩ := h
  obtain ⟨xs0, e0, q⟩ := onL_of q
  obtain ⟨fp0, sl0⟩ := s.sl
  obtain ⟨v, ev, r⟩ := sl0.rp i _ e0
  refine ⟨v, ev, ty_lst s.fh r, tX_st s (XRes.mono q.xst (fun d ρ1 _ q F1 H1 w fp A e1 s1 sl1 r1 nd u _ => ?_) fun c ρ1 z F1 H1 e1 s1 => z F1 H1 σ e1 s1)⟩
  obtain ⟨xs, ex, q⟩ := onL_of q
  cases ed : lstD d with
  | none => rw [ed] at q; exact q.elim
  | some ys =>
    rw [ed] at q
    have q : SRes E W F Z (if xs.length + ys.length ≤ 16777216 then .nx (ρ1.set i (some (.lst true (xs ++ ys)))) else .no) := q
    by_cases hz : xs.length + ys.length ≤ 16777216
    · rw [if_pos hz] at q
      obtain ⟨l, vs, B, ev', hl, rl, Bfp, nB, wr⟩ := s1.lst sl1 ex
      rw [ev] at ev'
      cases ev'
      cases d with
      | lst o zs =>
        obtain ⟨p, e2⟩ := if_some (show (if D.pureL zs = true then some zs else none) = some ys from ed)
        subst e2
        obtain ⟨b, ws, C, rfl, hb, rw1⟩ := Rp.lstW s1.fh r1
        have rw0 : RpL E.k F1 H1 zs ws [] := RpL.pure p (.refl _) rw1
        refine ⟨l, b, vs, ws, rfl, rfl, hl, hb, (by rw [sizeLine_eq, ← rl.len, ← rw0.len]; exact hz), q F1 _ σ e1 ?_⟩
        exact wr _ _ _ (rl.append rw0) (by rw [List.append_nil]; exact nB) fun a ha => .inl (by rw [List.append_nil] at ha; exact ha)
      | _ => cases ed
    · rw [if_neg hz] at q; exact q.elim
/-- name[j] = e, e with an effect -/
def zSet (i : Nat) (fi : Env → R D) (f : Env → XR D) : Env → SR := fun ρ => (f ρ).st fun d ρ => onL i ρ fun xs => (fi ρ).st ρ fun j => match j with
  | .int j => match L2.ixN xs.length j with
    | some k => .nx (ρ.set i (some (.lst true (xs.set k d))))
    | none => .no
  | _ => .no
@[simp] theorem zSet_eq (i : Nat) (fi : Env → R D) (f : Env → XR D) (ρ : Env) : zSet i fi f ρ = (f ρ).st fun d ρ => onL i ρ fun xs => (fi ρ).st ρ fun j => match j with
  | .int j => match L2.ixN xs.length j with
    | some k => .nx (ρ.set i (some (.lst true (xs.set k d))))
    | none => .no
  | _ => .no := rfl
theorem sx_setL {i : Nat} {o ix e : Expr} {fi : Env → R D} {f : Env → XR D} {sp pos : Pos} (ho : PE X o (tVar i)) (h : EX X E W e f) (hx : EV X E W ix fi)
    (ha : ∀ v, assign (.Subscript o ix sp) X.env v = (do
      let ov ← holding [v] (eval o X.env)
      let iv ← holding [v, ov] (eval ix X.env)
      standAt sp
      holding [v, ov, iv] (setItem ov iv v)
      release [v, ov, iv] []) := by intro _; rfl)
    (hs : swapsWithSole [.Subscript o ix sp] e pos.line X.env = pure false := by rfl) (hw : swappedStores [.Subscript o ix sp] e X.env = pure none := by rfl)
    (h1 : (assignEach [.Subscript o ix sp] X.env).map (·.2) = [assign (.Subscript o ix sp) X.env] := by rfl) :
    SS X E W (.Assign [.Subscript o ix sp] e pos) (zSet i fi f) := by
  refine ⟨ps_mono (ps_asg h.pe (pg_sub ho hx.pe set_list ha) hs hw h1) fun Z σ H h => ?_⟩
  obtain ⟨F, ρ, s, q⟩ := h
  refine tX_st s (XRes.mono q.xst (fun d ρ1 _ q F1 H1 w fp A e1 s1 sl1 r1 nd u _ => ?_) fun c ρ1 z F1 H1 e1 s1 => z F1 H1 σ e1 s1)
  obtain ⟨xs, ex, q⟩ := onL_of q
  obtain ⟨v, ev, r⟩ := sl1.rp i _ ex
  refine ⟨v, ev, F1, ρ1, s1, Res.mono q.st (fun j _ q F2 H2 jv B t2 r2 => ?_) fun c _ z F' H' t => SRes.exc s1 (SRes.at z e1) F' H' t⟩
  cases j with
  | int j =>
    have q : SRes E W F Z (match L2.ixN xs.length j with
      | some k => .nx (ρ1.set i (some (.lst true (xs.set k d))))
      | none => .no) := q
    obtain ⟨l, vs, B, ev', hl, rl, Bfp, nB, wr⟩ := (s1.tr t2).lst (sl1.tr t2) ex
    rw [ev] at ev'
    cases ev'
    cases ek : L2.ixN xs.length j with
    | none => rw [ek] at q; exact q.elim
    | some k =>
      rw [ek] at q
      have hk := (L2.ixN_seq ek).2.1
      refine ⟨l, vs, j, k, rfl, r2.1, hl, by rw [← rl.len]; exact ek, q F2 _ σ (e1.trans t2.ff) ?_⟩
      obtain ⟨A1, A2, A3, eB, rn⟩ := rl.set (r1.tr t2) hk
      rw [eB] at nB
      refine wr _ _ _ rn ?_ fun a ha => ?_
      · have n13 : (A1 ++ A3).Nodup := by
          have := List.nodup_append.mp nB
          have h12 := List.nodup_append.mp this.1
          exact List.nodup_append.mpr ⟨h12.1, this.2.1, fun a ha b hb => this.2.2 a (List.mem_append_left _ ha) b hb⟩
        have h13 := List.nodup_append.mp n13
        refine List.nodup_append.mpr ⟨List.nodup_append.mpr ⟨h13.1, nd, fun a ha b hb z => ?_⟩, h13.2.1, fun a ha b hb z => ?_⟩
        · subst z
          exact (u a hb).2 i (Bfp a (by rw [eB]; simp [ha]))
        · rcases List.mem_append.mp ha with ha | ha
          · exact h13.2.2 a ha b hb z
          · subst z
            exact (u a ha).2 i (Bfp a (by rw [eB]; simp [hb]))
      · rcases List.mem_append.mp ha with ha | ha
        · rcases List.mem_append.mp ha with ha | ha
          · exact .inl (by rw [eB]; simp [ha])
          · exact .inr (u a ha)
        · exact .inl (by rw [eB]; simp [ha])
  | _ => exact q.elim

/-! ### for, while -/
def tXI (E : En) (W : WX) (f : Env → XR (List D)) : TI := fun σ H P => ∃ (F : Hp) (ρ : Env) (τ : L2.St) (δ : Env), Stt E F H (σ ++ τ) (ρ ++ δ) ∧ ρ.length = σ.length ∧ (∀ i ∈ E.bs, i < σ.length) ∧
  XRes (f ρ) (fun ds ρ' => ∀ F' H' J, Ex F F' → ρ'.length = σ.length → Stt E F' H' (σ ++ τ) (ρ' ++ δ) → Wk E.k J F' ds → P J H') (fun c ρ' => ∀ F' H', Ex F F' → ρ'.length = σ.length → Stt E F' H' (σ ++ τ) (ρ' ++ δ) → W (E.ec c) none σ H')
structure EXI (X : Cx) (E : En) (W : WX) (tg e : Expr) (f : Env → XR (List D)) : Prop where
  pi : PI X tg e (tXI E W f)
def xI (f : Env → R (List D)) : Env → XR (List D) := fun ρ => (f ρ).x ρ
@[simp] theorem xI_eq (f : Env → R (List D)) (ρ : Env) : xI f ρ = (f ρ).x ρ := rfl
theorem xi_i {tg e : Expr} {f : Env → R (List D)} (h : EI X E W tg e f) : EXI X E W tg e (xI f) :=
  ⟨pi_mono h.pi fun σ H P ⟨F, ρ, τ, δ, s, hl, hb, q⟩ => ⟨F, ρ, s.slots hl hb, Res.mono (XRes.x q) (fun ds _ q F' H' J t wk => q F' H' J t.ff hl (s.tr t) wk) fun c _ z F' H' t => z F' H' t.ff hl (s.tr t)⟩⟩
def xIA (g : List D → Option (List D)) (fs : Env → XR (List D)) : Env → XR (List D) := fun ρ => (fs ρ).bind fun ds ρ => XR.opt (g ds) ρ
@[simp] theorem xIA_eq (g : List D → Option (List D)) (fs : Env → XR (List D)) (ρ : Env) : xIA g fs ρ = (fs ρ).bind fun ds ρ => XR.opt (g ds) ρ := rfl
theorem xi_rng1 {tg a : Expr} {fs : Env → XR (List D)} {p pos : Pos} (hg : Gl X "range") (hm : X.mg "range" = none) (ha : EXA X E W [a] fs) (hs : starEach [a] X.env = [(false, eval a X.env)] := by rfl) : EXI X E W tg (.Call (.Name "range" p) [a] [] pos) (xIA rng1 fs) := by
  refine ⟨pi_mono (pi_range1 hg hm ha.pa hs) fun σ H P q => ?_⟩
  obtain ⟨F, ρ, τ, δ, s, hl, hb, q⟩ := q
  refine ⟨F, ρ, τ, δ, s, hl, hb, XRes.mono q.bind (fun ds ρ1 he q F1 H1 vs e1 l1 n1 s1 => ?_) fun c ρ1 z => z⟩
  obtain ⟨es, e, p⟩ := XRes.opt q
  clear he
  obtain ⟨fp, A, s2, sl2, r2, n2, u2⟩ := s1.collectX hb n1
  unfold rng1 at e
  split at e
  · obtain ⟨z, e⟩ := if_some e
    cases e
    obtain ⟨v, A, rfl, r⟩ := Vw.one r2.vw
    rw [r.1]
    exact ⟨_, rfl, by have := z.1; omega, by have := z.2; omega, p F1 H1 _ e1 l1 s2 wk_rng⟩
  · cases e
theorem xi_rng2 {tg a b : Expr} {fs : Env → XR (List D)} {p pos : Pos} (hg : Gl X "range") (hm : X.mg "range" = none) (ha : EXA X E W [a, b] fs) (hs : starEach [a, b] X.env = [(false, eval a X.env), (false, eval b X.env)] := by rfl) (hs2 : starEach [b] X.env = [(false, eval b X.env)] := by rfl) : EXI X E W tg (.Call (.Name "range" p) [a, b] [] pos) (xIA rng2 fs) := by
  refine ⟨pi_mono (pi_range2 hg hm ha.pa hs hs2) fun σ H P q => ?_⟩
  obtain ⟨F, ρ, τ, δ, s, hl, hb, q⟩ := q
  refine ⟨F, ρ, τ, δ, s, hl, hb, XRes.mono q.bind (fun ds ρ1 he q F1 H1 vs e1 l1 n1 s1 => ?_) fun c ρ1 z => z⟩
  obtain ⟨es, e, p⟩ := XRes.opt q
  clear he
  obtain ⟨fp, A, s2, sl2, r2, n2, u2⟩ := s1.collectX hb n1
  unfold rng2 at e
  split at e
  · obtain ⟨z, e⟩ := if_some e
    cases e
    obtain ⟨v, w, A, B, rfl, r, r2⟩ := Vw.two r2.vw
    rw [r.1, r2.1]
    obtain ⟨⟨z1, z2⟩, z3, z4⟩ := z
    exact ⟨_, _, rfl, ⟨by omega, by omega, by omega, by omega⟩, p F1 H1 _ e1 l1 s2 wk_rng⟩
  · cases e
/-- an own list: frozen for the walk -/
def xIO (f : Env → XR D) : Env → XR (List D) := fun ρ => (f ρ).bind fun d ρ => if d.cold = true then XR.opt (walkD d.frz) ρ else .no
@[simp] theorem xIO_eq (f : Env → XR D) (ρ : Env) : xIO f ρ = (f ρ).bind fun d ρ => if d.cold = true then XR.opt (walkD d.frz) ρ else .no := rfl
theorem xi_o {tg e : Expr} {f : Env → XR D} (hK : E.k.K = X.K) (h : EX X E W e f) : EXI X E W tg e (xIO f) := by
  refine ⟨pi_mono (pi_seq h.pe) fun σ H P q => ?_⟩
  obtain ⟨F, ρ, τ, δ, s, hl, hb, q⟩ := q
  refine ⟨F, ρ, τ, δ, s, hl, hb, XRes.mono q.bind (fun d ρ1 _ q F1 H1 v e1 l1 s1 => ?_) fun c ρ1 z => z⟩
  by_cases c : d.cold = true
  · rw [if_pos c] at q
    obtain ⟨ds, e, p⟩ := XRes.opt q
    rw [← hK]
    obtain ⟨F2, x2, s2⟩ := s1.frzTop hb c
    obtain ⟨A, r, _⟩ := s2.topX hb
    have s3 := s2.popX hb
    exact walk_seq (E := E) (Tr.refl s3.fh) (Rp.pure (D.frz_pure d c) (.refl _) r) e fun F' H' J t wk => p F' H' J ((e1.trans x2).trans t.ff) l1 (s3.tr t) wk
  · rw [if_neg c] at q
    exact q.elim
def zFor (it : Env → XR (List D)) (g : D → Env → Option Env) (b : Env → SR) : Env → SR := fun ρ => (it ρ).st fun ds ρ => forL g b ds ρ
@[simp] theorem zFor_eq (it : Env → XR (List D)) (g : D → Env → Option Env) (b : Env → SR) (ρ : Env) : zFor it g b ρ = (it ρ).st fun ds ρ => forL g b ds ρ := rfl
theorem sx_for {tg iter : Expr} {body : List Stmt} {it : Env → XR (List D)} {g : D → Env → Option Env} {b : Env → SR} {pos : Pos} (hp : PassesOwn (model X.prog X.w) X.A X.env X.xe) (hc : X.calm = true) (hi : EXI X E W tg iter it) (hg : EG X E tg g) (hb : SB X E W body b)
    (hs : ∀ x, foldedSetIterable iter X.env x = pure x := by intro _; rfl) : SS X E W (.For tg iter body [] pos) (zFor it g b) := by
  refine ⟨ps_mono (ps_for hp hc hi.pi hg.pg hb.ps hs) fun Z σ H h => ?_⟩
  obtain ⟨F, ρ, s, q⟩ := h
  refine ⟨F, ρ, [], [], by simpa using s, s.len, s.bl, XRes.mono q.xst (fun ds ρ1 _ q F1 H1 J e1 l1 s1 wk => ?_) fun c ρ1 z F1 H1 e1 l1 s1 => z F1 H1 σ e1 (by simpa using s1)⟩
  simp only [List.append_nil] at s1
  refine ⟨fun i m σ' H' => ∃ F' ρ', Ex F1 F' ∧ Stt E F' H' σ' ρ' ∧ i ≤ ds.length ∧ m = ds.length - i ∧ SRes E W F' Z (forL g b (ds.drop i) ρ'), ⟨_, F1, ρ1, .refl _, s1, Nat.zero_le _, rfl, SRes.at q e1⟩, ?_⟩
  rintro i m σ' H' ⟨F', ρ', x, s', hi, rfl, q'⟩
  by_cases hlt : i < ds.length
  · have ed : ds.drop i = ds[i] :: ds.drop (i + 1) := List.drop_eq_getElem_cons hlt
    rw [ed, forL_cons] at q'
    refine .inr ⟨wk.go i hlt F' H' x s'.fh, fun σ2 H2 => ∃ F2 ρ2, Ex F1 F2 ∧ Stt E F2 H2 σ2 ρ2 ∧ SRes E W F2 Z (forL g b (ds.drop (i + 1)) ρ2), ?_, fun v H2 y => ?_⟩
    · rintro σ2 H2 ⟨F2, ρ2, x2, s2, q2⟩
      exact ⟨_, by omega, F2, ρ2, x2, s2, hlt, rfl, q2⟩
    · obtain ⟨pd, F2, t2, r2⟩ := wk.yld i ds[i] (List.getElem?_eq_getElem hlt) F' H' v H2 x s'.fh y
      cases eg : g ds[i] ρ' with
      | none => rw [eg] at q'; exact q'.elim
      | some ρ1 =>
        rw [eg] at q'
        refine ⟨F2, ρ', ds[i], s'.tr t2, pd, r2, ρ1, eg, fun σ3 s3 => ⟨F2, ρ1, s3, ?_⟩⟩
        have x12 := x.trans t2.ff
        have q' : SRes E W F' Z (match b ρ1 with
          | .nx ρ2 => forL g b (ds.drop (i + 1)) ρ2
          | .ct ρ2 => forL g b (ds.drop (i + 1)) ρ2
          | .bk ρ2 => .nx ρ2
          | r => r) := q'
        cases eb : b ρ1 with
        | no => rw [eb] at q'; exact q'
        | nx ρ2 => rw [eb] at q'; exact fun F4 H4 σ4 x4 s4 => ⟨F4, ρ2, x12.trans x4, s4, SRes.at q' (t2.ff.trans x4)⟩
        | ct ρ2 => rw [eb] at q'; exact fun F4 H4 σ4 x4 s4 => ⟨F4, ρ2, x12.trans x4, s4, SRes.at q' (t2.ff.trans x4)⟩
        | bk ρ2 => rw [eb] at q'; exact fun F4 H4 σ4 x4 s4 => q' F4 H4 σ4 (t2.ff.trans x4) s4
        | rt d ρ2 => rw [eb] at q'; exact q'
        | ex c ρ2 => rw [eb] at q'; exact fun F4 H4 σ4 x4 s4 => q' F4 H4 σ4 (t2.ff.trans x4) s4
  · have e : i = ds.length := by omega
    subst e
    rw [List.drop_length, forL_nil] at q'
    exact .inl ⟨wk.stop F' H' x s'.fh, q' F' H' σ' (.refl _) s'⟩
end
end Dv
end
section
set_option maxRecDepth 100000
set_option maxHeartbeats 1000000
namespace Dv
open PySem PySem.Spec PyProof.Rows L2
/-! ## comprehensions over expressions with an effect -/
section
variable {X : Cx} {E : En} {W : WX}
theorem set_app {α : Type} {σ τ : List α} {i : Nat} {x : α} (h : i < σ.length) : (σ ++ τ).set i x = σ.set i x ++ τ := by rw [List.set_append_left (h := h)]
theorem Stt.unsetX {F H : Hp} {σ τ : L2.St} {ρ δ : Env} {i : Nat} (s : Stt E F H (σ ++ τ) (ρ ++ δ)) (hl : ρ.length = σ.length) (hb : i ∉ E.bs) : Stt E F H (σ.set i none ++ τ) (ρ.set i none ++ δ) := by
  by_cases h : i < σ.length
  · have := s.unset hb
    rwa [set_app h, set_app (by omega)] at this
  · rw [List.set_eq_of_length_le (by omega), List.set_eq_of_length_le (by omega)]
    exact s
theorem wipeE_len (ρ : Env) : ∀ vs : List Nat, (wipeE ρ vs).length = ρ.length
  | [] => rfl
  | v :: vs => by rw [wipeE_cons, List.length_set, wipeE_len ρ vs]
theorem Stt.wipeX {F H : Hp} {σ τ : L2.St} {ρ δ : Env} (s : Stt E F H (σ ++ τ) (ρ ++ δ)) (hl : ρ.length = σ.length) : ∀ {vs : List Nat}, (∀ v ∈ vs, v ∉ E.bs) → Stt E F H (L2.wipe σ vs ++ τ) (wipeE ρ vs ++ δ)
  | [], _ => s
  | v :: vs, h => (Stt.wipeX s hl fun v hv => h v (List.mem_cons_of_mem _ hv)).unsetX (by rw [wipeE_len, wipe_length, hl]) (h v List.mem_cons_self)
theorem Stt.setX {F H F' H' : Hp} {σ τ : L2.St} {ρ δ : Env} {i : Nat} {d : D} {v : V} {A : List Addr} (s : Stt E F H (σ ++ τ) (ρ ++ δ)) (hl : ρ.length = σ.length) (t : Tr F H F' H') (r : Rp E.k F' H' d v A) (nd : A.Nodup) (u : ∀ a ∈ A, H a = none) (hb : i ∉ E.bs) : Stt E F' H' (σ.set i (some v) ++ τ) (ρ.set i (some d) ++ δ) := by
  by_cases h : i < σ.length
  · have := s.set t r nd u hb
    rwa [set_app h, set_app (by omega)] at this
  · rw [List.set_eq_of_length_le (by omega), List.set_eq_of_length_le (by omega)]
    exact s.tr t
theorem Stt.popA {F H : Hp} {σ τ : L2.St} {ρ δ : Env} {v : V} {d : D} (s : Stt E F H (σ ++ (τ ++ [some v])) (ρ ++ (δ ++ [some d]))) (hb : ∀ i ∈ E.bs, i < σ.length) :
    ∃ fp A, Stt E F H (σ ++ τ) (ρ ++ δ) ∧ Sl E F H (σ ++ τ) (ρ ++ δ) fp ∧ Rp E.k F H d v A ∧ A.Nodup ∧ ∀ a ∈ A, E.He a = none ∧ ∀ j, a ∉ fp j := by
  rw [← List.append_assoc, ← List.append_assoc] at s
  obtain ⟨fp, sl⟩ := s.sl
  obtain ⟨s2, sl2, h2, n2, u2⟩ := s.pop' sl (blt hb)
  obtain ⟨v', e, r⟩ := h2 d rfl
  cases e
  exact ⟨_, _, s2, sl2, r, n2, u2⟩
/-! targets -/
def tGX (E : En) (g : D → Env → Option Env) (vs : List Nat) : TG := fun v σ H Q => ∃ (F : Hp) (ρ : Env) (τ : L2.St) (δ : Env) (d : D), Stt E F H (σ ++ τ) (ρ ++ δ) ∧ ρ.length = σ.length ∧ d.pure = true ∧ Rp E.k F H d v [] ∧ ∃ ρ', g d ρ = some ρ' ∧ ∀ σ', ρ'.length = σ'.length → σ'.length = σ.length → Stt E F H (σ' ++ τ) (ρ' ++ δ) → L2.wipe σ' vs = L2.wipe σ vs → Q σ' H
def tGsX (E : En) (g : List D → Env → Option Env) (vs : List Nat) : TGs := fun ws σ H Q => ∃ (F : Hp) (ρ : Env) (τ : L2.St) (δ : Env) (ds : List D), Stt E F H (σ ++ τ) (ρ ++ δ) ∧ ρ.length = σ.length ∧ D.pureL ds = true ∧ RpL E.k F H ds ws [] ∧ ∃ ρ', g ds ρ = some ρ' ∧ ∀ σ', ρ'.length = σ'.length → σ'.length = σ.length → Stt E F H (σ' ++ τ) (ρ' ++ δ) → L2.wipe σ' vs = L2.wipe σ vs → Q σ' H
structure EGX (X : Cx) (E : En) (vs : List Nat) (e : Expr) (g : D → Env → Option Env) : Prop where
  pg : PG X e (tGX E g vs)
structure EGsX (X : Cx) (E : En) (vs : List Nat) (es : List Expr) (g : List D → Env → Option Env) : Prop where
  pg : PGs X es (tGsX E g vs)
section
variable {vs : List Nat}
theorem egx_name {i : Nat} {x : Str} {pos : Pos} (hv : i ∈ vs) (hN : X.N.Nodup) (hi : X.N[i]? = some x) (hx : Loc X.env.scope x) (hb : i ∉ E.bs) (hf : X.fn x = true ∨ X.env.scope.names.lookup x = some .local := by first | exact .inl rfl | exact .inr rfl | assumption) : EGX X E vs (.Name x pos) (gNm i) := by
  refine ⟨pg_mono (pg_name hN hi hx hf) fun v σ H Q h => ?_⟩
  obtain ⟨F, ρ, τ, δ, d, s, hl, p, r, ρ', e, q⟩ := h
  cases e
  exact q _ (by rw [List.length_set, List.length_set, hl]) (by rw [List.length_set]) (s.setX hl (Tr.refl s.fh) r .nil (fun _ z => nomatch z) hb) (wipe_set hv)
theorem egsx_nil : EGsX X E vs [] gsNil := by
  refine ⟨pgs_mono pgs_nil fun vs σ H Q h => ?_⟩
  obtain ⟨F, ρ, τ, δ, ds, s, hl, p, r, ρ', e, q⟩ := h
  cases ds with
  | nil => cases e; exact ⟨r.1, q σ hl rfl s rfl⟩
  | cons d ds => cases e
theorem egsx_cons {e : Expr} {es : List Expr} {g : D → Env → Option Env} {gs : List D → Env → Option Env} (h1 : EGX X E vs e g) (h2 : EGsX X E vs es gs)
    (hs : (assignEach (e :: es) X.env).map (·.2) = assign e X.env :: (assignEach es X.env).map (·.2) := by rfl) : EGsX X E vs (e :: es) (gsCons g gs) := by
  refine ⟨pgs_mono (pgs_cons h1.pg h2.pg hs) fun ws σ H Q h => ?_⟩
  obtain ⟨F, ρ, τ, δ, ds, s, hl, p, r, ρ', e, q⟩ := h
  cases ds with
  | nil => cases e
  | cons d ds =>
    obtain ⟨v, ws, B, C, e1, e2, r1, r2⟩ := r
    obtain ⟨rfl, rfl⟩ := List.append_eq_nil_iff.mp e2.symm
    have p' : d.pure = true ∧ D.pureL ds = true := by simpa [D.pureL] using p
    rw [gsCons_cons] at e
    cases eg : g d ρ with
    | none => rw [eg] at e; cases e
    | some ρ1 =>
      rw [eg] at e
      exact ⟨v, ws, e1, F, ρ, τ, δ, d, s, hl, p'.1, r1, ρ1, eg, fun σ' l1 l2 s' w' => ⟨F, ρ1, τ, δ, ds, s', l1, p'.2, r2, ρ', e, fun σ2 l3 l4 s2 w2 => q σ2 l3 (l4.trans l2) s2 (w2.trans w')⟩⟩
theorem egx_tup {es : List Expr} {k : Nat} {gs : List D → Env → Option Env} {pos : Pos} (hK : E.k.K = X.K) (hc : X.calm = true) (h : EGsX X E vs es gs) (n : Nat) (hlen : ∀ ds ρ ρ', gs ds ρ = some ρ' → ds.length = n)
    (hn : (assignEach es X.env).length = n := by rfl) (hst : (assignEach es X.env).findIdx? (·.1) = none := by rfl) : EGX X E vs (.Tuple es k pos) (gTp gs) := by
  refine ⟨pg_mono (pg_tup hc h.pg hn hst) fun v σ H Q h => ?_⟩
  obtain ⟨F, ρ, τ, δ, d, s, hl, p, r, ρ', e, q⟩ := h
  cases d with
  | tup ds =>
    obtain ⟨a, vs, rfl, s1, r⟩ := r
    exact ⟨a, vs, rfl, by rw [← hK]; exact ex_t s.fh s1, by rw [← r.len]; exact hlen ds ρ ρ' e, F, ρ, τ, δ, ds, s, hl, p, r, ρ', e, q⟩
  | _ => cases e
end
/-! tests of a clause -/
structure EXTs (X : Cx) (E : En) (W : WX) (ifs : List Expr) (f : Env → XR Bool) : Prop where
  pt : PTs X ifs (tXT E W f)
def xYes : Env → XR Bool := fun ρ => .ok true ρ
@[simp] theorem xYes_eq (ρ : Env) : xYes ρ = .ok true ρ := rfl
theorem xts_nil : EXTs X E W [] xYes := ⟨pts_mono pts_nil fun σ H Q ⟨F, ρ, τ, δ, s, hl, hb, q⟩ => q F H (.refl _) hl s⟩
theorem xts_one {e : Expr} {f : Env → XR Bool} (h : EXT X E W e f) : EXTs X E W [e] f := ⟨pts_one h.pt⟩
/-! the list under way -/
def xlcL (g : D → Env → Option Env) (t : Env → XR Bool) (f : Env → XR D) (vs : List Nat) : List D → List D → Env → XR D
  | [], acc, ρ => .ok (.lst true acc) ρ
  | d :: ds, acc, ρ => match g d ρ with
    | none => .no
    | some ρ1 => match t ρ1 with
      | .ok true ρ2 => match f ρ2 with
        | .ok y ρ3 => if acc.length < 16777216 then xlcL g t f vs ds (acc ++ [y]) (wipeE ρ3 vs) else .no
        | _ => .no
      | .ok false ρ2 => xlcL g t f vs ds acc (wipeE ρ2 vs)
      | _ => .no
theorem xlcL_nil (g : D → Env → Option Env) (t : Env → XR Bool) (f : Env → XR D) (vs : List Nat) (acc : List D) (ρ : Env) : xlcL g t f vs [] acc ρ = .ok (.lst true acc) ρ := rfl
theorem xlcL_cons (g : D → Env → Option Env) (t : Env → XR Bool) (f : Env → XR D) (vs : List Nat) (d : D) (ds acc : List D) (ρ : Env) : xlcL g t f vs (d :: ds) acc ρ = match g d ρ with
    | none => .no
    | some ρ1 => match t ρ1 with
      | .ok true ρ2 => match f ρ2 with
        | .ok y ρ3 => if acc.length < 16777216 then xlcL g t f vs ds (acc ++ [y]) (wipeE ρ3 vs) else .no
        | _ => .no
      | .ok false ρ2 => xlcL g t f vs ds acc (wipeE ρ2 vs)
      | _ => .no := rfl
/-- the block's own names get back what they had -/
def restE (ρ0 : Env) : List Nat → Env → Env
  | [], ρ => ρ
  | v :: vs, ρ => (restE ρ0 vs ρ).set v (ρ0[v]?.getD none)
@[simp] theorem restE_nil (ρ0 ρ : Env) : restE ρ0 [] ρ = ρ := rfl
@[simp] theorem restE_cons (ρ0 : Env) (v : Nat) (vs : List Nat) (ρ : Env) : restE ρ0 (v :: vs) ρ = (restE ρ0 vs ρ).set v (ρ0[v]?.getD none) := rfl
theorem restE_len (ρ0 : Env) : ∀ (vs : List Nat) (ρ : Env), (restE ρ0 vs ρ).length = ρ.length
  | [], _ => rfl
  | v :: vs, ρ => by rw [restE_cons, List.length_set, restE_len]
theorem restE_out (ρ0 : Env) : ∀ {vs : List Nat} {ρ : Env} {j : Nat}, j ∉ vs → (restE ρ0 vs ρ)[j]? = ρ[j]?
  | [], _, _, _ => rfl
  | v :: vs, ρ, j, h => by
    rw [restE_cons, List.getElem?_set_ne (fun z => h (by rw [z]; exact List.mem_cons_self))]
    exact restE_out ρ0 fun z => h (List.mem_cons_of_mem _ z)
theorem restE_in (ρ0 : Env) : ∀ {vs : List Nat} {ρ : Env} {j : Nat}, j ∈ vs → (restE ρ0 vs ρ)[j]?.getD none = if j < ρ.length then ρ0[j]?.getD none else none
  | v :: vs, ρ, j, h => by
    rw [restE_cons]
    by_cases q : v = j
    · subst q
      by_cases hj : v < ρ.length
      · rw [List.getElem?_set_self (by rw [restE_len]; exact hj), if_pos hj]; rfl
      · rw [List.getElem?_eq_none (by rw [List.length_set, restE_len]; omega), if_neg hj]; rfl
    · rw [List.getElem?_set_ne q]
      exact restE_in ρ0 ((List.mem_cons.mp h).resolve_left fun z => q z.symm)
def pureO : Option D → Bool
  | some d => d.pure
  | none => true
@[simp] theorem pureO_none : pureO none = true := rfl
@[simp] theorem pureO_some (d : D) : pureO (some d) = d.pure := rfl
def xLc (it : Env → XR (List D)) (g : D → Env → Option Env) (t : Env → XR Bool) (f : Env → XR D) (vs : List Nat) : Env → XR D := fun ρ => (it ρ).bind fun ds ρ0 => if vs.all (fun v => pureO (ρ0[v]?.getD none)) = true then (xlcL g t f vs ds [] (wipeE ρ0 vs)).bind fun d ρ => .ok d (restE ρ0 vs ρ) else .no
@[simp] theorem xLc_eq (it : Env → XR (List D)) (g : D → Env → Option Env) (t : Env → XR Bool) (f : Env → XR D) (vs : List Nat) (ρ : Env) : xLc it g t f vs ρ = (it ρ).bind fun ds ρ0 => if vs.all (fun v => pureO (ρ0[v]?.getD none)) = true then (xlcL g t f vs ds [] (wipeE ρ0 vs)).bind fun d ρ => .ok d (restE ρ0 vs ρ) else .no := rfl
theorem wipe_at {σ : L2.St} {vs : List Nat} {j : Nat} (h : j ∉ vs) : (L2.wipe σ vs)[j]? = σ[j]? := wipe_out h
/-- the names come back -/
theorem Stt.unwipe {F H F0 : Hp} {σ τ : L2.St} {ρ ρ0 δ : Env} {vs : List Nat} (hb : ∀ v ∈ vs, v ∉ E.bs) (hl : ρ.length = σ.length) (s : Stt E F H (L2.wipe σ vs ++ τ) (ρ ++ δ))
    (k : ∀ j d, j ∈ vs → j < ρ.length → ρ0[j]?.getD none = some d → d.pure = true ∧ ∃ u, σ[j]? = some (some u) ∧ Rp E.k F H d u []) : Stt E F H (σ ++ τ) (restE ρ0 vs ρ ++ δ) := by
  obtain ⟨fp, sl⟩ := s.sl
  have lw : (L2.wipe σ vs).length = σ.length := wipe_length _ _
  have at' : ∀ j, j ∉ vs ∨ ¬ j < ρ.length → (restE ρ0 vs ρ ++ δ)[j]? = (ρ ++ δ)[j]? := fun j h => by
    by_cases q : j < ρ.length
    · rw [List.getElem?_append_left (by rw [restE_len]; exact q), List.getElem?_append_left q, restE_out ρ0 (h.resolve_right fun z => z q)]
    · rw [List.getElem?_append_right (by rw [restE_len]; omega), List.getElem?_append_right (by omega), restE_len]
  have as' : ∀ j, j ∉ vs ∨ ¬ j < ρ.length → (σ ++ τ)[j]? = (L2.wipe σ vs ++ τ)[j]? := fun j h => by
    by_cases q : j < σ.length
    · rw [List.getElem?_append_left q, List.getElem?_append_left (by omega), wipe_at (h.resolve_right fun z => z (by omega))]
    · rw [List.getElem?_append_right (by omega), List.getElem?_append_right (by omega), lw]
  refine ⟨s.e0, s.fh, s.fr, s.st, s.bt, by have := s.len; rw [List.length_append, List.length_append, lw] at this; rw [List.length_append, List.length_append, restE_len]; exact this, fun j hj => ?_, fun j => if j ∈ vs ∧ j < ρ.length then [] else fp j, fun j d e => ?_, fun j e => ?_, fun j => ?_, fun j j' a ha ha' => ?_, fun j a ha => ?_⟩
  · obtain ⟨h1, h2⟩ := s.bv j hj
    rw [as' j (.inl fun z => hb j z hj)]
    exact ⟨by rw [List.length_append, lw] at h1; rw [List.length_append]; exact h1, h2⟩
  · show ∃ v, _ ∧ Rp E.k F H d v (if j ∈ vs ∧ j < ρ.length then [] else fp j)
    by_cases q : j ∈ vs ∧ j < ρ.length
    · rw [if_pos q]
      rw [List.getElem?_append_left (by rw [restE_len]; exact q.2)] at e
      have e2 := restE_in ρ0 (ρ := ρ) q.1
      rw [e, if_pos q.2] at e2
      obtain ⟨_, u, h1, h2⟩ := k j d q.1 q.2 e2.symm
      exact ⟨u, by rw [List.getElem?_append_left (by omega)]; exact h1, h2⟩
    · have q' : j ∉ vs ∨ ¬ j < ρ.length := by
        by_cases z : j ∈ vs
        · exact .inr fun y => q ⟨z, y⟩
        · exact .inl z
      rw [if_neg q, as' j q']
      rw [at' j q'] at e
      exact sl.rp j d e
  · show (if j ∈ vs ∧ j < ρ.length then [] else fp j) = []
    by_cases q : j ∈ vs ∧ j < ρ.length
    · rw [if_pos q]
    · have q' : j ∉ vs ∨ ¬ j < ρ.length := by
        by_cases z : j ∈ vs
        · exact .inr fun y => q ⟨z, y⟩
        · exact .inl z
      rw [if_neg q]
      rw [at' j q'] at e
      exact sl.em j e
  · show (if j ∈ vs ∧ j < ρ.length then [] else fp j).Nodup
    split
    · exact .nil
    · exact sl.nd j
  · have ha : a ∈ (if j ∈ vs ∧ j < ρ.length then [] else fp j) := ha
    have ha' : a ∈ (if j' ∈ vs ∧ j' < ρ.length then [] else fp j') := ha'
    split at ha
    · cases ha
    · split at ha'
      · cases ha'
      · exact sl.dj j j' a ha ha'
  · have ha : a ∈ (if j ∈ vs ∧ j < ρ.length then [] else fp j) := ha
    split at ha
    · cases ha
    · exact sl.nw j a ha
theorem wipe_lenE {σ σ' : L2.St} {vs : List Nat} (h : L2.wipe σ' vs = L2.wipe σ vs) : σ'.length = σ.length := by
  have := congrArg List.length h
  rwa [wipe_length, wipe_length] at this
theorem xlc_imp {it : Env → XR (List D)} {g : D → Env → Option Env} {t : Env → XR Bool} {f : Env → XR D} {vs : List Nat} (hb : ∀ v ∈ vs, v ∉ E.bs) {σ : L2.St} {H : Hp} {Q : VK} (h : tX E W (xLc it g t f vs) σ H Q) :
    tLc (tXI E W it) (tGX E g vs) (tXT E WN t) (tX E WN f) vs σ H Q := by
  obtain ⟨F, ρ, τ, δ, s, hl, hbs, q⟩ := h
  refine ⟨F, ρ, τ, δ, s, hl, hbs, XRes.mono q.bind (fun ds ρ0 _ q F1 H1 J e1 l1 s1 wk p hp => ?_) fun c ρ1 z => z⟩
  by_cases hpu : vs.all (fun v => pureO (ρ0[v]?.getD none)) = true
  · rw [if_pos hpu] at q
    have lw : (L2.wipe σ vs).length = σ.length := wipe_length _ _
    -- what the names held
    have held : ∀ j d, j ∈ vs → j < ρ0.length → ρ0[j]?.getD none = some d → d.pure = true ∧ ∃ u, σ[j]? = some (some u) ∧ Rp E.k F1 H1 d u [] := fun j d hj lj e => by
      have pd : d.pure = true := by have := List.all_eq_true.mp hpu j hj; rw [e] at this; exact this
      obtain ⟨u, A, eu, r⟩ := s1.slotX l1 (some_some e)
      exact ⟨pd, u, eu, Rp.pure pd (.refl _) r⟩
    have s2 := s1.wipeX l1 hb
    have s3 := s2.pushX (d := .lst true []) (v := .ref p) (A := [p]) (tr_new s2.fh hp) (by
      have hf : F1 p = none := by
        cases q : F1 p with
        | none => rfl
        | some u => rw [s2.fh p u q] at hp; cases hp
      exact ⟨p, [], [], rfl, ⟨rfl, rfl⟩, (fun z => nomatch z), fun _ => ⟨rfl, hf, upd_same⟩⟩) (by simp) fun a ha => by rw [List.mem_singleton.mp ha]; exact hp
    refine ⟨fun i m H' => ∃ F' ρ' acc, Ex F1 F' ∧ ρ'.length = σ.length ∧ Stt E F' H' (L2.wipe σ vs ++ (τ ++ [some (.ref p)])) (ρ' ++ (δ ++ [some (.lst true acc)])) ∧ i ≤ ds.length ∧ m = ds.length - i ∧
      XRes ((xlcL g t f vs (ds.drop i) acc ρ').bind fun d ρ => .ok d (restE ρ0 vs ρ)) (fun d ρ' => ∀ F' H' v, Ex F F' → ρ'.length = σ.length → Stt E F' H' (σ ++ (τ ++ [some v])) (ρ' ++ (δ ++ [some d])) → Q v H') (fun c ρ' => ∀ F' H', Ex F F' → ρ'.length = σ.length → Stt E F' H' (σ ++ τ) (ρ' ++ δ) → W (E.ec c) none σ H'),
      ⟨_, F1, wipeE ρ0 vs, [], .refl _, by rw [wipeE_len, l1], s3, Nat.zero_le _, rfl, q⟩, ?_⟩
    rintro i m H' ⟨F', ρ', acc, x', l', s', hi, rfl, q'⟩
    by_cases hlt : i < ds.length
    · have ed : ds.drop i = ds[i] :: ds.drop (i + 1) := List.drop_eq_getElem_cons hlt
      rw [ed, xlcL_cons] at q'
      refine .inr ⟨wk.go i hlt F' H' x' s'.fh, fun H2 => ∃ F2 ρ2 acc2, Ex F1 F2 ∧ ρ2.length = σ.length ∧ Stt E F2 H2 (L2.wipe σ vs ++ (τ ++ [some (.ref p)])) (ρ2 ++ (δ ++ [some (.lst true acc2)])) ∧
        XRes ((xlcL g t f vs (ds.drop (i + 1)) acc2 ρ2).bind fun d ρ => .ok d (restE ρ0 vs ρ)) (fun d ρ' => ∀ F' H' v, Ex F F' → ρ'.length = σ.length → Stt E F' H' (σ ++ (τ ++ [some v])) (ρ' ++ (δ ++ [some d])) → Q v H') (fun c ρ' => ∀ F' H', Ex F F' → ρ'.length = σ.length → Stt E F' H' (σ ++ τ) (ρ' ++ δ) → W (E.ec c) none σ H'), ?_, fun v H2 y => ?_⟩
      · rintro H2 ⟨F2, ρ2, acc2, x2, l2, s2, q2⟩
        exact ⟨_, by omega, F2, ρ2, acc2, x2, l2, s2, hlt, rfl, q2⟩
      · obtain ⟨pd, F2, t2, r2⟩ := wk.yld i ds[i] (List.getElem?_eq_getElem hlt) F' H' v H2 x' s'.fh y
        cases eg : g ds[i] ρ' with
        | none => rw [eg] at q'; exact q'.elim
        | some ρ1 =>
          rw [eg] at q'
          refine ⟨F2, ρ', _, _, ds[i], s'.tr t2, by rw [lw]; exact l', pd, r2, ρ1, eg, fun σ3 l3 l3' s4 w3 => ⟨w3.trans wipe_wipe, ?_⟩⟩
          have w3' : L2.wipe σ3 vs = L2.wipe σ vs := w3.trans wipe_wipe
          have l3'' : σ3.length = σ.length := by rw [l3', lw]
          have hbs3 : ∀ i ∈ E.bs, i < σ3.length := fun i hi => by rw [l3'']; exact hbs i hi
          have x12 := x'.trans t2.ff
          refine ⟨F2, ρ1, _, _, s4, l3, hbs3, ?_⟩
          cases et : t ρ1 with
          | no => simp only [et] at q'; exact q'.elim
          | ex c ρ2 => simp only [et] at q'; exact q'.elim
          | ok b ρ2 =>
            simp only [et] at q'
            show ∀ F' H', Ex F2 F' → _
            intro F3 H3 e3 l4 s5
            cases b with
            | false =>
              rw [if_neg Bool.false_ne_true]
              have s6 := s5.wipeX l4 hb
              rw [w3'] at s6
              exact ⟨F3, wipeE ρ2 vs, acc, x12.trans e3, by rw [wipeE_len, l4, l3''], s6, q'⟩
            | true =>
              rw [if_pos rfl]
              refine ⟨F3, ρ2, _, _, s5, l4, hbs3, ?_⟩
              cases ef : f ρ2 with
              | no => simp only [ef] at q'; exact q'.elim
              | ex c ρ3 => simp only [ef] at q'; exact q'.elim
              | ok y3 ρ3 =>
                simp only [ef] at q'
                show ∀ F' H' v, Ex F3 F' → _
                intro F4 H4 yv e4 l5 s6
                by_cases hz : acc.length < 16777216
                · rw [if_pos hz] at q'
                  obtain ⟨fp7, A7, s7, sl7, r7, n7, u7⟩ := s6.popA hbs3
                  have dl : δ.length = τ.length := by have := s.len; rw [List.length_append, List.length_append] at this; omega
                  have eix : (ρ3 ++ (δ ++ [some (D.lst true acc)]))[ρ3.length + δ.length]? = some (some (.lst true acc)) := by
                    rw [← List.append_assoc, List.getElem?_append_right (by rw [List.length_append]; omega), List.length_append, Nat.sub_self]; rfl
                  obtain ⟨l, ws, B, ev', hl', rl, Bfp, nB, wr⟩ := s7.lst sl7 eix
                  have el : l = p := by
                    rw [← List.append_assoc, show ρ3.length + δ.length = (σ3 ++ τ).length by rw [List.length_append]; omega, List.getElem?_append_right (Nat.le_refl _), Nat.sub_self] at ev'
                    simpa using ev'.symm
                  subst el
                  refine ⟨ws, hl', Nat.lt_of_lt_of_eq (by rw [← rl.len]; exact hz) sizeLine_eq.symm, F4, wipeE ρ3 vs, acc ++ [y3], (x12.trans e3).trans e4, by rw [wipeE_len, l5, l3''], ?_, q'⟩
                  have s8 := wr (acc ++ [y3]) (ws ++ [yv]) _ (rl.append (RpL.one r7)) (List.nodup_append.mpr ⟨nB, n7, fun a ha b hb' z => by subst z; exact (u7 a hb').2 _ (Bfp a ha)⟩) fun a ha => (List.mem_append.mp ha).imp_right fun h => u7 a h
                  have es : (ρ3 ++ (δ ++ [some (D.lst true acc)])).set (ρ3.length + δ.length) (some (.lst true (acc ++ [y3]))) = ρ3 ++ (δ ++ [some (.lst true (acc ++ [y3]))]) := by
                    rw [← List.append_assoc, List.set_append_right (h := by rw [List.length_append]; omega), List.length_append, Nat.sub_self, List.append_assoc]; rfl
                  rw [es] at s8
                  have s9 := s8.wipeX l5 hb
                  rw [w3'] at s9
                  exact s9
                · rw [if_neg hz] at q'; exact q'.elim
    · have e : i = ds.length := by omega
      subst e
      rw [List.drop_length, xlcL_nil] at q'
      refine .inl ⟨wk.stop F' H' x' s'.fh, ?_⟩
      refine q' F' H' (.ref p) (e1.trans x') (by rw [restE_len]; exact l') (Stt.unwipe (F0 := F') hb l' s' fun j d hj lj e => ?_)
      obtain ⟨pd, u, eu, r⟩ := held j d hj (by omega) e
      exact ⟨pd, u, eu, Rp.pure pd x' r⟩
  · rw [if_neg hpu] at q; exact q.elim
theorem xe_lc {elt tg iter : Expr} {ifs : List Expr} {scope : Scope} {own : List (Str × Nat)} {pos : Pos} {it : Env → XR (List D)} {g : D → Env → Option Env} {t : Env → XR Bool} {f : Env → XR D} (hc : X.calm = true) (hN : X.N.Nodup) (hi : EXI X E W tg iter it) (ok : blkC X.N X.env.scope scope own = true)
    (hg : ∀ (s : Shared) (H : Hp) (C : Addr) (cl : List (Str × Addr)) (fp : List Addr), EGX (X.blk s H scope (compEnvC scope cl C X.env) fp) E (own.map (·.2)) tg g) (ht : ∀ (s : Shared) (H : Hp) (C : Addr) (cl : List (Str × Addr)) (fp : List Addr) (tk : Takes (X.blk s H scope (compEnvC scope cl C X.env) fp) WN), EXTs (X.blk s H scope (compEnvC scope cl C X.env) fp) E WN ifs t)
    (he : ∀ (s : Shared) (H : Hp) (C : Addr) (cl : List (Str × Addr)) (fp : List Addr) (tk : Takes (X.blk s H scope (compEnvC scope cl C X.env) fp) WN), EX (X.blk s H scope (compEnvC scope cl C X.env) fp) E WN elt f) (hb : ∀ v ∈ own.map (·.2), v ∉ E.bs) (hs : ∀ x, foldedSetIterable iter X.env x = pure x := by intro _; rfl) :
    EX X E W (.ListComp elt [⟨tg, iter, ifs, 0⟩] scope pos) (xLc it g t f (own.map (·.2))) :=
  ⟨pe_mono (pe_lc hc hN hi.pi (blkOk_by ok) (fun s H C cl fp => (hg s H C cl fp).pg) (fun s H C cl fp => (ht s H C cl fp takes_no).pt) (fun s H C cl fp => (he s H C cl fp takes_no).pe) hs) fun σ H Q h => xlc_imp hb h⟩
theorem sx_setLc {i : Nat} {y : Str} {py : Pos} {elt tg iter : Expr} {ifs : List Expr} {scope : Scope} {own : List (Str × Nat)} {pos spos : Pos} {it : Env → XR (List D)} {g : D → Env → Option Env} {t : Env → XR Bool} {f : Env → XR D} (hc : X.calm = true) (hN : X.N.Nodup) (hy : X.N[i]? = some y) (hyl : X.env.scope.names.lookup y = some .local) (hyb : i ∉ E.bs)
    (hk : X.env.scope.kind = .function) (hl : (py.line == pos.line) = true) (hsp : (pos.line == spos.line) = true) (ha : (scope.names.any fun (n, k) => n == y && (k == .local || k == .cell)) = false)
    (hi : EXI X E W tg iter it) (ok : blkC X.N X.env.scope scope own = true)
    (hg : ∀ (s : Shared) (H : Hp) (C : Addr) (cl : List (Str × Addr)) (fp : List Addr), EGX (X.blk s H scope (compEnvC scope cl C X.env) fp) E (own.map (·.2)) tg g) (ht : ∀ (s : Shared) (H : Hp) (C : Addr) (cl : List (Str × Addr)) (fp : List Addr) (tk : Takes (X.blk s H scope (compEnvC scope cl C X.env) fp) WN), EXTs (X.blk s H scope (compEnvC scope cl C X.env) fp) E WN ifs t)
    (he : ∀ (s : Shared) (H : Hp) (C : Addr) (cl : List (Str × Addr)) (fp : List Addr) (tk : Takes (X.blk s H scope (compEnvC scope cl C X.env) fp) WN), EX (X.blk s H scope (compEnvC scope cl C X.env) fp) E WN elt f) (hb : ∀ v ∈ own.map (·.2), v ∉ E.bs) (hs : ∀ x, foldedSetIterable iter X.env x = pure x := by intro _; rfl) :
    SS X E W (.Assign [.Name y py] (.ListComp elt [⟨tg, iter, ifs, 0⟩] scope pos) spos) (zAsg i (xLc it g t f (own.map (·.2)))) := by
  have hsw : swapsWith (.ListComp elt [⟨tg, iter, ifs, 0⟩] scope pos) (some (.Name y py)) spos.line X.env = pure true := by
    rw [← beq_iff_eq.mp hsp]
    exact sw_true hk hyl hl ha
  refine ⟨ps_mono (ps_setLc hc hN hy hyl hsw hi.pi (blkOk_by ok) (fun s H C cl fp => (hg s H C cl fp).pg) (fun s H C cl fp => (ht s H C cl fp takes_no).pt) (fun s H C cl fp => (he s H C cl fp takes_no).pe) hs) fun Z σ H h => ?_⟩
  obtain ⟨F, ρ, s, q⟩ := h
  exact xlc_imp hb (tX_st s (XRes.mono q.xst (fun d ρ1 _ q F1 H1 v fp A e1 s1 sl1 r nd u _ => q F1 H1 _ e1 (s1.setS sl1 r nd u hyb)) fun c ρ1 z F1 H1 e1 s1 => z F1 H1 σ e1 s1))
end
end Dv
end
section
set_option maxRecDepth 100000
set_option maxHeartbeats 1000000
namespace Dv
open PySem PySem.Spec PyProof.Rows L2
/-! ## try -/
/-- of which class's the exceptions numbered are -/
def SubOf (K : PySem.W.Frag) (ec : Nat → Value) (tbl : Nat → Option Bool) (C : Addr) : Prop := ∀ c b, tbl c = some b → ∃ D, ec c = .ref D ∧ ExcC K D ∧ PySem.W.exmOne K (.ref D) (.ref C) = some b ∧ PySem.W.kitOne K (.ref D) (.ref C) = some b
theorem sub_one {K : PySem.W.Frag} {D C : Addr} {b : Bool} (x : ExcC K D) (h1 : PySem.W.subIn K (.ref C) (.type "BaseException") = some true) (hd : PySem.W.hasDictIn K C = true) (ht : PySem.W.typeIn K (.ref C) = some (.type "type")) (h4 : PySem.W.subIn K (.ref D) (.ref C) = some b) (hs : PySem.W.subIn K (.ref C) (.ref C) = some true) :
    ExcC K D ∧ PySem.W.exmOne K (.ref D) (.ref C) = some b ∧ PySem.W.kitOne K (.ref D) (.ref C) = some b := by
  refine ⟨x, PySem.W.exm_ref h1 hd ht h4, ?_⟩
  unfold PySem.W.kitOne
  by_cases e : (Value.ref D == Value.ref C) = true
  · rw [if_pos e]
    have : D = C := Value.ref.inj (beq_iff_eq.mp e)
    subst this
    rw [hs] at h4
    exact h4
  · rw [if_neg e]
    obtain ⟨cd, hc, _⟩ := PySem.W.any_some hd
    have e2 : ((PySem.W.clsIn K C).isSome && PySem.W.typeIn K (.ref C) == some (.type "type")) = true := by rw [hc, ht] <;> rfl
    show (if ((PySem.W.clsIn K C).isSome && PySem.W.typeIn K (.ref C) == some (.type "type")) = true then PySem.W.subIn K (.ref D) (.ref C) else none) = some b
    rw [if_pos e2]
    exact h4
/-- the suite's entry: slot i holds the exception -/
abbrev suE (E : En) (i : Nat) (a : Addr) : En := ⟨E.k, E.ec, E.He, E.F0, E.B, i :: E.bs, (E.v0 ++ List.replicate (i + 1) none).set i (some (.ref a))⟩
section
variable {E : En} {F H : Hp}
theorem su_v0 (i : Nat) (a : Addr) : ((E.v0 ++ List.replicate (i + 1) none).set i (some (V.ref a)))[i]? = some (some (.ref a)) := List.getElem?_set_self (by rw [List.length_append, List.length_replicate]; omega)
theorem su_v1 {i j : Nat} {a : Addr} (h : j ≠ i) (hj : j < E.v0.length) : ((E.v0 ++ List.replicate (i + 1) none).set i (some (V.ref a)))[j]? = E.v0[j]? := by
  rw [List.getElem?_set_ne (Ne.symm h), List.getElem?_append_left hj]
theorem Stt.v0l {σ : L2.St} {ρ : Env} (s : Stt E F H σ ρ) : ∀ j ∈ E.bs, j < E.v0.length := fun j hj => by
  obtain ⟨h1, h2⟩ := s.bv j hj
  rw [List.getElem?_eq_getElem h1] at h2
  exact (List.getElem?_eq_some_iff.mp h2.symm).1
theorem Stt.suIn {σ : L2.St} {ρ : Env} {i : Nat} (a : Addr) (s : Stt E F H σ ρ) (hi : i < ρ.length) (hb : i ∉ E.bs) : Stt (suE E i a) F H (σ.set i (some (.ref a))) (ρ.set i none) := by
  obtain ⟨fp, sl⟩ := s.sl
  obtain ⟨s1, sl1⟩ := s.forget i sl
  have hl := s.len
  refine ⟨s1.e0, s1.fh, s1.fr, s1.st, s1.bt, by rw [List.length_set, List.length_set]; exact hl, fun j hj => ?_, fun j => if j = i then [] else fp j, fun j d e => ?_, sl1.em, sl1.nd, sl1.dj, fun j b hb' => (sl1.nw j b hb').imp_right fun z => ⟨z.1, List.mem_cons_of_mem _ z.2⟩⟩
  · rw [List.length_set]
    rcases List.mem_cons.mp hj with rfl | hj
    · exact ⟨by omega, by rw [List.getElem?_set_self (by omega)]; exact (su_v0 ..).symm⟩
    · have ne : j ≠ i := fun z => hb (z ▸ hj)
      exact ⟨(s.bv j hj).1, by rw [List.getElem?_set_ne (Ne.symm ne), (s.bv j hj).2]; exact (su_v1 ne (s.v0l j hj)).symm⟩
  · by_cases q : j = i
    · subst q
      rw [List.getElem?_set_self hi] at e; cases e
    · obtain ⟨v, h1, h2⟩ := sl1.rp j d e
      exact ⟨v, by rw [List.getElem?_set_ne (Ne.symm q)]; exact h1, h2⟩
theorem Stt.suOut {σ : L2.St} {ρ : Env} {i : Nat} {a : Addr} (hb : i ∉ E.bs) (hv : ∀ j ∈ E.bs, j < E.v0.length) (s : Stt (suE E i a) F H σ ρ) (h : ρ[i]?.getD none = none) : Stt E F H σ ρ := by
  obtain ⟨fp, sl⟩ := s.sl
  refine ⟨s.e0, s.fh, s.fr, s.st, s.bt, s.len, fun j hj => ?_, fp, sl.rp, sl.em, sl.nd, sl.dj, fun j b hb' => ?_⟩
  · obtain ⟨h1, h2⟩ := s.bv j (List.mem_cons_of_mem _ hj)
    exact ⟨h1, h2.trans (su_v1 (fun z => hb (z ▸ hj)) (hv j hj))⟩
  · rcases sl.nw j b hb' with z | z
    · exact .inl z
    · rcases List.mem_cons.mp z.2 with q | q
      · subst q
        rw [sl.em j h] at hb'; cases hb'
      · exact .inr ⟨z.1, q⟩
end
/-- the suite's end -/
def suEnd (i : Nat) : SR → SR
  | .nx ρ => if (ρ[i]?.getD none).isNone = true then .nx (ρ.set i none) else .no
  | .bk ρ => if (ρ[i]?.getD none).isNone = true then .bk (ρ.set i none) else .no
  | .ct ρ => if (ρ[i]?.getD none).isNone = true then .ct (ρ.set i none) else .no
  | .rt d ρ => if (ρ[i]?.getD none).isNone = true then .rt d ρ else .no
  | _ => .no
@[simp] theorem suEnd_nx (i : Nat) (ρ : Env) : suEnd i (.nx ρ) = if (ρ[i]?.getD none).isNone = true then .nx (ρ.set i none) else .no := rfl
@[simp] theorem suEnd_bk (i : Nat) (ρ : Env) : suEnd i (.bk ρ) = if (ρ[i]?.getD none).isNone = true then .bk (ρ.set i none) else .no := rfl
@[simp] theorem suEnd_ct (i : Nat) (ρ : Env) : suEnd i (.ct ρ) = if (ρ[i]?.getD none).isNone = true then .ct (ρ.set i none) else .no := rfl
@[simp] theorem suEnd_rt (i : Nat) (d : D) (ρ : Env) : suEnd i (.rt d ρ) = if (ρ[i]?.getD none).isNone = true then .rt d ρ else .no := rfl
def tryA (i : Nat) (sub : Nat → Option Bool) (g : Nat → Env → SR) : SR → SR
  | .ex c ρ => match sub c with
    | some true => if i < ρ.length then suEnd i (g c (ρ.set i none)) else .no
    | some false => .ex c ρ
    | none => .no
  | r => r
@[simp] theorem tryA_nx (i : Nat) (sub : Nat → Option Bool) (g : Nat → Env → SR) (ρ : Env) : tryA i sub g (.nx ρ) = .nx ρ := rfl
@[simp] theorem tryA_bk (i : Nat) (sub : Nat → Option Bool) (g : Nat → Env → SR) (ρ : Env) : tryA i sub g (.bk ρ) = .bk ρ := rfl
@[simp] theorem tryA_ct (i : Nat) (sub : Nat → Option Bool) (g : Nat → Env → SR) (ρ : Env) : tryA i sub g (.ct ρ) = .ct ρ := rfl
@[simp] theorem tryA_rt (i : Nat) (sub : Nat → Option Bool) (g : Nat → Env → SR) (d : D) (ρ : Env) : tryA i sub g (.rt d ρ) = .rt d ρ := rfl
@[simp] theorem tryA_no (i : Nat) (sub : Nat → Option Bool) (g : Nat → Env → SR) : tryA i sub g .no = .no := rfl
@[simp] theorem tryA_ex (i : Nat) (sub : Nat → Option Bool) (g : Nat → Env → SR) (c : Nat) (ρ : Env) : tryA i sub g (.ex c ρ) = match sub c with
    | some true => if i < ρ.length then suEnd i (g c (ρ.set i none)) else .no
    | some false => .ex c ρ
    | none => .no := rfl
def sTryA (i : Nat) (sub : Nat → Option Bool) (f : Env → SR) (g : Nat → Env → SR) : Env → SR := fun ρ => tryA i sub g (f ρ)
@[simp] theorem sTryA_eq (i : Nat) (sub : Nat → Option Bool) (f : Env → SR) (g : Nat → Env → SR) (ρ : Env) : sTryA i sub f g ρ = tryA i sub g (f ρ) := rfl
/-- without a name -/
def calmS : SR → SR
  | .ex _ _ => .no
  | r => r
@[simp] theorem calmS_nx (ρ : Env) : calmS (.nx ρ) = .nx ρ := rfl
@[simp] theorem calmS_bk (ρ : Env) : calmS (.bk ρ) = .bk ρ := rfl
@[simp] theorem calmS_ct (ρ : Env) : calmS (.ct ρ) = .ct ρ := rfl
@[simp] theorem calmS_rt (d : D) (ρ : Env) : calmS (.rt d ρ) = .rt d ρ := rfl
@[simp] theorem calmS_no : calmS .no = .no := rfl
@[simp] theorem calmS_ex (c : Nat) (ρ : Env) : calmS (.ex c ρ) = .no := rfl
def tryM : List ((Nat → Option Bool) × (Env → SR)) → Nat → Env → SR
  | [], c, ρ => .ex c ρ
  | (sub, g) :: r, c, ρ => match sub c with
    | some true => calmS (g ρ)
    | some false => tryM r c ρ
    | none => .no
@[simp] theorem tryM_nil (c : Nat) (ρ : Env) : tryM [] c ρ = .ex c ρ := rfl
@[simp] theorem tryM_cons (sub : Nat → Option Bool) (g : Env → SR) (r : List ((Nat → Option Bool) × (Env → SR))) (c : Nat) (ρ : Env) : tryM ((sub, g) :: r) c ρ = match sub c with
    | some true => calmS (g ρ)
    | some false => tryM r c ρ
    | none => .no := rfl
def tryN (l : List ((Nat → Option Bool) × (Env → SR))) : SR → SR
  | .ex c ρ => tryM l c ρ
  | r => r
@[simp] theorem tryN_nx (l : List ((Nat → Option Bool) × (Env → SR))) (ρ : Env) : tryN l (.nx ρ) = .nx ρ := rfl
@[simp] theorem tryN_bk (l : List ((Nat → Option Bool) × (Env → SR))) (ρ : Env) : tryN l (.bk ρ) = .bk ρ := rfl
@[simp] theorem tryN_ct (l : List ((Nat → Option Bool) × (Env → SR))) (ρ : Env) : tryN l (.ct ρ) = .ct ρ := rfl
@[simp] theorem tryN_rt (l : List ((Nat → Option Bool) × (Env → SR))) (d : D) (ρ : Env) : tryN l (.rt d ρ) = .rt d ρ := rfl
@[simp] theorem tryN_no (l : List ((Nat → Option Bool) × (Env → SR))) : tryN l .no = .no := rfl
@[simp] theorem tryN_ex (l : List ((Nat → Option Bool) × (Env → SR))) (c : Nat) (ρ : Env) : tryN l (.ex c ρ) = tryM l c ρ := rfl
def sTryN (f : Env → SR) (l : List ((Nat → Option Bool) × (Env → SR))) : Env → SR := fun ρ => tryN l (f ρ)
@[simp] theorem sTryN_eq (f : Env → SR) (l : List ((Nat → Option Bool) × (Env → SR))) (ρ : Env) : sTryN f l ρ = tryN l (f ρ) := rfl
section
variable {X : Cx} {E : En} {W : WX}
theorem fin_su {i : Nat} {a : Addr} {F H : Hp} {d : D} {v : V} (f : Fin (suE E i a) F H d v) : Fin E F H d v := ⟨f.e0, f.fh, f.fr, f.st, f.bt, f.rp⟩
theorem SRes.su {i : Nat} {a : Addr} {F : Hp} {Z : Ends} {r : SR} (hb : i ∉ E.bs) (hv : ∀ j ∈ E.bs, j < E.v0.length) (h : SRes E W F Z (suEnd i r)) :
    SRes (suE E i a) WN F { nx := fun σ' H' => Z.nx (σ'.set i none) H', rt := Z.rt, bk := fun σ' H' => Z.bk (σ'.set i none) H', ct := fun σ' H' => Z.ct (σ'.set i none) H' } r := by
  have isn : ∀ {o : Option D}, o.isNone = true → o = none := fun {o} h => by cases o with
    | none => rfl
    | some _ => cases h
  cases r with
  | no => exact h
  | nx ρ =>
    rw [suEnd_nx] at h
    by_cases g : (ρ[i]?.getD none).isNone = true
    · rw [if_pos g] at h
      exact fun F' H' σ x s => h F' H' _ x ((s.suOut hb hv (isn g)).unset hb)
    · rw [if_neg g] at h; exact h.elim
  | bk ρ =>
    rw [suEnd_bk] at h
    by_cases g : (ρ[i]?.getD none).isNone = true
    · rw [if_pos g] at h
      exact fun F' H' σ x s => h F' H' _ x ((s.suOut hb hv (isn g)).unset hb)
    · rw [if_neg g] at h; exact h.elim
  | ct ρ =>
    rw [suEnd_ct] at h
    by_cases g : (ρ[i]?.getD none).isNone = true
    · rw [if_pos g] at h
      exact fun F' H' σ x s => h F' H' _ x ((s.suOut hb hv (isn g)).unset hb)
    · rw [if_neg g] at h; exact h.elim
  | rt d ρ =>
    rw [suEnd_rt] at h
    by_cases g : (ρ[i]?.getD none).isNone = true
    · rw [if_pos g] at h
      intro F' H' σ v s f z
      refine h F' H' σ v (s.suOut hb hv (isn g)) (fin_su f) (.inr ?_)
      have s2 := z.resolve_left fun q => nomatch q
      have li : i < ρ.length := by
        have := (s.bv i List.mem_cons_self).1
        have := s.len; omega
      refine s2.suOut hb hv ?_
      rw [List.getElem?_append_left li]; exact isn g
    · rw [if_neg g] at h; exact h.elim
  | ex c ρ => exact h.elim
theorem ss_tryA {i : Nat} {n x : Str} {C : Addr} {sub : Nat → Option Bool} {body suite : List Stmt} {b₀ : Stmt} {np pos pos' : Pos} {f : Env → SR} {g : Nat → Env → SR} (hs : X.stack = X.env :: X.outer) (hf : X.env.frame = some X.env.locals) (hN : X.N.Nodup) (hi : X.N[i]? = some n) (hln : X.env.kindOf n = some .local) (hib : i ∉ E.bs)
    (hg : Gl X x) (hm : X.mg x = some (.ref C)) (hsub : SubOf X.K E.ec sub C) (tk : Takes X W)
    (hb : ∀ (W' : WX) (pn : List (Addr × Obj)) (xe : Value → Shared → Prop), Takes (X.tr pn xe) W' → PassesOwn (model X.prog X.w) X.A X.env xe → SB (X.tr pn xe) E W' body f)
    (hsu : ∀ (c : Nat) (D a : Addr) (oe : Obj) (pn : List (Addr × Obj)), E.ec c = .ref D → Zc (.ref D) none oe → (∃ vs, oe.data = .fields vs) → SB (X.suite a ((a, oe) :: pn)) (suE E i a) WN (b₀ :: suite) (g c))
    (hdb : (x == ("__debug__" : Str)) = false := by decide) :
    SS X E W (.Try body [.ExceptHandler (some (.Name x np)) (some n) (b₀ :: suite) pos'] [] [] pos) (sTryA i sub f g) := by
  refine ⟨ps_mono (ps_try_as (i := i) (c := .ref C) (tb := fun W' => tSS E W' f) (Wout := W)
    (ts := fun a cls d Z σ H => ∃ c D F ρ, cls = .ref D ∧ E.ec c = .ref D ∧ d = none ∧ Stt (suE E i a) F H σ ρ ∧ SRes (suE E i a) WN F Z (g c ρ)) hs hf hN hi hln ⟨hg, hdb, .inl hm⟩ tk
    (fun W' pn xe t p => (hb W' pn xe t p).ps) (fun a oe cls d pn hz hv => ⟨fun pins s σ H Z I h => ?_⟩)) fun Z σ H h => ?_⟩
  · obtain ⟨c, D, F, ρ, rfl, hD, rfl, st, q⟩ := h
    exact (hsu c D a oe pn hD hz hv).ps.run pins s σ H Z I ⟨F, ρ, st, q⟩
  · obtain ⟨F, ρ, s, q⟩ := h
    refine ⟨F, ρ, s, ?_⟩
    rw [sTryA_eq] at q
    cases ef : f ρ with
    | no => rw [ef] at q; exact q
    | nx ρ' => rw [ef] at q; exact q
    | bk ρ' => rw [ef] at q; exact q
    | ct ρ' => rw [ef] at q; exact q
    | rt d ρ' => rw [ef] at q; exact q
    | ex c ρ' =>
      rw [ef, tryA_ex] at q
      intro F' H' σ' xx s'
      cases es : sub c with
      | none => rw [es] at q; exact q.elim
      | some b =>
        obtain ⟨D, hD, hx, hm', hk⟩ := hsub c b es
        refine ⟨b, by rw [hD]; exact hm', fun e a ha => ?_, fun e => ?_⟩
        · subst e
          rw [es] at q
          have q : SRes E W F Z (if i < ρ'.length then suEnd i (g c (ρ'.set i none)) else .no) := q
          by_cases hl : i < ρ'.length
          · rw [if_pos hl] at q
            exact ⟨c, D, F', _, hD, hD, rfl, s'.suIn a hl hib, SRes.su hib s'.v0l (SRes.at q xx)⟩
          · rw [if_neg hl] at q; exact q.elim
        · subst e
          rw [es] at q
          exact (show SRes E W F Z (.ex c ρ') from q) F' H' σ' xx s'
/-- isinstance of the exception that the suite holds -/
def eIsE (o : Option Bool) : Env → R D := fun _ => R.opt (o.map .bl)
@[simp] theorem eIsE_eq (o : Option Bool) (ρ : Env) : eIsE o ρ = R.opt (o.map .bl) := rfl
theorem eo_isE {i : Nat} {a D C : Addr} {oe : Obj} {pn : List (Addr × Obj)} {c : Nat} {tbl : Nat → Option Bool} {e : Expr} {x y : Str} {p p2 pos : Pos} (hK : E.k.K = X.K) (hsub : SubOf X.K E.ec tbl C) (hD : E.ec c = .ref D) (hz : Zc (.ref D) none oe) (hf : ∃ vs, oe.data = .fields vs)
    (he : PE (X.suite a ((a, oe) :: pn)) e (tVar i)) (gl : Gl X x) (hm : X.mg x = none) (hv : bootBuiltins x = some (.builtin "isinstance")) (gl2 : Gl X y) (hm2 : X.mg y = some (.ref C)) (hn : x ≠ "__name__" := by decide) (hdb : (x == ("__debug__" : Str)) = false := by decide) (hdb2 : (y == ("__debug__" : Str)) = false := by decide)
    (hs1 : starEach [e, .Name y p2] (X.suite a ((a, oe) :: pn)).env = (false, eval e (X.suite a ((a, oe) :: pn)).env) :: starEach [.Name y p2] (X.suite a ((a, oe) :: pn)).env := by rfl) (hs2 : starEach [.Name y p2] (X.suite a ((a, oe) :: pn)).env = (false, eval (.Name y p2) (X.suite a ((a, oe) :: pn)).env) :: starEach [] (X.suite a ((a, oe) :: pn)).env := by rfl) (hpl : (backTo pos (starEach [.Name y p2] (X.suite a ((a, oe) :: pn)).env)).any (·.1) = false := by rfl) :
    EO (X.suite a ((a, oe) :: pn)) (suE E i a) W (.Call (.Name x p) [e, .Name y p2] [] pos) (eIsE (tbl c)) := by
  cases ht : tbl c with
  | none =>
    refine ⟨⟨fun pins s σ H Q I h => ?_⟩⟩
    obtain ⟨F, ρ, st, q⟩ := h
    exact q.elim
  | some b =>
    obtain ⟨D', hD', hx, _, hk⟩ := hsub c b ht
    rw [hD] at hD'
    cases hD'
    refine ⟨pe_mono (pe_callB (call_isE hx hz hf) gl hm hv (pa_cons he (pa_cons (pe_glob (v := .ref C) gl2 hm2 rfl hdb2) pa_nil hs2) hs1) hn hdb hs1 hpl) fun σ H Q h => ?_⟩
    obtain ⟨F, ρ, s, q⟩ := h
    have hv := (s.bv i List.mem_cons_self).2
    refine ⟨.ref a, hv.trans (su_v0 i a), .ref C, .ref C, b, rfl, fun u hu => hu, hk, ?_⟩
    exact GOk.scal (E := suE E i a) s.fh (show GOk (suE E i a) F H Q (.bl b) from q) fun _ _ => ⟨rfl, rfl⟩
/-- except clauses without names -/
structure EHd (X : Cx) (E : En) (hds : List ExceptHandler) (l : List ((Nat → Option Bool) × (Env → SR))) : Prop where
  ok : ∃ m : List (Value × (Addr → Value → Option Addr → TS)), HdsOk X hds m ∧ ∀ (W : WX) (Z : Ends) (c : Nat) (ρ : Env) (F F' H' : Hp) (σ : L2.St), SRes E W F Z (tryM l c ρ) → Ex F F' → Stt E F' H' σ ρ → wMany X.K W Z m (E.ec c) none σ H'
theorem ehd_nil : EHd X E [] [] := ⟨[], .nil, fun W Z c ρ F F' H' σ q x s => (show SRes E W F Z (.ex c ρ) from q) F' H' σ x s⟩
theorem SRes.calmS {F : Hp} {Z : Ends} {r : SR} (h : SRes E W F Z (calmS r)) : SRes E WN F Z r := by
  cases r with
  | ex c ρ => exact h.elim
  | _ => exact h
theorem ehd_cons {x : Str} {C : Addr} {sub : Nat → Option Bool} {b₀ : Stmt} {suite : List Stmt} {np pos' : Pos} {hds : List ExceptHandler} {l : List ((Nat → Option Bool) × (Env → SR))} {g : Env → SR} (hg : Gl X x) (hm : X.mg x = some (.ref C)) (hsub : SubOf X.K E.ec sub C)
    (hsu : ∀ (a : Addr) (oe : Obj) (pn : List (Addr × Obj)), SB (X.suite a ((a, oe) :: pn)) E WN (b₀ :: suite) g) (r : EHd X E hds l) (hdb : (x == ("__debug__" : Str)) = false := by decide) :
    EHd X E (.ExceptHandler (some (.Name x np)) none (b₀ :: suite) pos' :: hds) ((sub, g) :: l) := by
  obtain ⟨m, hok, hq⟩ := r.ok
  refine ⟨(.ref C, fun a cls d => tSS E WN g) :: m, .cons ⟨hg, hdb, .inl hm⟩ (fun a oe cls d pn hz hv => (hsu a oe pn).ps) hok, fun W Z c ρ F F' H' σ q x s => ?_⟩
  rw [tryM_cons] at q
  cases es : sub c with
  | none => rw [es] at q; exact q.elim
  | some b =>
    obtain ⟨D, hD, hx, hm', hk⟩ := hsub c b es
    rw [es] at q
    refine ⟨b, by rw [hD]; exact hm', fun e a ha => ?_, fun e => ?_⟩
    · subst e
      exact ⟨F', ρ, s, SRes.calmS (SRes.at q x)⟩
    · subst e
      exact hq W Z c ρ F F' H' σ q x s
theorem ss_tryN {body : List Stmt} {h₀ : ExceptHandler} {hds : List ExceptHandler} {pos : Pos} {f : Env → SR} {l : List ((Nat → Option Bool) × (Env → SR))} (hs : X.stack = X.env :: X.outer) (hf : X.env.frame = some X.env.locals) (tk : Takes X W)
    (hb : ∀ (W' : WX) (pn : List (Addr × Obj)) (xe : Value → Shared → Prop), Takes (X.tr pn xe) W' → PassesOwn (model X.prog X.w) X.A X.env xe → SB (X.tr pn xe) E W' body f) (hh : EHd X E (h₀ :: hds) l) :
    SS X E W (.Try body (h₀ :: hds) [] [] pos) (sTryN f l) := by
  obtain ⟨m, hok, hq⟩ := hh.ok
  refine ⟨ps_mono (ps_try_many (tb := fun W' => tSS E W' f) (Wout := W) hs hf tk (fun W' pn xe t p => (hb W' pn xe t p).ps) hok) fun Z σ H h => ?_⟩
  obtain ⟨F, ρ, s, q⟩ := h
  refine ⟨F, ρ, s, ?_⟩
  rw [sTryN_eq] at q
  cases ef : f ρ with
  | no => rw [ef] at q; exact q
  | nx ρ' => rw [ef] at q; exact q
  | bk ρ' => rw [ef] at q; exact q
  | ct ρ' => rw [ef] at q; exact q
  | rt d ρ' => rw [ef] at q; exact q
  | ex c ρ' =>
    rw [ef, tryN_ex] at q
    exact fun F' H' σ' xx s' => hq W Z c ρ' F F' H' σ' q xx s'
end
end Dv
end
section
set_option maxRecDepth 100000
namespace Dv
open PySem PySem.Spec PyProof.Rows L2
/-! ## zip of three tuples -/
/-- the tuples at a, b and c as they stand at each turn, the items in new triples -/
def Itz3 (K : PySem.W.Frag) (a b c : Addr) : It :=
  ⟨fun i H => ∃ xs ys zs : List V, SqT K H a xs ∧ SqT K H b ys ∧ SqT K H c zs ∧ i < min (min xs.length ys.length) zs.length,
    fun i H v H' => ∃ T x y z, v = .ref T ∧ H T = none ∧ H' = upd H T (.tup [x, y, z]) ∧ (∀ xs, SqT K H a xs → xs[i]? = some x) ∧ (∀ ys, SqT K H b ys → ys[i]? = some y) ∧ ∀ zs, SqT K H c zs → zs[i]? = some z,
    fun i H => ∃ xs ys zs : List V, SqT K H a xs ∧ SqT K H b ys ∧ SqT K H c zs ∧ i = min (min xs.length ys.length) zs.length⟩
theorem sub6 {N q : Addr} (m : q ∈ [N + 5, N + 4, N, N + 1, N + 2]) : q ∈ [N + 5, N + 3, N + 4, N, N + 1, N + 2] := by
  simp only [List.mem_cons, List.not_mem_nil, or_false] at m ⊢
  rcases m with h | h | h | h | h
  · exact .inl h
  · exact .inr (.inr (.inl h))
  · exact .inr (.inr (.inr (.inl h)))
  · exact .inr (.inr (.inr (.inr (.inl h))))
  · exact .inr (.inr (.inr (.inr (.inr h))))
theorem vals_get' : ∀ {xs : List V} {us : List Value} {i : Nat} {u : Value}, Vals xs us → us[i]? = some u → ∃ x, xs[i]? = some x ∧ RelV x u
  | _, _, _, _, .nil, e => by simp at e
  | _, _, 0, _, .cons r _, e => by simp at e; subst e; exact ⟨_, rfl, r⟩
  | _, _, i + 1, u, .cons _ t, e => by
    obtain ⟨x, h1, h2⟩ := vals_get' (i := i) (u := u) t (by simpa using e)
    exact ⟨x, by simpa using h1, h2⟩
theorem turn_zip3 {P : Program} {w : World} {K : PySem.W.Frag} {elts : List Expr} {kk : Nat} {tpos : Pos} {N a b c : Addr} (la : a < N) (lb : b < N) (lc : c < N) :
    Turn P w K (.Tuple elts kk tpos) (Itz3 K a b c) [N + 5, N + 3, N + 4, N, N + 1, N + 2] (N + 5) (fun i h => IsZip h (N + 5) (N + 3) (N + 4) .none ∧ IsTupOf3 h (N + 3) (.ref N) (.ref (N + 1)) (.ref (N + 2)) ∧ (∃ x y z, IsTupOf3 h (N + 4) x y z) ∧ h.IsTupleIter N a i ∧ h.IsTupleIter (N + 1) b i ∧ h.IsTupleIter (N + 2) c i) where
  mem := by simp
  obj := fun i h st q hq => by
    obtain ⟨hz, hTI, ⟨x, y, z, hTO⟩, ⟨o1, e1, _, d1⟩, ⟨o2, e2, _, d2⟩, ⟨o3, e3, _, d3⟩⟩ := st
    have e' : q = N + 5 ∨ q = N + 3 ∨ q = N + 4 ∨ q = N ∨ q = N + 1 ∨ q = N + 2 := by simpa using hq
    rcases e' with g | g | g | g | g | g
    · rw [g]; exact ⟨_, hz, fun v q => nomatch q⟩
    · rw [g]; exact ⟨_, hTI, fun v q => nomatch q⟩
    · rw [g]; exact ⟨_, hTO, fun v q => nomatch q⟩
    · rw [g]; exact ⟨o1, e1, fun v q => by rw [d1] at q; cases q⟩
    · rw [g]; exact ⟨o2, e2, fun v q => by rw [d2] at q; cases q⟩
    · rw [g]; exact ⟨o3, e3, fun v q => by rw [d3] at q; cases q⟩
  keep := fun i h h' st k => by
    obtain ⟨hz, hTI, ⟨x, y, z, hTO⟩, h1, h2, h3⟩ := st
    exact ⟨k _ (by simp) _ hz, k _ (by simp) _ hTI, ⟨x, y, z, k _ (by simp) _ hTO⟩, h1.at fun o q => k _ (by simp) o q, h2.at fun o q => k _ (by simp) o q, h3.at fun o q => k _ (by simp) o q⟩
  item := by
    intro X hP hw hK hc i pins s σ H E I hf st hg
    subst hP hw hK
    obtain ⟨hz, hTI, hTO, h1, h2, h3⟩ := st
    obtain ⟨xs, ys, zs, hqx, hqy, hqz, hi⟩ := hg
    obtain ⟨its, rv, p, _⟩ := I.tuple hqx
    obtain ⟨its2, rv2, p2, _⟩ := I.tuple hqy
    obtain ⟨its3, rv3, p3, _⟩ := I.tuple hqz
    have l1 := rv.length
    have l2 := rv2.length
    have l3 := rv3.length
    have hh : X.A.in1.handled = none := I.ok.hd hc
    have S := zip_sep3 (N := N) (fp1 := [a]) (fp2 := [b]) (fp3 := [c]) (by simpa using la) (by simpa using lb) (by simpa using lc)
    have G := GoesN.zip3 (prog := X.prog) (w := X.w) (A := X.A) (elts := elts) (x1 := kk) (pos := tpos) S (Draws.tuple (A := X.A.in1) hh N a (Nat.ne_of_lt la) its.toArray) (Draws.tuple (A := X.A.in1) hh (N + 1) b (Nat.ne_of_lt (Nat.lt_succ_of_lt lb)) its2.toArray) (Draws.tuple (A := X.A.in1) hh (N + 2) c (Nat.ne_of_lt (Nat.lt_succ_of_lt (Nat.lt_succ_of_lt lc))) its3.toArray)
    refine G.goes i s _ E (by simp only [List.size_toArray]; omega) ⟨hz, hTI, hTO, ⟨h1, p⟩, ⟨h2, p2⟩, h3, p3⟩ fun v h' tk hY st' hk _ => ?_
    obtain ⟨T, u1, u2, u3, rfl, hT, e1, e2, e3, hTup⟩ := hY
    obtain ⟨x1, g1, r1⟩ := vals_get' rv (by simpa using e1)
    obtain ⟨x2, g2, r2⟩ := vals_get' rv2 (by simpa using e2)
    obtain ⟨x3, g3, r3⟩ := vals_get' rv3 (by simpa using e3)
    have new : ObjOk X.prog X.w (upd H T (.tup [x1, x2, x3])) h' T (.tup [x1, x2, x3]) :=
      ⟨by show 3 ≤ sizeLine; decide, [u1, u2, u3], .cons r1 (.cons r2 (.cons r3 .nil)), hTup⟩
    have I1 : Inv X pins σ (upd H T (.tup [x1, x2, x3])) { s with heap := h', toks := tk } :=
      I.turnedNew (t' := tk) (ch := [N + 5, N + 3, N + 4, N, N + 1, N + 2]) (fun q o hb e => hk q o (fun m => hb (sub6 m)) e) hf hT new
    refine ⟨.ref T, _, I1, rfl, ⟨T, x1, x2, x3, rfl, I.hok.fresh hT, rfl, fun l hl => by rw [I.tuple_inj hl hqx]; exact g1, fun l hl => by rw [I.tuple_inj hl hqy]; exact g2, fun l hl => by rw [I.tuple_inj hl hqz]; exact g3⟩, ⟨st'.1, st'.2.1, st'.2.2.1, st'.2.2.2.1.1, st'.2.2.2.2.1.1, st'.2.2.2.2.2.1⟩, fun q hqm => ?_⟩
    have hlt : q < s.heap.objs.size := by
      have e' : q = N + 5 ∨ q = N + 3 ∨ q = N + 4 ∨ q = N ∨ q = N + 1 ∨ q = N + 2 := by simpa using hqm
      obtain ⟨x, y, z, hTO⟩ := hTO
      rcases e' with g | g | g | g | g | g
      · rw [g]; exact Heap.lt_size hz
      · rw [g]; exact Heap.lt_size hTI
      · rw [g]; exact Heap.lt_size hTO
      · rw [g]; obtain ⟨_, e1, _⟩ := h1; exact Heap.lt_size e1
      · rw [g]; obtain ⟨_, e2, _⟩ := h2; exact Heap.lt_size e2
      · rw [g]; obtain ⟨_, e3, _⟩ := h3; exact Heap.lt_size e3
    rw [upd_ne (Nat.ne_of_lt (Nat.lt_of_lt_of_le hlt hT))]
    exact (hf q hqm).1
  done := by
    intro X hP hw hK hc i pins s σ H E I hf st hg
    subst hP hw hK
    obtain ⟨hz, hTI, hTO, h1, h2, h3⟩ := st
    obtain ⟨xs, ys, zs, hqx, hqy, hqz, hi⟩ := hg
    obtain ⟨its, rv, p, _⟩ := I.tuple hqx
    obtain ⟨its2, rv2, p2, _⟩ := I.tuple hqy
    obtain ⟨its3, rv3, p3, _⟩ := I.tuple hqz
    have l1 := rv.length
    have l2 := rv2.length
    have l3 := rv3.length
    have hh : X.A.in1.handled = none := I.ok.hd hc
    have S := zip_sep3 (N := N) (fp1 := [a]) (fp2 := [b]) (fp3 := [c]) (by simpa using la) (by simpa using lb) (by simpa using lc)
    have G := GoesN.zip3 (prog := X.prog) (w := X.w) (A := X.A) (elts := elts) (x1 := kk) (pos := tpos) S (Draws.tuple (A := X.A.in1) hh N a (Nat.ne_of_lt la) its.toArray) (Draws.tuple (A := X.A.in1) hh (N + 1) b (Nat.ne_of_lt (Nat.lt_succ_of_lt lb)) its2.toArray) (Draws.tuple (A := X.A.in1) hh (N + 2) c (Nat.ne_of_lt (Nat.lt_succ_of_lt (Nat.lt_succ_of_lt lc))) its3.toArray)
    have ei : i = min (min its.toArray.size its2.toArray.size) its3.toArray.size := by simp only [List.size_toArray]; omega
    rw [ei] at h1 h2 h3
    exact G.stops s _ E ⟨hz, hTI, hTO, ⟨h1, p⟩, ⟨h2, p2⟩, h3, p3⟩ fun h' tk hk _ => I.turnedL (t' := tk) (ch := [N + 5, N + 3, N + 4, N, N + 1, N + 2]) (fun q o hb e => hk q o (fun m => hb (sub6 m)) e) hf
  self := fun A i s Q E st h => wpAny_pyIter_zip st.1 h

def iZip3A (K : PySem.W.Frag) (ta : TA) : TI := fun σ H R => ta σ H fun vs H1 => ∃ a b c xs ys zs, vs = [.ref a, .ref b, .ref c] ∧ SqT K H1 a xs ∧ SqT K H1 b ys ∧ SqT K H1 c zs ∧ R (Itz3 K a b c) H1
theorem pi_zip3A {X : Cx} {e e2 e3 : Expr} {ta : TA} {p pos tpos : Pos} {elts : List Expr} {kk : Nat} (hg : Gl X "zip") (hm : X.mg "zip" = none) (ha : PA X [e, e2, e3] ta)
    (hs : starEach [e, e2, e3] X.env = (false, eval e X.env) :: starEach [e2, e3] X.env := by rfl) (hpl : (backTo pos (starEach [e2, e3] X.env)).any (·.1) = false := by rfl) :
    PI X (.Tuple elts kk tpos) (.Call (.Name "zip" p) [e, e2, e3] [] pos) (iZip3A X.K ta) := by
  refine ⟨fun pins s σ H R I h => ?_⟩
  refine Call_ (ld_blt I hg hm PyProof.Rows.boot_zip (PyProof.Rows.callWith_type1 (thn (ha.run pos pins s σ H _ I h) fun us s1 ⟨vs, H1, I1, r1, q1⟩ => ?_) hs hpl))
  obtain ⟨a, b, c, xs, ys, zs, ex, hqx, hqy, hqz, q⟩ := q1
  subst ex
  cases r1 with
  | cons r rr =>
    cases rr with
    | cons r' rr =>
      cases rr with
      | cons r'' rr =>
        cases rr
        cases r
        cases r'
        cases r''
        have fresh6 : ∀ q, q ∈ [s1.heap.objs.size + 5, s1.heap.objs.size + 3, s1.heap.objs.size + 4, s1.heap.objs.size, s1.heap.objs.size + 1, s1.heap.objs.size + 2] → FpOk X pins H1 q := fun q hqm => by
          have hle : s1.heap.objs.size ≤ q := by
            simp only [List.mem_cons, List.not_mem_nil, or_false] at hqm
            rcases hqm with z | z | z | z | z | z <;> rw [z] <;> first | exact Nat.le_add_right _ _ | exact Nat.le_refl _
          exact I1.fpOk hle (I1.hok.fresh hle)
        obtain ⟨its, rv, p1, _⟩ := I1.tuple hqx
        obtain ⟨its2, rv2, p2, _⟩ := I1.tuple hqy
        obtain ⟨its3, rv3, p3, _⟩ := I1.tuple hqz
        obtain ⟨o1, ho1, _⟩ := id p1
        obtain ⟨o2, ho2, _⟩ := id p2
        obtain ⟨o3, ho3, _⟩ := id p3
        refine zip_begins3 (begins_tuple a its.toArray) (begins_tuple b its2.toArray) (begins_tuple c its3.toArray) p1 p2 p3 fun h' hz hTI hTO g1 g2 g3 hsz hk => wpAny_pyIter_zip hz ?_
        have I2 : Inv X pins σ H1 { s1 with heap := h' } := I1.kept (t' := s1.toks) hk
        exact ⟨s1.heap.objs.size + 5, _, _, _, H1, rfl, I2, turn_zip3 (Heap.lt_size ho1) (Heap.lt_size ho2) (Heap.lt_size ho3), ⟨hz, hTI, ⟨_, _, _, hTO⟩, ⟨_, g1, rfl, rfl⟩, ⟨_, g2, rfl, rfl⟩, ⟨_, g3, rfl, rfl⟩⟩, fresh6, q⟩
section
variable {X : Cx} {E : En} {W : WX}
def zipD3 : List D → List D → List D → List D
  | x :: xs, y :: ys, z :: zs => .tup [x, y, z] :: zipD3 xs ys zs
  | _, _, _ => []
@[simp] theorem zipD3_cons (x y z : D) (xs ys zs : List D) : zipD3 (x :: xs) (y :: ys) (z :: zs) = .tup [x, y, z] :: zipD3 xs ys zs := rfl
@[simp] theorem zipD3_nil (ys zs : List D) : zipD3 [] ys zs = [] := rfl
theorem zipD3_get : ∀ {xs ys zs : List D} {i : Nat} {d : D}, (zipD3 xs ys zs)[i]? = some d → ∃ x y z, xs[i]? = some x ∧ ys[i]? = some y ∧ zs[i]? = some z ∧ d = .tup [x, y, z]
  | x :: xs, y :: ys, z :: zs, 0, d, h => ⟨x, y, z, rfl, rfl, rfl, by simpa using h.symm⟩
  | x :: xs, y :: ys, z :: zs, i + 1, d, h => by simpa using zipD3_get (xs := xs) (ys := ys) (zs := zs) (i := i) (by simpa using h)
  | [], ys, zs, i, d, h => by simp [zipD3] at h
  | x :: xs, [], zs, i, d, h => by simp [zipD3] at h
  | x :: xs, y :: ys, [], i, d, h => by simp [zipD3] at h
theorem zipD3_len : ∀ {xs ys zs : List D}, (zipD3 xs ys zs).length = min (min xs.length ys.length) zs.length
  | x :: xs, y :: ys, z :: zs => by rw [zipD3_cons, List.length_cons, List.length_cons, List.length_cons, List.length_cons, zipD3_len]; omega
  | [], ys, zs => by simp [zipD3]
  | x :: xs, [], zs => by simp [zipD3]
  | x :: xs, y :: ys, [] => by simp [zipD3]
theorem pure_tup3 {x y z : D} (hx : x.pure = true) (hy : y.pure = true) (hz : z.pure = true) : (D.tup [x, y, z]).pure = true := by simp [D.pure, D.pureL, hx, hy, hz]
theorem rp_tri {k : Kx} {F H : Hp} {x y z : D} {v w u : V} {T : Addr} (fh : Ex F H) (hT : H T = none) (rx : Rp k F H x v []) (ry : Rp k F H y w []) (rz : Rp k F H z u []) : Tr F H (upd F T (.tup [v, w, u])) (upd H T (.tup [v, w, u])) ∧ Rp k (upd F T (.tup [v, w, u])) (upd H T (.tup [v, w, u])) (.tup [x, y, z]) (.ref T) [] := by
  have t := tr_newF (o := .tup [v, w, u]) fh hT
  exact ⟨t, T, [v, w, u], rfl, .inl (.inl upd_same), v, [w, u], [], [], rfl, rfl, rx.tr t, w, [u], [], [], rfl, rfl, ry.tr t, u, [], [], [], rfl, rfl, rz.tr t, rfl, rfl⟩
theorem wk_zip3 {k : Kx} {F H : Hp} {a b c : Addr} {vs ws us : List V} {xs ys zs : List D} (sa : SqT k.K F a vs) (sb : SqT k.K F b ws) (sc : SqT k.K F c us) (px : D.pureL xs = true) (py : D.pureL ys = true) (pz : D.pureL zs = true) (rx : RpL k F H xs vs []) (ry : RpL k F H ys ws []) (rz : RpL k F H zs us []) :
    Wk k (Itz3 k.K a b c) F (zipD3 xs ys zs) := by
  have hx := rx.len
  have hy := ry.len
  have hz := rz.len
  refine ⟨fun i hi F' H' x y => ?_, fun F' H' x y => ?_, fun i d e F' H' v H'' x y h => ?_⟩
  · rw [zipD3_len] at hi
    exact ⟨vs, ws, us, ex_t (x.trans y) sa, ex_t (x.trans y) sb, ex_t (x.trans y) sc, by omega⟩
  · refine ⟨vs, ws, us, ex_t (x.trans y) sa, ex_t (x.trans y) sb, ex_t (x.trans y) sc, ?_⟩
    rw [zipD3_len]; omega
  · obtain ⟨T, v1, v2, v3, rfl, hT, rfl, h1, h2, h3⟩ := h
    obtain ⟨d1, d2, d3, e1, e2, e3, rfl⟩ := zipD3_get e
    obtain ⟨w1, g1, r1⟩ := rx.get0 e1
    obtain ⟨w2, g2, r2⟩ := ry.get0 e2
    obtain ⟨w3, g3, r3⟩ := rz.get0 e3
    have := (h1 vs (ex_t (x.trans y) sa)).symm.trans g1
    cases this
    have := (h2 ws (ex_t (x.trans y) sb)).symm.trans g2
    cases this
    have := (h3 us (ex_t (x.trans y) sc)).symm.trans g3
    cases this
    obtain ⟨t, r⟩ := rp_tri y hT (Rp.pure (H' := H') (pureL_get px e1) x r1) (Rp.pure (H' := H') (pureL_get py e2) x r2) (Rp.pure (H' := H') (pureL_get pz e3) x r3)
    exact ⟨pure_tup3 (pureL_get px e1) (pureL_get py e2) (pureL_get pz e3), _, t, r⟩
def zip3 : List D → Option (List D)
  | [x, y, z] => match seqD x, seqD y, seqD z with
    | some (false, xs), some (false, ys), some (false, zs) => some (zipD3 xs ys zs)
    | _, _, _ => none
  | _ => none
@[simp] theorem zip3_eq (x y z : D) : zip3 [x, y, z] = match seqD x, seqD y, seqD z with
    | some (false, xs), some (false, ys), some (false, zs) => some (zipD3 xs ys zs)
    | _, _, _ => none := rfl
theorem ei_zip3 {e e2 e3 : Expr} {fs : Env → R (List D)} {p pos tpos : Pos} {elts : List Expr} {kk : Nat} (hK : E.k.K = X.K) (hg : Gl X "zip") (hm : X.mg "zip" = none) (ha : EA X E W [e, e2, e3] fs)
    (hs : starEach [e, e2, e3] X.env = (false, eval e X.env) :: starEach [e2, e3] X.env := by rfl) (hpl : (backTo pos (starEach [e2, e3] X.env)).any (·.1) = false := by rfl) :
    EI X E W (.Tuple elts kk tpos) (.Call (.Name "zip" p) [e, e2, e3] [] pos) (iA zip3 fs) := by
  refine ⟨pi_mono (pi_zip3A hg hm ha.pa hs hpl) fun σ H P q => ?_⟩
  obtain ⟨F, ρ, s, q⟩ := q
  refine ⟨F, ρ, s, Res.mono q.bind (fun ds he q F1 H1 vs t1 r1 => ?_) fun c _ z F' H' t => z F' H' t⟩
  obtain ⟨es, e, p⟩ := Res.opt q
  clear he
  unfold zip3 at e
  split at e
  · rename_i x y z
    split at e
    · rename_i xs ys zs ex ey ez
      cases e
      obtain ⟨v, w, u, A, B, G, rfl, rx, ry, rz⟩ := Vw.three r1
      obtain ⟨px, a, ws, rfl, sa, q1⟩ := seq_of rx ex
      obtain ⟨py, a2, ws2, rfl, sb, q2⟩ := seq_of ry ey
      obtain ⟨pz, a3, ws3, rfl, sc, q3⟩ := seq_of rz ez
      have wk := p F1 H1 _ t1 (wk_zip3 sa sb sc px py pz q1 q2 q3)
      rw [← hK]
      exact ⟨a, a2, a3, ws, ws2, ws3, rfl, ex_t t1.fh sa, ex_t t1.fh sb, ex_t t1.fh sc, wk⟩
    · cases e
  · cases e
/-- a, b, c = x, y, z -/
def sPar3 (i j l : Nat) (fs : Env → R (List D)) : Env → SR := fun ρ => (fs ρ).st ρ fun ds => match ds with
  | [x, y, z] => if x.pure = true ∧ y.pure = true ∧ z.pure = true then .nx (((ρ.set i (some x)).set j (some y)).set l (some z)) else .no
  | _ => .no
@[simp] theorem sPar3_eq (i j l : Nat) (fs : Env → R (List D)) (ρ : Env) : sPar3 i j l fs ρ = (fs ρ).st ρ fun ds => match ds with
  | [x, y, z] => if x.pure = true ∧ y.pure = true ∧ z.pure = true then .nx (((ρ.set i (some x)).set j (some y)).set l (some z)) else .no
  | _ => .no := rfl
theorem ss_par3 {i j l : Nat} {x y z : Str} {a b c : Expr} {fs : Env → R (List D)} {px py pz pt pos : Pos} {kt k2 : Nat} {pt2 : Pos} (hc : X.calm = true) (hN : X.N.Nodup) (hi : X.N[i]? = some x) (hj : X.N[j]? = some y) (hl : X.N[l]? = some z) (hij : i ≠ j) (hil : i ≠ l) (hjl : j ≠ l)
    (hx : X.env.scope.names.lookup x = some .local) (hy : X.env.scope.names.lookup y = some .local) (hz : X.env.scope.names.lookup z = some .local) (hbi : i ∉ E.bs) (hbj : j ∉ E.bs) (hbl : l ∉ E.bs) (ha : EA X E W [a, b, c] fs)
    (hw : swappedStores [.Tuple [.Name x px, .Name y py, .Name z pz] kt pt] (.Tuple [a, b, c] k2 pt2) X.env = pure (some [x, y, z]))
    (hs : swapsWithSole [.Tuple [.Name x px, .Name y py, .Name z pz] kt pt] (.Tuple [a, b, c] k2 pt2) pos.line X.env = pure false := by rfl) :
    SS X E W (.Assign [.Tuple [.Name x px, .Name y py, .Name z pz] kt pt] (.Tuple [a, b, c] k2 pt2) pos) (sPar3 i j l fs) := by
  refine ⟨ps_mono (L2.ps_par3 hc hN hi hj hl hij hil hjl hx hy hz ha.pa hw hs) fun Z σ H h => ?_⟩
  obtain ⟨F, ρ, s, q⟩ := h
  refine ⟨F, ρ, s, Res.mono q.st (fun ds he q F1 H1 vs t1 r1 => ?_) fun c _ z => SRes.exc s z⟩
  clear he
  split at q
  · rename_i x y z
    by_cases c : x.pure = true ∧ y.pure = true ∧ z.pure = true
    · rw [if_pos c] at q
      obtain ⟨v, w, u, A, B, G, rfl, rx, ry, rz⟩ := Vw.three r1
      refine ⟨v, w, u, rfl, q F1 H1 _ t1.ff ?_⟩
      have s1 := s.set t1 (Rp.pure c.1 (.refl _) rx) .nil (fun _ z => nomatch z) hbi
      have s2 := s1.set (Tr.refl t1.fh) (Rp.pure c.2.1 (.refl _) ry) .nil (fun _ z => nomatch z) hbj
      exact s2.set (Tr.refl t1.fh) (Rp.pure c.2.2 (.refl _) rz) .nil (fun _ z => nomatch z) hbl
    · rw [if_neg c] at q
      exact q.elim
  · exact q.elim
end
end Dv
end
section
set_option maxRecDepth 100000
set_option maxHeartbeats 1000000
namespace Dv
open PySem PySem.Spec PyProof.Rows L2
/-! ## xs.index(i), the first place, in a list of ints -/
variable {X : Cx} {E : En} {W : WX}
def lixD : D → D → Option Nat
  | d, .int i => (lInts d).bind fun ns => ns.findIdx? (· == i)
  | _, _ => none
def eLix (fo f : Env → R D) : Env → R D := fun ρ => (fo ρ).bind fun x => if (lInts x).isSome = true then (f ρ).bind fun y => R.opt ((lixD x y).map fun (k : Nat) => D.int (k : Int)) else .no
@[simp] theorem eLix_eq (fo f : Env → R D) (ρ : Env) : eLix fo f ρ = (fo ρ).bind fun x => if (lInts x).isSome = true then (f ρ).bind fun y => R.opt ((lixD x y).map fun (k : Nat) => D.int (k : Int)) else .no := rfl
@[simp] theorem lixD_ints (o : Bool) (ns : List Int) (i : Int) : lixD (.lst o (dInts ns)) (.int i) = ns.findIdx? (· == i) := by simp [lixD, lInts]
theorem rIndex_ints {K : PySem.W.Frag} {a : Addr} {ns : List Int} {i : Int} {k : Nat} {H : Hp} {Q : VK} (hs : SqL K H a (ns.map V.int)) (e : ns.findIdx? (· == i) = some k) (q : Q (.int (k : Nat)) H) : rIndex K (.ref a) [.int i] H Q := by
  obtain ⟨h1, h2⟩ := find_at e
  refine ⟨a, ns.map V.int, .int i, k, .int i, rfl, rfl, hs, rfl, flat_ints ns, by rw [List.getElem?_map, h1]; rfl, beq_self_eq_true i, fun m z' hm hz => ?_, q⟩
  rw [List.getElem?_map] at hz
  cases hy : ns[m]? with
  | none => rw [hy] at hz; cases hz
  | some y =>
    rw [hy] at hz
    cases hz
    show (y == i) = false
    exact beq_eq_false_iff_ne.mpr fun e => h2 m hm (by rw [hy, e])
theorem eo_lix {o a : Expr} {fo fa : Env → R D} {apos pos : Pos} (hK : E.k.K = X.K) (ho : EV X E W o fo) (ha : EV X E W a fa)
    (hbase : attributeBase o "index" X.env (eval o X.env) = eval o X.env := by rfl)
    (hfew : ((backTo pos (starEach [a] X.env)).all (fun x => !x.1) && (backToKw pos (keywordEach [] X.env)).all (fun x => x.1.isSome)
      && decide (([a] : List Expr).length + ([] : List Keyword).length + (if ([] : List Keyword).isEmpty then 0 else 1) < 30)) = true := by rfl)
    (hline : (apos.endLine == pos.line) = true := by rfl) (hs : starEach [a] X.env = (false, eval a X.env) :: starEach [] X.env := by rfl) (hplain : (backTo pos (starEach [] X.env)).any (·.1) = false := by rfl) :
    EO X E W (.Call (.Attribute o "index" apos) [a] [] pos) (eLix fo fa) := by
  refine ⟨pe_mono (pe_bm PySem.F.plainAttrs_list PySem.F.slot_list_index PySem.F.type_list_index mt_index ho.pe (pa_cons ha.pe pa_nil hs) hbase hfew hline hs hplain) fun σ H Q q => ?_⟩
  obtain ⟨F, ρ, s, q⟩ := q
  refine ⟨F, ρ, s, Res.mono q.bind (fun x _ q F1 H1 v A t1 r1 => ?_) fun c _ z F' H' t => z F' H' t⟩
  cases en : lInts x with
  | none => rw [en] at q; exact q.elim
  | some ns =>
    rw [en] at q
    obtain ⟨b, rfl, sq⟩ := lInts_sq t1.fh r1 en
    rw [hK] at sq
    refine ⟨.inl ⟨rfl, _, sq⟩, F1, ρ, s.tr t1, Res.mono q.bind (fun y _ q F2 H2 w B t2 r2 => ?_) fun c _ z F' H' t => z F' H' (t1.trans t)⟩
    obtain ⟨d', e, p⟩ := Res.opt q
    obtain ⟨k, ek, e⟩ := Option.map_eq_some_iff.mp e
    subst e
    have g : Q (.int (k : Int)) H2 := p F2 H2 (.int (k : Int)) [] (t1.trans t2) ⟨rfl, rfl⟩ List.nodup_nil fun _ z => nomatch z
    cases y with
    | int i =>
      obtain ⟨ns', en', ei⟩ := Option.bind_eq_some_iff.mp (show (lInts x).bind (fun ns => ns.findIdx? (· == i)) = some k from ek)
      rw [en] at en'
      cases en'
      rw [r2.1]
      exact rIndex_ints (ex_l t2.hh sq) ei g
    | _ => cases ek
end Dv
end
section
set_option maxRecDepth 100000
set_option maxHeartbeats 1000000
namespace Dv
open PySem PySem.Spec PyProof.Rows L2
/-! ## a list of the def's own, frozen for one expression alone -/
variable {X : Cx} {E : En} {W : WX}
theorem tr_back {F F0 H F1 H1 : Hp} (fh : Ex F H) (x : Ex F F0) (t : Tr F0 H F1 H1) : Tr F H F H1 := ⟨.refl _, t.hh, fun a o e => t.hh a o (fh a o e), fun _ e _ => e⟩
/-- a test -/
def tLend (i : Nat) (t : Env → R Bool) : Env → R Bool := fun ρ => t (frzAt i ρ)
@[simp] theorem tLend_eq (i : Nat) (t : Env → R Bool) (ρ : Env) : tLend i t ρ = t (frzAt i ρ) := rfl
theorem et_lend {c : Expr} {t : Env → R Bool} (i : Nat) (hb : i ∉ E.bs) (h : ET X E W c t) : ET X E W c (tLend i t) := by
  refine ⟨pt_mono h.pt fun σ H Q q => ?_⟩
  obtain ⟨F, ρ, s, q⟩ := q
  obtain ⟨F', x, s'⟩ := s.frz i hb
  exact ⟨F', _, s', Res.mono q (fun b _ q F1 H1 t1 => q F H1 (tr_back s.fh x t1)) fun c _ z F1 H1 t1 => z F H1 (tr_back s.fh x t1)⟩
/-- neither a list nor a tuple nor a dict -/
def D.flat : D → Bool
  | .non => true | .bl _ => true | .int _ => true | .str _ => true
  | _ => false
theorem Rp.flat {k : Kx} {F H F' H' : Hp} : ∀ {d : D} {v : V} {A : List Addr}, d.flat = true → Rp k F H d v A → Rp k F' H' d v []
  | .non, _, _, _, r => ⟨r.1, rfl⟩
  | .bl _, _, _, _, r => ⟨r.1, rfl⟩
  | .int _, _, _, _, r => ⟨r.1, rfl⟩
  | .str _, _, _, _, r => ⟨r.1, rfl⟩
/-- a number, text or truth value got with a list frozen meanwhile -/
def eLend (i : Nat) (f : Env → R D) : Env → R D := fun ρ => (f (frzAt i ρ)).bind fun d => if d.flat = true then .ok d else .no
@[simp] theorem eLend_eq (i : Nat) (f : Env → R D) (ρ : Env) : eLend i f ρ = (f (frzAt i ρ)).bind fun d => if d.flat = true then .ok d else .no := rfl
theorem eo_lend {e : Expr} {f : Env → R D} (i : Nat) (hb : i ∉ E.bs) (h : EV X E W e f) : EO X E W e (eLend i f) := by
  refine ⟨pe_mono h.pe fun σ H Q q => ?_⟩
  obtain ⟨F, ρ, s, q⟩ := q
  obtain ⟨F', x, s'⟩ := s.frz i hb
  refine ⟨F', _, s', Res.mono q.bind (fun d _ q F1 H1 v A t1 r1 => ?_) fun c _ z F1 H1 t1 => z F H1 (tr_back s.fh x t1)⟩
  by_cases c : d.flat = true
  · rw [if_pos c] at q
    exact q F H1 v [] (tr_back s.fh x t1) (Rp.flat c r1) .nil fun _ z => nomatch z
  · rw [if_neg c] at q; exact q.elim
@[simp] theorem flat_int (n : Int) : D.flat (.int n) = true := rfl
@[simp] theorem flat_str (x : Str) : D.flat (.str x) = true := rfl
@[simp] theorem flat_bl (b : Bool) : D.flat (.bl b) = true := rfl
@[simp] theorem flat_non : D.flat .non = true := rfl
end Dv
end
section
set_option maxRecDepth 100000
set_option maxHeartbeats 1000000
namespace Dv
open PySem PySem.Spec PyProof.Rows L2
/-! ## a text times a number -/
variable {X : Cx} {E : En} {W : WX}
def srep (a : Str) (k : Int) : Str := ⟨(List.replicate k.toNat a.cps).foldl (· ++ ·) #[]⟩
def SrOk (a : Str) (k : Int) : Prop := 2 ≤ k ∧ k ≤ 1000 ∧ 0 < a.length ∧ a.length ≤ 1000 ∧ (srep a k).length ≤ 1000000
instance (a : Str) (k : Int) : Decidable (SrOk a k) := by unfold SrOk; infer_instance
def rSRep : R2 := fun x y H Q => ∃ a k, x = .str a ∧ y = .int k ∧ SrOk a k ∧ Q (.str (srep a k)) H
theorem op_srep : OpR X (binaryOp .Mult) rSRep := by
  intro pins s σ H x y v u Q I rx ry h
  obtain ⟨a, k, rfl, rfl, ⟨h1, h2, h3, h4, h5⟩, q⟩ := h
  obtain ⟨t, rfl⟩ := rx
  obtain ⟨t2, rfl⟩ := ry
  have n1 : ¬ k < 1 := by omega
  have e0 : (k == 1 || a.length == 0) = false := by
    rw [Bool.or_eq_false_iff]
    exact ⟨beq_eq_false_iff_ne.mpr (by omega), beq_eq_false_iff_ne.mpr (by omega)⟩
  refine PySem.P.mul_str ?_ (fun _ _ => ?_) (fun _ _ => ?_) ?_
  · rw [decide_eq_false (by omega), decide_eq_false (by omega)]; rfl
  · have : (1000 : Int) ≤ (2 ^ 63 - 1) / k := Int.le_ediv_of_mul_le (by omega) (by omega)
    omega
  · unfold Builtin.Str.tooLong
    have : a.length * k.toNat ≤ 1000 * 1000 := Nat.mul_le_mul h4 (by omega)
    have := sizeLine_eq
    exact decide_eq_false (by omega)
  · rw [if_neg n1, e0]
    have := sizeLine_eq
    exact ⟨show (srep a k).length ≤ sizeLine by omega, ⟨.str (srep a k), H, I.tok _, ⟨_, rfl⟩, q⟩⟩
/-- a constant text times a constant number -/
def gMulS : D → D → Option D
  | .str a, .int k => if SrOk a k then some (.str (srep a k)) else none
  | _, _ => none
@[simp] theorem gMulS_str (a : Str) (k : Int) : gMulS (.str a) (.int k) = if SrOk a k then some (.str (srep a k)) else none := rfl
theorem says_mulS : Says2 E rSRep gMulS := by
  intro F H x y v w A B Q d fh rx ry e g
  cases x with
  | str a =>
    cases y with
    | int j =>
      obtain ⟨z, e⟩ := if_some e
      cases e
      exact ⟨a, j, rx.1, ry.1, z, g.scal fh fun _ _ => ⟨rfl, rfl⟩⟩
    | _ => cases e
  | _ => cases e
theorem eo_mulS {a b : Expr} {fa fb : Env → R D} {pos : Pos} (ha : EV X E W a fa) (hb : EV X E W b fb) : EO X E W (.BinOp a .Mult b pos) (e2 gMulS fa fb) := eo_op op_srep says_mulS ha hb
end Dv
end
section
set_option maxRecDepth 100000
set_option maxHeartbeats 1000000
namespace Dv
open PySem PySem.Spec PyProof.Rows L2
/-! defs that call themselves: at the bottom nothing is said -/
theorem fn_no {P : Program} {w : World} {K : PySem.W.Frag} {mg : Str → Option Value} {base : Heap} {CX : CXT} {k n : Nat} {f : Addr} {fd : FuncData} {ps : List Str} {kx : Kx} {ec : Nat → Value} : FnOk P w K mg base CX k f fd ps (spD kx ec n fun _ => .no) :=
  ⟨fun vs H Q E h => by
    obtain ⟨F, ds, _, _, _, _, _, h⟩ := h
    exact h.elim, fun A outer s H args us vs Q E _ _ _ _ h => by
    obtain ⟨F, ds, _, _, _, _, _, h⟩ := h
    exact h.elim⟩
end Dv
end
section
set_option maxRecDepth 100000
set_option maxHeartbeats 1000000
namespace Dv
open PySem PySem.Spec PyProof.Rows L2
/-! ## dicts whose keys are tuples of ints and texts -/
section
variable {X : Cx} {pins : List (Addr × Obj)} {σ : L2.St} {H : Hp} {s : Shared} {a b : Addr} {r : Value} {d : V} {k : List Key} {A : Around} {E : Value → Shared → Prop}
theorem d_setdT {kvs : List (List Key × V)} {Q : Value → Shared → Prop} (hu : A.units + 1 < cLine) (I : Inv X pins σ H s) (e : H a = some (.dT kvs)) (eb : H b = some (.tup (k.map kV))) (rd : RelV d r) (hl : kvs.length < sizeLine)
    (h1 : ∀ v, valV kvs k = some v → ∀ (w' : Value) (s' : Shared), Inv X pins σ H s' → RelV v w' → Q w' s') (h2 : valV kvs k = none → ∀ (w' : Value) (s' : Shared), Inv X pins σ (upd H a (.dT (putK kvs k d))) s' → RelV d w' → Q w' s') :
    wpAny (model X.prog X.w) A (call (.builtin "dict.setdefault") [.ref a, .ref b, r]) Q E s := by
  obtain ⟨z, hd, xs', rel, dd⟩ := dt_of I.hok e
  have hz : xs'.length ≤ sizeLine := by rw [← Paired.length rel]; exact z
  refine call_setdefault_heap (knd := tupleKind (mixKind X.prog X.w)) (k := k) (tupleKind_room_in1 hu) (key_of I.hok eb) hd dd (fun p hp => ?_) (fun hn h' dd' hs => ?_) hz
  · have q := rel.val k
    rw [hp] at q
    cases q0 : valV kvs k with
    | none =>
      rw [q0] at q
      exact (show False from q).elim
    | some v0 =>
      rw [q0] at q
      exact h1 v0 q0 _ _ (I.tok _) q
  · have q := rel.val k
    rw [hn] at q
    cases q0 : valV kvs k with
    | some v0 =>
      rw [q0] at q
      exact (show False from q).elim
    | none =>
      have hl2 : (putK kvs k d).length ≤ sizeLine := by
        have := length_putK kvs k d
        omega
      obtain ⟨o, es, ep, hq, g2, g3, g4, _, g5⟩ := dd'
      exact h2 q0 _ _ (d_write (t' := s.toks + (tupleKind (mixKind X.prog X.w)).draws k) I (by rw [e]; exact True.intro) hs ⟨o, hq⟩ ⟨hl2, hd, _, (rel.put k eb rd).keeps (fun c ys ec => (by rw [upd_ne (ne_of ec e (fun z => nomatch z))]; exact ec)), o, es, ep, hq, g2, g3, g4, g5⟩) rd
end
/-- d.setdefault(y, z), the key a tuple -/
def tDSetdT (td ty tx : TE) : TE := fun σ H Q => td σ H fun x H1 => ∃ a, x = .ref a ∧ IsD H1 a ∧ ty σ H1 fun y H2 => tx σ H2 fun z H3 => ∃ (kvs : List (List Key × V)) (k : List Key) (b : Addr), H3 a = some (.dT kvs) ∧ y = .ref b ∧ H3 b = some (.tup (k.map kV)) ∧ kvs.length < sizeLine ∧
  (∀ v, valV kvs k = some v → Q v H3) ∧ (valV kvs k = none → Q z (upd H3 a (.dT (putK kvs k z))))
section
variable {X : Cx} {o e f : Expr} {td ty tx : TE} {apos cpos : Pos}
theorem pe_dsetdT (hu : X.A.units + 1 < cLine) (ho : PE X o td) (he : PE X e ty) (hf : PE X f tx) (m : M2 X o "setdefault" apos e f cpos) : PE X (.Call (.Attribute o "setdefault" apos) [e, f] [] cpos) (tDSetdT td ty tx) := by
  refine ⟨fun pins s σ H Q I h => ?_⟩
  refine wpAny_Call_method m.base m.few m.line PySem.F.plainAttrs_dict PySem.F.slot_dict_setdefault PySem.F.type_dict_setdefault (thn (ho.run pins s σ H _ I h) fun u s1 ⟨x, H1, I1, rx, a, ex, d, q1⟩ => ?_)
  subst ex
  obtain rfl : u = Value.ref a := rx
  obtain ⟨t1, t2, _⟩ := isD_at I1 d
  refine ⟨t1, t2, ?_⟩
  rw [m.trees]
  refine Calls.callWith_builtin rfl (Calls.evalArgs_plain (Calls.spliced_cons (thn (he.run pins s1 σ H1 _ I1 q1) fun iv s2 ⟨y, H2, I2, ry, q2⟩ =>
    Calls.spliced_cons (thn (hf.run pins s2 σ H2 _ I2 q2) fun fv s3 ⟨z, H3, I3, rz, kvs, k, b, ea, ey, eb, hl, q3, q4⟩ => Calls.spliced_nil ?_))))
  subst ey
  obtain rfl : iv = Value.ref b := ry
  exact d_setdT hu I3 ea eb rz hl (fun v hv w' s4 I4 rw' => ⟨v, _, I4, rw', q3 v hv⟩) fun hn w' s4 I4 rw' => ⟨z, _, I4, rw', q4 hn⟩
end
section
variable {X : Cx} {E : En} {W : WX}
/-! ### keys -/
def keyOf : D → Option Key
  | .int i => some (.inl i)
  | .str x => some (.inr x)
  | _ => none
def keysOf : List D → Option (List Key)
  | [] => some []
  | x :: xs => (keyOf x).bind fun k => (keysOf xs).map fun ks => k :: ks
@[simp] theorem keysOf_nil : keysOf [] = some [] := rfl
@[simp] theorem keysOf_int (i : Int) (xs : List D) : keysOf (.int i :: xs) = (keysOf xs).map fun ks => Sum.inl i :: ks := rfl
@[simp] theorem keysOf_str (i : Str) (xs : List D) : keysOf (.str i :: xs) = (keysOf xs).map fun ks => Sum.inr i :: ks := rfl
theorem keys_rp {k : Kx} {F H : Hp} : ∀ {ds : List D} {vs : List V} {A : List Addr} {ks : List Key}, RpL k F H ds vs A → keysOf ds = some ks → vs = ks.map kV
  | [], vs, A, ks, r, e => by
    cases e
    exact r.1
  | d :: ds, vs, A, ks, r, e => by
    obtain ⟨v, ws, B, C, rfl, rfl, r1, r2⟩ := r
    obtain ⟨x, ex, e⟩ := Option.bind_eq_some_iff.mp e
    obtain ⟨xs, exs, rfl⟩ := Option.map_eq_some_iff.mp e
    rw [keys_rp r2 exs, List.map_cons]
    congr 1
    cases d with
    | int i => cases ex; exact r1.1
    | str i => cases ex; exact r1.1
    | _ => cases ex
/-- of an expression that is a new tuple of ints and texts -/
def tK (E : En) (W : WX) (f : Env → R (List Key)) : TE := fun σ H Q => ∃ F ρ, Stt E F H σ ρ ∧
  Res (f ρ) (fun ks => ∀ F' H' b, Tr F H F' H' → H' b = some (.tup (ks.map kV)) → Q (.ref b) H') (fun c => ∀ F' H', Tr F H F' H' → W (E.ec c) none σ H')
structure EK (X : Cx) (E : En) (W : WX) (e : Expr) (f : Env → R (List Key)) : Prop where
  pe : PE X e (tK E W f)
/-- tuple(list) -/
def kTup (f : Env → R D) : Env → R (List Key) := fun ρ => (f ρ).bind fun d => match d with
  | .lst _ xs => R.opt (keysOf xs)
  | _ => .no
theorem kTup_eq (f : Env → R D) (ρ : Env) : kTup f ρ = (f ρ).bind fun d => match d with
  | .lst _ xs => R.opt (keysOf xs)
  | _ => .no := rfl
theorem ek_tup {x : Str} {p pos : Pos} {e : Expr} {f : Env → R D} (h : EV X E W e f) (gl : Gl X x) (hm : X.mg x = none) (hv : bootBuiltins x = some (.type "tuple")) (hn : x ≠ "__name__" := by decide) (hdb : (x == ("__debug__" : Str)) = false := by decide)
    (hs : starEach [e] X.env = (false, eval e X.env) :: starEach [] X.env := by rfl) (hpl : (backTo pos (starEach [] X.env)).any (·.1) = false := by rfl) : EK X E W (.Call (.Name x p) [e] [] pos) (kTup f) := by
  refine ⟨pe_mono (pe_callTy call_tuple_of gl hm hv (pa_cons h.pe pa_nil hs) hn hdb hs hpl) fun σ H Q h => ?_⟩
  obtain ⟨F, ρ, s, q⟩ := h
  refine ⟨F, ρ, s, Res.mono q.bind (fun d _ q F1 H1 v A t1 r1 => ?_) fun c _ z F' H' t => z F' H' t⟩
  cases d with
  | lst o xs =>
    obtain ⟨ks, ek, p⟩ := Res.opt (show Res (R.opt (keysOf xs)) _ _ from q)
    obtain ⟨a, vs, B, rfl, hl, rl⟩ := Rp.lstW t1.fh r1
    refine ⟨a, vs, rfl, .inl ⟨.inl (.inl hl), fun l hl0 => ?_⟩⟩
    have hf : F1 l = none := by
      cases q0 : F1 l with
      | none => rfl
      | some u => rw [t1.fh l u q0] at hl0; cases hl0
    exact p _ _ l (t1.trans (tr_newF t1.fh hl0)) (by rw [upd_same, keys_rp rl ek])
  | _ => exact (show False from q).elim
/-! ### looking at a dict -/
def kIx (ks : List (List Key)) (k : List Key) : Option Nat := ks.findIdx? fun x => decide (x = k)
theorem valV_zip : ∀ (ks : List (List Key)) (vs : List V) (k : List Key), ks.length = vs.length → valV (ks.zip vs) k = (kIx ks k).bind fun j => vs[j]?
  | [], vs, k, _ => rfl
  | x :: ks, [], k, h => by simp at h
  | x :: ks, v :: vs, k, h => by
    have ih := valV_zip ks vs k (by simpa using h)
    rw [List.zip_cons_cons]
    unfold kIx at ih ⊢
    rw [List.findIdx?_cons]
    by_cases e : x = k
    · rw [valV_pos (by exact e), decide_eq_true e]; rfl
    · rw [valV_neg (by exact e), ih, decide_eq_false e]
      cases ks.findIdx? (fun x => decide (x = k)) with
      | none => rfl
      | some j => simp
theorem Rp.ditW {k : Kx} {F H : Hp} {o : Bool} {ks : List (List Key)} {xs : List D} {v : V} {A : List Addr} (fh : Ex F H) (h : Rp k F H (.dit o ks xs) v A) : ∃ a vs B, v = .ref a ∧ H a = some (.dT (ks.zip vs)) ∧ ks.length = vs.length ∧ RpL k F H xs vs B := by
  obtain ⟨a, vs, B, e, l, r, h1, h2⟩ := h
  refine ⟨a, vs, B, e, ?_, l, r⟩
  cases o with
  | false => exact fh _ _ (h1 rfl).1
  | true => exact (h2 rfl).2.2
def gDget (d : D) (k : List Key) (z : D) : Option D := match d with
  | .dit _ ks xs => match kIx ks k with
    | some j => xs[j]?
    | none => some z
  | _ => none
theorem gDget_dit (o : Bool) (ks : List (List Key)) (xs : List D) (k : List Key) (z : D) : gDget (.dit o ks xs) k z = match kIx ks k with
    | some j => xs[j]?
    | none => some z := rfl
def isDit : D → Bool
  | .dit _ _ _ => true
  | _ => false
@[simp] theorem isDit_dit (o : Bool) (ks : List (List Key)) (xs : List D) : isDit (.dit o ks xs) = true := rfl
/-- d.get(key, z) -/
def eDget (fo : Env → R D) (fk : Env → R (List Key)) (fz : Env → R D) : Env → R D := fun ρ => (fo ρ).bind fun d => if isDit d = true then (fk ρ).bind fun k => (fz ρ).bind fun z => R.opt (gDget d k z) else .no
@[simp] theorem eDget_eq (fo : Env → R D) (fk : Env → R (List Key)) (fz : Env → R D) (ρ : Env) : eDget fo fk fz ρ = (fo ρ).bind fun d => if isDit d = true then (fk ρ).bind fun k => (fz ρ).bind fun z => R.opt (gDget d k z) else .no := rfl
theorem ev_dget {o e f : Expr} {apos cpos : Pos} {fo fz : Env → R D} {fk : Env → R (List Key)} (hu : X.A.units + 65 < cLine) (ho : EV X E W o fo) (he : EK X E W e fk) (hf : EV X E W f fz) (m : M2 X o "get" apos e f cpos := by exact ⟨rfl, rfl, rfl, rfl⟩) :
    EV X E W (.Call (.Attribute o "get" apos) [e, f] [] cpos) (eDget fo fk fz) := by
  refine ⟨pe_mono (pe_dget2 (by omega) ho.pe he.pe hf.pe m) fun σ H Q h => ?_⟩
  obtain ⟨F, ρ, s, q⟩ := h
  refine ⟨F, ρ, s, Res.mono q.bind (fun x _ q F1 H1 v A t1 r1 => ?_) fun c _ z F' H' t => z F' H' t⟩
  by_cases hd : isDit x = true
  · rw [if_pos hd] at q
    cases x with
    | dit o ks xs =>
      obtain ⟨a, vs, B, rfl, ha, hl, rl⟩ := Rp.ditW t1.fh r1
      refine ⟨a, rfl, .inr ⟨_, .inl ha⟩, F1, ρ, s.tr t1, Res.mono q.bind (fun k _ q F2 H2 b t2 hb => ?_) fun c _ z F' H' t => z F' H' (t1.trans t)⟩
      have t12 := t1.trans t2
      refine ⟨F2, ρ, s.tr t12, Res.mono q.bind (fun z _ q F3 H3 w C t3 rz => ?_) fun c _ z F' H' t => z F' H' (t12.trans t)⟩
      have t := t12.trans t3
      obtain ⟨d', e, p⟩ := Res.opt q
      refine ⟨_, DGet.t (t3.hh _ _ (t2.hh _ _ ha)) (t3.hh _ _ hb), ?_⟩
      rw [valV_zip ks vs k hl]
      rw [gDget_dit] at e
      cases ej : kIx ks k with
      | none =>
        rw [ej] at e
        cases e
        exact p F3 H3 w C t rz
      | some j =>
        rw [ej] at e
        obtain ⟨v, A1, B1, A3, hv, _, rv, _⟩ := rl.nth (show xs[j]? = some d' from e)
        show Q ((vs[j]?).getD w) H3
        rw [hv]
        exact p F3 H3 v B1 t ((rv.tr t2).tr t3)
    | _ => exact absurd hd (by simp [isDit])
  · rw [if_neg hd] at q
    exact q.elim
/-- {} whose keys will be tuples -/
theorem eo_ditN {pos : Pos} : EO X E W (.Dict [] [] pos) (eC (.dit true [] [])) := by
  refine ⟨pe_mono pe_dnewT fun σ H Q ⟨F, ρ, s, q⟩ => ?_⟩
  intro d hd
  have hf : F d = none := by
    cases q0 : F d with
    | none => rfl
    | some u => rw [s.fh d u q0] at hd; cases hd
  exact q F _ (.ref d) [d] (tr_new s.fh hd) ⟨d, [], [], rfl, rfl, ⟨rfl, rfl⟩, (fun z => nomatch z), fun _ => ⟨rfl, hf, upd_same⟩⟩ (by simp) fun a ha => by rw [List.mem_singleton.mp ha]; exact hd
/-! ### d.setdefault(key, []).append(e) -/
/-- what stands around a list within a slot's object -/
theorem nst_core {F H : Hp} {σ : L2.St} {ρ : Env} {fp : Nat → List Addr} {i n : Nat} {ys : List D} (s : Stt E F H σ ρ) (sl : Sl E F H σ ρ fp) : ∀ (xs : List D) (vs : List V) (A P : List Addr), fp i = P ++ A → RpL E.k F H xs vs A → xs[n]? = some (.lst true ys) →
      ∃ l ws B, vs[n]? = some (.ref l) ∧ H l = some (.lst ws) ∧ RpL E.k F H ys ws B ∧ (∀ a ∈ B, a ∈ fp i) ∧ B.Nodup ∧ l ∈ fp i ∧ l ∉ P ∧
        ∀ F' H', Tr F H F' H' → ∀ ys' ws' C, RpL E.k F' H' ys' ws' C → C.Nodup → (∀ a ∈ C, a ∈ B ∨ (E.He a = none ∧ ∀ j, a ∉ fp j)) →
          ∃ A', RpL E.k F' (upd H' l (.lst ws')) (xs.set n (.lst true ys')) vs A' ∧ (P ++ A').Nodup ∧ ∀ a ∈ P ++ A', a ∈ fp i ∨ (E.He a = none ∧ ∀ j, a ∉ fp j) := by
  have ndi := sl.nd i
  intro xs vs A P eA rl ex
  obtain ⟨v, A1, B0, A3, g1, rfl, g3, g4⟩ := rl.nth ex
  obtain ⟨l, ws, B, rfl, rfl, fl, hl, rB⟩ := lstO g3
  rw [eA] at ndi
  have n1 := List.nodup_append.mp ndi
  have n2 := List.nodup_append.mp n1.2.1
  have n3 := List.nodup_append.mp n2.1
  have n4 := List.nodup_cons.mp n3.2.1
  have lfp : l ∈ fp i := by rw [eA]; simp
  have Bfp : ∀ a ∈ B, a ∈ fp i := fun a ha => by rw [eA]; simp [ha]
  refine ⟨l, ws, B, g1, hl, rB, Bfp, n4.2, lfp, fun z => n1.2.2 l z l (by simp) rfl, fun F' H' t ys' ws' C rC nC uC => ?_⟩
  have lC : l ∉ C := fun z => (uC l z).elim n4.1 fun h => h.2 i lfp
  have notC : ∀ a, a ∈ fp i → a ∉ B → a ∉ C := fun a ha hb z => (uC a z).elim hb fun h => h.2 i ha
  refine ⟨A1 ++ (l :: C) ++ A3, g4 F' (upd H' l (.lst ws')) (.lst true ys') (l :: C) t.ff (fun a ha o e n => ?_) ⟨l, ws', C, rfl, rC.upd lC, (fun z => nomatch z), fun _ => ⟨rfl, t.no l fl (by rw [hl]; exact fun z => nomatch z), upd_same⟩⟩, ?_, fun a ha => ?_⟩
  · rw [upd_ne fun z => ?_]
    · exact ⟨t.hh a o e, t.no a n (by rw [e]; exact fun z => nomatch z)⟩
    · subst z
      rcases ha with ha | ha
      · exact n3.2.2 a ha a List.mem_cons_self rfl
      · exact n2.2.2 a (by simp) a ha rfl
  · have fpm : ∀ a, a ∈ P ∨ a ∈ A1 ∨ a ∈ A3 → a ∈ fp i := fun a ha => by rw [eA]; rcases ha with h | h | h <;> simp [h]
    have nB : ∀ a, a ∈ P ∨ a ∈ A1 ∨ a ∈ A3 → a ∉ l :: B := fun a ha hb => by
      rcases ha with h | h | h
      · exact n1.2.2 a h a (by rcases List.mem_cons.mp hb with z | z <;> simp [z]) rfl
      · exact n3.2.2 a h a hb rfl
      · exact n2.2.2 a (List.mem_append_right _ hb) a h rfl
    have nlC : ∀ a, a ∈ P ∨ a ∈ A1 ∨ a ∈ A3 → a ∉ l :: C := fun a ha hb => by
      rcases List.mem_cons.mp hb with z | z
      · exact nB a ha (by rw [z]; exact List.mem_cons_self)
      · exact notC a (fpm a ha) (fun y => nB a ha (List.mem_cons_of_mem _ y)) z
    refine List.nodup_append.mpr ⟨n1.1, List.nodup_append.mpr ⟨List.nodup_append.mpr ⟨n3.1, List.nodup_cons.mpr ⟨lC, nC⟩, fun a ha b hb z => ?_⟩, n2.2.1, fun a ha b hb z => ?_⟩, fun a ha b hb z => ?_⟩
    · subst z; exact nlC a (.inr (.inl ha)) hb
    · subst z
      rcases List.mem_append.mp ha with ha | ha
      · exact n2.2.2 a (List.mem_append_left _ ha) a hb rfl
      · exact nlC a (.inr (.inr hb)) ha
    · subst z
      rcases List.mem_append.mp hb with hb | hb
      · rcases List.mem_append.mp hb with hb | hb
        · exact n1.2.2 a ha a (by simp [hb]) rfl
        · exact nlC a (.inl ha) hb
      · exact n1.2.2 a ha a (by simp [hb]) rfl
  · rcases List.mem_append.mp ha with ha | ha
    · exact .inl (by rw [eA]; simp [ha])
    · rcases List.mem_append.mp ha with ha | ha
      · rcases List.mem_append.mp ha with ha | ha
        · exact .inl (by rw [eA]; simp [ha])
        · rcases List.mem_cons.mp ha with rfl | ha
          · exact .inl lfp
          · exact (uC a ha).imp_left fun h => Bfp a h
      · exact .inl (by rw [eA]; simp [ha])
/-- the dict in a slot may get another table -/
theorem Stt.dt {F H : Hp} {σ : L2.St} {ρ : Env} {fp : Nat → List Addr} {i : Nat} {ks : List (List Key)} {xs : List D} (s : Stt E F H σ ρ) (sl : Sl E F H σ ρ fp) (e : ρ[i]? = some (some (.dit true ks xs))) :
    ∃ a vs B, σ[i]? = some (some (.ref a)) ∧ H a = some (.dT (ks.zip vs)) ∧ ks.length = vs.length ∧ RpL E.k F H xs vs B ∧ fp i = a :: B ∧
      ∀ ks' xs' vs' C, ks'.length = vs'.length → RpL E.k F H xs' vs' C → C.Nodup → (∀ b ∈ C, b ∈ B ∨ (E.He b = none ∧ ∀ j, b ∉ fp j)) → Stt E F (upd H a (.dT (ks'.zip vs'))) σ (ρ.set i (some (.dit true ks' xs'))) := by
  obtain ⟨v, ev, r⟩ := sl.rp i _ e
  obtain ⟨a, vs, B, rfl, l, rl, _, h2⟩ := r
  obtain ⟨eA, fl, hl⟩ := h2 rfl
  have lfp : a ∈ fp i := by rw [eA]; exact List.mem_cons_self
  have Bfp : ∀ b ∈ B, b ∈ fp i := fun b hb => by rw [eA]; exact List.mem_cons_of_mem _ hb
  have ndi := sl.nd i
  rw [eA] at ndi
  have lB : a ∉ B := (List.nodup_cons.mp ndi).1
  refine ⟨a, vs, B, ev, hl, l, rl, eA, fun ks' xs' vs' C hl' rC nC uC => ?_⟩
  have lC : a ∉ C := fun z => (uC a z).elim lB fun h => h.2 i lfp
  refine s.write sl (v := .ref a) (A' := a :: C) lfp ev ⟨a, vs', C, rfl, hl', rC.upd lC, (fun z => nomatch z), fun _ => ⟨rfl, fl, upd_same⟩⟩ (List.nodup_cons.mpr ⟨lC, nC⟩) fun b hb => ?_
  rcases List.mem_cons.mp hb with rfl | hb
  · exact .inl lfp
  · exact (uC b hb).imp_left fun h => Bfp b h
/-- the list under a key may get other items -/
theorem Stt.dst {F H : Hp} {σ : L2.St} {ρ : Env} {fp : Nat → List Addr} {i n : Nat} {ks : List (List Key)} {xs ys : List D} (s : Stt E F H σ ρ) (sl : Sl E F H σ ρ fp) (e : ρ[i]? = some (some (.dit true ks xs))) (ex : xs[n]? = some (.lst true ys)) :
    ∃ a vs l ws B, σ[i]? = some (some (.ref a)) ∧ H a = some (.dT (ks.zip vs)) ∧ ks.length = vs.length ∧ vs[n]? = some (.ref l) ∧ H l = some (.lst ws) ∧ RpL E.k F H ys ws B ∧ (∀ a ∈ B, a ∈ fp i) ∧ B.Nodup ∧
      ∀ F' H', Tr F H F' H' → ∀ ys' ws' C, RpL E.k F' H' ys' ws' C → C.Nodup → (∀ a ∈ C, a ∈ B ∨ (E.He a = none ∧ ∀ j, a ∉ fp j)) → Stt E F' (upd H' l (.lst ws')) σ (ρ.set i (some (.dit true ks (xs.set n (.lst true ys'))))) := by
  obtain ⟨v, ev, r⟩ := sl.rp i _ e
  obtain ⟨a, vs, A, rfl, hlen, rl, _, g2⟩ := r
  obtain ⟨eA, fa, ha⟩ := g2 rfl
  obtain ⟨l, ws, B, h1, h2, h3, h4, h5, h6, h7, h8⟩ := nst_core s sl xs vs A [a] eA rl ex
  refine ⟨a, vs, l, ws, B, ev, ha, hlen, h1, h2, h3, h4, h5, fun F' H' t ys' ws' C rC nC uC => ?_⟩
  obtain ⟨A', k1, k2, k3⟩ := h8 F' H' t ys' ws' C rC nC uC
  have na : a ≠ l := fun z => h7 (by rw [z]; exact List.mem_singleton_self _)
  exact (s.tr t).write (sl.tr t) (v := .ref a) (A' := a :: A') h6 ev ⟨a, vs, A', rfl, hlen, k1, (fun z => nomatch z), fun _ => ⟨rfl, t.no a fa (by rw [ha]; exact fun z => nomatch z), by rw [upd_ne na]; exact t.hh _ _ ha⟩⟩ k2 k3
/-- the table behind setdefault(key, []), and the key's place -/
def dSd (ks : List (List Key)) (xs : List D) (k : List Key) : Option (List (List Key) × List D × Nat) := match kIx ks k with
  | some j => if ks.length < 16777216 then some (ks, xs, j) else none
  | none => if ks.length < 16777216 then some (ks ++ [k], xs ++ [.lst true []], ks.length) else none
def dB (i : Nat) (ks : List (List Key)) (xs : List D) (j : Nat) (f : Env → R D) : Env → SR := fun ρ => match xs[j]? with
  | some (.lst true ys) => (f ρ).st ρ fun d => if ys.length < 16777216 then .nx (ρ.set i (some (.dit true ks (xs.set j (.lst true (ys ++ [d])))))) else .no
  | _ => .no
def dApp (i : Nat) (fk : Env → R (List Key)) (f : Env → R D) : Env → SR := fun ρ => match ρ[i]?.getD none with
  | some (.dit true ks xs) => (fk ρ).st ρ fun k => match dSd ks xs k with
    | some (ks1, xs1, j) => dB i ks1 xs1 j f (ρ.set i (some (.dit true ks1 xs1)))
    | none => .no
  | _ => .no
theorem set_same {ρ : Env} {i : Nat} {d : Option D} (e : ρ[i]? = some d) : ρ.set i d = ρ := by
  refine List.ext_getElem? fun j => ?_
  by_cases h : j = i
  · subst h
    rw [List.getElem?_set_self (List.getElem?_eq_some_iff.mp e).1, e]
  · rw [List.getElem?_set_ne fun z => h z.symm]
theorem dB_ok {Z : Ends} {F F1 H1 : Hp} {σ : L2.St} {ρ1 : Env} {i j : Nat} {ks : List (List Key)} {xs : List D} {vs : List V} {a : Addr} {v : V} {f : Env → R D} (x : Ex F F1) (s1 : Stt E F1 H1 σ ρ1) (e1 : ρ1[i]? = some (some (.dit true ks xs))) (ea : σ[i]? = some (some (.ref a))) (ha : H1 a = some (.dT (ks.zip vs))) (hl : ks.length = vs.length) (hv : vs[j]? = some v) (q : SRes E W F Z (dB i ks xs j f ρ1)) :
    tyV E.k.K "list" v H1 ∧ tCons (tO E W f) tNil σ H1 fun xs H2 => rAppend v xs H2 fun _ H3 => Z.nx σ H3 := by
  obtain ⟨fp, sl⟩ := s1.sl
  have q : SRes E W F Z (match xs[j]? with
    | some (.lst true ys) => (f ρ1).st ρ1 fun d => if ys.length < 16777216 then .nx (ρ1.set i (some (.dit true ks (xs.set j (.lst true (ys ++ [d])))))) else .no
    | _ => .no) := q
  split at q
  · rename_i ys ej
    obtain ⟨a', vs', l, ws, B, h1, h2, h3, h4, h5, h6, h7, h8, h9⟩ := s1.dst sl e1 ej
    rw [ea] at h1
    cases h1
    have evs : vs' = vs := by
      rw [ha] at h2
      have h2 := HO.dT.inj (Option.some.inj h2)
      have := congrArg (List.map Prod.snd) h2
      rw [List.map_snd_zip (by omega), List.map_snd_zip (by omega)] at this
      exact this.symm
    subst evs
    rw [hv] at h4
    cases h4
    refine ⟨ty_ref (k := E.k) h5, F1, ρ1, s1, Res.mono q.st (fun y _ q F2 H2 u C t2 r2 nd un => ?_) fun c _ z F' H' t => SRes.exc s1 (SRes.at z x) F' H' t⟩
    by_cases hz : ys.length < 16777216
    · rw [if_pos hz] at q
      have new : ∀ a ∈ C, E.He a = none ∧ ∀ j, a ∉ fp j := fun a ha => s1.fresh sl (un a ha)
      have rl := h6.tr t2
      refine ⟨l, ws, u, rfl, rfl, t2.hh _ _ h5, Nat.lt_of_lt_of_eq (by rw [← rl.len]; exact hz) sizeLine_eq.symm, q F2 _ σ (x.trans t2.ff) (h9 F2 H2 t2 (ys ++ [y]) (ws ++ [u]) (B ++ C) (rl.append (RpL.one r2)) ?_ fun a ha => ?_)⟩
      · refine List.nodup_append.mpr ⟨h8, nd, fun a ha b hb z => ?_⟩
        subst z
        exact (new a hb).2 i (h7 a ha)
      · rcases List.mem_append.mp ha with ha | ha
        · exact .inl ha
        · exact .inr (new a ha)
    · rw [if_neg hz] at q
      exact q.elim
  · exact q.elim
theorem ss_dApp {i : Nat} {o k z e : Expr} {fk : Env → R (List Key)} {f : Env → R D} {apos1 cpos1 apos cpos pos : Pos} (hK : E.k.K = X.K) (hu : X.A.units + 65 < cLine) (ho : PE X o (tVar i)) (hk : EK X E W k fk) (hz : EO X E W z (eLst aNil)) (h : EO X E W e f) (m : M2 X o "setdefault" apos1 k z cpos1 := by exact ⟨rfl, rfl, rfl, rfl⟩)
    (hs : swapsWith (.Call (.Attribute (.Call (.Attribute o "setdefault" apos1) [k, z] [] cpos1) "append" apos) [e] [] cpos) none pos.line X.env = pure false := by rfl)
    (hbase : attributeBase (.Call (.Attribute o "setdefault" apos1) [k, z] [] cpos1) "append" X.env (eval (.Call (.Attribute o "setdefault" apos1) [k, z] [] cpos1) X.env) = eval (.Call (.Attribute o "setdefault" apos1) [k, z] [] cpos1) X.env := by rfl)
    (hfew : ((backTo cpos (starEach [e] X.env)).all (fun x => !x.1) && (backToKw cpos (keywordEach [] X.env)).all (fun x => x.1.isSome)
      && decide ([e].length + ([] : List Keyword).length + (if ([] : List Keyword).isEmpty then 0 else 1) < 30)) = true := by rfl)
    (hline : (apos.endLine == cpos.line) = true := by rfl) (hst : starEach [e] X.env = (false, eval e X.env) :: starEach [] X.env := by rfl) (hplain : (backTo cpos (starEach [] X.env)).any (·.1) = false := by rfl) :
    SS X E W (.Expr (.Call (.Attribute (.Call (.Attribute o "setdefault" apos1) [k, z] [] cpos1) "append" apos) [e] [] cpos) pos) (dApp i fk f) := by
  refine ⟨ps_mono (ps_expr (pe_bm PySem.F.plainAttrs_list PySem.F.slot_list_append PySem.F.type_list_append mt_append (pe_dsetdT (by omega) ho hk.pe hz.pe m) (pa_cons h.pe pa_nil hst) hbase hfew hline hst hplain) hs) fun Z σ H h => ?_⟩
  obtain ⟨F, ρ, s, q⟩ := h
  have q : SRes E W F Z (match ρ[i]?.getD none with
    | some (.dit true ks xs) => (fk ρ).st ρ fun k => match dSd ks xs k with
      | some (ks1, xs1, j) => dB i ks1 xs1 j f (ρ.set i (some (.dit true ks1 xs1)))
      | none => .no
    | _ => .no) := q
  split at q
  · rename_i ks xs e0
    have e0 := some_some e0
    obtain ⟨fp, sl⟩ := s.sl
    obtain ⟨a, vs0, B0, ev, ha, hlen, rl0, eA, _⟩ := s.dt sl e0
    refine ⟨.ref a, ev, a, rfl, .inr ⟨_, .inl ha⟩, F, ρ, s, Res.mono q.st (fun k _ q F1 H1 b t1 hb => ?_) fun c _ z => SRes.exc s z⟩
    refine ⟨F1, ρ, s.tr t1, ?_⟩
    have ez : eLst aNil ρ = .ok (.lst true []) := by simp
    rw [ez]
    intro F2 H2 w C t2 rw nd un
    have t12 := t1.trans t2
    have s2 := s.tr t12
    have sl2 := sl.tr t12
    obtain ⟨a2, vs, B, ev2, ha2, hlen2, rl, eA2, up⟩ := s2.dt sl2 e0
    rw [ev] at ev2
    cases ev2
    have hlen3 : ks.length = (ks.zip vs).length := by rw [List.length_zip]; omega
    have q : SRes E W F Z (match dSd ks xs k with
      | some (ks1, xs1, j) => dB i ks1 xs1 j f (ρ.set i (some (.dit true ks1 xs1)))
      | none => .no) := q
    unfold dSd at q
    cases ej : kIx ks k with
    | some j =>
      rw [ej] at q
      have q : SRes E W F Z (match (if ks.length < 16777216 then some (ks, xs, j) else none : Option (List (List Key) × List D × Nat)) with
        | some (ks1, xs1, j) => dB i ks1 xs1 j f (ρ.set i (some (.dit true ks1 xs1)))
        | none => .no) := q
      by_cases hz : ks.length < 16777216
      rotate_left
      · rw [if_neg hz] at q
        exact q.elim
      rw [if_pos hz] at q
      have q : SRes E W F Z (dB i ks xs j f (ρ.set i (some (.dit true ks xs)))) := q
      rw [set_same e0] at q
      have hj : j < ks.length := by
        have := List.findIdx?_eq_some_iff_findIdx_eq.mp ej
        exact this.1
      have hv : vs[j]? = some vs[j] := List.getElem?_eq_getElem (by omega)
      have vv := valV_zip ks vs k hlen2
      rw [ej] at vv
      have vv : valV (ks.zip vs) k = some vs[j] := vv.trans hv
      refine ⟨_, k, b, ha2, rfl, t2.hh _ _ hb, ?_, fun v hv' => ?_, fun hn => ?_⟩
      · rw [← hlen3, sizeLine_eq]
        exact hz
      · rw [vv] at hv'
        cases hv'
        rw [← hK]
        exact dB_ok t12.ff s2 e0 ev ha2 hlen2 hv q
      · rw [vv] at hn
        cases hn
    | none =>
      rw [ej] at q
      have vv := valV_zip ks vs k hlen2
      rw [ej] at vv
      have vv : valV (ks.zip vs) k = none := vv
      have q : SRes E W F Z (match (if ks.length < 16777216 then some (ks ++ [k], xs ++ [.lst true []], ks.length) else none : Option (List (List Key) × List D × Nat)) with
        | some (ks1, xs1, j) => dB i ks1 xs1 j f (ρ.set i (some (.dit true ks1 xs1)))
        | none => .no) := q
      by_cases hz : ks.length < 16777216
      · rw [if_pos hz] at q
        have q : SRes E W F Z (dB i (ks ++ [k]) (xs ++ [.lst true []]) ks.length f (ρ.set i (some (.dit true (ks ++ [k]) (xs ++ [.lst true []]))))) := q
        refine ⟨_, k, b, ha2, rfl, t2.hh _ _ hb, by rw [← hlen3, sizeLine_eq]; exact hz, fun v hv' => ?_, fun hn => ?_⟩
        · rw [vv] at hv'
          cases hv'
        · rw [putK_new w vv]
          have e1 : ks.zip vs ++ [(k, w)] = (ks ++ [k]).zip (vs ++ [w]) := by
            rw [List.zip_append hlen2]; rfl
          rw [e1]
          have new : ∀ a ∈ C, E.He a = none ∧ ∀ j, a ∉ fp j := fun a ha => (s.tr t1).fresh (sl.tr t1) (un a ha)
          have ndB : (a :: B).Nodup := by rw [← eA2]; exact sl.nd i
          have s3 := up (ks ++ [k]) (xs ++ [.lst true []]) (vs ++ [w]) (B ++ C) (by rw [List.length_append, List.length_append, hlen2]; rfl) (rl.append (RpL.one rw)) (List.nodup_append.mpr ⟨(List.nodup_cons.mp ndB).2, nd, fun x hx y hy z => by
            subst z
            exact (new x hy).2 i (by rw [eA2]; exact List.mem_cons_of_mem _ hx)⟩) fun x hx => by
            rcases List.mem_append.mp hx with hx | hx
            · exact .inl hx
            · exact .inr (new x hx)
          have hi : i < ρ.length := (List.getElem?_eq_some_iff.mp e0).1
          show (tyV X.K "list" w _ ∧ _)
          rw [← hK]
          exact dB_ok t12.ff s3 (List.getElem?_set_self hi) ev upd_same (by rw [List.length_append, List.length_append, hlen2]; rfl) (by rw [hlen2, List.getElem?_append_right (Nat.le_refl _), Nat.sub_self]; rfl) q
      · rw [if_neg hz] at q
        exact q.elim
  · exact q.elim
end
end Dv
end
section
set_option maxRecDepth 100000
set_option maxHeartbeats 1000000
namespace Dv
open PySem PySem.Spec PyProof.Rows L2
/-! ## text.find(text), text.removeprefix(text), int(text) -/
section
variable {X : Cx} {E : En} {W : WX}
def gFind : D → D → Option D
  | .str a, .str b => some (.int (Txt.find a b))
  | _, _ => none
@[simp] theorem gFind_str (a b : Str) : gFind (.str a) (.str b) = some (.int (Txt.find a b)) := rfl
theorem says_find : SaysM1 E (fun x xs H Q => ∃ a b, x = .str a ∧ xs = [.str b] ∧ Q (.int (Txt.find a b)) H) gFind := by
  intro F H x y v w A B Q d fh rx ry e g
  cases x with
  | str a =>
    cases y with
    | str b =>
      cases e
      exact ⟨a, b, rx.1, by rw [ry.1], g.scal fh fun _ _ => ⟨rfl, rfl⟩⟩
    | _ => cases e
  | _ => cases e
theorem eo_find {o e : Expr} {fo f : Env → R D} {apos pos : Pos} (ho : EV X E W o fo) (he : EV X E W e f) (hs : starEach [e] X.env = [(false, eval e X.env)] := by rfl) (hbase : attributeBase o "find" X.env (eval o X.env) = eval o X.env := by rfl) (hline : (apos.endLine == pos.line) = true := by rfl) :
    EO X E W (.Call (.Attribute o "find" apos) [e] [] pos) (eM1 gFind fo f) := eo_m1 PySem.F.slot_str_find PySem.F.type_str_find mt_find says_find ho he hs hbase hline
def gRmp : D → D → Option D
  | .str a, .str b => if a.length ≤ 16777216 then some (.str (Txt.removeprefix a b)) else none
  | _, _ => none
@[simp] theorem gRmp_str (a b : Str) : gRmp (.str a) (.str b) = if a.length ≤ 16777216 then some (.str (Txt.removeprefix a b)) else none := rfl
theorem says_rmp : SaysM1 E (fun x xs H Q => ∃ a b, x = .str a ∧ xs = [.str b] ∧ a.length ≤ sizeLine ∧ Q (.str (Txt.removeprefix a b)) H) gRmp := by
  intro F H x y v w A B Q d fh rx ry e g
  cases x with
  | str a =>
    cases y with
    | str b =>
      obtain ⟨z, e⟩ := if_some (show (if a.length ≤ 16777216 then some (D.str (Txt.removeprefix a b)) else none) = some d from e)
      cases e
      exact ⟨a, b, rx.1, by rw [ry.1], by rw [sizeLine_eq]; exact z, g.scal fh fun _ _ => ⟨rfl, rfl⟩⟩
    | _ => cases e
  | _ => cases e
theorem eo_rmp {o e : Expr} {fo f : Env → R D} {apos pos : Pos} (ho : EV X E W o fo) (he : EV X E W e f) (hs : starEach [e] X.env = [(false, eval e X.env)] := by rfl) (hbase : attributeBase o "removeprefix" X.env (eval o X.env) = eval o X.env := by rfl) (hline : (apos.endLine == pos.line) = true := by rfl) :
    EO X E W (.Call (.Attribute o "removeprefix" apos) [e] [] pos) (eM1 gRmp fo f) := eo_m1 PySem.F.slot_str_removeprefix PySem.F.type_str_removeprefix mt_removeprefix says_rmp ho he hs hbase hline
noncomputable def gIntS : List D → Option D
  | [.str a] => if a.length ≤ 640 then (PySem.intText? a).map D.int else none
  | _ => none
@[simp] theorem gIntS_str (a : Str) : gIntS [.str a] = if a.length ≤ 640 then (PySem.intText? a).map D.int else none := rfl
theorem says_intS : SaysC E (fun xs H Q => ∃ a n, xs = [.str a] ∧ PySem.intText? a = some n ∧ a.length ≤ 640 ∧ Q (.int n) H) gIntS := by
  intro F H ds vs Q d fh r e g
  unfold gIntS at e
  split at e
  · rename_i a
    split at e
    · rename_i z
      obtain ⟨n, en, rfl⟩ := Option.map_eq_some_iff.mp e
      obtain ⟨v, A, rfl, rr⟩ := r.one
      rw [rr.1]
      exact ⟨a, n, rfl, en, z, g.scal fh fun _ _ => ⟨rfl, rfl⟩⟩
    · cases e
  · cases e
end
end Dv
end
section
set_option maxRecDepth 100000
set_option maxHeartbeats 1000000
namespace Dv
open PySem PySem.Spec PyProof.Rows L2
/-! ## list(range(..)) -/
/-- an expression that makes a range a, a + c, .. ahead of b -/
def PRgC (X : Cx) (e : Expr) (t : L2.St → Hp → (Int → Int → Int → Hp → Prop) → Prop) : Prop :=
  ∀ (pins : List (Addr × Obj)) (s : Shared) (σ : L2.St) (H : Hp) (Q : Int → Int → Int → Hp → Prop), Inv X pins σ H s → t σ H Q →
    wpAny (model X.prog X.w) X.A (eval e X.env) (fun x s' => ∃ r a b c t u v H', x = .ref r ∧ IsRange s'.heap r a b c t u v ∧ Inv X pins σ H' s' ∧ Q a b c H') X.xe s
section
variable {X : Cx} {a b c : Expr} {ta tb tc : TE}
def tRgc1 (ta : TE) : L2.St → Hp → (Int → Int → Int → Hp → Prop) → Prop := fun σ H Q => ta σ H fun x H1 => ∃ n, x = .int n ∧ Q 0 n 1 H1
def tRgc2 (ta tb : TE) : L2.St → Hp → (Int → Int → Int → Hp → Prop) → Prop := fun σ H Q => ta σ H fun x H1 => tb σ H1 fun y H2 => ∃ i j, x = .int i ∧ y = .int j ∧ Q i j 1 H2
def tRgc3 (ta tb tc : TE) : L2.St → Hp → (Int → Int → Int → Hp → Prop) → Prop := fun σ H Q => ta σ H fun x H1 => tb σ H1 fun y H2 => tc σ H2 fun z H3 => ∃ i j k, x = .int i ∧ y = .int j ∧ z = .int k ∧ k ≠ 0 ∧ k.natAbs < 1073741824 ∧ Q i j k H3
theorem prgc_1 {p pos : Pos} (hg : Gl X "range") (hm : X.mg "range" = none) (ha : PE X a ta) (na : starEach [a] X.env = (false, eval a X.env) :: starEach [] X.env := by rfl) : PRgC X (.Call (.Name "range" p) [a] [] pos) (tRgc1 ta) := by
  intro pins s σ H Q I h
  refine Call_ (ld_blt I hg hm boot_range (PyProof.Rows.callWith_type1 (one_arg ha I h (fun v s2 x H2 I2 r q => ?_) na) na))
  obtain ⟨n, rfl, q⟩ := q
  obtain ⟨t, rfl⟩ := r
  exact call_range_1 ⟨_, 0, n, 1, _, _, _, H2, rfl, IsRange.new _ _ _ _ _ _ _, I2.kept fun b u e => Heap.get?_push_of_some _ e, q⟩
theorem prgc_2 {p pos : Pos} (hg : Gl X "range") (hm : X.mg "range" = none) (ha : PE X a ta) (hb : PE X b tb) (na : starEach [a, b] X.env = (false, eval a X.env) :: starEach [b] X.env := by rfl)
    (nb : starEach [b] X.env = (false, eval b X.env) :: starEach [] X.env := by rfl) (hp : (backTo pos (starEach [b] X.env)).any (·.1) = false := by rfl) : PRgC X (.Call (.Name "range" p) [a, b] [] pos) (tRgc2 ta tb) := by
  intro pins s σ H Q I h
  refine Call_ (ld_blt I hg hm boot_range (PyProof.Rows.callWith_type1 (args_cons (thn (ha.run pins s σ H _ I h) fun v s1 ⟨x, H1, I1, r1, q1⟩ => one_arg hb I1 q1 (fun u s2 y H2 I2 r2 q => ?_) nb) na) na hp))
  obtain ⟨i, j, rfl, rfl, q⟩ := q
  obtain ⟨t, rfl⟩ := r1
  obtain ⟨t', rfl⟩ := r2
  exact call_range_2 ⟨_, i, j, 1, _, _, _, H2, rfl, IsRange.new _ _ _ _ _ _ _, I2.kept fun b u e => Heap.get?_push_of_some _ e, q⟩
theorem prgc_3 {p pos : Pos} (hg : Gl X "range") (hm : X.mg "range" = none) (ha : PE X a ta) (hb : PE X b tb) (hc : PE X c tc) (na : starEach [a, b, c] X.env = (false, eval a X.env) :: starEach [b, c] X.env := by rfl)
    (nb : starEach [b, c] X.env = (false, eval b X.env) :: starEach [c] X.env := by rfl) (nc : starEach [c] X.env = (false, eval c X.env) :: starEach [] X.env := by rfl) (hp : (backTo pos (starEach [b, c] X.env)).any (·.1) = false := by rfl) : PRgC X (.Call (.Name "range" p) [a, b, c] [] pos) (tRgc3 ta tb tc) := by
  intro pins s σ H Q I h
  refine Call_ (ld_blt I hg hm boot_range (PyProof.Rows.callWith_type1 (args_cons (thn (ha.run pins s σ H _ I h) fun v s1 ⟨x, H1, I1, r1, q1⟩ => args_cons (thn (hb.run pins s1 σ H1 _ I1 q1) fun u s2 ⟨y, H2, I2, r2, q2⟩ => one_arg hc I2 q2 (fun w s3 z H3 I3 r3 q => ?_) nc) nb) na) na hp))
  obtain ⟨i, j, k, rfl, rfl, rfl, k0, k1, q⟩ := q
  obtain ⟨t, rfl⟩ := r1
  obtain ⟨t', rfl⟩ := r2
  obtain ⟨t'', rfl⟩ := r3
  exact call_range_3 k0 ⟨_, i, j, k, _, _, _, H3, rfl, IsRange.new _ _ _ _ _ _ _, I3.kept fun b u e => Heap.get?_push_of_some _ e, q⟩
end
/-- the ints a, a + c, .. (n of them) -/
def rgVC (a c : Int) (n : Nat) : List V := (List.range n).map fun i => V.int (a + (i : Nat) * c)
section
variable {X : Cx} {e : Expr} {te : L2.St → Hp → (Int → Int → Int → Hp → Prop) → Prop}
def tLstRgc (te : L2.St → Hp → (Int → Int → Int → Hp → Prop) → Prop) : TE := fun σ H Q => te σ H fun a b c H1 => ∃ n : Nat, Builtin.Range.small a b c = true ∧ Builtin.Range.rangeSize a b c = (n : Int) ∧ n ≤ 16777216 ∧ ∀ q, H1 q = none → Q (.ref q) (upd H1 q (.lst (rgVC a c n)))
theorem pe_listRgc {p pos : Pos} (hc : X.calm = true) (hg : Gl X "list") (hm : X.mg "list" = none) (he : PRgC X e te) (na : starEach [e] X.env = (false, eval e X.env) :: starEach [] X.env := by rfl) : PE X (.Call (.Name "list" p) [e] [] pos) (tLstRgc te) := by
  refine ⟨fun pins s σ H Q I h => ?_⟩
  refine Call_ (ld_blt I hg hm boot_list (PyProof.Rows.callWith_type1 (args_cons (thn (he pins s σ H _ I h) fun x s1 ⟨r, a, b, c, t, u, v, H1, ex, hr, I1, n, sm, sz, hn, q⟩ => args_nil ?_) na) na))
  subst ex
  refine call_list_range (n := n) (I1.ok.hd hc) hr sm sz hn fun h' tk acc c' hk e' hi => ?_
  have hv : Vals (rgVC a c n) acc.toList := by
    have el : acc.toList.length = n := by rw [Array.length_toList]; exact hi.1
    unfold rgVC
    rw [← el]
    refine vals_of_get acc.toList _ fun j u hj => ?_
    obtain ⟨t, rfl⟩ := hi.2 j u (by rw [← hj, Array.getElem?_toList])
    exact ⟨t, rfl⟩
  have hl : (rgVC a c n).length = n := by unfold rgVC; rw [List.length_map, List.length_range]
  refine ⟨.ref s1.heap.objs.size, upd H1 s1.heap.objs.size (.lst (rgVC a c n)), I1.laid hk (Nat.le_refl _) (show ObjOk X.prog X.w _ _ _ (.lst (rgVC a c n)) from ⟨?_, acc.toList, c', hv, ?_⟩), rfl, q _ (I1.hok.fresh (Nat.le_refl _))⟩
  · rw [hl, sizeLine_eq]; omega
  · rw [Array.toArray_toList]; exact e'
end
section
variable {X : Cx} {E : En} {W : WX}
theorem rpL_ints {k : Kx} {F H : Hp} : ∀ is : List Int, RpL k F H (is.map D.int) (is.map V.int) []
  | [] => ⟨rfl, rfl⟩
  | i :: is => ⟨.int i, _, [], [], rfl, rfl, ⟨rfl, rfl⟩, rpL_ints is⟩
theorem rp_rgc {F H : Hp} {k : Kx} (a c : Int) (n : Nat) : RpL k F H (rngC a c n) (rgVC a c n) [] := by
  have h := rpL_ints (k := k) (F := F) (H := H) ((List.range n).map fun i : Nat => a + (i : Int) * c)
  rw [List.map_map, List.map_map] at h
  exact h
/-- what stands for a new list of ints -/
theorem new_rgc {F H : Hp} {σ : L2.St} {ρ : Env} {Q : VK} {a c : Int} {n : Nat} (s : Stt E F H σ ρ) (g : GOk E F H Q (.lst true (rngC a c n))) : ∀ q, H q = none → Q (.ref q) (upd H q (.lst (rgVC a c n))) := by
  intro d hd
  have hf : F d = none := by
    cases q0 : F d with
    | none => rfl
    | some u => rw [s.fh d u q0] at hd; cases hd
  exact g F _ (.ref d) [d] (tr_new s.fh hd) ⟨d, rgVC a c n, [], rfl, rp_rgc a c n, (fun z => nomatch z), fun _ => ⟨rfl, hf, upd_same⟩⟩ (by simp) fun a ha => by rw [List.mem_singleton.mp ha]; exact hd
noncomputable def lrg (a b c : Int) : Option D := if R3Ok a b c (cntC a b c) ∧ cntC a b c ≤ 16777216 then some (.lst true (rngC a c (cntC a b c))) else none
noncomputable def gLrg3 : List D → Option D
  | [.int a, .int b, .int c] => lrg a b c
  | [.int a, .int b] => lrg a b 1
  | [.int b] => lrg 0 b 1
  | _ => none
@[simp] theorem gLrg3_3 (a b c : Int) : gLrg3 [.int a, .int b, .int c] = lrg a b c := rfl
@[simp] theorem gLrg3_2 (a b : Int) : gLrg3 [.int a, .int b] = lrg a b 1 := rfl
@[simp] theorem gLrg3_1 (b : Int) : gLrg3 [.int b] = lrg 0 b 1 := rfl
noncomputable def eL1 (f : Env → R D) : Env → R D := fun ρ => (f ρ).bind fun x => R.opt (gLrg3 [x])
noncomputable def eL2 (f g : Env → R D) : Env → R D := fun ρ => (f ρ).bind fun x => (g ρ).bind fun y => R.opt (gLrg3 [x, y])
noncomputable def eL3 (f g h : Env → R D) : Env → R D := fun ρ => (f ρ).bind fun x => (g ρ).bind fun y => (h ρ).bind fun z => R.opt (gLrg3 [x, y, z])
@[simp] theorem eL1_eq (f : Env → R D) (ρ : Env) : eL1 f ρ = (f ρ).bind fun x => R.opt (gLrg3 [x]) := rfl
@[simp] theorem eL2_eq (f g : Env → R D) (ρ : Env) : eL2 f g ρ = (f ρ).bind fun x => (g ρ).bind fun y => R.opt (gLrg3 [x, y]) := rfl
@[simp] theorem eL3_eq (f g h : Env → R D) (ρ : Env) : eL3 f g h ρ = (f ρ).bind fun x => (g ρ).bind fun y => (h ρ).bind fun z => R.opt (gLrg3 [x, y, z]) := rfl
theorem lrg_some {a b c : Int} {d : D} (h : lrg a b c = some d) : ∃ n : Nat, c ≠ 0 ∧ c.natAbs < 1073741824 ∧ Builtin.Range.small a b c = true ∧ Builtin.Range.rangeSize a b c = (n : Int) ∧ n ≤ 16777216 ∧ d = .lst true (rngC a c n) := by
  unfold lrg at h
  obtain ⟨z, h⟩ := if_some h
  cases h
  exact ⟨_, z.1.1, z.1.2.1, z.1.2.2.1, z.1.2.2.2, z.2, rfl⟩
theorem eo_lrg1 {a : Expr} {f : Env → R D} {p p2 pos pos2 : Pos} (hc : X.calm = true) (gl : Gl X "list") (ml : X.mg "list" = none) (gr : Gl X "range") (mr : X.mg "range" = none) (ha : EV X E W a f)
    (n1 : starEach [a] X.env = (false, eval a X.env) :: starEach [] X.env := by rfl)
    (ne : starEach [Expr.Call (.Name "range" p2) [a] [] pos2] X.env = (false, eval (.Call (.Name "range" p2) [a] [] pos2) X.env) :: starEach [] X.env := by rfl) :
    EO X E W (.Call (.Name "list" p) [.Call (.Name "range" p2) [a] [] pos2] [] pos) (eL1 f) := by
  refine ⟨pe_mono (pe_listRgc hc gl ml (prgc_1 gr mr ha.pe n1) ne) fun σ H Q h => ?_⟩
  obtain ⟨F, ρ, s, q⟩ := h
  refine ⟨F, ρ, s, Res.mono q.bind (fun x _ q F1 H1 v A t1 r1 => ?_) fun c _ z F' H' t => z F' H' t⟩
  obtain ⟨d, e, g⟩ := Res.opt q
  cases x with
  | int j =>
    rw [gLrg3_1] at e
    obtain ⟨n, c0, c1, sm, sz, hn, rfl⟩ := lrg_some e
    exact ⟨j, r1.1, n, sm, sz, hn, new_rgc (s.tr t1) (GOk.back (E := E) (F := F) (H := H) g t1)⟩
  | _ => cases e
theorem eo_lrg2 {a b : Expr} {f g : Env → R D} {p p2 pos pos2 : Pos} (hc : X.calm = true) (gl : Gl X "list") (ml : X.mg "list" = none) (gr : Gl X "range") (mr : X.mg "range" = none) (ha : EV X E W a f) (hb : EV X E W b g)
    (n1 : starEach [a, b] X.env = (false, eval a X.env) :: starEach [b] X.env := by rfl) (n2 : starEach [b] X.env = (false, eval b X.env) :: starEach [] X.env := by rfl) (hp : (backTo pos2 (starEach [b] X.env)).any (·.1) = false := by rfl)
    (ne : starEach [Expr.Call (.Name "range" p2) [a, b] [] pos2] X.env = (false, eval (.Call (.Name "range" p2) [a, b] [] pos2) X.env) :: starEach [] X.env := by rfl) :
    EO X E W (.Call (.Name "list" p) [.Call (.Name "range" p2) [a, b] [] pos2] [] pos) (eL2 f g) := by
  refine ⟨pe_mono (pe_listRgc hc gl ml (prgc_2 gr mr ha.pe hb.pe n1 n2 hp) ne) fun σ H Q h => ?_⟩
  obtain ⟨F, ρ, s, q⟩ := h
  refine ⟨F, ρ, s, Res.mono q.bind (fun x _ q F1 H1 v A t1 r1 => ?_) fun c _ z F' H' t => z F' H' t⟩
  refine ⟨F1, ρ, s.tr t1, Res.mono q.bind (fun y _ q F2 H2 w B t2 r2 => ?_) fun c _ z F' H' t => z F' H' (t1.trans t)⟩
  obtain ⟨d, e, k⟩ := Res.opt q
  have t := t1.trans t2
  cases x with
  | int i =>
    cases y with
    | int j =>
      rw [gLrg3_2] at e
      obtain ⟨n, c0, c1, sm, sz, hn, rfl⟩ := lrg_some e
      exact ⟨i, j, r1.1, r2.1, n, sm, sz, hn, new_rgc (s.tr t) (GOk.back (E := E) (F := F) (H := H) k t)⟩
    | _ => cases e
  | _ => cases e
theorem eo_lrg3 {a b c : Expr} {f g h : Env → R D} {p p2 pos pos2 : Pos} (hc : X.calm = true) (gl : Gl X "list") (ml : X.mg "list" = none) (gr : Gl X "range") (mr : X.mg "range" = none) (ha : EV X E W a f) (hb : EV X E W b g) (hcc : EV X E W c h)
    (n1 : starEach [a, b, c] X.env = (false, eval a X.env) :: starEach [b, c] X.env := by rfl) (n2 : starEach [b, c] X.env = (false, eval b X.env) :: starEach [c] X.env := by rfl) (n3 : starEach [c] X.env = (false, eval c X.env) :: starEach [] X.env := by rfl) (hp : (backTo pos2 (starEach [b, c] X.env)).any (·.1) = false := by rfl)
    (ne : starEach [Expr.Call (.Name "range" p2) [a, b, c] [] pos2] X.env = (false, eval (.Call (.Name "range" p2) [a, b, c] [] pos2) X.env) :: starEach [] X.env := by rfl) :
    EO X E W (.Call (.Name "list" p) [.Call (.Name "range" p2) [a, b, c] [] pos2] [] pos) (eL3 f g h) := by
  refine ⟨pe_mono (pe_listRgc hc gl ml (prgc_3 gr mr ha.pe hb.pe hcc.pe n1 n2 n3 hp) ne) fun σ H Q h => ?_⟩
  obtain ⟨F, ρ, s, q⟩ := h
  refine ⟨F, ρ, s, Res.mono q.bind (fun x _ q F1 H1 v A t1 r1 => ?_) fun c _ z F' H' t => z F' H' t⟩
  refine ⟨F1, ρ, s.tr t1, Res.mono q.bind (fun y _ q F2 H2 w B t2 r2 => ?_) fun c _ z F' H' t => z F' H' (t1.trans t)⟩
  have t12 := t1.trans t2
  refine ⟨F2, ρ, s.tr t12, Res.mono q.bind (fun z _ q F3 H3 u C t3 r3 => ?_) fun c _ z F' H' t => z F' H' (t12.trans t)⟩
  obtain ⟨d, e, k⟩ := Res.opt q
  have t := t12.trans t3
  cases x with
  | int i =>
    cases y with
    | int j =>
      cases z with
      | int l =>
        rw [gLrg3_3] at e
        obtain ⟨n, c0, c1, sm, sz, hn, rfl⟩ := lrg_some e
        exact ⟨i, j, l, r1.1, r2.1, r3.1, c0, c1, n, sm, sz, hn, new_rgc (s.tr t) (GOk.back (E := E) (F := F) (H := H) k t)⟩
      | _ => cases e
    | _ => cases e
  | _ => cases e
/-! ## a, b, .. = a list (frozen) -/
def gTl (gs : List D → Env → Option Env) : D → Env → Option Env
  | .lst false ds, ρ => gs ds ρ
  | _, _ => none
@[simp] theorem gTl_lst (gs : List D → Env → Option Env) (ds : List D) (ρ : Env) : gTl gs (.lst false ds) ρ = gs ds ρ := rfl
theorem eg_lst {es : List Expr} {k : Nat} {gs : List D → Env → Option Env} {pos : Pos} (hK : E.k.K = X.K) (hc : X.calm = true) (h : EGs X E es gs) (n : Nat) (hlen : ∀ ds ρ ρ', gs ds ρ = some ρ' → ds.length = n)
    (hn : (assignEach es X.env).length = n := by rfl) (hst : (assignEach es X.env).findIdx? (·.1) = none := by rfl) : EG X E (.Tuple es k pos) (gTl gs) := by
  refine ⟨pg_mono (pg_unl hc h.pg hn hst) fun v σ H Q h => ?_⟩
  obtain ⟨F, ρ, d, s, p, r, ρ', e, q⟩ := h
  cases d with
  | lst o ds =>
    cases o with
    | false =>
      have pd : D.pureL ds = true := by simpa [D.pure] using p
      obtain ⟨a, vs, B, rfl, hl, r⟩ := Rp.lstW s.fh r
      have r' := RpL.pure (H' := H) pd (Ex.refl F) r
      exact ⟨a, vs, rfl, .inl (.inl hl), by rw [← r.len]; exact hlen ds ρ ρ' e, F, ρ, ds, s, pd, r', ρ', e, q⟩
    | true => cases e
  | _ => cases e
end
end Dv
end
section
set_option maxRecDepth 100000
set_option maxHeartbeats 1000000
namespace Dv
open PySem PySem.Spec PyProof.Rows L2
/-! defs as values: a call of a value that is one of some defs -/
theorem glob_fn {kx : Kx} {mg : Str → Option Value} {x : Str} {i : Nat} (h : mg x = some (.ref (kx.fm i))) : Glob kx mg x (.fn i) := ⟨_, .ref (kx.fm i), h, rfl, fun _ _ => ⟨rfl, rfl⟩⟩
@[simp] theorem pure_fn (i : Nat) : D.pure (.fn i) = true := rfl
@[simp] theorem cold_fn (i : Nat) : D.cold (.fn i) = true := rfl
@[simp] theorem noFz_fn (i : Nat) : D.noFz (.fn i) = true := rfl
@[simp] theorem frz_fn (i : Nat) : D.frz (.fn i) = .fn i := rfl
@[simp] theorem isNon_fn (i : Nat) : isNon (.fn i) = false := rfl
structure Hld (X : Cx) (E : En) (m : Nat) (fa : Addr) (n : Nat) (g : List D → R D) : Prop where
  ex : ∃ (k : Nat) (fd : FuncData) (ps : List Str), FnOk X.prog X.w X.K X.mg X.base (L2.CX X.prog X.w) k fa fd ps (spD E.k E.ec n g) ∧ k ≤ m ∧ PySem.W.keepIn X.K (.ref fa) = true ∧ Binds X.K fd ps []
def eCallF (n : Nat) (S : Nat → Option (List D → R D)) (ff : Env → R D) (fs : Env → R (List D)) : Env → R D := fun ρ => (ff ρ).bind fun d => match d with
  | .fn j => match S j with
    | some g => (fs ρ).bind (callF n g)
    | none => .no
  | _ => .no
theorem eCallF_of {n : Nat} {S : Nat → Option (List D → R D)} {ff : Env → R D} {fs : Env → R (List D)} {ρ : Env} {j : Nat} {g : List D → R D} (h : ff ρ = .ok (.fn j)) (e : S j = some g) : eCallF n S ff fs ρ = (fs ρ).bind (callF n g) := by
  unfold eCallF
  rw [h]
  show (match S j with | some g => (fs ρ).bind (callF n g) | none => .no) = _
  rw [e]
section
variable {X : Cx} {E : En} {W : WX}
theorem eo_callF {m n : Nat} {S : Nat → Option (List D → R D)} {ff : Env → R D} {fs : Env → R (List D)} {fe e : Expr} {es : List Expr} {pos : Pos} (G : ∀ j g, S j = some g → Hld X E m (E.k.fm j) n g) (tk : Takes X W) (hr : Room m X.A) (hf : EV X E W fe ff) (ha : EA X E W (e :: es) fs)
    (ht : eval (.Call fe (e :: es) [] pos) X.env = (do callWith pos (← eval fe X.env) [] (backTo pos (starEach (e :: es) X.env)) (backToKw pos (keywordEach [] X.env))) := by rfl)
    (he : starEach (e :: es) X.env = (false, eval e X.env) :: starEach es X.env := by rfl) (hpl : (backTo pos (starEach es X.env)).any (·.1) = false := by rfl) : EO X E W (.Call fe (e :: es) [] pos) (eCallF n S ff fs) := by
  refine ⟨⟨fun pins s σ H Q I h => ?_⟩⟩
  obtain ⟨F, ρ, st, h⟩ := h
  refine Call_ (thn (hf.pe.run pins s σ H (fun v H1 => ∃ j g, v = .ref (E.k.fm j) ∧ S j = some g ∧ tA E W fs σ H1 (fun vs H2 => spD E.k E.ec n g vs H2 Q (WE W σ))) I ⟨F, ρ, st, Res.mono h.bind (fun d _ q F1 H1 v A t1 r1 => ?_) fun c _ z F' H' t => z F' H' t⟩) fun u s1 ⟨y, H1, I1, ry, j, g, ey, eS, q⟩ => ?_) ht
  · cases d with
    | fn j =>
      cases eS : S j with
      | none => simp only [eS] at q; exact q.elim
      | some g =>
        simp only [eS] at q
        exact ⟨j, g, r1.1, eS, F1, ρ, st.tr t1, Res.mono q.bind (fun ds _ q F2 H2 vs t2 r2 => call_of (Ew := WE W σ) (((st.tr t1).e0.trans t2.ff).tb) t2 r2 (Res.mono q (fun d _ p => GOk.back (F := F) (H := H) (F1 := F1) (H1 := H1) p t1) (fun c _ z F' H' t => z F' H' (t1.trans t)))) fun c _ z F' H' t => z F' H' (t1.trans t)⟩
    | _ => exact q.elim
  · subst ey
    obtain rfl : u = Value.ref (E.k.fm j) := ry
    obtain ⟨k, fd, ps, Fn, hk, kp, hb⟩ := (G j g eS).ex
    refine PySem.W.callWith_K (h₀ := X.base) I.ok.mod.kin kp (thn (ha.pa.run pos pins s1 σ _ _ I1 q) fun us s2 ⟨vs, H2, I2, r, q⟩ => ⟨I2.kIn, ?_⟩) he hpl
    exact run_fnS Fn (hr.mono hk) hb (passAt tk σ) I2 r q
end
end Dv
end
section
set_option maxRecDepth 100000
set_option maxHeartbeats 1000000
namespace Dv
open PySem PySem.Spec PyProof.Rows L2
/-! ## a def that is given its arguments for good: it may change them -/
/-- a heap without some addresses -/
def rmv (H : Hp) (A : List Addr) : Hp := fun a => if a ∈ A then none else H a
theorem rmv_some {H : Hp} {A : List Addr} {a : Addr} {o : HO} (h : rmv H A a = some o) : a ∉ A ∧ H a = some o := by
  unfold rmv at h
  by_cases c : a ∈ A
  · rw [if_pos c] at h; cases h
  · rw [if_neg c] at h; exact ⟨c, h⟩
theorem rmv_in {H : Hp} {A : List Addr} {a : Addr} (h : a ∈ A) : rmv H A a = none := if_pos h
theorem rmv_out {H : Hp} {A : List Addr} {a : Addr} (h : a ∉ A) : rmv H A a = H a := if_neg h
/-- what is promised of such a def -/
def spM (k : Kx) (ec : Nat → Value) (n : Nat) (f : List D → R D) : Sp := fun vs H Q Ew => ∃ F ds A, Ex F H ∧ Tb k F ∧ RpL k F H ds vs A ∧ A.Nodup ∧ ds.length = n ∧
  Res (f ds) (fun d => ∀ F' H' v B, Tr F (rmv H A) F' H' → Rp k F' H' d v B → B.Nodup → (∀ a ∈ B, rmv H A a = none) → Q v H') (fun c => ∀ F' H', Tr F (rmv H A) F' H' → Ew (ec c) none H')
theorem spM_len {k : Kx} {ec : Nat → Value} {n : Nat} {f : List D → R D} {vs : List V} {H : Hp} {Q : VK} {Ew : XK} (h : spM k ec n f vs H Q Ew) : vs.length = n := by
  obtain ⟨F, ds, A, _, _, r, _, l, _⟩ := h
  rw [← r.len, l]
/-- each argument's own -/
theorem rpL_split {k : Kx} {F H : Hp} : ∀ (ds : List D) (vs : List V) (A : List Addr), RpL k F H ds vs A → A.Nodup →
    ∃ fp : Nat → List Addr, (∀ i d, ds[i]? = some d → ∃ v, vs[i]? = some v ∧ Rp k F H d v (fp i)) ∧ (∀ i, ds.length ≤ i → fp i = []) ∧ (∀ i, (fp i).Nodup) ∧ (∀ i j a, a ∈ fp i → a ∈ fp j → i = j) ∧ ∀ i a, a ∈ fp i → a ∈ A
  | [], vs, A, r, nd => ⟨fun _ => [], (fun i d e => by simp at e), fun _ _ => rfl, fun _ => .nil, (fun _ _ _ z => nomatch z), fun _ _ z => nomatch z⟩
  | d :: ds, vs, A, r, nd => by
    obtain ⟨v, vs', A1, A2, rfl, rfl, r1, r2⟩ := r
    obtain ⟨n1, n2, n3⟩ := List.nodup_append.mp nd
    obtain ⟨fp, f1, f2, f3, f4, f5⟩ := rpL_split ds vs' A2 r2 n2
    refine ⟨fun i => match i with
      | 0 => A1
      | i + 1 => fp i, fun i d' e => ?_, fun i h => ?_, fun i => ?_, fun i j a h1 h2 => ?_, fun i a h => ?_⟩
    · cases i with
      | zero =>
        have : d = d' := by simpa using e
        subst this
        exact ⟨v, rfl, r1⟩
      | succ i =>
        obtain ⟨v', e1, e2⟩ := f1 i d' (by simpa using e)
        exact ⟨v', by simpa using e1, e2⟩
    · cases i with
      | zero => simp at h
      | succ i => exact f2 i (by simpa using h)
    · cases i with
      | zero => exact n1
      | succ i => exact f3 i
    · cases i with
      | zero =>
        cases j with
        | zero => rfl
        | succ j => exact absurd rfl (n3 a h1 a (f5 j a h2))
      | succ i =>
        cases j with
        | zero => exact absurd rfl (n3 a h2 a (f5 i a h1))
        | succ j => exact congrArg (· + 1) (f4 i j a h1 h2)
    · cases i with
      | zero => exact List.mem_append.mpr (.inl h)
      | succ i => exact List.mem_append.mpr (.inr (f5 i a h))
section
variable {P : Program} {w : World} {K : PySem.W.Frag} {mg : Str → Option Value} {base : Heap}
theorem fn_okM {x qual : Str} {st : Stmt} {f : Addr} {fd : FuncData} {N ps : List Str} (k n m : Nat) (kx : Kx) (ec : Nat → Value) {b : Env → SR} (hn : ps.length = n) (hm : N.length = m) (G : Fun K x qual st f fd) (S : FnScope N ps (defScope st))
    (hbody : ∀ (cdv : Value) (A : Around) (outer : List PySem.Env) (s : Shared) (H : Hp) (Ew : XK) (He F0 : Hp) (v0 : L2.St) (W : WX), Room k (A.deeper (envOfC qual (defScope st) s.heap.objs.size f cdv)) →
      Takes (cxOf (L2.CX P w) P w K mg base N qual (defScope st) f cdv A outer s H Ew) W → PassesOwn (model P w) (cxOf (L2.CX P w) P w K mg base N qual (defScope st) f cdv A outer s H Ew).A (cxOf (L2.CX P w) P w K mg base N qual (defScope st) f cdv A outer s H Ew).env (cxOf (L2.CX P w) P w K mg base N qual (defScope st) f cdv A outer s H Ew).xe →
      SB (cxOf (L2.CX P w) P w K mg base N qual (defScope st) f cdv A outer s H Ew) (En0 kx ec He F0 v0) W (defBody st) b) :
    FnOk P w K mg base (L2.CX P w) (k + 1) f fd ps (spM kx ec n (fnD n m b)) := by
  subst hn hm
  refine G.okX S (fun vs H Q E h => spM_len h) fun cdv A outer s H vs Q Ew hr h => ?_
  obtain ⟨F, ds, A0, x, tb, r, nd, l, h⟩ := h
  have sb := hbody cdv A outer s H Ew (rmv H A0) F (L2.start N vs) (fun cls d _ H => Ew cls d H) hr (takes_of rfl rfl rfl rfl) (passes_of rfl)
  obtain ⟨fp, f1, f2, f3, f4, f5⟩ := rpL_split ds vs A0 r nd
  refine ⟨_, sb.ps, F, ds.map some ++ List.replicate (N.length - ps.length) none, ?_, ?_⟩
  · have hl := r.len
    refine ⟨⟨.refl _, tb⟩, x, fun a e _ => e, fun a o e _ => (rmv_some e).2, (fun a z => nomatch z), ?_, (fun i z => nomatch z), fp, fun i d e => ?_, fun i e => ?_, f3, f4, fun i a h => .inl (rmv_in (f5 i a h))⟩
    · unfold L2.start
      rw [List.length_append, List.length_append, List.length_map, List.length_map, List.length_replicate, List.length_replicate, ← hl, l]
    · unfold L2.start
      rw [← hl, l]
      by_cases hi : i < ds.length
      · rw [List.getElem?_append_left (by rw [List.length_map]; exact hi), List.getElem?_map] at e
        cases q : ds[i]? with
        | none => rw [q] at e; cases e
        | some d' =>
          rw [q] at e
          cases e
          obtain ⟨v, h1, h2⟩ := f1 i _ q
          exact ⟨v, by rw [List.getElem?_append_left (by rw [List.length_map, ← hl]; exact hi), List.getElem?_map, h1]; rfl, h2⟩
      · rw [List.getElem?_append_right (by rw [List.length_map]; omega)] at e
        have := List.mem_of_getElem? e
        rw [List.mem_replicate] at this
        cases this.2
    · by_cases hi : i < ds.length
      · rw [List.getElem?_append_left (by rw [List.length_map]; exact hi), List.getElem?_map, List.getElem?_eq_getElem hi] at e
        cases e
      · exact f2 i (by omega)
  · unfold fnD at h
    rw [if_pos l] at h
    cases eb : b (ds.map some ++ List.replicate (N.length - ps.length) none) with
    | no => rw [eb] at h; exact h.elim
    | bk ρ => rw [eb] at h; exact h.elim
    | ct ρ => rw [eb] at h; exact h.elim
    | nx ρ => rw [eb] at h; exact fun F' H' σ _ s' => h F' H' .non [] (s'.toTr rfl) ⟨rfl, rfl⟩ .nil fun _ z => nomatch z
    | rt d ρ =>
      rw [eb] at h
      intro F' H' σ v s' fn _
      obtain ⟨A', r', nd', u⟩ := fn.rp
      exact h F' H' v A' (fn.toTr rfl) r' nd' u
    | ex c ρ => rw [eb] at h; exact fun F' H' σ _ s' => h F' H' (s'.toTr rfl)
end
section
variable {X : Cx} {E : En} {W : WX}
/-- the call: the arguments are the call's own, or pure -/
def eCallM (n : Nat) (f : List D → R D) (fs : Env → R (List D)) : Env → R D := fun ρ => (fs ρ).bind fun ds => if ds.length = n then f ds else .no
@[simp] theorem eCallM_eq (n : Nat) (f : List D → R D) (fs : Env → R (List D)) (ρ : Env) : eCallM n f fs ρ = (fs ρ).bind fun ds => if ds.length = n then f ds else .no := rfl
theorem eo_callM {k n : Nat} {fa : Addr} {fd : FuncData} {ps : List Str} {f : List D → R D} {fs : Env → R (List D)} {x : Str} {p pos : Pos} {e : Expr} {es : List Expr} (G : FnOk X.prog X.w X.K X.mg X.base (L2.CX X.prog X.w) k fa fd ps (spM E.k E.ec n f)) (tk : Takes X W) (hr : Room k X.A) (hg : Gl X x) (hm : X.mg x = some (.ref fa)) (hk : PySem.W.keepIn X.K (.ref fa) = true) (hb : Binds X.K fd ps [])
    (ha : EM X E W (e :: es) fs []) (hdb : (x == ("__debug__" : Str)) = false := by decide) (he : starEach (e :: es) X.env = (false, eval e X.env) :: starEach es X.env := by rfl) (hpl : (backTo pos (starEach es X.env)).any (·.1) = false := by rfl) : EO X E W (.Call (.Name x p) (e :: es) [] pos) (eCallM n f fs) := by
  refine ⟨pe_mono (pe_callS (E := WE W) G hr hg hm hk hb (fun σ => passAt tk σ) ha.pa hdb he hpl) fun σ H Q h => ?_⟩
  obtain ⟨F, ρ, s, q⟩ := h
  obtain ⟨fp, sl⟩ := s.sl
  refine ⟨F, ρ, fp, s, sl, Res.mono q.bind (fun ds _ q F1 H1 vs A t1 r1 nd u => ?_) fun c _ z F' H' t => z F' H' t⟩
  by_cases hl : ds.length = n
  · rw [if_pos hl] at q
    have new : ∀ a ∈ A, H a = none := fun a ha => (u a ha).elim (fun z => z) fun ⟨i, z, _⟩ => nomatch z
    have F1n : ∀ a ∈ A, F1 a = none := fun a ha => (RpL.dom ds vs A r1 a ha).1
    have back : ∀ {F' H' : Hp}, Tr F1 (rmv H1 A) F' H' → Tr F H F' H' := fun {F' H'} t => by
      refine ⟨fun a o e => t.ff a o (t1.ff a o e), fun a o e => ?_, t.fh, fun a e z => ?_⟩
      · have hA : a ∉ A := fun z => by rw [new a z] at e; cases e
        exact t.hh a o (by rw [rmv_out hA]; exact t1.hh a o e)
      · have hA : a ∉ A := fun y => z (new a y)
        refine t.no a (t1.no a e z) ?_
        rw [rmv_out hA]
        cases eo : H a with
        | none => exact absurd eo z
        | some o => rw [t1.hh a o eo]; exact fun y => nomatch y
    refine ⟨F1, ds, A, t1.fh, (s.e0.trans t1.ff).tb, r1, nd, hl, Res.mono q (fun d _ p F' H' v B t r n' u' => p F' H' v B (back t) r n' fun a ha => ?_) fun c _ z F' H' t => z F' H' (back t)⟩
    have := u' a ha
    cases eo : H a with
    | none => rfl
    | some o =>
      have hA : a ∉ A := fun z => by rw [new a z] at eo; cases eo
      rw [rmv_out hA, t1.hh a o eo] at this
      cases this
  · rw [if_neg hl] at q; exact q.elim
end
end Dv
end
section
set_option maxRecDepth 100000
set_option maxHeartbeats 1000000
/-! list(reversed(a list)) -/
namespace PySem
open Sem (wp)
open RT
section
variable {prog : Program} {w : World} {A : Around} {E : Value → Shared → Prop} {s : Shared}
theorem wpAny_extend_rev {R : Result → Shared → Prop} {it l : Addr} {items : Array Value} (hh : A.handled = none) (hit : s.heap.IsRevIter it l ((items.size : Int) - 1)) (hl : s.heap.IsList l items) (hne : l ≠ it) (hn : items.size ≤ sizeLine)
    (S : Addr) (hSi : S ≠ it) (hSl : S ≠ l) (res : Value) (c₀ : Nat) (hS : s.heap.get? S = some { cls := .type "list", data := .seq #[] c₀ })
    (hR : ∀ h' tk acc' c', (∀ b o, b ≠ S → b ≠ it → s.heap.get? b = some o → h'.get? b = some o) → h'.get? S = some { cls := .type "list", dict := none, data := .seq acc' c', slots := #[] } →
      ItemsOf (fun i v => items[items.size - 1 - i]? = some v) acc' items.size → R (.ok (.ret res)) { s with heap := h', toks := tk }) :
    wpAny (model prog w) A.in1 (Builtin.List.listExtendWith (.ref S) (.ref it) res)
      (fun fin s' => match fin with | .done f => R (.ok f) s' | .again c' => c'.quiet = true ∧ codeAny (model prog w) A c' R s') (fun e s' => R (.error e) s') s := by
  have W := (Walks.listRev (prog := prog) (w := w) (A := A.in1) hh it l hne items).toS
  have hSf : S ∉ [it, l] := by simp only [List.mem_cons, List.not_mem_nil, or_false, not_or]; exact ⟨hSi, hSl⟩
  have hT : s.TypeIs (.ref it) "list_reverseiterator" := hit.typeIs
  have h1 : Builtin.List.listSameRef (.ref S) (.ref it) = false := by simp [Builtin.List.listSameRef, hSi]
  unfold Builtin.List.listExtendWith
  refine wpAny_bind (wpAny_typeOf hT ?_)
  rw [if_neg (by rw [h1]; decide)]
  refine wpAny_bind (wpAny_pyIter_revIter hit ?_)
  refine wpAny_bind (wpAny_holding ?_)
  unfold Builtin.List.listLengthHint
  refine wpAny_bind (wpAny_specialOf hT nolen_lri ?_)
  show wpAny _ A.in1 (specialOf (Value.ref it) (Str.ofString "__length_hint__") >>= _) _ _ _
  refine wpAny_bind (wpAny_specialOf hT hint_lri ?_)
  generalize hid : ("list_reverseiterator.__length_hint__" : String) = id0
  wp_delta
  rw [show splitId id0 = some ("list_reverseiterator", "__length_hint__") from by subst hid; decide +kernel]
  subst hid
  refine wpAny_bind (wpAny_isInstance (b := true) hT (by rw [isSubtype_type]; kernel_rfl) ?_)
  refine wpAny_pure ?_
  rw [if_neg (by decide)]
  have e0 : ((items.size : Nat) : Int) - 1 - ((0 : Nat) : Int) = (items.size : Int) - 1 := by omega
  refine wpAny_pure ⟨plainId_quiet F.plain_extend_loop _, codeAny_extend_loopS W hn S hSf res items.size 0 _ _ _ rfl (Nat.zero_le _) ⟨Nat.zero_le _, by rw [e0]; exact hit, hl⟩ hS (ItemsOf.nil _) fun s' acc' c' hm hS' hacc => ?_⟩
  rw [Moved.eq_with hm]
  refine hR s'.heap s'.toks acc' c' (fun b o hb hb2 e => hm.heap b o (fun hmem => ?_) e) hS' hacc
  rcases List.mem_cons.mp hmem with e' | hmem
  · exact hb e'
  · exact hb2 (List.mem_singleton.mp hmem)
theorem wpAny_list_init_rev {R : Result → Shared → Prop} {it l : Addr} {items : Array Value} (hh : A.handled = none) (hit : s.heap.IsRevIter it l ((items.size : Int) - 1)) (hl : s.heap.IsList l items) (hne : l ≠ it) (hn : items.size ≤ sizeLine)
    (S : Addr) (hSi : S ≠ it) (hSl : S ≠ l) (hS : s.heap.get? S = some { cls := .type "list", data := .seq #[] })
    (hR : ∀ h' tk acc' c', (∀ b o, b ≠ S → b ≠ it → s.heap.get? b = some o → h'.get? b = some o) → h'.get? S = some { cls := .type "list", dict := none, data := .seq acc' c', slots := #[] } →
      ItemsOf (fun i v => items[items.size - 1 - i]? = some v) acc' items.size → R (.ok (.ret .none)) { s with heap := h', toks := tk }) :
    wpAny (model prog w) A.in1 (Builtin.«list.__init__» ⟨[.ref S, .ref it], []⟩)
      (fun fin s' => match fin with | .done f => R (.ok f) s' | .again c' => c'.quiet = true ∧ codeAny (model prog w) A c' R s') (fun e s' => R (.error e) s') s := by
  show wpAny _ _ (do let old ← Builtin.List.listItems (.ref S); Builtin.List.listUpdate (.ref S) (fun _ => #[]); letGo old.toList.reverse; Builtin.List.listExtendWith (.ref S) (.ref it) .none) _ _ s
  refine wpAny_bind ?_
  unfold Builtin.List.listItems
  refine wpAny_bind (wpAny_seqItems hS rfl (wpAny_pure ?_))
  show wpAny _ _ (updateSeq S (fun _ => #[]) >>= fun _ => letGo (#[] : Array Value).toList.reverse >>= fun _ => Builtin.List.listExtendWith (.ref S) (.ref it) .none) _ _ s
  refine wpAny_bind (wpAny_updateSeq hS rfl ?_)
  have hS₂ := Heap.get?_update_self (Obj.mapSeq (fun _ => (#[] : Array Value))) hS rfl
  have oth : ∀ b o, b ≠ S → s.heap.get? b = some o → (s.heap.update S (Obj.mapSeq (fun _ => (#[] : Array Value)))).get? b = some o :=
    fun b o hb e => (Heap.get?_update_other _ _ (Ne.symm hb)).trans e
  refine wpAny_bind (wpAny_letGo ?_)
  have hl2 : (s.heap.update S (Obj.mapSeq (fun _ => (#[] : Array Value)))).IsList l items := by
    obtain ⟨o, ho, r⟩ := hl
    exact ⟨o, oth l o (Ne.symm hSl) ho, r⟩
  refine wpAny_extend_rev hh (hit.at fun o e => oth it o (Ne.symm hSi) e) hl2 hne hn S hSi hSl .none _ hS₂ fun h' tk acc' c' hk hS' hacc => ?_
  exact hR h' tk acc' c' (fun b o hb hb2 e => hk b o hb hb2 (oth b o hb e)) hS' hacc
end
section
variable {prog : Program} {w : World} {A : Around} {E : Value → Shared → Prop} {s : Shared}
theorem call_list_rev {Q : Value → Shared → Prop} {it l : Addr} {items : Array Value} (hh : A.handled = none) (hit : s.heap.IsRevIter it l ((items.size : Int) - 1)) (hl : s.heap.IsList l items) (hne : l ≠ it) (hn : items.size ≤ sizeLine)
    (hQ : ∀ h' tk acc' c', (∀ b o, b ≠ it → s.heap.get? b = some o → h'.get? b = some o) →
      h'.get? s.heap.objs.size = some { cls := .type "list", dict := none, data := .seq acc' c', slots := #[] } → ItemsOf (fun i v => items[items.size - 1 - i]? = some v) acc' items.size → Q (.ref s.heap.objs.size) { s with heap := h', toks := tk }) :
    wpAny (model prog w) A (call (.type "list") [.ref it]) Q E s := by
  obtain ⟨oi, hoi, _⟩ := id hit
  obtain ⟨ol, hol, _⟩ := id hl
  have hSi : s.heap.objs.size ≠ it := Nat.ne_of_gt (Heap.lt_size hoi)
  have hSl : s.heap.objs.size ≠ l := Nat.ne_of_gt (Heap.lt_size hol)
  refine callType_codes (Q₁ := fun obj s₁ => obj = .ref s.heap.objs.size ∧ s₁ = { s with heap := s.heap.push { cls := .type "list", data := .seq #[] } }) F.called_list (F.typeCall_list_1 _) F.entry_list_init
    (code_list_new _ ⟨rfl, rfl⟩) fun obj s₁ h₁ => ?_
  obtain ⟨rfl, rfl⟩ := h₁
  have hS : (s.heap.push { cls := .type "list", data := .seq #[] }).get? s.heap.objs.size = some { cls := .type "list", data := .seq #[] } := Heap.get?_push_size _ rfl
  refine ⟨⟨_, hS, rfl⟩, F.args_list_init_2 _ _, wpAny_list_init_rev (A := A.in1) hh (hit.at fun o e => Heap.get?_push_of_some _ e) (hl.push _) hne hn _ hSi hSl hS fun h' tk acc' c' hk hS' hacc => ?_⟩
  exact ⟨rfl, hQ h' tk acc' c' (fun b o hb e => hk b o (Nat.ne_of_lt (Heap.lt_size e)) hb (Heap.get?_push_of_some _ e)) hS' hacc⟩
end
end PySem
namespace Dv
open PySem PySem.Spec PyProof.Rows L2 RT
section
variable {X : Cx}
def tLstRev (K : PySem.W.Frag) (te : TE) : TE := fun σ H Q => te σ H fun v H1 => ∃ (a : Addr) (xs : List V), v = .ref a ∧ SqL K H1 a xs ∧ ∀ q, H1 q = none → Q (.ref q) (upd H1 q (.lst xs.reverse))
theorem pe_lstRev {e : Expr} {te : TE} {p p2 pos pos2 : Pos} (hc : X.calm = true) (hg : Gl X "list") (hm : X.mg "list" = none) (hg2 : Gl X "reversed") (hm2 : X.mg "reversed" = none) (he : PE X e te)
    (hs : starEach [e] X.env = (false, eval e X.env) :: starEach [] X.env := by rfl)
    (hs2 : starEach [.Call (.Name "reversed" p2) [e] [] pos2] X.env = (false, eval (.Call (.Name "reversed" p2) [e] [] pos2) X.env) :: starEach [] X.env := by rfl) :
    PE X (.Call (.Name "list" p) [.Call (.Name "reversed" p2) [e] [] pos2] [] pos) (tLstRev X.K te) := by
  refine ⟨fun pins s σ H Q I h => ?_⟩
  refine Call_ (ld_blt I hg hm boot_list (PyProof.Rows.callWith_type1 (args_cons (Call_ (ld_blt I hg2 hm2 PyProof.Rows.boot_reversed (PyProof.Rows.callWith_type1 (args_cons (thn (he.run pins s σ H _ I h) fun u s1 ⟨v, H1, I1, r1, q1⟩ => args_nil ?_) hs) hs rfl))) hs2) hs2 rfl))
  obtain ⟨a, xs, ev, hq, q⟩ := q1
  subst ev
  obtain rfl : u = Value.ref a := r1
  obtain ⟨its, rv, p', hz⟩ := I1.list hq
  refine call_reversed_list p'.isList (args_nil ?_)
  have hl := p'.isList
  obtain ⟨ol, hol, _⟩ := id hl
  have hne : a ≠ s1.heap.objs.size := Nat.ne_of_lt (Heap.lt_size hol)
  have hn : its.toArray.size ≤ sizeLine := by rw [List.size_toArray, ← rv.length]; exact hz
  refine call_list_rev (s := { s1 with heap := s1.heap.push (revObj a ((its.toArray.size : Int) - 1)) }) (I1.ok.hd hc) ⟨_, Heap.get?_push_size _ rfl, rfl, rfl⟩ (hl.push _) hne hn fun h' tk acc c' hk e' hi => ?_
  have hle : s1.heap.objs.size ≤ (s1.heap.push (revObj a ((its.toArray.size : Int) - 1))).objs.size := by
    show s1.heap.objs.size ≤ (s1.heap.objs.push _).size
    rw [Array.size_push]; omega
  refine ⟨.ref (s1.heap.push (revObj a ((its.toArray.size : Int) - 1))).objs.size, upd H1 (s1.heap.push (revObj a ((its.toArray.size : Int) - 1))).objs.size (.lst xs.reverse), I1.laid (t' := tk) (fun b o e => hk b o (Nat.ne_of_lt (Heap.lt_size e)) (Heap.get?_push_of_some _ e)) hle (show ObjOk X.prog X.w _ _ _ (.lst xs.reverse) from ⟨by rw [List.length_reverse]; exact hz, acc.toList, c', vals_rev rv hi, ?_⟩), rfl, q _ (I1.hok.fresh hle)⟩
  rw [Array.toArray_toList]; exact e'
end
section
variable {X : Cx} {E : En} {W : WX}
def gRevL : D → Option D
  | .lst _ xs => if D.pureL xs = true then some (.lst true xs.reverse) else none
  | _ => none
def gRevT : D → Option D
  | .lst _ xs => if D.pureL xs = true then some (.tup xs.reverse) else none
  | _ => none
@[simp] theorem gRevL_lst (o : Bool) (xs : List D) : gRevL (.lst o xs) = if D.pureL xs = true then some (.lst true xs.reverse) else none := rfl
@[simp] theorem gRevT_lst (o : Bool) (xs : List D) : gRevT (.lst o xs) = if D.pureL xs = true then some (.tup xs.reverse) else none := rfl
def eRevL (f : Env → R D) : Env → R D := fun ρ => (f ρ).bind fun d => R.opt (gRevL d)
def eRevT (f : Env → R D) : Env → R D := fun ρ => (f ρ).bind fun d => R.opt (gRevT d)
@[simp] theorem eRevL_eq (f : Env → R D) (ρ : Env) : eRevL f ρ = (f ρ).bind fun d => R.opt (gRevL d) := rfl
@[simp] theorem eRevT_eq (f : Env → R D) (ρ : Env) : eRevT f ρ = (f ρ).bind fun d => R.opt (gRevT d) := rfl
theorem eo_revL {e : Expr} {f : Env → R D} {p p2 pos pos2 : Pos} (hK : E.k.K = X.K) (hc : X.calm = true) (hg : Gl X "list") (hm : X.mg "list" = none) (hg2 : Gl X "reversed") (hm2 : X.mg "reversed" = none) (h : EV X E W e f)
    (hs : starEach [e] X.env = (false, eval e X.env) :: starEach [] X.env := by rfl)
    (hs2 : starEach [Expr.Call (.Name "reversed" p2) [e] [] pos2] X.env = (false, eval (.Call (.Name "reversed" p2) [e] [] pos2) X.env) :: starEach [] X.env := by rfl) :
    EO X E W (.Call (.Name "list" p) [.Call (.Name "reversed" p2) [e] [] pos2] [] pos) (eRevL f) := by
  refine ⟨pe_mono (pe_lstRev hc hg hm hg2 hm2 h.pe hs hs2) fun σ H Q h => ?_⟩
  obtain ⟨F, ρ, s, q⟩ := h
  refine ⟨F, ρ, s, Res.mono q.bind (fun x _ q F1 H1 v A t1 r1 => ?_) fun c _ z F' H' t => z F' H' t⟩
  obtain ⟨d, e, g⟩ := Res.opt q
  cases x with
  | lst o xs =>
    obtain ⟨z, e⟩ := if_some (show (if D.pureL xs = true then some (D.lst true xs.reverse) else none) = some d from e)
    cases e
    obtain ⟨a, ws, rfl, sq, r⟩ := Rp.lstR t1.fh z r1
    exact ⟨a, ws, rfl, (by rw [← hK]; exact .inl (.inl sq)), fun l hl => (GOk.back (E := E) (F := F) (H := H) g t1).lst t1.fh hl r.reverse⟩
  | _ => cases e
theorem eo_revT {e : Expr} {f : Env → R D} {p p2 pos pos2 : Pos} (hK : E.k.K = X.K) (hc : X.calm = true) (hg : Gl X "tuple") (hm : X.mg "tuple" = none) (hg2 : Gl X "reversed") (hm2 : X.mg "reversed" = none) (h : EV X E W e f)
    (hs : starEach [e] X.env = (false, eval e X.env) :: starEach [] X.env := by rfl)
    (hs2 : starEach [Expr.Call (.Name "reversed" p2) [e] [] pos2] X.env = (false, eval (.Call (.Name "reversed" p2) [e] [] pos2) X.env) :: starEach [] X.env := by rfl) :
    EO X E W (.Call (.Name "tuple" p) [.Call (.Name "reversed" p2) [e] [] pos2] [] pos) (eRevT f) := by
  refine ⟨pe_mono (pe_tupRev hc hg hm hg2 hm2 h.pe hs hs2) fun σ H Q h => ?_⟩
  obtain ⟨F, ρ, s, q⟩ := h
  refine ⟨F, ρ, s, Res.mono q.bind (fun x _ q F1 H1 v A t1 r1 => ?_) fun c _ z F' H' t => z F' H' t⟩
  obtain ⟨d, e, g⟩ := Res.opt q
  cases x with
  | lst o xs =>
    obtain ⟨z, e⟩ := if_some (show (if D.pureL xs = true then some (D.tup xs.reverse) else none) = some d from e)
    cases e
    obtain ⟨a, ws, rfl, sq, r⟩ := Rp.lstR t1.fh z r1
    exact ⟨a, ws, rfl, (by rw [← hK]; exact .inl (.inl sq)), fun l hl => (GOk.back (E := E) (F := F) (H := H) g t1).tup t1.fh hl r.reverse⟩
  | _ => cases e
end
end Dv
namespace Dv
open PySem PySem.Spec PyProof.Rows L2
/-! ## x.insert(j, e): x the def's own, all in it pure -/
theorem pureL_app' : ∀ xs ys : List D, D.pureL (xs ++ ys) = (D.pureL xs && D.pureL ys)
  | [], ys => by simp [D.pureL]
  | x :: xs, ys => by rw [List.cons_append, D.pureL, D.pureL, pureL_app' xs ys, Bool.and_assoc]
theorem rpL_take {k : Kx} {F H : Hp} : ∀ (n : Nat) (ds : List D) (vs : List V), RpL k F H ds vs [] → RpL k F H (ds.take n) (vs.take n) []
  | 0, ds, vs, _ => by rw [List.take_zero, List.take_zero]; exact ⟨rfl, rfl⟩
  | n + 1, [], vs, r => by obtain ⟨rfl, _⟩ := r; exact ⟨rfl, rfl⟩
  | n + 1, d :: ds, vs, r => by
    obtain ⟨v, vs', A, B, rfl, e, r1, r2⟩ := r
    have e := List.append_eq_nil_iff.mp e.symm
    obtain ⟨rfl, rfl⟩ := e
    exact ⟨v, _, [], [], rfl, rfl, r1, rpL_take n ds vs' r2⟩
theorem rpL_drop {k : Kx} {F H : Hp} : ∀ (n : Nat) (ds : List D) (vs : List V), RpL k F H ds vs [] → RpL k F H (ds.drop n) (vs.drop n) []
  | 0, ds, vs, r => r
  | n + 1, [], vs, r => by obtain ⟨rfl, _⟩ := r; exact ⟨rfl, rfl⟩
  | n + 1, d :: ds, vs, r => by
    obtain ⟨v, vs', A, B, rfl, e, r1, r2⟩ := r
    have e := List.append_eq_nil_iff.mp e.symm
    obtain ⟨rfl, rfl⟩ := e
    exact rpL_drop n ds vs' r2
noncomputable def insK (i : Nat) (xs : List D) (d : D) (ρ : Env) : D → SR
  | .int j => if D.pureL xs = true ∧ d.pure = true ∧ 0 ≤ j ∧ W62 j ∧ xs.length < 16777216 then .nx (ρ.set i (some (.lst true (xs.take j.toNat ++ [d] ++ xs.drop j.toNat)))) else .no
  | _ => .no
@[simp] theorem insK_int (i : Nat) (xs : List D) (d : D) (ρ : Env) (j : Int) : insK i xs d ρ (.int j) = if D.pureL xs = true ∧ d.pure = true ∧ 0 ≤ j ∧ W62 j ∧ xs.length < 16777216 then .nx (ρ.set i (some (.lst true (xs.take j.toNat ++ [d] ++ xs.drop j.toNat)))) else .no := rfl
noncomputable def sIns (i : Nat) (g f : Env → R D) : Env → SR := fun ρ => onL i ρ fun xs => (g ρ).st ρ fun k => (f ρ).st ρ fun d => insK i xs d ρ k
@[simp] theorem sIns_eq (i : Nat) (g f : Env → R D) (ρ : Env) : sIns i g f ρ = onL i ρ fun xs => (g ρ).st ρ fun k => (f ρ).st ρ fun d => insK i xs d ρ k := rfl
section
variable {X : Cx} {E : En} {W : WX}
theorem ss_ins {i : Nat} {o k e : Expr} {g f : Env → R D} {apos cpos pos : Pos} (ho : PE X o (tVar i)) (hk : EV X E W k g) (h : EV X E W e f) (hs : swapsWith (.Call (.Attribute o "insert" apos) [k, e] [] cpos) none pos.line X.env = pure false := by rfl)
    (hbase : attributeBase o "insert" X.env (eval o X.env) = eval o X.env := by rfl)
    (hfew : ((backTo cpos (starEach [k, e] X.env)).all (fun x => !x.1) && (backToKw cpos (keywordEach [] X.env)).all (fun x => x.1.isSome)
      && decide ([k, e].length + ([] : List Keyword).length + (if ([] : List Keyword).isEmpty then 0 else 1) < 30)) = true := by rfl)
    (hline : (apos.endLine == cpos.line) = true := by rfl) (hst : starEach [k, e] X.env = (false, eval k X.env) :: starEach [e] X.env := by rfl) (hst2 : starEach [e] X.env = (false, eval e X.env) :: starEach [] X.env := by rfl) (hplain : (backTo cpos (starEach [e] X.env)).any (·.1) = false := by rfl) :
    SS X E W (.Expr (.Call (.Attribute o "insert" apos) [k, e] [] cpos) pos) (sIns i g f) := by
  refine ⟨ps_mono (ps_expr (pe_bm PySem.F.plainAttrs_list PySem.F.slot_list_insert PySem.F.type_list_insert mt_insert ho (pa_cons hk.pe (pa_cons h.pe pa_nil hst2) hst) hbase hfew hline hst hplain) hs) fun Z σ H h => ?_⟩
  obtain ⟨F, ρ, s, q⟩ := h
  obtain ⟨xs, e, q⟩ := onL_of q
  obtain ⟨fp, sl⟩ := s.sl
  obtain ⟨v, ev, r⟩ := sl.rp i _ e
  refine ⟨v, ev, ty_lst s.fh r, F, ρ, s, Res.mono q.st (fun kd _ q F1 H1 w A t1 r1 => ?_) fun c _ z => SRes.exc s z⟩
  refine ⟨F1, ρ, s.tr t1, Res.mono q.st (fun d _ q F2 H2 w2 A2 t2 r2 => ?_) fun c _ z F' H' t => SRes.exc s z F' H' (t1.trans t)⟩
  cases kd with
  | int j =>
    rw [insK_int] at q
    by_cases hz : D.pureL xs = true ∧ d.pure = true ∧ 0 ≤ j ∧ W62 j ∧ xs.length < 16777216
    · rw [if_pos hz] at q
      obtain ⟨px, pd, j0, j1, lx⟩ := hz
      have ew : w = .int j := r1.1
      subst ew
      have eA2 := Rp.own_nil d w2 A2 pd r2
      subst eA2
      have t12 := t1.trans t2
      have s2 := s.tr t12
      have sl2 : Sl E F2 H2 σ ρ fp := ⟨fun j d e => let ⟨v, ev, r⟩ := sl.rp j d e; ⟨v, ev, r.tr t12⟩, sl.em, sl.nd, sl.dj, sl.nw⟩
      obtain ⟨l, vs, B, rfl, eA, fl, hl, rl⟩ := lstO (r.tr t12)
      have lfp : l ∈ fp i := by rw [eA]; exact List.mem_cons_self
      have eB := RpL.pure (H' := H2) px (.refl _) rl
      refine ⟨l, vs, j, w2, rfl, rfl, hl, Nat.lt_of_lt_of_eq (by rw [← rl.len]; exact lx) sizeLine_eq.symm, j0, ?_, q F2 _ σ (t12.ff) ?_⟩
      · have := j1.2; omega
      · have new : RpL E.k F2 (upd H2 l (.lst (vs.take j.toNat ++ [w2] ++ vs.drop j.toNat))) (xs.take j.toNat ++ [d] ++ xs.drop j.toNat) (vs.take j.toNat ++ [w2] ++ vs.drop j.toNat) [] := by
          have a := (((rpL_take j.toNat xs vs eB).append (RpL.one r2)).append (rpL_drop j.toNat xs vs eB))
          exact RpL.upd a List.not_mem_nil
        exact s2.write sl2 (v := .ref l) (A' := [l]) lfp ev ⟨l, _, [], rfl, new, (fun z => nomatch z), fun _ => ⟨rfl, fl, upd_same⟩⟩ (by simp) fun a ha => .inl (by rw [List.mem_singleton.mp ha]; exact lfp)
    · rw [if_neg hz] at q; exact q.elim
  | _ => exact q.elim
end
end Dv
end
section
set_option maxRecDepth 100000
set_option maxHeartbeats 1000000
namespace Dv
open PySem PySem.Spec PyProof.Rows L2 PySem.Calls
/-! ## sorted(d), d a dict whose keys are ints -/
def rSortedDK : List V → Hp → VK → Prop := fun vs H Q => ∃ (a : Addr) (kvs : List (Key × V)) (ns : List Int), vs = [V.ref a] ∧ H a = some (.dK kvs) ∧ kvs.map (·.1) = ns.map Sum.inl ∧
  ∀ (ns' : List Int) (p : Addr), ns'.Perm ns → ns'.Pairwise (· ≤ ·) → H p = none → Q (.ref p) (upd H p (.lst (ns'.map V.int)))
theorem keyed_ints {P : Program} {w : World} : ∀ {xs : List (Key × Value)} {ns : List Int} {us : List Value}, xs.map (·.1) = ns.map Sum.inl → us.length = xs.length → (∀ (j : Nat) (v : Value), us[j]? = some v → ∃ k x, xs[j]? = some (k, x) ∧ (mixKind P w).is k v = true) → Vals (ns.map V.int) us
  | [], [], [], _, _, _ => .nil
  | [], [], _ :: _, _, h, _ => by simp at h
  | [], _ :: _, _, h, _, _ => by simp at h
  | _ :: _, [], _, h, _, _ => by simp at h
  | _ :: _, _ :: _, [], _, h, _ => by simp at h
  | x :: xs, n :: ns, u :: us, h, hl, hv => by
    rw [List.map_cons, List.map_cons] at h
    injection h with h1 h2
    obtain ⟨k, y, e, hk⟩ := hv 0 u rfl
    have e' : x = (k, y) := Option.some.inj e
    have ek : k = Sum.inl n := by rw [e'] at h1; exact h1
    rw [ek] at hk
    rcases keyIs_shape (show keyIs (Sum.inl n) u = true from hk) with ⟨i, t, q1, q2⟩ | ⟨z, t, q1, q2⟩
    · have : n = i := Sum.inl.inj q1
      subst this
      exact .cons ⟨t, q2⟩ (keyed_ints h2 (by simpa using hl) fun j v hj => hv (j + 1) v hj)
    · exact nomatch q1
section
variable {X : Cx}
/-- what is collected of a dict's keys lies behind what was there -/
theorem collect_far {prog : Program} {w : World} {A : Around} {E : Value → Shared → Prop} {s : Shared} {T : String} {r d : Addr} {n : Nat} {P : Nat → Value → Prop} {OK : Heap → Prop} {R : List Value → Shared → Prop}
    (K : PySem.W.KdlSrc prog w T r d n P OK) (hh : A.handled = none) (hok : OK s.heap) (hn : n ≤ sizeLine)
    (h : ∀ (h' : Heap) (tk : Nat) (acc : Array Value), (∀ b o, s.heap.get? b = some o → h'.get? b = some o) → s.heap.objs.size < h'.objs.size → PySem.ItemsOf P acc n → R acc.toList { s with heap := h', toks := tk }) :
    wpAny (model prog w) A (collect (.ref r)) R E s := by
  have fits := K.there _ hok
  let L : Addr := s.heap.objs.size
  let N : Heap := s.heap.push { cls := .type "list", data := .seq ([] : List Value).toArray }
  have at0 : N.get? L = some { cls := .type "list", data := .seq #[] } := Heap.get?_push_size _ rfl
  have old : ∀ b o, s.heap.get? b = some o → N.get? b = some o := fun b o e => Heap.get?_push_of_some _ e
  have run := PySem.W.kdl_extend (A := A) (s := { s with heap := N })
    (R := fun q s' => ∃ (g : Heap) (tk : Nat) (us : Array Value) (c : Nat), q = .ok (.ret (.ref L)) ∧ s' = { s with heap := g, toks := tk } ∧ (∀ b o, s.heap.get? b = some o → g.get? b = some o) ∧
      g.get? L = some { cls := .type "list", dict := none, data := .seq us c, slots := #[] } ∧ PySem.ItemsOf P us n)
    K hh (K.keep _ _ hok fun b _ o e => old b o e) L (Nat.ne_of_gt fits.1) (Nat.ne_of_gt fits.2) (.ref L) 0 at0
    (fun g tk us c kp lst it => ⟨g, tk, us, c, rfl, rfl, fun b o e => kp b o (Nat.ne_of_lt (Heap.lt_size e)) (old b o e), lst, it⟩) hn
  unfold collect
  refine wpAny_bind (wpAny_runValue (codeAny_builtin entry_proto_collect' ?_))
  rw [Around.under_plainId PySem.F.plain_proto_collect _]
  refine (show wpAny _ A.in1 (newList [] >>= fun l => again (.builtin "list.__iadd__" ⟨[l, .ref r], []⟩)) _ _ s from wpAny_bind (wpAny_newObj_type (wpAny_pure ⟨plainId_quiet PySem.F.plain_list_iadd _, codeAny_builtin entry_list_iadd' ?_⟩)))
  rw [Around.under_plainId PySem.F.plain_list_iadd _]
  have fin : ∀ {q : Result} {s' : Shared}, (∃ (g : Heap) (tk : Nat) (us : Array Value) (c : Nat), q = .ok (.ret (.ref L)) ∧ s' = { s with heap := g, toks := tk } ∧ (∀ b o, s.heap.get? b = some o → g.get? b = some o) ∧
      g.get? L = some { cls := .type "list", dict := none, data := .seq us c, slots := #[] } ∧ PySem.ItemsOf P us n) → ∃ (us : Array Value) (c : Nat), q = .ok (.ret (.ref L)) ∧ s'.heap.get? L = some { cls := .type "list", dict := none, data := .seq us c, slots := #[] } ∧ R us.toList s' :=
    fun ⟨g, tk, us, c, e1, e2, kp, lst, it⟩ => by subst e2; exact ⟨us, c, e1, lst, h g tk us kp (Heap.lt_size lst) it⟩
  refine wpAny_mono (show wpAny _ _ (Builtin.List.listExtendWith (.ref L) (.ref r) (.ref L)) _ _ _ from run) (fun f s' x => ?_) fun e s' x => ?_
  · cases f with
    | done f0 =>
      obtain ⟨us, c, e1, lst, z⟩ := fin x
      cases e1
      exact wpAny_bind (wpAny_load lst (wpAny_pure z))
    | again c0 =>
      refine ⟨x.1, codeAny_mono x.2 fun q s2 y => ?_⟩
      obtain ⟨us, c, rfl, lst, z⟩ := fin y
      exact wpAny_bind (wpAny_load lst (wpAny_pure z))
  · obtain ⟨_, _, _, _, e1, _⟩ := x
    cases e1
theorem cr_sortedDK (hc : X.calm = true) : CallR X (.builtin "sorted") rSortedDK := by
  intro pins s σ H vs us Q I r h
  obtain ⟨a, kvs, ns, rfl, ha, hk, q⟩ := h
  obtain rfl := Vals.ref1 r
  obtain ⟨z, hd, xs, rel, dd⟩ := dk_of I.hok ha
  obtain ⟨ep, hat⟩ := dd.dictAt
  have hl : xs.length ≤ sizeLine := by rw [← rel.length]; exact z
  refine call_function_entry kind_sorted plain_sorted entry_sorted (args_sorted1 _) ?_
  unfold Builtin.«sorted»
  refine wpAny_bind (m := checkCount "sorted" 1 1 _) (wpAny_pure ?_)
  refine wpAny_bind (collect_far (A := X.A.in1) (PySem.W.kdl_dict (knd := mixKind X.prog X.w) (kvs := xs) (ep := ep) hd) (I.ok.hd hc) hat hl fun h' tk acc hkp hlt hacc => ?_)
  have la : acc.toList.length = xs.length := by rw [Array.length_toList]; exact hacc.1
  refine wpAny_bind (wpAny_newList ?_ (by rw [la]; exact hl))
  have rv : Vals (ns.map V.int) acc.toList := keyed_ints (P := X.prog) (w := X.w) (by rw [← rel.keys]; exact hk) la fun j v hj => hacc.2 j v (by rw [← Array.getElem?_toList]; exact hj)
  have hob : (h'.push { cls := .type "list", data := .seq acc.toList.toArray }).get? h'.objs.size = some (seqObj "list" acc.toList.toArray 0) := Heap.get?_push_size _ rfl
  refine wpAny_bind (wpAny_holding ?_)
  have hz : acc.toList.length ≤ sizeLine := by rw [la]; exact hl
  refine wpAny_call_entry PyProof.Rows.slot_list_sort ⟨_, hob, rfl⟩ PyProof.Rows.entry_list_sort
    (SrtO.list_sort_ord SrtO.swo_int hob hz (fun h2 => SrtO.ints_sortable rv.ints h2) fun out h1 h2 => ⟨.none, rfl, ?_⟩) (PyProof.Rows.args_list_sort _)
  obtain ⟨k1, k2, k3⟩ := SrtO.ints_out rv.ints h1 h2
  obtain ⟨ep2, he'⟩ := PyProof.Rows.sortedHeap_at (vs := acc.toList) (out := out.toArray) hob
  have hlen : ((out.map SrtO.iv).map V.int).length ≤ sizeLine := by
    rw [List.length_map, k2.length_eq]
    have := rv.length
    rw [List.length_map] at this
    omega
  refine wpAny_pure ?_
  refine ⟨_, rfl, ?_⟩
  have hge : s.heap.objs.size ≤ h'.objs.size := Nat.le_of_lt hlt
  refine ⟨.ref h'.objs.size, upd H h'.objs.size (.lst ((out.map SrtO.iv).map V.int)), I.laid (t' := tk) (fun b o e => ?_) hge ⟨hlen, out, ep2, vals_of_ints k1, he'⟩, rfl, q _ _ k2 k3 (I.hok.fresh hge)⟩
  have hb : b ≠ h'.objs.size := fun z => by rw [z] at e; exact absurd (Heap.lt_size (hkp _ _ e)) (Nat.lt_irrefl _)
  have e1 := hkp b o e
  rw [PyProof.Rows.sortedHeap_old hb (by rw [size_push']; exact Nat.lt_succ_of_lt (Heap.lt_size e1))]
  exact Heap.get?_push_of_some _ e1
end
section
variable {X : Cx} {E : En} {W : WX}
/-! ## dicts whose keys are ints and texts -/
instance decKey (k : Key) (ks : List Key) : Decidable (k ∈ ks) := @List.instDecidableMemOfLawfulBEq Key instBEqOfDecidableEq inferInstance k ks
theorem if_of {α : Type} {c : Prop} [Decidable c] {o : Option α} {d : α} (h : (if c then o else none) = some d) : c ∧ o = some d := by
  by_cases z : c
  · rw [if_pos z] at h; exact ⟨z, h⟩
  · rw [if_neg z] at h; cases h
def kIxK (ks : List Key) (k : Key) : Option Nat := ks.findIdx? fun x => decide (x = k)
theorem valV_zipK : ∀ (ks : List Key) (vs : List V) (k : Key), ks.length = vs.length → valV (ks.zip vs) k = (kIxK ks k).bind fun j => vs[j]?
  | [], vs, k, _ => rfl
  | x :: ks, [], k, h => by simp at h
  | x :: ks, v :: vs, k, h => by
    have ih := valV_zipK ks vs k (by simpa using h)
    unfold kIxK at ih ⊢
    rw [List.zip_cons_cons, List.findIdx?_cons]
    by_cases e : x = k
    · rw [valV_pos (by exact e), decide_eq_true e]; rfl
    · rw [valV_neg (by exact e), ih, decide_eq_false e]
      cases ks.findIdx? (fun x => decide (x = k)) with
      | none => rfl
      | some j => simp
theorem kIxK_lt {ks : List Key} {k : Key} {j : Nat} (h : kIxK ks k = some j) : j < ks.length := by
  unfold kIxK at h
  exact (List.findIdx?_eq_some_iff_getElem.mp h).1
theorem kIxK_some (ks : List Key) (k : Key) : (kIxK ks k).isSome = decide (k ∈ ks) := by
  unfold kIxK
  rw [List.findIdx?_isSome]
  by_cases h : k ∈ ks
  · rw [decide_eq_true h, List.any_eq_true]; exact ⟨k, h, by simp⟩
  · rw [decide_eq_false h, List.any_eq_false]; intro x hx e; exact h (by have := of_decide_eq_true e; rw [← this]; exact hx)
theorem Rp.dicW {k : Kx} {F H : Hp} {o : Bool} {ks : List Key} {xs : List D} {v : V} {A : List Addr} (fh : Ex F H) (h : Rp k F H (.dic o ks xs) v A) : ∃ a vs B, v = .ref a ∧ H a = some (.dK (ks.zip vs)) ∧ ks.length = vs.length ∧ RpL k F H xs vs B := by
  obtain ⟨a, vs, B, e, l, r, h1, h2⟩ := h
  refine ⟨a, vs, B, e, ?_, l, r⟩
  cases o with
  | false => exact fh _ _ (h1 rfl).1
  | true => exact (h2 rfl).2.2
theorem keyOf_rp {k : Kx} {F H : Hp} {d : D} {v : V} {A : List Addr} {x : Key} (r : Rp k F H d v A) (e : keyOf d = some x) : v = kV x := by
  cases d with
  | int i => cases e; exact r.1
  | str i => cases e; exact r.1
  | _ => cases e
theorem eo_dicN {pos : Pos} : EO X E W (.Dict [] [] pos) (eC (.dic true [] [])) := by
  refine ⟨pe_mono pe_dnewK fun σ H Q ⟨F, ρ, s, q⟩ => ?_⟩
  intro d hd
  have hf : F d = none := by
    cases q0 : F d with
    | none => rfl
    | some u => rw [s.fh d u q0] at hd; cases hd
  exact q F _ (.ref d) [d] (tr_new s.fh hd) ⟨d, [], [], rfl, rfl, ⟨rfl, rfl⟩, (fun z => nomatch z), fun _ => ⟨rfl, hf, upd_same⟩⟩ (by simp) fun a ha => by rw [List.mem_singleton.mp ha]; exact hd
/-! ### in, not in -/
def rDIn (neg : Bool) : R2 := fun x y H Q => ∃ a o, y = .ref a ∧ DGet H a x o ∧ Q (.bl (if neg then !o.isSome else o.isSome)) H
theorem op_dIn (hu : X.A.units + 65 < cLine) : OpR X (compareOp .In) (rDIn false) := fun pins s σ H x y v u Q I rx ry h => by
  obtain ⟨a, o, rfl, g, q⟩ := h
  obtain rfl : u = Value.ref a := ry
  exact d_in (by omega) I g rx fun s' I' => ⟨.bl o.isSome, H, I', rfl, q⟩
theorem op_dNotIn (hu : X.A.units + 65 < cLine) : OpR X (compareOp .NotIn) (rDIn true) := fun pins s σ H x y v u Q I rx ry h => by
  obtain ⟨a, o, rfl, g, q⟩ := h
  obtain rfl : u = Value.ref a := ry
  exact d_notIn (by omega) I g rx fun s' I' => ⟨.bl (!o.isSome), H, I', rfl, q⟩
def gDIn (x d : D) : Option D := match d with
  | .dic _ ks xs => if ks.length = xs.length then (keyOf x).map fun k => .bl (decide (k ∈ ks)) else none
  | _ => none
def gDNotIn (x d : D) : Option D := match d with
  | .dic _ ks xs => if ks.length = xs.length then (keyOf x).map fun k => .bl (!decide (k ∈ ks)) else none
  | _ => none
@[simp] theorem gDIn_dic (x : D) (o : Bool) (ks : List Key) (xs : List D) : gDIn x (.dic o ks xs) = if ks.length = xs.length then (keyOf x).map fun k => .bl (decide (k ∈ ks)) else none := rfl
@[simp] theorem gDNotIn_dic (x : D) (o : Bool) (ks : List Key) (xs : List D) : gDNotIn x (.dic o ks xs) = if ks.length = xs.length then (keyOf x).map fun k => .bl (!decide (k ∈ ks)) else none := rfl
@[simp] theorem keyOf_int (i : Int) : keyOf (.int i) = some (.inl i) := rfl
@[simp] theorem keyOf_str (x : Str) : keyOf (.str x) = some (.inr x) := rfl
theorem RpL.leng {k : Kx} {F H : Hp} : ∀ {ds : List D} {vs : List V} {A : List Addr}, RpL k F H ds vs A → ds.length = vs.length := fun r => r.len
theorem dIn_some {ks : List Key} {vs : List V} {k : Key} (h : ks.length = vs.length) : (valV (ks.zip vs) k).isSome = decide (k ∈ ks) := by
  rw [valV_zipK ks vs k h, ← kIxK_some]
  cases e : kIxK ks k with
  | none => rfl
  | some j =>
    have := kIxK_lt e
    show (vs[j]?).isSome = true
    rw [List.getElem?_eq_getElem (by omega)]; rfl
theorem says_dIn : Says2 E (rDIn false) gDIn := by
  intro F H x y v w A B Q d fh rx ry e g
  cases y with
  | dic o ks xs =>
    obtain ⟨z, e⟩ := if_of (show (if ks.length = xs.length then (keyOf x).map fun k => D.bl (decide (k ∈ ks)) else none) = some d from e)
    obtain ⟨k, ek, rfl⟩ := Option.map_eq_some_iff.mp e
    obtain ⟨a, vs, C, rfl, ha, hl, rl⟩ := Rp.dicW fh ry
    rw [keyOf_rp rx ek]
    refine ⟨a, _, rfl, DGet.k ha, ?_⟩
    show Q (.bl (valV (ks.zip vs) k).isSome) H
    rw [dIn_some hl]
    exact g.scal fh fun _ _ => ⟨rfl, rfl⟩
  | _ => cases e
theorem says_dNotIn : Says2 E (rDIn true) gDNotIn := by
  intro F H x y v w A B Q d fh rx ry e g
  cases y with
  | dic o ks xs =>
    obtain ⟨z, e⟩ := if_of (show (if ks.length = xs.length then (keyOf x).map fun k => D.bl (!decide (k ∈ ks)) else none) = some d from e)
    obtain ⟨k, ek, rfl⟩ := Option.map_eq_some_iff.mp e
    obtain ⟨a, vs, C, rfl, ha, hl, rl⟩ := Rp.dicW fh ry
    rw [keyOf_rp rx ek]
    refine ⟨a, _, rfl, DGet.k ha, ?_⟩
    show Q (.bl (!(valV (ks.zip vs) k).isSome)) H
    rw [dIn_some hl]
    exact g.scal fh fun _ _ => ⟨rfl, rfl⟩
  | _ => cases e
theorem gDIn_isbl (x y d : D) (e : gDIn x y = some d) : ∃ b, d = .bl b := by
  cases y with
  | dic o ks xs =>
    obtain ⟨_, e⟩ := if_of (show (if ks.length = xs.length then (keyOf x).map fun k => D.bl (decide (k ∈ ks)) else none) = some d from e)
    obtain ⟨k, _, rfl⟩ := Option.map_eq_some_iff.mp e
    exact ⟨_, rfl⟩
  | _ => cases e
theorem gDNotIn_isbl (x y d : D) (e : gDNotIn x y = some d) : ∃ b, d = .bl b := by
  cases y with
  | dic o ks xs =>
    obtain ⟨_, e⟩ := if_of (show (if ks.length = xs.length then (keyOf x).map fun k => D.bl (!decide (k ∈ ks)) else none) = some d from e)
    obtain ⟨k, _, rfl⟩ := Option.map_eq_some_iff.mp e
    exact ⟨_, rfl⟩
  | _ => cases e
section
variable {a b : Expr} {fa fb : Env → R D} {pos : Pos}
theorem eo_dIn (hu : X.A.units + 65 < cLine) (ha : EV X E W a fa) (hb : EV X E W b fb) (hm : behindInMarks .In b = false := by rfl) : EO X E W (.Compare a [.In] [b] pos) (e2 gDIn fa fb) := eo_cmp (op_dIn hu) says_dIn hm ha hb
theorem eo_dNotIn (hu : X.A.units + 65 < cLine) (ha : EV X E W a fa) (hb : EV X E W b fb) (hm : behindInMarks .NotIn b = false := by rfl) : EO X E W (.Compare a [.NotIn] [b] pos) (e2 gDNotIn fa fb) := eo_cmp (op_dNotIn hu) says_dNotIn hm ha hb
theorem et_dIn (hu : X.A.units + 65 < cLine) (ha : EV X E W a fa) (hb : EV X E W b fb) (hm : behindInMarks .In b = false := by rfl) : ET X E W (.Compare a [.In] [b] pos) (eT (e2 gDIn fa fb)) := et_cmp (op_dIn hu) says_dIn gDIn_isbl hm ha hb
theorem et_dNotIn (hu : X.A.units + 65 < cLine) (ha : EV X E W a fa) (hb : EV X E W b fb) (hm : behindInMarks .NotIn b = false := by rfl) : ET X E W (.Compare a [.NotIn] [b] pos) (eT (e2 gDNotIn fa fb)) := et_cmp (op_dNotIn hu) says_dNotIn gDNotIn_isbl hm ha hb
end
/-! ### d[k] -/
def gDIx (d x : D) : Option D := match d with
  | .dic _ ks xs => (keyOf x).bind fun k => (kIxK ks k).bind fun j => xs[j]?
  | _ => none
@[simp] theorem gDIx_dic (x : D) (o : Bool) (ks : List Key) (xs : List D) : gDIx (.dic o ks xs) x = (keyOf x).bind fun k => (kIxK ks k).bind fun j => xs[j]? := rfl
theorem ev_dIx {o i : Expr} {fo fi : Env → R D} {pos : Pos} (hu : X.A.units + 65 < cLine) (ho : EV X E W o fo) (hi : EV X E W i fi) (hs : NoSl i := by intro _ _; rfl) : EV X E W (.Subscript o i pos) (e2 gDIx fo fi) := by
  refine ⟨pe_mono (pe_dget (by omega) ho.pe hi.pe hs) fun σ H Q h => ?_⟩
  obtain ⟨F, ρ, s, q⟩ := h
  refine ⟨F, ρ, s, Res.mono q.bind (fun x _ q F1 H1 v A t1 r1 => ?_) fun c _ z F' H' t => z F' H' t⟩
  refine ⟨F1, ρ, s.tr t1, Res.mono q.bind (fun y _ q F2 H2 w B t2 r2 => ?_) fun c _ z F' H' t => z F' H' (t1.trans t)⟩
  obtain ⟨d, e, p⟩ := Res.opt q
  cases x with
  | dic o ks xs =>
    obtain ⟨k, ek, e⟩ := Option.bind_eq_some_iff.mp (show ((keyOf y).bind fun k => (kIxK ks k).bind fun j => xs[j]?) = some d from e)
    obtain ⟨j, ej, e⟩ := Option.bind_eq_some_iff.mp e
    obtain ⟨a, vs, C, rfl, ha, hl, rl⟩ := Rp.dicW t1.fh r1
    obtain ⟨u, A1, B1, A3, hv, _, rv, _⟩ := rl.nth (show xs[j]? = some d from e)
    rw [keyOf_rp r2 ek]
    refine ⟨a, u, rfl, ?_, p F2 H2 u B1 (t1.trans t2) (rv.tr t2)⟩
    have g := DGet.k (k := k) (t2.hh _ _ ha)
    rw [valV_zipK ks vs k hl, ej] at g
    rw [show (some j).bind (fun j => vs[j]?) = some u from hv] at g
    exact g
  | _ => cases e
/-! ### sorted(d) -/
def lKI : List Key → Option (List Int)
  | [] => some []
  | .inl i :: ks => (lKI ks).map fun r => i :: r
  | .inr _ :: _ => none
@[simp] theorem lKI_nil : lKI [] = some [] := rfl
@[simp] theorem lKI_inl (i : Int) (ks : List Key) : lKI (.inl i :: ks) = (lKI ks).map fun r => i :: r := rfl
theorem lKI_map : ∀ ns : List Int, lKI (ns.map Sum.inl) = some ns
  | [] => rfl
  | n :: ns => by rw [List.map_cons, lKI_inl, lKI_map ns]; rfl
theorem lKI_of : ∀ {ks : List Key} {ns : List Int}, lKI ks = some ns → ks = ns.map Sum.inl
  | [], ns, e => by cases e; rfl
  | .inl i :: ks, ns, e => by
    obtain ⟨r, er, rfl⟩ := Option.map_eq_some_iff.mp (show (lKI ks).map (fun r => i :: r) = some ns from e)
    rw [lKI_of er]; rfl
  | .inr _ :: _, _, e => nomatch e
def gSortedD : List D → Option D
  | [.dic _ ks xs] => if ks.length = xs.length then (lKI ks).map fun ns => .lst true (dInts (sortI ns)) else none
  | _ => none
@[simp] theorem gSortedD_dic (o : Bool) (ks : List Key) (xs : List D) : gSortedD [.dic o ks xs] = if ks.length = xs.length then (lKI ks).map fun ns => .lst true (dInts (sortI ns)) else none := rfl
theorem says_sortedD : SaysC E rSortedDK gSortedD := by
  intro F H ds vs Q d fh r e g
  unfold gSortedD at e
  split at e
  · rename_i o ks xs
    obtain ⟨z, e⟩ := if_of e
    obtain ⟨ns, en, rfl⟩ := Option.map_eq_some_iff.mp e
    obtain ⟨v, A, rfl, rr⟩ := r.one
    obtain ⟨a, ws, C, rfl, ha, hl, rl⟩ := Rp.dicW fh rr
    refine ⟨a, _, ns, rfl, ha, ?_, fun ns' p h1 h2 hp => ?_⟩
    · rw [List.map_fst_zip (by omega)]
      exact lKI_of en
    · rw [sorted_unique (h1.trans (sortI_perm ns).symm) h2 (sortI_sorted ns)]
      exact GOk.lst fh g hp (rp_dInts _)
  · cases e
/-! ### d[k] = v, v pure -/
theorem Stt.dk {F H : Hp} {σ : L2.St} {ρ : Env} {fp : Nat → List Addr} {i : Nat} {ks : List Key} {xs : List D} (s : Stt E F H σ ρ) (sl : Sl E F H σ ρ fp) (e : ρ[i]? = some (some (.dic true ks xs))) :
    ∃ a vs B, σ[i]? = some (some (.ref a)) ∧ H a = some (.dK (ks.zip vs)) ∧ ks.length = vs.length ∧ RpL E.k F H xs vs B ∧ fp i = a :: B ∧
      ∀ ks' xs' vs', ks'.length = vs'.length → RpL E.k F H xs' vs' [] → Stt E F (upd H a (.dK (ks'.zip vs'))) σ (ρ.set i (some (.dic true ks' xs'))) := by
  obtain ⟨v, ev, r⟩ := sl.rp i _ e
  obtain ⟨a, vs, B, rfl, l, rl, _, h2⟩ := r
  obtain ⟨eA, fl, hl⟩ := h2 rfl
  have lfp : a ∈ fp i := by rw [eA]; exact List.mem_cons_self
  refine ⟨a, vs, B, ev, hl, l, rl, eA, fun ks' xs' vs' hl' rC => ?_⟩
  exact s.write sl (v := .ref a) (A' := [a]) lfp ev ⟨a, vs', [], rfl, hl', rC.upd List.not_mem_nil, (fun z => nomatch z), fun _ => ⟨rfl, fl, upd_same⟩⟩ (by simp) fun b hb => .inl (by rw [List.mem_singleton.mp hb]; exact lfp)
def putKs (ks : List Key) (k : Key) : List Key := if k ∈ ks then ks else ks ++ [k]
def putXs (ks : List Key) (xs : List D) (k : Key) (x : D) : List D := if k ∈ ks then (ks.zip xs).map (fun p => if p.1 = k then x else p.2) else xs ++ [x]
theorem putK_zip (ks : List Key) (vs : List V) (k : Key) (v : V) (hl : ks.length = vs.length) : putK (ks.zip vs) k v = (putKs ks k).zip (if k ∈ ks then (ks.zip vs).map (fun p => if p.1 = k then v else p.2) else vs ++ [v]) := by
  have ha : ((ks.zip vs).any fun kv => decide (kv.1 = k)) = decide (k ∈ ks) := by
    have := dIn_some (k := k) hl
    rw [← this, valV_any]
  unfold putK putKs
  rw [ha]
  by_cases h : k ∈ ks
  · rw [decide_eq_true h, if_pos rfl, if_pos h, if_pos h]
    have : ∀ (ks : List Key) (vs : List V), ks.length = vs.length → (ks.zip vs).map (fun kv => if kv.1 = k then (kv.1, v) else kv) = ks.zip ((ks.zip vs).map fun p => if p.1 = k then v else p.2) := by
      intro ks
      induction ks with
      | nil => intro vs _; rfl
      | cons x ks ih =>
        intro vs hl
        cases vs with
        | nil => simp at hl
        | cons u vs =>
          rw [List.zip_cons_cons, List.map_cons, List.map_cons, List.zip_cons_cons, ih vs (by simpa using hl)]
          by_cases e : x = k
          · simp [e]
          · simp [e]
    exact this ks vs hl
  · rw [decide_eq_false h, if_neg Bool.false_ne_true, if_neg h, if_neg h, List.zip_append hl]; rfl
theorem putX_rp {k : Kx} {F H : Hp} {x : Key} {d : D} {v : V} (rv : Rp k F H d v []) : ∀ (ks : List Key) (xs : List D) (vs : List V), ks.length = vs.length → RpL k F H xs vs [] → RpL k F H ((ks.zip xs).map fun p => if p.1 = x then d else p.2) ((ks.zip vs).map fun p => if p.1 = x then v else p.2) []
  | [], xs, vs, _, _ => ⟨rfl, rfl⟩
  | y :: ks, [], vs, hl, r => by obtain ⟨rfl, _⟩ := r; simp at hl
  | y :: ks, z :: xs, vs, hl, r => by
    obtain ⟨u, us, A, B, rfl, e, r1, r2⟩ := r
    obtain ⟨rfl, rfl⟩ := List.append_eq_nil_iff.mp e.symm
    have ih := putX_rp (x := x) rv ks xs us (by simpa using hl) r2
    rw [List.zip_cons_cons, List.map_cons, List.zip_cons_cons, List.map_cons]
    refine ⟨_, _, [], [], rfl, rfl, ?_, ih⟩
    by_cases e : y = x
    · rw [if_pos e, if_pos e]; exact rv
    · rw [if_neg e, if_neg e]; exact r1
def dPut (i : Nat) (fk f : Env → R D) : Env → SR := fun ρ => (f ρ).st ρ fun d => match ρ[i]?.getD none with
  | some (.dic true ks xs) => (fk ρ).st ρ fun x => match keyOf x with
    | some k => if d.pure = true ∧ D.pureL xs = true ∧ ks.length < 16777216 then .nx (ρ.set i (some (.dic true (putKs ks k) (putXs ks xs k d)))) else .no
    | none => .no
  | _ => .no
theorem dPut_eq (i : Nat) (fk f : Env → R D) (ρ : Env) : dPut i fk f ρ = (f ρ).st ρ fun d => match ρ[i]?.getD none with
  | some (.dic true ks xs) => (fk ρ).st ρ fun x => match keyOf x with
    | some k => if d.pure = true ∧ D.pureL xs = true ∧ ks.length < 16777216 then .nx (ρ.set i (some (.dic true (putKs ks k) (putXs ks xs k d)))) else .no
    | none => .no
  | _ => .no := rfl
theorem ss_dPut {i : Nat} {o k e : Expr} {fk f : Env → R D} {pos pos' : Pos} (hu : X.A.units + 65 < cLine) (ho : PE X o (tVar i)) (hk : EV X E W k fk) (h : EV X E W e f) (hs : swapsWith e (some (.Subscript o k pos')) pos.line X.env = pure false := by rfl) :
    SS X E W (.Assign [.Subscript o k pos'] e pos) (dPut i fk f) := by
  refine ⟨ps_mono (ps_dput (by omega) ho hk.pe h.pe hs) fun Z σ H h => ?_⟩
  obtain ⟨F, ρ, s, q⟩ := h
  rw [dPut_eq] at q
  refine ⟨F, ρ, s, Res.mono q.st (fun d _ q F1 H1 w A t1 r1 => ?_) fun c _ z => SRes.exc s z⟩
  cases eD : ρ[i]?.getD none with
  | none => rw [eD] at q; exact q.elim
  | some dd =>
    rw [eD] at q
    cases dd with
    | dic o ks xs =>
      cases o with
      | false => exact q.elim
      | true =>
        have e := some_some eD
        have s1 := s.tr t1
        obtain ⟨fp, sl⟩ := s1.sl
        obtain ⟨a, vs, B, ev, ha, hl, rl, eA, wr⟩ := s1.dk sl e
        refine ⟨.ref a, ev, F1, ρ, s1, Res.mono (show SRes E W F Z ((fk ρ).st ρ fun x => match keyOf x with
          | some k => if d.pure = true ∧ D.pureL xs = true ∧ ks.length < 16777216 then .nx (ρ.set i (some (.dic true (putKs ks k) (putXs ks xs k d)))) else .no
          | none => .no) from q).st (fun x _ q F2 H2 y C t2 r2 => ?_) fun c _ z F' H' t => SRes.exc s z F' H' (t1.trans t)⟩
        cases ek : keyOf x with
        | none => rw [ek] at q; exact q.elim
        | some k =>
          rw [ek] at q
          replace q : SRes E W F Z (if d.pure = true ∧ D.pureL xs = true ∧ ks.length < 16777216 then .nx (ρ.set i (some (.dic true (putKs ks k) (putXs ks xs k d)))) else .no) := q
          by_cases hz : d.pure = true ∧ D.pureL xs = true ∧ ks.length < 16777216
          · rw [if_pos hz] at q
            obtain ⟨pd, px, lk⟩ := hz
            have s2 := s1.tr t2
            have sl2 : Sl E F2 H2 σ ρ fp := sl.tr t2
            obtain ⟨a', vs', B', ev', ha', hl', rl', eA', wr'⟩ := s2.dk sl2 e
            rw [ev] at ev'
            cases ev'
            have ha2 : H2 a = some (.dK (ks.zip vs)) := t2.hh _ _ ha
            have rd : Rp E.k F2 H2 d w [] := by
              have := (r1.tr t2)
              have e0 := Rp.own_nil d w A pd this
              subst e0
              exact this
            have rx : RpL E.k F2 H2 xs vs' [] := RpL.pure px (.refl _) rl'
            rw [keyOf_rp r2 ek]
            refine ⟨a, _, rfl, DPut.k ha' (by rw [List.length_zip, sizeLine_eq]; omega), q F2 _ σ (t1.ff.trans t2.ff) ?_⟩
            rw [putK_zip ks vs' k w hl']
            unfold putXs putKs
            by_cases hm : k ∈ ks
            · rw [if_pos hm, if_pos hm, if_pos hm]
              exact wr' _ _ _ (by rw [List.length_map, List.length_zip]; omega) (putX_rp rd ks xs vs' hl' rx)
            · rw [if_neg hm, if_neg hm, if_neg hm]
              exact wr' _ _ _ (by rw [List.length_append, List.length_append, hl']; rfl) (rx.append (RpL.one rd))
          · rw [if_neg hz] at q; exact q.elim
    | _ => exact q.elim
end
end Dv
end
section
set_option maxRecDepth 100000
set_option maxHeartbeats 1000000
namespace Dv
open PySem PySem.Spec PyProof.Rows L2
section
variable {X : Cx} {E : En} {W : WX}
/-! ## y = x.pop(): x the def's own, all in it pure -/
def sPop (j i : Nat) : Env → SR := fun ρ => onL i ρ fun xs => match xs.getLast? with
  | some d => if D.pureL xs = true then .nx ((ρ.set i (some (.lst true xs.dropLast))).set j (some d)) else .no
  | none => .no
theorem sPop_eq (j i : Nat) (ρ : Env) : sPop j i ρ = onL i ρ fun xs => match xs.getLast? with
  | some d => if D.pureL xs = true then .nx ((ρ.set i (some (.lst true xs.dropLast))).set j (some d)) else .no
  | none => .no := rfl
theorem pureL_mem : ∀ {xs : List D}, D.pureL xs = true → ∀ d ∈ xs, d.pure = true
  | [], _, _, h => nomatch h
  | x :: xs, p, d, h => by
    rw [D.pureL, Bool.and_eq_true] at p
    rcases List.mem_cons.mp h with rfl | h
    · exact p.1
    · exact pureL_mem p.2 d h
theorem ss_pop {i j : Nat} {x : Str} {o : Expr} {apos cpos pos pos' : Pos} (hN : X.N.Nodup) (hj : X.N[j]? = some x) (hx : Loc X.env.scope x) (hb : j ∉ E.bs) (ho : PE X o (tVar i))
    (hs : swapsWith (.Call (.Attribute o "pop" apos) [] [] cpos) (some (.Name x pos')) pos.line X.env = pure false := by rfl) (hf : X.fn x = true ∨ X.env.scope.names.lookup x = some .local := by first | exact .inl rfl | exact .inr rfl | assumption)
    (hbase : attributeBase o "pop" X.env (eval o X.env) = eval o X.env := by rfl) (hline : (apos.endLine == cpos.line) = true := by rfl) :
    SS X E W (.Assign [.Name x pos'] (.Call (.Attribute o "pop" apos) [] [] cpos) pos) (sPop j i) := by
  refine ⟨ps_mono (ps_set hN hj hx (pe_bm0 PySem.F.plainAttrs_list PySem.F.slot_list_pop PySem.F.type_list_pop mt_pop ho hbase hline) hs hf) fun Z σ H h => ?_⟩
  obtain ⟨F, ρ, s, q⟩ := h
  rw [sPop_eq] at q
  obtain ⟨xs, e, q⟩ := onL_of q
  obtain ⟨fp, sl⟩ := s.sl
  obtain ⟨v, ev, r⟩ := sl.rp i _ e
  obtain ⟨l, vs, B, rfl, eA, fl, hl, rl⟩ := lstO r
  refine ⟨.ref l, ev, ty_lst s.fh r, ?_⟩
  cases el : xs.getLast? with
  | none => rw [el] at q; exact q.elim
  | some d =>
    rw [el] at q
    replace q : SRes E W F Z (if D.pureL xs = true then .nx ((ρ.set i (some (.lst true xs.dropLast))).set j (some d)) else .no) := q
    by_cases px : D.pureL xs = true
    · rw [if_pos px] at q
      obtain ⟨l', vs', B', ev', hl', rl', Bfp, nB, wr⟩ := s.lst sl e
      rw [ev] at ev'
      cases ev'
      have rl0 : RpL E.k F H xs vs' [] := RpL.pure px (.refl _) rl'
      have hlast : xs[xs.length - 1]? = some d := by rw [← List.getLast?_eq_getElem?]; exact el
      obtain ⟨u, A1, C, A3, hu, eA, ru, _⟩ := rl0.nth hlast
      have eC : C = [] := by
        have h1 := List.append_eq_nil_iff.mp eA.symm
        exact (List.append_eq_nil_iff.mp h1.1).2
      subst eC
      have rt : RpL E.k F H xs.dropLast vs'.dropLast [] := by
        rw [List.dropLast_eq_take, List.dropLast_eq_take, ← rl0.len]
        exact rpL_take _ xs vs' rl0
      rw [rl0.len] at hu
      refine ⟨l, vs', u, rfl, rfl, hl', hu, q F _ _ (.refl _) ?_⟩
      have s1 := wr xs.dropLast vs'.dropLast [] rt .nil fun a z => nomatch z
      have pd := pureL_mem px d (List.mem_of_getLast? el)
      have ru' : Rp E.k F (upd H l (.lst vs'.dropLast)) d u [] := Rp.mono (.refl _) d u [] (fun _ z => nomatch z) ru
      exact s1.set (.refl s1.fh) ru' .nil (fun _ z => nomatch z) hb
    · rw [if_neg px] at q; exact q.elim
end
end Dv
end
section
set_option maxRecDepth 100000
set_option maxHeartbeats 1000000
namespace Dv
open PySem PySem.Spec PyProof.Rows L2 PySem.Calls
/-! ## max(xs, default=i), xs a list of ints -/
def rMaxDf (K : PySem.W.Frag) : List V → List V → Hp → VK → Prop := fun vs zs H Q => ∃ (a : Addr) (ns : List Int) (i : Int), vs = [V.ref a] ∧ zs = [V.int i] ∧ SqL K H a (ns.map V.int) ∧ (ns = [] → Q (.int i) H) ∧ ∀ m, m ∈ ns → (∀ y, y ∈ ns → y ≤ m) → Q (.int m) H
section
variable {X : Cx}
theorem cr_maxDf (hc : X.calm = true) : CallRK X (.builtin "max") [Str.ofString "default"] (rMaxDf X.K) := by
  intro pins s σ H vs zs us ws Q I r rz h
  obtain ⟨a, ns, i, rfl, rfl, hs, q0, q1⟩ := h
  obtain ⟨its, rv, hl, _⟩ := I.list hs
  obtain rfl := Vals.ref1 r
  obtain ⟨u, rfl, ru⟩ := vals1 rz
  obtain ⟨t, rfl⟩ := (show ∃ t, u = Value.int i t from ru)
  obtain ⟨xs, e⟩ := rv.ints.allInts.items
  have hn : numsOf (intItems xs).toList = ns := by rw [← e]; exact rv.ints.numsOf
  rw [nums_intItems] at hn
  have hl' : s.heap.IsList a (intItems xs) := by rw [← e]; exact hl.isList
  have hsz : (intItems xs).size = xs.size := by simp [intItems]
  have nsz : ns.length = xs.size := by rw [← hn, List.length_map, Array.length_toList]
  show wpAny (model X.prog X.w) X.A (call (.builtin "max") [.ref a] [(Str.ofString "default", Value.int i t)]) _ _ s
  refine call_max_walkD (iter_intList hl' fun s₂ e2 st hfp hlI => ?_)
  subst e2
  have back : ∀ s', Moved [s.heap.objs.size] (fun a b => b = a) ({ s with heap := s.heap.push { cls := .type "list_iterator", data := .fields #[.ref a, .int 0 0] } } : Shared) s' → ∀ v w, RelV v w → Q v H → EP X pins σ Q w s' := fun s' hm v w rw q => by
    have k : ∀ b o, s.heap.get? b = some o → s'.heap.get? b = some o := fun b o e => hm.heap b o (fun z => by rw [List.mem_singleton.mp z] at e; exact absurd (Heap.lt_size e) (Nat.lt_irrefl _)) (Heap.get?_push_of_some _ e)
    rw [Moved.eq_with hm]
    exact ⟨v, H, I.kept k, rw, q⟩
  refine ⟨_, _, _, _, _, _, _, s.heap, _, rfl, (Walks.list (A := X.A.in1) (I.ok.hd hc) _ a hlI (intItems xs)).toS, st, hfp, fun b o e hb => ?_, fun b o e => Heap.get?_push_of_some _ e, fun h0 s' hm => ?_, fun h0 => ⟨fun i j vi vj s Q E _ => PySem.CmpOf.ints_gt (numAt xs) (fun _ _ => intItems_at) i j vi vj s Q E, fun v s' hP hm => ?_⟩⟩
  · rw [List.mem_singleton.mp hb] at e; exact absurd (Heap.lt_size e) (Nat.lt_irrefl _)
  · exact back s' hm (.int i) _ ⟨t, rfl⟩ (q0 (List.length_eq_zero_iff.mp (by omega)))
  · obtain ⟨t2, rfl⟩ := intItems_at hP
    obtain ⟨h1, h2⟩ := argBest_gt (numAt xs) ((intItems xs).size - 1)
    refine back s' hm (.int _) _ ⟨t2, rfl⟩ (q1 _ ?_ fun y hy => ?_)
    · rw [numAt_eq, hn]
      exact PySem.getD_mem (by omega)
    · obtain ⟨j, hj, rfl⟩ := mem_getD hy
      rw [← hn, ← numAt_eq]
      exact h2 j (by omega)
end
section
variable {X : Cx} {E : En} {W : WX}
def gMaxD (i : Int) : List D → Option D
  | [x] => (lInts x).map fun ns => .int (if ns = [] then i else maxL ns)
  | _ => none
@[simp] theorem gMaxD_one (i : Int) (x : D) : gMaxD i [x] = (lInts x).map fun ns => .int (if ns = [] then i else maxL ns) := rfl
theorem eo_maxD {x : Str} {p pos kpos cp : Pos} {j : Nat} {i : Int} {e : Expr} {fs : Env → R (List D)} (hK : E.k.K = X.K) (hc : X.calm = true) (gl : Gl X x) (hm : X.mg x = none) (hv : bootBuiltins x = some (.builtin "max")) (ha : EA X E W [e] fs) (hn : x ≠ "__name__" := by decide) (hdb : (x == ("__debug__" : Str)) = false := by decide)
    (he : backTo pos (starEach [e] X.env) = (false, eval e X.env) :: backTo pos (starEach [] X.env) := by rfl) (hpl : (backTo pos (starEach [e] X.env)).any (·.1) = false := by rfl)
    (hall : (backToKw pos (keywordEach [⟨some "default", .Constant (.int i) j cp, kpos⟩] X.env)).all (·.1.isSome) = true := by rfl) (hnone : (backToKw pos (keywordEach [⟨some "default", .Constant (.int i) j cp, kpos⟩] X.env)).any (·.1.isNone) = false := by rfl) (hks : (backToKw pos (keywordEach [⟨some "default", .Constant (.int i) j cp, kpos⟩] X.env)).filterMap (·.1) = [Str.ofString "default"] := by rfl) :
    EO X E W (.Call (.Name x p) [e] [⟨some "default", .Constant (.int i) j cp, kpos⟩] pos) (eB (gMaxD i) fs) := by
  refine ⟨pe_mono (pe_callBK (cr_maxDf hc) gl hm hv ha.pa (pk_cons pe_int pk_nil) hn hdb he hpl hall hnone hks) fun σ H Q h => ?_⟩
  obtain ⟨F, ρ, s, q⟩ := h
  refine ⟨F, ρ, s, Res.mono q.bind (fun ds _ q F1 H1 vs t1 r1 => ?_) fun c _ z F' H' t => z F' H' t⟩
  obtain ⟨d, e, p⟩ := Res.opt q
  unfold gMaxD at e
  split at e
  · rename_i y
    obtain ⟨ns, en, rfl⟩ := Option.map_eq_some_iff.mp e
    obtain ⟨v, A, rfl, rr⟩ := Vw.one r1
    obtain ⟨a, rfl, sq⟩ := lInts_sq t1.fh rr en
    rw [← hK]
    refine ⟨a, ns, i, rfl, rfl, sq, fun z => ?_, fun m h1 h2 => ?_⟩
    · have : GOk E F H Q (.int (if ns = [] then i else maxL ns)) := p
      rw [if_pos z] at this
      exact (this.back t1).scal t1.fh fun _ _ => ⟨rfl, rfl⟩
    · have hne : ¬ ns = [] := by intro q; subst q; cases h1
      have hm : m = maxL ns := Int.le_antisymm (maxL_ge ns m h1) (h2 _ (maxL_mem ns hne))
      have : GOk E F H Q (.int (if ns = [] then i else maxL ns)) := p
      rw [if_neg hne, ← hm] at this
      exact (this.back t1).scal t1.fh fun _ _ => ⟨rfl, rfl⟩
  · cases e
end
end Dv
end
section
set_option maxRecDepth 100000
set_option maxHeartbeats 1000000
namespace Dv
open PySem PySem.Spec PyProof.Rows L2
/-! ## z in d, d a dict of the module with text keys -/
/-- the name x stands for a dict of the module whose keys are ks -/
def GlobK (K : PySem.W.Frag) (w : World) (mg : Str → Option Value) (x : Str) (ks : List Str) : Prop := ∃ (d : Addr) (es : Array DictEntry) (n : Nat), mg x = some (.ref d) ∧ KDict K w d es n ∧ ∀ z : Str, ∃ r, PySem.W.nsIn K d z = some r ∧ r.isSome = decide (z ∈ ks)
theorem find_text (z : Str) : ∀ (es : List DictEntry) (ks : List Str), (es.map fun e => match e.key with | .str x _ => some x | _ => none) = ks.map some → (es.find? (·.key.isStr z)).isSome = decide (z ∈ ks) ∧ es.any (·.refKey) = false
  | [], [], _ => ⟨rfl, rfl⟩
  | [], _ :: _, h => by simp at h
  | _ :: _, [], h => by simp at h
  | e :: es, k :: ks, h => by
    rw [List.map_cons, List.map_cons] at h
    injection h with h1 h2
    obtain ⟨i1, i2⟩ := find_text z es ks h2
    cases ek : e.key with
    | str x t =>
      rw [ek] at h1
      obtain rfl : x = k := Option.some.inj h1
      have hr : e.refKey = false := by unfold DictEntry.refKey; rw [ek]
      refine ⟨?_, by rw [List.any_cons, hr, i2]; rfl⟩
      rw [List.find?_cons, ek, PySem.W.isStr_of]
      show (match (x == z) with | true => some e | false => es.find? (·.key.isStr z)).isSome = _
      by_cases e1 : x = z
      · subst e1; simp
      · rw [show (x == z) = false from beq_eq_false_iff_ne.mpr e1]
        rw [show decide (z ∈ x :: ks) = decide (z ∈ ks) from by simp [Ne.symm e1]]
        exact i1
    | _ => rw [ek] at h1; cases h1
theorem globK_of {K : PySem.W.Frag} {w : World} {mg : Str → Option Value} {x : Str} {ks : List Str} {d : Addr} {es : Array DictEntry} {n : Nat} (hm : mg x = some (.ref d)) (hl : K.lookup d = some ⟨.type "dict", none, .dict es n, #[]⟩) (hk : PySem.W.KeysLit w.params es.toList) (lo : (d == sysModules) = false)
    (h : (es.toList.map fun e => match e.key with | .str x _ => some x | _ => none) = ks.map some) : GlobK K w mg x ks := by
  refine ⟨d, es, n, hm, ⟨hl, hk, lo⟩, fun z => ?_⟩
  obtain ⟨h1, h2⟩ := find_text z es.toList ks h
  unfold PySem.W.nsIn
  rw [hl]
  dsimp only
  cases e : es.toList.find? (·.key.isStr z) with
  | some y => rw [e] at h1; exact ⟨_, rfl, h1⟩
  | none => rw [e] at h1; exact ⟨none, by rw [h2]; rfl, h1⟩
def gInK (ks : List Str) : D → Option D
  | .str z => some (.bl (decide (z ∈ ks)))
  | _ => none
@[simp] theorem gInK_str (ks : List Str) (z : Str) : gInK ks (.str z) = some (.bl (decide (z ∈ ks))) := rfl
section
variable {X : Cx} {E : En} {W : WX}
theorem says_inK {ks : List Str} {d : Addr} {fa : Env → R D} {ta : TE} (hz : ∀ z : Str, ∃ r, PySem.W.nsIn X.K d z = some r ∧ r.isSome = decide (z ∈ ks)) (hta : ta = tV E W fa) {σ : L2.St} {H : Hp} {Q : VK} (h : tO E W (e1 (gInK ks) fa) σ H Q) :
    tOp (fun x y H Q => ∃ (z : Str) (r : Option Value), x = .str z ∧ y = .ref d ∧ PySem.W.nsIn X.K d z = some r ∧ Q (.bl r.isSome) H) ta (tC (.ref d)) σ H Q := by
  subst hta
  obtain ⟨F, ρ, s, q⟩ := h
  refine ⟨F, ρ, s, Res.mono q.bind (fun x _ q F1 H1 v A t1 r1 => ?_) fun c _ z F' H' t => z F' H' t⟩
  obtain ⟨y, e, p⟩ := Res.opt q
  cases x with
  | str z =>
    cases e
    obtain ⟨r, e1, e2⟩ := hz z
    refine ⟨z, r, r1.1, rfl, e1, ?_⟩
    rw [e2]
    exact p F1 H1 (.bl _) [] t1 ⟨rfl, rfl⟩ List.nodup_nil fun _ z => nomatch z
  | _ => cases e
theorem eo_inK {x : Str} {ks : List Str} {a : Expr} {fa : Env → R D} {p pos : Pos} (gl : Gl X x) (h : GlobK X.K X.w X.mg x ks) (ha : EV X E W a fa) (hd : (x == ("__debug__" : Str)) = false := by decide) (hm : behindInMarks .In (.Name x p) = false := by rfl) :
    EO X E W (.Compare a [.In] [.Name x p] pos) (e1 (gInK ks) fa) := by
  obtain ⟨d, es, n, hg, D, hz⟩ := h
  exact ⟨pe_mono (pe_cmpR (op_in_kd D) ha.pe (pe_glob gl hg (v := .ref d) rfl hd) hm) fun σ H Q h => says_inK hz rfl h⟩
theorem et_inK {x : Str} {ks : List Str} {a : Expr} {fa : Env → R D} {p pos : Pos} (gl : Gl X x) (h : GlobK X.K X.w X.mg x ks) (ha : EV X E W a fa) (hd : (x == ("__debug__" : Str)) = false := by decide) (hm : behindInMarks .In (.Name x p) = false := by rfl) :
    ET X E W (.Compare a [.In] [.Name x p] pos) (eT (e1 (gInK ks) fa)) := by
  obtain ⟨d, es, n, hg, D, hz⟩ := h
  refine ⟨pt_mono (pt_cmpR (op_in_kd D) ha.pe (pe_glob gl hg (v := .ref d) rfl hd) hm) fun _ _ _ h => tT_of (fun ρ y e => ?_) (fun _ _ _ q => says_inK hz rfl q) h⟩
  have e : ((fa ρ).bind fun d => R.opt (gInK ks d)) = .ok y := e
  cases q : fa ρ with
  | ok v =>
    rw [q] at e
    have e : R.opt (gInK ks v) = .ok y := e
    cases v with
    | str z => cases e; exact ⟨_, rfl⟩
    | _ => cases e
  | _ => rw [q] at e; cases e
/-! ## {k: e, ..}, keys written texts, values pure -/
structure EPs (X : Cx) (E : En) (W : WX) (pos : Pos) (keys : List (Option Expr)) (vals : List Expr) (ks : List Str) (fs : Env → R (List D)) : Prop where
  ex : ∃ trs, PPs X pos keys vals trs ∧ keys.all (·.isSome) = true ∧ keys.length = vals.length ∧ keys.length = ks.length ∧ ∀ F ρ σ H Q, Stt E F H σ ρ →
    Res (fs ρ) (fun ds => ∀ F' H' vs, Tr F H F' H' → RpL E.k F' H' ds vs [] → Q ((ks.map V.str).zip vs) H') (fun c => ∀ F' H', Tr F H F' H' → W (E.ec c) none σ H') → tPairs trs σ H Q
theorem ep_nil {pos : Pos} : EPs X E W pos [] [] [] aNil :=
  ⟨[], pps_nil, rfl, rfl, rfl, fun F ρ σ H Q s q => (show Res (.ok ([] : List D)) _ _ from q) F H [] (Tr.refl s.fh) ⟨rfl, rfl⟩⟩
def dC (f : Env → R D) (g : Env → R (List D)) : Env → R (List D) := fun ρ => (f ρ).bind fun d => if d.pure = true then (g ρ).bind fun ds => .ok (d :: ds) else .no
@[simp] theorem dC_eq (f : Env → R D) (g : Env → R (List D)) (ρ : Env) : dC f g ρ = (f ρ).bind fun d => if d.pure = true then (g ρ).bind fun ds => .ok (d :: ds) else .no := rfl
theorem ep_cons {pos p : Pos} {j : Nat} {k : Str} {e : Expr} {f : Env → R D} {keys : List (Option Expr)} {vals : List Expr} {ks : List Str} {fs : Env → R (List D)} (h : EV X E W e f) (r : EPs X E W pos keys vals ks fs) :
    EPs X E W pos (some (.Constant (.str k) j p) :: keys) (e :: vals) (k :: ks) (dC f fs) := by
  obtain ⟨trs, h1, h2, h3, h4, h5⟩ := r.ex
  refine ⟨_, pps_cons pe_str h.pe h1, by rw [List.all_cons, h2]; rfl, by simp [h3], by simp [h4], fun F ρ σ H Q s q => ?_⟩
  refine ⟨F, ρ, s, Res.mono q.bind (fun d _ q F1 H1 v A t1 r1 => ?_) fun c _ z F' H' t => z F' H' t⟩
  by_cases pd : d.pure = true
  · rw [if_pos pd] at q
    have e0 := Rp.own_nil d v A pd r1
    subst e0
    refine h5 F1 ρ σ H1 _ (s.tr t1) (Res.mono q.bind (fun ds _ q F2 H2 vs t2 r2 => ?_) fun c _ z F' H' t => z F' H' (t1.trans t))
    exact (show Res (.ok (d :: ds)) _ _ from q) F2 H2 (v :: vs) (t1.trans t2) ⟨v, vs, [], [], rfl, rfl, r1.tr t2, r2⟩
  · rw [if_neg pd] at q
    exact q.elim
theorem mergeK_new : ∀ (more kvs : List (Key × V)), (kvs.map (·.1) ++ more.map (·.1)).Nodup → mergeK kvs more = kvs ++ more
  | [], kvs, _ => by rw [List.append_nil]; rfl
  | p :: r, kvs, h => by
    have hn : valV kvs p.1 = none := by
      cases e : valV kvs p.1 with
      | none => rfl
      | some v =>
        have ha : (kvs.any fun kv => decide (kv.1 = p.1)) = true := by rw [valV_any, e]; rfl
        obtain ⟨q, hq, e2⟩ := List.any_eq_true.mp ha
        have := (List.nodup_append.mp h).2.2 q.1 (List.mem_map_of_mem hq) p.1 (by simp)
        exact absurd (of_decide_eq_true e2) this
    show mergeK (putK kvs p.1 p.2) r = _
    rw [putK_new p.2 hn, mergeK_new r (kvs ++ [(p.1, p.2)]) (by rw [List.map_append]; rw [List.append_assoc]; exact h), List.append_assoc]; rfl
theorem zip_keys : ∀ (ks : List Str) (vs : List V), (ks.map V.str).zip vs = ((ks.map (Sum.inr : Str → Key)).zip vs).map fun kv => (kV kv.1, kv.2)
  | [], vs => by rfl
  | k :: ks, [] => by rfl
  | k :: ks, v :: vs => by
    show (V.str k, v) :: (ks.map V.str).zip vs = _
    rw [zip_keys ks vs]; rfl
def eDisp (ks : List Str) (fs : Env → R (List D)) : Env → R D := fun ρ => (fs ρ).bind fun ds => if ds.length = ks.length then .ok (.dic true (ks.map Sum.inr) ds) else .no
@[simp] theorem eDisp_eq (ks : List Str) (fs : Env → R (List D)) (ρ : Env) : eDisp ks fs ρ = (fs ρ).bind fun ds => if ds.length = ks.length then .ok (.dic true (ks.map Sum.inr) ds) else .no := rfl
theorem eo_disp {pos : Pos} {keys : List (Option Expr)} {vals : List Expr} {ks : List Str} {fs : Env → R (List D)} (h : EPs X E W pos keys vals ks fs) (h0 : keys ≠ [] := by simp) (h15 : keys.length ≤ 15 := by decide) (hn : (ks.map (Sum.inr : Str → Key)).Nodup := by decide) :
    EO X E W (.Dict keys vals pos) (eDisp ks fs) := by
  obtain ⟨trs, h1, h2, h3, h4, h5⟩ := h.ex
  refine ⟨pe_mono (pe_disp h1 h2 h3 h0 h15) fun σ H Q ⟨F, ρ, s, q⟩ => ?_⟩
  intro p hp
  have hf : F p = none := by
    cases q0 : F p with
    | none => rfl
    | some u => rw [s.fh p u q0] at hp; cases hp
  have t0 : Tr F H F (upd H p (.dK [])) := tr_new s.fh hp
  refine h5 F ρ σ _ _ (s.tr t0) (Res.mono q.bind (fun ds _ q F1 H1 vs t1 r1 => ?_) fun c _ z F' H' t => z F' H' (t0.trans t))
  have f1 : F1 p = none := t1.no p hf (by rw [upd_same]; exact fun z => nomatch z)
  by_cases hl : ds.length = ks.length
  · rw [if_pos hl] at q
    have lv : ks.length = vs.length := by rw [← hl]; exact r1.len
    refine ⟨t1.hh _ _ upd_same, (ks.map Sum.inr).zip vs, zip_keys ks vs, ?_, ?_⟩
    · rw [List.length_zip, List.length_map]; omega
    · rw [mergeK_new _ [] (by rw [List.map_nil, List.nil_append, List.map_fst_zip (by rw [List.length_map]; omega)]; exact hn), List.nil_append]
      refine (show Res (.ok _) _ _ from q) F1 _ (.ref p) [p] ⟨t1.ff, fun b o e => ?_, fun b o e => ?_, fun b e n => ?_⟩ ⟨p, vs, [], rfl, by rw [List.length_map]; exact lv, r1.upd List.not_mem_nil, (fun z => nomatch z), fun _ => ⟨rfl, f1, upd_same⟩⟩ (by simp) fun a ha => by rw [List.mem_singleton.mp ha]; exact hp
      · have nb : b ≠ p := fun z => by rw [z, hp] at e; cases e
        rw [upd_ne nb]
        exact t1.hh b o (by rw [upd_ne nb]; exact e)
      · have nb : b ≠ p := fun z => by rw [z, f1] at e; cases e
        rw [upd_ne nb]
        exact t1.fh b o e
      · have nb : b ≠ p := fun z => n (by rw [z]; exact hp)
        exact t1.no b e (by rw [upd_ne nb]; exact n)
  · rw [if_neg hl] at q
    exact q.elim
end
end Dv
end
section
set_option maxRecDepth 100000
set_option maxHeartbeats 2000000
namespace Dv
open PySem PySem.Spec PyProof.Rows L2 PySem.Calls
/-! ## enumerate(tuple) -/
theorem meets_en1 {v : Value} {o : Obj} {H : Heap → Prop} (B : Begins v o H) :
    Meets (Builtin.«enumerate.__new__» ⟨[.type "enumerate", v], []⟩) (fun _ R s => H s.heap ∧
      R (.ok (.ret (.ref (s.heap.push o).objs.size))) { s with heap := (s.heap.push o).push { cls := .type "enumerate", data := .fields #[.none, .bool false, .ref s.heap.objs.size, rawInt 0, .none, .none] } }) :=
  .of_wp fun prog w A R s h => by
    obtain ⟨hp, g, d, tk, os⟩ := s; obtain ⟨h1, h⟩ := h
    have hsub := sub_enumerate
    have q1 : ∀ {A' : Around} {E : Value → Shared → Prop} {Q : Value → Shared → Prop}, Q (.ref hp.objs.size) ⟨hp.push o, g, d, tk, os⟩ → wpAny (model prog w) A' (pyIter v) Q E ⟨hp, g, d, tk, os⟩ :=
      fun q => B.iter prog w _ _ ⟨hp, g, d, tk, os⟩ _ h1 q
    wp_walk using q1
    refine wpAny_stack_any fun st => wpAny_pure ?_
    split
    · rename_i c _ _ _ _ _
      cases (c == Value.type "enumerate")
      · wp_walk using q1
        exact ⟨_, rfl, h⟩
      · wp_walk using q1
        exact ⟨_, rfl, h⟩
    · wp_walk using q1
      exact ⟨_, rfl, h⟩
theorem en1_begins {prog : Program} {w : World} {A : Around} {E : Value → Shared → Prop} {s : Shared} {v : Value} {o : Obj} {H : Heap → Prop} {Q : Value → Shared → Prop} (B : Begins v o H) (h1 : H s.heap)
    (h : ∀ h', IsEnum h' (s.heap.objs.size + 1) s.heap.objs.size 0 .none → h'.get? s.heap.objs.size = some o → (∀ b o, s.heap.get? b = some o → h'.get? b = some o) → Q (.ref (s.heap.objs.size + 1)) { s with heap := h' }) :
    wpAny (model prog w) A (call (.type "enumerate") [v]) Q E s := by
  refine callType_new F.called_enumerate (by decide) (F.typeCall_enumerate_1 _) (F.newCall_enumerate_1 _) (fun obj => F.args_object_init_2 obj _) F.entry_enumerate_new (meets_en1 B) ⟨h1, ?_⟩
  have hz : (s.heap.push o).objs.size = s.heap.objs.size + 1 := Heap.size_push ..
  show _ ∧ _
  rw [hz]
  have he : IsEnum ((s.heap.push o).push { cls := .type "enumerate", data := .fields #[.none, .bool false, .ref s.heap.objs.size, rawInt 0, .none, .none] }) (s.heap.objs.size + 1) s.heap.objs.size 0 .none := by
    have := Heap.get?_push_size (s.heap.push o) (o := { cls := .type "enumerate", data := .fields #[.none, .bool false, .ref s.heap.objs.size, rawInt 0, .none, .none] }) rfl
    rw [hz] at this; exact this
  exact ⟨⟨_, he, rfl⟩, h _ he (Heap.get?_push_of_some _ (Heap.get?_push_size _ B.free)) fun b o x => Heap.get?_push_of_some _ (Heap.get?_push_of_some _ x)⟩
/-- the tuple at a, each item in a new pair with its place -/
def Itet (K : PySem.W.Frag) (a : Addr) : It :=
  ⟨fun i H => ∃ (xs : List V) (x : V), SqT K H a xs ∧ xs[i]? = some x, fun i H v H' => ∃ T x, v = .ref T ∧ H T = none ∧ H' = upd H T (.tup [.int (i : Nat), x]) ∧ ∀ xs, SqT K H a xs → xs[i]? = some x, fun i H => ∃ xs : List V, SqT K H a xs ∧ i = xs.length⟩
theorem turn_enumT {P : Program} {w : World} {K : PySem.W.Frag} {elts : List Expr} {kk : Nat} {tpos : Pos} {a N : Addr} (la : a < N) :
    Turn P w K (.Tuple elts kk tpos) (Itet K a) [N + 1, N] (N + 1) (fun i h => (∃ old, IsEnum h (N + 1) N ((i : Nat) : Int) old) ∧ h.IsTupleIter N a i) where
  mem := by simp
  obj := fun i h st b hb => by
    obtain ⟨⟨old, he⟩, ⟨o, ho, hc, hd⟩⟩ := st
    have e' : b = N + 1 ∨ b = N := by simpa using hb
    rcases e' with z | z
    · rw [z]; exact ⟨_, he, fun v q => nomatch q⟩
    · rw [z]; exact ⟨o, ho, fun v q => by rw [hd] at q; cases q⟩
  keep := fun i h h' st k => let ⟨⟨old, he⟩, hi⟩ := st; ⟨⟨old, k (N + 1) (by simp) _ he⟩, hi.at fun o q => k N (by simp) o q⟩
  item := by
    intro X hP hw hK hc i pins s σ H E I hf st hg
    subst hP hw hK
    obtain ⟨⟨old, he⟩, hit⟩ := st
    obtain ⟨xs, x, hq, hx⟩ := hg
    obtain ⟨its, rv, p, hz⟩ := I.tuple hq
    have l1 := rv.length
    have hi : i < its.toArray.size := by
      have := (List.getElem?_eq_some_iff.mp hx).1
      simp only [List.size_toArray]; omega
    have hel : N + 1 < s.heap.objs.size := Heap.lt_size he
    have hil : N < s.heap.objs.size := by obtain ⟨_, q, _⟩ := hit; exact Heap.lt_size q
    refine wpAny_pyNext_enum_itemD (Draws.tuple (A := X.A.in1) (I.ok.hd hc) N a (Nat.ne_of_lt la) its.toArray) he ⟨hit, p⟩ hi (Nat.succ_ne_self _) (fun m => (List.mem_cons.mp m).elim (Nat.succ_ne_self N) fun h => absurd (Nat.lt_trans (Nat.lt_succ_self N) ((List.mem_singleton.mp h).symm ▸ la : N + 1 < N)) (Nat.lt_irrefl _)) fun u h' tk hP ho hst' hT hsz hk => ?_
    obtain ⟨x', g1, ru⟩ := vals_get' rv (by simpa using hP)
    refine ⟨_, rfl, wpAny_letOwnedTupleGo_enum (s := { s with heap := h', toks := tk + 1 }) ho fun h'' he' sb => ?_⟩
    have hT2 : h''.get? s.heap.objs.size = some { cls := .type "tuple", data := .seq #[.int i tk, u] } := (sb.2 _ (Nat.ne_of_gt hel)).trans hT
    have new : ObjOk X.prog X.w (upd H s.heap.objs.size (.tup [.int (i : Nat), x'])) h'' s.heap.objs.size (.tup [.int (i : Nat), x']) :=
      ⟨by show 2 ≤ sizeLine; decide, [.int i tk, u], .cons ⟨_, rfl⟩ (.cons ru .nil), ⟨_, hT2, rfl, _, rfl⟩⟩
    have I1 : Inv X pins σ (upd H s.heap.objs.size (.tup [.int (i : Nat), x'])) { s with heap := h'', toks := tk + 1 } :=
      I.turnedNew (ch := [N + 1, N]) (fun b ob hb q => (sb.2 b (fun z => hb (by simp [z]))).trans (hk b ob (fun z => hb (by simp [z])) (fun z => hb (by simp [z])) q)) hf (Nat.le_refl _) new
    refine ⟨.ref s.heap.objs.size, _, I1, rfl, ⟨_, x', rfl, I.hok.fresh (Nat.le_refl _), rfl, fun ys hy => by rw [I.tuple_inj hy hq]; exact g1⟩, ⟨⟨u, ?_⟩, hst'.1.at fun o q => (sb.2 N (Nat.ne_of_lt (Nat.lt_succ_self N))).trans q⟩, fun b hb => ?_⟩
    · have e1 : ((i + 1 : Nat) : Int) = (i : Int) + 1 := by omega
      rw [e1]; exact he'
    · have hb' : b < s.heap.objs.size := by
        have e' : b = N + 1 ∨ b = N := by simpa using hb
        rcases e' with z | z
        · rw [z]; exact hel
        · rw [z]; exact hil
      rw [upd_ne (Nat.ne_of_lt hb')]
      exact (hf b hb).1
  done := by
    intro X hP hw hK hc i pins s σ H E I hf st hg
    subst hP hw hK
    obtain ⟨⟨old, he⟩, hit⟩ := st
    obtain ⟨xs, hq, hx⟩ := hg
    obtain ⟨its, rv, p, hz⟩ := I.tuple hq
    obtain ⟨f0, f1, f2, f3, f4, f5⟩ := hf N (by simp)
    have hl := rv.length
    have e0 : i = its.toArray.size := by simp only [List.size_toArray]; omega
    rw [e0] at hit
    exact wpAny_pyNext_enum_endD (Draws.tuple (A := X.A.in1) (I.ok.hd hc) N a (Nat.ne_of_lt la) its.toArray) he ⟨hit, p⟩ fun h' eb => ⟨rfl, I.turned (t' := s.toks) (fun b o hb q => eb b o hb q) f0 f1 f3 f4 f5⟩
  self := fun A i s Q E st h => let ⟨⟨_, he⟩, _⟩ := st; wpAny_pyIter_enum he h
def iEnumW (K : PySem.W.Frag) (ta : TA) : TI := fun σ H R => ta σ H fun vs H1 => (∃ a xs, vs = [.ref a] ∧ SqL K H1 a xs ∧ R (Ite K a) H1) ∨ ∃ a xs, vs = [.ref a] ∧ SqT K H1 a xs ∧ R (Itet K a) H1
theorem pi_enumW {X : Cx} {e : Expr} {ta : TA} {p pos tpos : Pos} {elts : List Expr} {kk : Nat} (hg : Gl X "enumerate") (hm : X.mg "enumerate" = none) (ha : PA X [e] ta) (hs : starEach [e] X.env = [(false, eval e X.env)] := by rfl) :
    PI X (.Tuple elts kk tpos) (.Call (.Name "enumerate" p) [e] [] pos) (iEnumW X.K ta) := by
  refine ⟨fun pins s σ H R I h => ?_⟩
  refine Call_ (ld_blt I hg hm boot_enumerate (PyProof.Rows.callWith_type1 (thn (ha.run pos pins s σ H _ I h) fun us s1 ⟨vs, H1, I1, r1, q1⟩ => ?_) hs rfl))
  have fp : ∀ b, b ∈ [s1.heap.objs.size + 1, s1.heap.objs.size] → FpOk X pins H1 b := fun b hb => by
    have e' : b = s1.heap.objs.size + 1 ∨ b = s1.heap.objs.size := by simpa using hb
    have hle : s1.heap.objs.size ≤ b := by
      rcases e' with z | z
      · rw [z]; exact Nat.le_add_right _ _
      · rw [z]; exact Nat.le_refl _
    exact I1.fpOk hle (I1.hok.fresh hle)
  rcases q1 with ⟨a, xs, ex, hq, q⟩ | ⟨a, xs, ex, hq, q⟩
  · subst ex
    obtain rfl := Vals.ref1 r1
    obtain ⟨its, rv, p', hz⟩ := I1.list hq
    refine call_enumerate_list p'.isList fun h' he hit hsz hk => wpAny_pyIter_enum he ?_
    have I2 : Inv X pins σ H1 { s1 with heap := h' } := I1.kept (t' := s1.toks) hk
    exact ⟨s1.heap.objs.size + 1, [s1.heap.objs.size + 1, s1.heap.objs.size], _, _, H1, rfl, I2, turn_enum a (s1.heap.objs.size + 1) s1.heap.objs.size, ⟨⟨.none, he⟩, hit, Nat.succ_ne_self _⟩, fp, q⟩
  · subst ex
    obtain rfl := Vals.ref1 r1
    obtain ⟨its, rv, p', hz⟩ := I1.tuple hq
    obtain ⟨o1, ho1, _⟩ := id p'
    refine en1_begins (begins_tuple a its.toArray) p' fun h' he hit hk => wpAny_pyIter_enum he ?_
    have I2 : Inv X pins σ H1 { s1 with heap := h' } := I1.kept (t' := s1.toks) hk
    exact ⟨s1.heap.objs.size + 1, [s1.heap.objs.size + 1, s1.heap.objs.size], _, _, H1, rfl, I2, turn_enumT (Heap.lt_size ho1), ⟨⟨.none, he⟩, ⟨_, hit, rfl, rfl⟩⟩, fp, q⟩
section
variable {X : Cx} {E : En} {W : WX}
theorem wk_enumT {k : Kx} {F H : Hp} {a : Addr} {vs : List V} {xs : List D} (sa : SqT k.K F a vs) (px : D.pureL xs = true) (rx : RpL k F H xs vs []) : Wk k (Itet k.K a) F (enumD 0 xs) := by
  have hx := rx.len
  refine ⟨fun i hi F' H' x y => ?_, fun F' H' x y => ?_, fun i d e F' H' v H'' x y h => ?_⟩
  · rw [enumD_len] at hi
    exact ⟨vs, vs[i]'(by omega), ex_t (x.trans y) sa, List.getElem?_eq_getElem _⟩
  · refine ⟨vs, ex_t (x.trans y) sa, ?_⟩
    rw [enumD_len]; omega
  · obtain ⟨T, v1, rfl, hT, rfl, h1⟩ := h
    rw [enumD_get] at e
    cases e1 : xs[i]? with
    | none => rw [e1] at e; cases e
    | some d1 =>
      rw [e1] at e
      cases e
      obtain ⟨w1, g1, r1⟩ := rx.get0 e1
      have := (h1 vs (ex_t (x.trans y) sa)).symm.trans g1
      cases this
      have ri : Rp k F' H' (.int ((0 + i : Nat) : Int)) (.int (i : Nat)) [] := by rw [Nat.zero_add]; exact ⟨rfl, rfl⟩
      obtain ⟨t, r⟩ := rp_pair y hT ri (Rp.pure (H' := H') (pureL_get px e1) x r1)
      exact ⟨pure_tup2 rfl (pureL_get px e1), _, t, r⟩
def enumW : List D → Option (List D)
  | [x] => match seqD x with
    | some (_, xs) => some (enumD 0 xs)
    | _ => none
  | _ => none
@[simp] theorem enumW_eq (x : D) : enumW [x] = match seqD x with
    | some (_, xs) => some (enumD 0 xs)
    | _ => none := rfl
theorem ei_enumW {e : Expr} {fs : Env → R (List D)} {p pos tpos : Pos} {elts : List Expr} {kk : Nat} (hK : E.k.K = X.K) (hg : Gl X "enumerate") (hm : X.mg "enumerate" = none) (ha : EA X E W [e] fs) (hs : starEach [e] X.env = [(false, eval e X.env)] := by rfl) :
    EI X E W (.Tuple elts kk tpos) (.Call (.Name "enumerate" p) [e] [] pos) (iA enumW fs) := by
  refine ⟨pi_mono (pi_enumW hg hm ha.pa hs) fun σ H P q => ?_⟩
  obtain ⟨F, ρ, s, q⟩ := q
  refine ⟨F, ρ, s, Res.mono q.bind (fun ds he q F1 H1 vs t1 r1 => ?_) fun c _ z F' H' t => z F' H' t⟩
  obtain ⟨es, e, p⟩ := Res.opt q
  clear he
  unfold enumW at e
  split at e
  · rename_i x
    split at e
    · rename_i b xs ex
      cases e
      obtain ⟨v, A, rfl, rx⟩ := Vw.one r1
      obtain ⟨px, a, ws, rfl, sa, q1⟩ := seq_of rx ex
      cases b with
      | true =>
        have sa : SqL E.k.K F1 a ws := sa
        have wk := p F1 H1 _ t1 (wk_enum sa px q1)
        rw [hK] at wk
        rw [hK] at sa
        exact .inl ⟨a, ws, rfl, ex_l t1.fh sa, wk⟩
      | false =>
        have sa : SqT E.k.K F1 a ws := sa
        have wk := p F1 H1 _ t1 (wk_enumT sa px q1)
        rw [hK] at wk
        rw [hK] at sa
        exact .inr ⟨a, ws, rfl, ex_t t1.fh sa, wk⟩
    · cases e
  · cases e
end
end Dv
end
section
namespace Dv
open PySem PySem.Spec PyProof.Rows L2
/-! ## defs with effects that call themselves -/
theorem fn_noX {P : Program} {w : World} {K : PySem.W.Frag} {mg : Str → Option Value} {base : Heap} {CX : CXT} {k : Nat} {mk : List Bool} {f : Addr} {fd : FuncData} {ps : List Str} {kx : Kx} {ec : Nat → Value} : FnOk P w K mg base CX k f fd ps (spX kx ec mk fun _ => .no) :=
  ⟨fun vs H Q E h => by
    obtain ⟨F, ds, B, _, _, h⟩ := h
    exact h.elim, fun A outer s H args us vs Q E _ _ _ _ h => by
    obtain ⟨F, ds, B, _, _, h⟩ := h
    exact h.elim⟩
end Dv
end
section
set_option maxRecDepth 100000
set_option maxHeartbeats 1000000
namespace Dv
open PySem PySem.Spec PyProof.Rows L2
section
variable {X : Cx} {E : En} {W : WX}
/-! ## name.extend(e), e a new list whose items may be owned -/
def sExtM (i : Nat) (f : Env → R D) : Env → SR := fun ρ => onL i ρ fun xs => (f ρ).st ρ fun d => match d with
  | .lst true zs => if xs.length + zs.length ≤ 16777216 then .nx (ρ.set i (some (.lst true (xs ++ zs)))) else .no
  | _ => .no
@[simp] theorem sExtM_eq (i : Nat) (f : Env → R D) (ρ : Env) : sExtM i f ρ = onL i ρ fun xs => (f ρ).st ρ fun d => match d with
  | .lst true zs => if xs.length + zs.length ≤ 16777216 then .nx (ρ.set i (some (.lst true (xs ++ zs)))) else .no
  | _ => .no := rfl
theorem ss_extM {i : Nat} {o e : Expr} {f : Env → R D} {apos cpos pos : Pos} (ho : PE X o (tVar i)) (h : EO X E W e f) (hs : swapsWith (.Call (.Attribute o "extend" apos) [e] [] cpos) none pos.line X.env = pure false := by rfl)
    (hbase : attributeBase o "extend" X.env (eval o X.env) = eval o X.env := by rfl)
    (hfew : ((backTo cpos (starEach [e] X.env)).all (fun x => !x.1) && (backToKw cpos (keywordEach [] X.env)).all (fun x => x.1.isSome)
      && decide ([e].length + ([] : List Keyword).length + (if ([] : List Keyword).isEmpty then 0 else 1) < 30)) = true := by rfl)
    (hline : (apos.endLine == cpos.line) = true := by rfl) (hst : starEach [e] X.env = (false, eval e X.env) :: starEach [] X.env := by rfl) (hplain : (backTo cpos (starEach [] X.env)).any (·.1) = false := by rfl) :
    SS X E W (.Expr (.Call (.Attribute o "extend" apos) [e] [] cpos) pos) (sExtM i f) := by
  refine ⟨ps_mono (ps_expr (pe_bm PySem.F.plainAttrs_list PySem.F.slot_list_extend PySem.F.type_list_extend mt_extend ho (pa_cons h.pe pa_nil hst) hbase hfew hline hst hplain) hs) fun Z σ H h => ?_⟩
  obtain ⟨F, ρ, s, q⟩ := h
  obtain ⟨xs, e, q⟩ := onL_of q
  obtain ⟨fp, sl⟩ := s.sl
  obtain ⟨v, ev, r⟩ := sl.rp i _ e
  refine ⟨v, ev, ty_lst s.fh r, F, ρ, s, Res.mono q.st (fun d _ q F1 H1 w A t1 r1 nd u => ?_) fun c _ z => SRes.exc s z⟩
  split at q
  · rename_i zs _
    by_cases hz : xs.length + zs.length ≤ 16777216
    · rw [if_pos hz] at q
      have s1 := s.tr t1
      have sl1 : Sl E F1 H1 σ ρ fp := ⟨fun j d e => let ⟨v, ev, r⟩ := sl.rp j d e; ⟨v, ev, r.tr t1⟩, sl.em, sl.nd, sl.dj, sl.nw⟩
      obtain ⟨l, vs, B, rfl, eA, fl, hl, rl⟩ := lstO (r.tr t1)
      obtain ⟨b, ws, C, rfl, eC, fb, hb, rC⟩ := lstO r1
      have lfp : l ∈ fp i := by rw [eA]; exact List.mem_cons_self
      have new : ∀ a ∈ C, E.He a = none ∧ ∀ j, a ∉ fp j := fun a ha => ⟨s.new (u a (by rw [eC]; exact List.mem_cons_of_mem _ ha)), fun j hj => (sl.there hj).2 (u a (by rw [eC]; exact List.mem_cons_of_mem _ ha))⟩
      have lC : l ∉ C := fun z => (new l z).2 i lfp
      have ndC : C.Nodup := by rw [eC] at nd; exact (List.nodup_cons.mp nd).2
      have ndi := sl.nd i
      rw [eA] at ndi
      have lB : l ∉ B := (List.nodup_cons.mp ndi).1
      refine ⟨l, b, vs, ws, rfl, rfl, hl, hb, (by rw [sizeLine_eq, ← rl.len, ← rC.len]; exact hz), q F1 _ σ t1.ff ?_⟩
      refine s1.write sl1 (v := .ref l) (A' := l :: (B ++ C)) lfp ev ⟨l, vs ++ ws, B ++ C, rfl, (rl.upd lB).append (rC.upd lC), (fun z => nomatch z), fun _ => ⟨rfl, fl, upd_same⟩⟩ ?_ fun a ha => ?_
      · refine List.nodup_cons.mpr ⟨fun z => (List.mem_append.mp z).elim lB lC, List.nodup_append.mpr ⟨(List.nodup_cons.mp ndi).2, ndC, fun a ha b hb z => ?_⟩⟩
        subst z
        exact (new a hb).2 i (by rw [eA]; exact List.mem_cons_of_mem _ ha)
      · rcases List.mem_cons.mp ha with rfl | ha
        · exact .inl lfp
        · rcases List.mem_append.mp ha with ha | ha
          · exact .inl (by rw [eA]; exact List.mem_cons_of_mem _ ha)
          · exact .inr (new a ha)
    · rw [if_neg hz] at q
      exact q.elim
  · exact q.elim
end
end Dv
end
section
set_option maxRecDepth 100000
set_option maxHeartbeats 1000000
namespace Dv
open PySem PySem.Spec PyProof.Rows L2
/-! ## instances: o.f, looked at -/
def fIx (fs : List Str) (f : Str) : Option Nat := fs.findIdx? fun x => decide (x = f)
theorem fIx_lookup (f : Str) : ∀ (fs : List Str) (vs : List V), fs.length = vs.length → (fs.zip vs).lookup f = (fIx fs f).bind fun j => vs[j]?
  | [], vs, _ => rfl
  | x :: fs, [], h => by simp at h
  | x :: fs, v :: vs, h => by
    have ih := fIx_lookup f fs vs (by simpa using h)
    unfold fIx at ih ⊢
    rw [List.zip_cons_cons, List.findIdx?_cons, List.lookup_cons]
    by_cases e : x = f
    · subst e
      rw [decide_eq_true rfl, beq_self_eq_true]; rfl
    · rw [decide_eq_false e, show (f == x) = false from beq_eq_false_iff_ne.mpr (Ne.symm e)]
      show (fs.zip vs).lookup f = _
      rw [ih]
      cases fs.findIdx? (fun x => decide (x = f)) with
      | none => rfl
      | some j => simp
def gFld (c : Nat) (f : Str) : D → Option D
  | .ins c' fs xs => if c' = c then (fIx fs f).bind fun j => xs[j]? else none
  | _ => none
@[simp] theorem gFld_ins (c c' : Nat) (f : Str) (fs : List Str) (xs : List D) : gFld c f (.ins c' fs xs) = if c' = c then (fIx fs f).bind fun j => xs[j]? else none := rfl
section
variable {X : Cx} {E : En} {W : WX}
theorem ev_fld {c : Nat} {f : Str} {e : Expr} {fe : Env → R D} {pos : Pos} (hK : E.k.K = X.K) (h : EV X E W e fe) (hc : Cls X.K (E.k.cm c)) (hn : NoAttr X.K (E.k.cm c) f) (hb : attributeBase e f X.env (eval e X.env) = eval e X.env := by rfl) : EV X E W (.Attribute e f pos) (e1 (gFld c f) fe) := by
  refine ⟨pe_mono (pe_fld h.pe hb) fun σ H Q q => ?_⟩
  obtain ⟨F, ρ, s, q⟩ := q
  refine ⟨F, ρ, s, Res.mono q.bind (fun x _ q F1 H1 v A t1 r1 => ?_) fun c _ z F' H' t => z F' H' t⟩
  obtain ⟨d, e, p⟩ := Res.opt q
  cases x with
  | ins c' fs xs =>
    obtain ⟨hcc, e1⟩ := if_of (show (if c' = c then (fIx fs f).bind fun j => xs[j]? else none) = some d from e)
    obtain ⟨j, ej, e2⟩ := Option.bind_eq_some_iff.mp e1
    rw [← hcc] at hc hn
    obtain ⟨a, dx, ws, B, rfl, hl, rl, rfl, fa, ha⟩ := r1
    obtain ⟨u, A1, B1, A3, hv, _, rv, _⟩ := rl.nth (show xs[j]? = some d from e2)
    refine ⟨a, _, dx, _, u, rfl, ha, hc, hn, ?_, p F1 H1 u B1 t1 rv⟩
    rw [fIx_lookup f fs ws hl, ej]
    exact hv
  | _ => cases e
end
end Dv
end
section
set_option maxRecDepth 100000
set_option maxHeartbeats 1000000
namespace Dv
open PySem PySem.Spec PyProof.Rows L2
/-! ## o.f = e, o the def's own instance; the value moves in -/
theorem putF_zip (f : Str) (v : V) : ∀ (fs : List Str) (vs : List V), fs.length = vs.length → putF f v (fs.zip vs) = match fIx fs f with
    | some j => fs.zip (vs.set j v)
    | none => (fs ++ [f]).zip (vs ++ [v])
  | [], [], _ => rfl
  | [], _ :: _, h => by simp at h
  | _ :: _, [], h => by simp at h
  | x :: fs, u :: vs, h => by
    have ih := putF_zip f v fs vs (by simpa using h)
    unfold fIx at ih ⊢
    rw [List.zip_cons_cons, List.findIdx?_cons]
    unfold putF
    by_cases e : x = f
    · rw [if_pos e, decide_eq_true e]; rfl
    · rw [if_neg e, decide_eq_false e, ih]
      cases fs.findIdx? (fun x => decide (x = f)) with
      | none => rfl
      | some j => rfl
theorem fIx_lt {fs : List Str} {f : Str} {j : Nat} (h : fIx fs f = some j) : j < fs.length := by
  unfold fIx at h
  exact (List.findIdx?_eq_some_iff_getElem.mp h).1
section
variable {X : Cx} {E : En} {W : WX}
theorem Stt.insn {F H : Hp} {σ : L2.St} {ρ : Env} {fp : Nat → List Addr} {i c : Nat} {fs : List Str} {xs : List D} (s : Stt E F H σ ρ) (sl : Sl E F H σ ρ fp) (e : ρ[i]? = some (some (.ins c fs xs))) :
    ∃ a dx vs B, σ[i]? = some (some (.ref a)) ∧ H a = some (.ins (E.k.cm c) dx (fs.zip vs)) ∧ fs.length = vs.length ∧ RpL E.k F H xs vs B ∧ (∀ b ∈ B, b ∈ fp i) ∧ B.Nodup ∧
      ∀ fs' xs' vs' C, fs'.length = vs'.length → RpL E.k F H xs' vs' C → C.Nodup → (∀ b ∈ C, b ∈ B ∨ (E.He b = none ∧ ∀ j, b ∉ fp j)) → Stt E F (upd H a (.ins (E.k.cm c) dx (fs'.zip vs'))) σ (ρ.set i (some (.ins c fs' xs'))) := by
  obtain ⟨v, ev, r⟩ := sl.rp i _ e
  obtain ⟨a, dx, vs, B, rfl, l, rl, eA, fl, hl⟩ := r
  have lfp : a ∈ fp i := by rw [eA]; exact List.mem_cons_self
  have Bfp : ∀ b ∈ B, b ∈ fp i := fun b hb => by rw [eA]; exact List.mem_cons_of_mem _ hb
  have ndi := sl.nd i
  rw [eA] at ndi
  have lB : a ∉ B := (List.nodup_cons.mp ndi).1
  refine ⟨a, dx, vs, B, ev, hl, l, rl, Bfp, (List.nodup_cons.mp ndi).2, fun fs' xs' vs' C hl' rC nC uC => ?_⟩
  have lC : a ∉ C := fun z => (uC a z).elim lB fun h => h.2 i lfp
  refine s.write sl (v := .ref a) (A' := a :: C) lfp ev ⟨a, dx, vs', C, rfl, hl', rC.upd lC, rfl, fl, upd_same⟩ (List.nodup_cons.mpr ⟨lC, nC⟩) fun b hb => ?_
  rcases List.mem_cons.mp hb with rfl | hb
  · exact .inl lfp
  · exact (uC b hb).imp_left fun h => Bfp b h
def sFldS (c i : Nat) (f : Str) (fe : Env → R D) : Env → SR := fun ρ => (fe ρ).st ρ fun d => match ρ[i]?.getD none with
  | some (.ins c' fs xs) => if c' = c ∧ fs.length < 1000 then (match fIx fs f with
    | some j => .nx (ρ.set i (some (.ins c' fs (xs.set j d))))
    | none => .nx (ρ.set i (some (.ins c' (fs ++ [f]) (xs ++ [d]))))) else .no
  | _ => .no
theorem sFldS_eq (c i : Nat) (f : Str) (fe : Env → R D) (ρ : Env) : sFldS c i f fe ρ = (fe ρ).st ρ fun d => match ρ[i]?.getD none with
  | some (.ins c' fs xs) => if c' = c ∧ fs.length < 1000 then (match fIx fs f with
    | some j => .nx (ρ.set i (some (.ins c' fs (xs.set j d))))
    | none => .nx (ρ.set i (some (.ins c' (fs ++ [f]) (xs ++ [d]))))) else .no
  | _ => .no := rfl
theorem ss_fld {c i : Nat} {f : Str} {o e : Expr} {fe : Env → R D} {pos pos' : Pos} (hK : E.k.K = X.K) (ho : PE X o (tVar i)) (h : EO X E W e fe) (hc : Cls X.K (E.k.cm c)) (hn : NoAttr X.K (E.k.cm c) f) (hs : swapsWith e (some (.Attribute o f pos')) pos.line X.env = pure false := by rfl) :
    SS X E W (.Assign [.Attribute o f pos'] e pos) (sFldS c i f fe) := by
  refine ⟨ps_mono (ps_fld ho h.pe hs) fun Z σ H h => ?_⟩
  obtain ⟨F, ρ, s, q⟩ := h
  rw [sFldS_eq] at q
  obtain ⟨fp, sl⟩ := s.sl
  refine ⟨F, ρ, s, Res.mono q.st (fun d _ q F1 H1 w A t1 r1 nd u => ?_) fun c _ z => SRes.exc s z⟩
  cases eD : ρ[i]?.getD none with
  | none => rw [eD] at q; exact q.elim
  | some dd =>
    rw [eD] at q
    cases dd with
    | ins c' fs xs =>
      have e0 := some_some eD
      have q2 : SRes E W F Z (if c' = c ∧ fs.length < 1000 then (match fIx fs f with
        | some j => .nx (ρ.set i (some (.ins c' fs (xs.set j d))))
        | none => .nx (ρ.set i (some (.ins c' (fs ++ [f]) (xs ++ [d]))))) else .no) := q
      clear q
      by_cases hz : c' = c ∧ fs.length < 1000
      · rw [if_pos hz] at q2
        obtain ⟨rfl, lf⟩ := hz
        obtain ⟨a, dx, vs, B, ev, ha, hl, rl, Bfp, nB, wr⟩ := (s.tr t1).insn (sl.tr t1) e0
        have new : ∀ a ∈ A, E.He a = none ∧ ∀ j, a ∉ fp j := fun a ha => s.fresh sl (u a ha)
        refine ⟨.ref a, ev, a, E.k.cm c', dx, _, rfl, ha, hc, hn, by rw [List.length_zip]; omega, ?_⟩
        rw [putF_zip f w fs vs hl]
        cases ej : fIx fs f with
        | none =>
          rw [ej] at q2
          have q : SRes E W F Z (.nx (ρ.set i (some (.ins c' (fs ++ [f]) (xs ++ [d]))))) := q2
          refine q F1 _ σ t1.ff (wr (fs ++ [f]) (xs ++ [d]) (vs ++ [w]) (B ++ A) (by rw [List.length_append, List.length_append, hl]; rfl) (rl.append (RpL.one r1)) (List.nodup_append.mpr ⟨nB, nd, fun a ha b hb z => ?_⟩) fun b hb => ?_)
          · subst z
            exact (new a hb).2 i (Bfp a ha)
          · rcases List.mem_append.mp hb with hb | hb
            · exact .inl hb
            · exact .inr (new b hb)
        | some j =>
          rw [ej] at q2
          have q : SRes E W F Z (.nx (ρ.set i (some (.ins c' fs (xs.set j d))))) := q2
          have hk : j < xs.length := by rw [rl.len, ← hl]; exact fIx_lt ej
          obtain ⟨A1, A2, A3, eB, rn⟩ := rl.set r1 hk
          rw [eB] at nB
          have n13 : (A1 ++ A3).Nodup := by
            have := List.nodup_append.mp nB
            have h12 := List.nodup_append.mp this.1
            exact List.nodup_append.mpr ⟨h12.1, this.2.1, fun a ha b hb => this.2.2 a (List.mem_append_left _ ha) b hb⟩
          have h13 := List.nodup_append.mp n13
          refine q F1 _ σ t1.ff (wr fs (xs.set j d) (vs.set j w) _ (by rw [List.length_set]; exact hl) rn (List.nodup_append.mpr ⟨List.nodup_append.mpr ⟨h13.1, nd, fun a ha b hb z => ?_⟩, h13.2.1, fun a ha b hb z => ?_⟩) fun a ha => ?_)
          · subst z
            exact (new a hb).2 i (Bfp a (by rw [eB]; simp [ha]))
          · rcases List.mem_append.mp ha with ha | ha
            · exact h13.2.2 a ha b hb z
            · subst z
              exact (new a ha).2 i (Bfp a (by rw [eB]; simp [hb]))
          · rcases List.mem_append.mp ha with ha | ha
            · rcases List.mem_append.mp ha with ha | ha
              · exact .inl (by rw [eB]; simp [ha])
              · exact .inr (new a ha)
            · exact .inl (by rw [eB]; simp [ha])
      · rw [if_neg hz] at q2; exact q2.elim
    | _ => exact q.elim
end
end Dv
end
section
set_option maxRecDepth 100000
set_option maxHeartbeats 1000000
namespace Dv
open PySem PySem.Spec PyProof.Rows L2
section
variable {X : Cx} {E : En} {W : WX}
/-! ## o.f.append(e), o the def's own instance, its field f an owned list -/
theorem Stt.insl {F H : Hp} {σ : L2.St} {ρ : Env} {fp : Nat → List Addr} {i n c : Nat} {fs : List Str} {xs ys : List D} (s : Stt E F H σ ρ) (sl : Sl E F H σ ρ fp) (e : ρ[i]? = some (some (.ins c fs xs))) (ex : xs[n]? = some (.lst true ys)) :
    ∃ a dx vs l ws B, σ[i]? = some (some (.ref a)) ∧ H a = some (.ins (E.k.cm c) dx (fs.zip vs)) ∧ fs.length = vs.length ∧ vs[n]? = some (.ref l) ∧ H l = some (.lst ws) ∧ RpL E.k F H ys ws B ∧ (∀ a ∈ B, a ∈ fp i) ∧ B.Nodup ∧
      ∀ F' H', Tr F H F' H' → ∀ ys' ws' C, RpL E.k F' H' ys' ws' C → C.Nodup → (∀ a ∈ C, a ∈ B ∨ (E.He a = none ∧ ∀ j, a ∉ fp j)) → Stt E F' (upd H' l (.lst ws')) σ (ρ.set i (some (.ins c fs (xs.set n (.lst true ys'))))) := by
  obtain ⟨v, ev, r⟩ := sl.rp i _ e
  obtain ⟨a, dx, vs, A, rfl, hlen, rl, eA, fa, ha⟩ := r
  obtain ⟨l, ws, B, h1, h2, h3, h4, h5, h6, h7, h8⟩ := nst_core s sl xs vs A [a] eA rl ex
  refine ⟨a, dx, vs, l, ws, B, ev, ha, hlen, h1, h2, h3, h4, h5, fun F' H' t ys' ws' C rC nC uC => ?_⟩
  obtain ⟨A', k1, k2, k3⟩ := h8 F' H' t ys' ws' C rC nC uC
  have na : a ≠ l := fun z => h7 (by rw [z]; exact List.mem_singleton_self _)
  exact (s.tr t).write (sl.tr t) (v := .ref a) (A' := a :: A') h6 ev ⟨a, dx, vs, A', rfl, hlen, k1, rfl, t.no a fa (by rw [ha]; exact fun z => nomatch z), by rw [upd_ne na]; exact t.hh _ _ ha⟩ k2 k3
def sFldA (c i : Nat) (f : Str) (fe : Env → R D) : Env → SR := fun ρ => match ρ[i]?.getD none with
  | some (.ins c' fs xs) => if c' = c then (match fIx fs f with
    | some j => (match xs[j]? with
      | some (.lst true ys) => (fe ρ).st ρ fun d => if ys.length < 16777216 then .nx (ρ.set i (some (.ins c' fs (xs.set j (.lst true (ys ++ [d])))))) else .no
      | _ => .no)
    | none => .no) else .no
  | _ => .no
theorem sFldA_eq (c i : Nat) (f : Str) (fe : Env → R D) (ρ : Env) : sFldA c i f fe ρ = match ρ[i]?.getD none with
  | some (.ins c' fs xs) => if c' = c then (match fIx fs f with
    | some j => (match xs[j]? with
      | some (.lst true ys) => (fe ρ).st ρ fun d => if ys.length < 16777216 then .nx (ρ.set i (some (.ins c' fs (xs.set j (.lst true (ys ++ [d])))))) else .no
      | _ => .no)
    | none => .no) else .no
  | _ => .no := rfl
theorem ss_fldA {c i : Nat} {f : Str} {o e : Expr} {fe : Env → R D} {apos1 apos cpos pos : Pos} (hK : E.k.K = X.K) (ho : PE X o (tVar i)) (h : EO X E W e fe) (hc : Cls X.K (E.k.cm c)) (hn : NoAttr X.K (E.k.cm c) f) (hb : attributeBase o f X.env (eval o X.env) = eval o X.env := by rfl)
    (hs : swapsWith (.Call (.Attribute (.Attribute o f apos1) "append" apos) [e] [] cpos) none pos.line X.env = pure false := by rfl)
    (hbase : attributeBase (.Attribute o f apos1) "append" X.env (eval (.Attribute o f apos1) X.env) = eval (.Attribute o f apos1) X.env := by rfl)
    (hfew : ((backTo cpos (starEach [e] X.env)).all (fun x => !x.1) && (backToKw cpos (keywordEach [] X.env)).all (fun x => x.1.isSome)
      && decide ([e].length + ([] : List Keyword).length + (if ([] : List Keyword).isEmpty then 0 else 1) < 30)) = true := by rfl)
    (hline : (apos.endLine == cpos.line) = true := by rfl) (hst : starEach [e] X.env = (false, eval e X.env) :: starEach [] X.env := by rfl) (hplain : (backTo cpos (starEach [] X.env)).any (·.1) = false := by rfl) :
    SS X E W (.Expr (.Call (.Attribute (.Attribute o f apos1) "append" apos) [e] [] cpos) pos) (sFldA c i f fe) := by
  refine ⟨ps_mono (ps_expr (pe_bm PySem.F.plainAttrs_list PySem.F.slot_list_append PySem.F.type_list_append mt_append (pe_fld ho hb) (pa_cons h.pe pa_nil hst) hbase hfew hline hst hplain) hs) fun Z σ H h => ?_⟩
  obtain ⟨F, ρ, s, q⟩ := h
  rw [sFldA_eq] at q
  obtain ⟨fp, sl⟩ := s.sl
  cases eD : ρ[i]?.getD none with
  | none => rw [eD] at q; exact q.elim
  | some dd =>
    rw [eD] at q
    cases dd with
    | ins c' fs xs =>
      have e0 := some_some eD
      have q2 : SRes E W F Z (if c' = c then (match fIx fs f with
        | some j => (match xs[j]? with
          | some (.lst true ys) => (fe ρ).st ρ fun d => if ys.length < 16777216 then .nx (ρ.set i (some (.ins c' fs (xs.set j (.lst true (ys ++ [d])))))) else .no
          | _ => .no)
        | none => .no) else .no) := q
      clear q
      by_cases hcc : c' = c
      · rw [if_pos hcc] at q2
        subst hcc
        cases ej : fIx fs f with
        | none => rw [ej] at q2; exact q2.elim
        | some j =>
          rw [ej] at q2
          have q3 : SRes E W F Z (match xs[j]? with
            | some (.lst true ys) => (fe ρ).st ρ fun d => if ys.length < 16777216 then .nx (ρ.set i (some (.ins c' fs (xs.set j (.lst true (ys ++ [d])))))) else .no
            | _ => .no) := q2
          clear q2
          split at q3
          · rename_i ys ex
            obtain ⟨a, dx, vs, l, ws, B, ev, ha, hl, hv, hw, rl, Bfp, nB, wr⟩ := s.insl sl e0 ex
            refine ⟨.ref a, ev, a, E.k.cm c', dx, _, .ref l, rfl, ha, hc, hn, ?_, ?_⟩
            · rw [fIx_lookup f fs vs hl, ej]; exact hv
            · refine ⟨ty_ref (k := E.k) hw, F, ρ, s, Res.mono q3.st (fun y _ q F2 H2 u C t2 r2 nd un => ?_) fun c _ z => SRes.exc s z⟩
              by_cases hz : ys.length < 16777216
              · rw [if_pos hz] at q
                have new : ∀ a ∈ C, E.He a = none ∧ ∀ j, a ∉ fp j := fun a ha => s.fresh sl (un a ha)
                have rl2 := rl.tr t2
                refine ⟨l, ws, u, rfl, rfl, t2.hh _ _ hw, Nat.lt_of_lt_of_eq (by rw [← rl2.len]; exact hz) sizeLine_eq.symm, q F2 _ σ t2.ff (wr F2 H2 t2 (ys ++ [y]) (ws ++ [u]) (B ++ C) (rl2.append (RpL.one r2)) ?_ fun a ha => ?_)⟩
                · refine List.nodup_append.mpr ⟨nB, nd, fun a ha b hb z => ?_⟩
                  subst z
                  exact (new a hb).2 i (Bfp a ha)
                · rcases List.mem_append.mp ha with ha | ha
                  · exact .inl ha
                  · exact .inr (new a ha)
              · rw [if_neg hz] at q
                exact q.elim
          · exact q3.elim
      · rw [if_neg hcc] at q2; exact q2.elim
    | _ => exact q.elim
end
end Dv
end
section
set_option maxRecDepth 100000
set_option maxHeartbeats 1000000
namespace Dv
open PySem PySem.Spec PyProof.Rows L2
/-! ## o.m(..), what the method may raise told by the slots -/
section
variable {X : Cx} {CX : CXT} {k : Nat} {f C : Addr} {fd : FuncData} {ps : List Str} {sp : Sp} {Ex : L2.St → XK} {m : Str} {apos pos : Pos} {o e : Expr} {es : List Expr} {ta : TE} {t : TA}
def tMethS (C : Addr) (m : Str) (sp : Sp) (Ex : L2.St → XK) (ta : TE) (t : TA) : TE := fun σ H Q => ta σ H fun x H1 => ∃ a dx fs, x = .ref a ∧ H1 a = some (.ins C dx fs) ∧ fs.lookup m = none ∧
  t σ H1 fun vs H2 => sp (x :: vs) H2 Q (Ex σ)
theorem pe_methS {pl : Sem Bool} (he : PE X o ta) (c : Cls X.K C) (hm : Meth X.K C m f) (F : FnOk X.prog X.w X.K X.mg X.base CX k f fd ps sp) (hr : Room k X.A) (hb : Binds X.K fd ps []) (hx : ∀ σ, PassesAt CX X σ (Ex σ)) (ha : PA X (e :: es) t)
    (hst : starEach (e :: es) X.env = (false, eval e X.env) :: starEach es X.env := by rfl) (hpl : (backTo pos (starEach es X.env)).any (·.1) = false := by rfl)
    (ht : eval (.Call (.Attribute o m apos) (e :: es) [] pos) X.env = (do
      let ov ← eval o X.env
      standAt apos.atName
      let (f, first) ← holding [ov] (getMethod ov m pl)
      callWith pos f first (backTo pos (starEach (e :: es) X.env)) (backToKw pos (keywordEach [] X.env))) := by rfl) :
    PE X (.Call (.Attribute o m apos) (e :: es) [] pos) (tMethS C m sp Ex ta t) := by
  refine ⟨fun pins s σ H Q I h => ?_⟩
  refine PySem.W.methodCall_KW (pl := pl) (thn (he.run pins s σ H _ I h) fun u s1 ⟨x, H1, I1, rx, a, dx, fs, ex, ea, l, q⟩ => ?_) ht
  subst ex
  obtain rfl : u = Value.ref a := rx
  refine getmeth_ok I1 ea c hm l ?_
  refine PySem.W.callWith_K (first := [.ref a]) (h₀ := X.base) I.ok.mod.kin hm.kp (thn (ha.run pos pins s1 σ H1 _ I1 q) fun us s2 ⟨vs, H2, I2, r, q2⟩ => ⟨I2.kIn, ?_⟩) hst hpl
  exact run_fnS (us := .ref a :: us) (vs := .ref a :: vs) F hr hb (hx σ) I2 (.cons rfl r) q2
end
end Dv
end
section
set_option maxRecDepth 100000
set_option maxHeartbeats 1000000
namespace Dv
open PySem PySem.Spec PyProof.Rows L2
section
variable {X : Cx} {E : En} {W : WX}
/-! ## o.m(e, ..), o the def's own instance, which the method may change -/
def xMeth (c i : Nat) (m : Str) (f : List D → XR D) (sh : List (Option Nat)) (fs : Env → XR (List D)) : Env → XR D := fun ρ => match ρ[i]?.getD none with
  | some (.ins c' ns _) => if c' = c ∧ fIx ns m = none then xCall f (some i :: sh) fs ρ else .no
  | _ => .no
theorem xMeth_eq (c i : Nat) (m : Str) (f : List D → XR D) (sh : List (Option Nat)) (fs : Env → XR (List D)) (ρ : Env) : xMeth c i m f sh fs ρ = match ρ[i]?.getD none with
  | some (.ins c' ns _) => if c' = c ∧ fIx ns m = none then xCall f (some i :: sh) fs ρ else .no
  | _ => .no := rfl
theorem meth_imp {c i : Nat} {mk : List Bool} {f : List D → XR D} {sh : List (Option Nat)} {fs : Env → XR (List D)} {m : Str}
    (hmk : mk = (some i :: sh).map Option.isSome) (ok : shOk (some i :: sh) = true) (hall : (∀ j ∈ (some i :: sh).filterMap id, j ∈ E.bs) ∨ ∀ j ∈ (some i :: sh).filterMap id, j ∉ E.bs) {σ : L2.St} {H : Hp} {Q : VK} (h : tX E W (xMeth c i m f sh fs) σ H Q) :
    tMethS (E.k.cm c) m (spX E.k E.ec mk f) (WE W) (tVar i) (tXC E W sh fs) σ H Q := by
  obtain ⟨F, ρ, τ, δ, s, hl, hb, q⟩ := h
  rw [xMeth_eq] at q
  cases eD : ρ[i]?.getD none with
  | none => rw [eD] at q; exact q.elim
  | some dd =>
    rw [eD] at q
    cases dd with
    | ins c' ns xs =>
      have q0 : XRes (if c' = c ∧ fIx ns m = none then xCall f (some i :: sh) fs ρ else .no) _ _ := q
      clear q
      by_cases hz : c' = c ∧ fIx ns m = none
      · rw [if_pos hz] at q0
        obtain ⟨rfl, hf⟩ := hz
        have e0 := some_some eD
        have hi : i < ρ.length := (List.getElem?_eq_some_iff.mp e0).1
        obtain ⟨fp0, sl0⟩ := s.sl
        obtain ⟨v, ev, r⟩ := sl0.rp i _ ((List.getElem?_append_left hi).trans e0)
        rw [List.getElem?_append_left (by omega)] at ev
        obtain ⟨a, dx, ws, B, rfl, hlen, rl, eA, fl, hv⟩ := r
        refine ⟨.ref a, ev, a, dx, _, rfl, hv, ?_, ?_⟩
        · rw [fIx_lookup m ns ws hlen, hf]; rfl
        refine ⟨F, ρ, τ, δ, s, hl, hb, XRes.mono q0.bind (fun ds ρ1 _ q F1 H1 ps vs e1 l1 n1 p1 m1 s1 => ?_) fun c ρ1 z => z⟩
        cases em : mergeD (some i :: sh) ds ρ1 with
        | none => rw [em] at q; exact q.elim
        | some ds' =>
          rw [em] at q
          have q : XRes ((f ds').put (some i :: sh) ρ1) _ _ := q
          have m2 : Mg σ (some i :: sh) ps (.ref a :: vs) := ⟨.ref a, vs, ev, rfl, m1⟩
          obtain ⟨fp, A, s2, sl2, r2, n2, u2⟩ := s1.collectX hb n1
          have r2' : RpL E.k F1 H1 ds ps [] := RpL.pure p1 (.refl _) r2
          have lv := Mg_len m2
          have lk : mk.length = (some i :: sh).length := by rw [hmk, List.length_map]
          have bl : ∀ j ∈ bsM mk, j < ((V.ref a :: vs).map some).length := fun j hj => by
            have := (List.getElem?_eq_some_iff.mp (mem_bsM.mp hj)).1
            rw [List.length_map]; omega
          refine ⟨F1, ds', _, by rw [lv, lk], s2.enter sl2 l1 m2 r2' em hmk ok, ?_⟩
          cases ef : f ds' with
          | no => rw [ef] at q; exact q.elim
          | ok d qs =>
            rw [ef] at q
            intro F' H' v x2 lq s3
            obtain ⟨fp3, sl3⟩ := s3.sl
            obtain ⟨s4, sl4, h4, n4, u4⟩ := s3.pop' sl3 bl
            obtain ⟨v', ev', r4⟩ := h4 d rfl
            cases ev'
            obtain ⟨fp', s5, sl5, u5⟩ := s2.leave sl2 l1 m2 em ok hall (by rw [lq, lk]) s4 sl4
            refine q F' H' v (e1.trans x2) (by rw [putD_len]; exact l1) (s5.pushS sl5 (Tr.refl s5.fh) r4 n4 fun a ha => ⟨s2.new (u4 a ha).1, fun j hj => ?_⟩)
            rcases u5 j a hj with ⟨k, z⟩ | z
            · exact (u4 a ha).2 k z
            · exact (sl2.there z).2 (u4 a ha).1
          | ex c qs =>
            rw [ef] at q
            intro F' H' x2 lq s3
            obtain ⟨fp3, sl3⟩ := s3.sl
            obtain ⟨fp', s5, sl5, u5⟩ := s2.leave sl2 l1 m2 em ok hall (by rw [lq, lk]) s3 sl3
            exact q F' H' (e1.trans x2) (by rw [putD_len]; exact l1) s5
      · rw [if_neg hz] at q0; exact q0.elim
    | _ => exact q.elim
theorem xe_meth {k c i : Nat} {mk : List Bool} {fa : Addr} {fd : FuncData} {ps : List Str} {f : List D → XR D} {sh : List (Option Nat)} {fs : Env → XR (List D)} {m : Str} {apos pos : Pos} {o e : Expr} {es : List Expr} {pl : Sem Bool} (hK : E.k.K = X.K) (ho : PE X o (tVar i)) (hc : Cls X.K (E.k.cm c)) (hm : Meth X.K (E.k.cm c) m fa) (G : FnOk X.prog X.w X.K X.mg X.base (L2.CX X.prog X.w) k fa fd ps (spX E.k E.ec mk f)) (tk : Takes X W) (hr : Room k X.A) (hb : Binds X.K fd ps [])
    (hmk : mk = (some i :: sh).map Option.isSome) (ok : shOk (some i :: sh) = true) (hall : (∀ j ∈ (some i :: sh).filterMap id, j ∈ E.bs) ∨ ∀ j ∈ (some i :: sh).filterMap id, j ∉ E.bs)
    (ha : EXC X E W (e :: es) sh fs) (hst : starEach (e :: es) X.env = (false, eval e X.env) :: starEach es X.env := by rfl) (hpl : (backTo pos (starEach es X.env)).any (·.1) = false := by rfl)
    (ht : eval (.Call (.Attribute o m apos) (e :: es) [] pos) X.env = (do
      let ov ← eval o X.env
      standAt apos.atName
      let (f, first) ← holding [ov] (getMethod ov m pl)
      callWith pos f first (backTo pos (starEach (e :: es) X.env)) (backToKw pos (keywordEach [] X.env))) := by rfl) : EX X E W (.Call (.Attribute o m apos) (e :: es) [] pos) (xMeth c i m f sh fs) := by
  exact ⟨pe_mono (pe_methS (Ex := WE W) ho hc hm G hr hb (fun σ => passAt tk σ) ha.pa hst hpl ht) fun σ H Q h => meth_imp hmk ok hall h⟩
end
end Dv
end
section
set_option maxRecDepth 100000
set_option maxHeartbeats 2000000
namespace Dv
open PySem PySem.Spec PyProof.Rows L2 GenW

/-! ### all(.. for .. in ..): a generator expression whose element is any expression that lets no exception out -/
theorem tab_ok {pr : Program} {w : World} {H : Hp} {h : Heap} {P : Addr} (t : TabF P h) : ObjOk pr w H h P (.ext (TabF P)) := by
  refine ⟨t, let ⟨ps, e, _⟩ := t; ⟨_, e⟩, fun h1 h2 t1 k => ?_⟩
  obtain ⟨ps, e, r⟩ := t1
  exact ⟨ps, k _ e, r⟩
theorem upd_self {H : Hp} {P : Addr} {o : HO} (h : H P = some o) : upd H P o = H := by
  funext b
  unfold upd
  by_cases e : b = P
  · rw [if_pos e, e, h]
  · rw [if_neg e]

/-- the context of a generator's frame that was made at s, its iterator's objects at fp -/
abbrev gnx (X : Cx) (s : Shared) (H : Hp) (cenv : PySem.Env) (A : Around) (fp : List Addr) : Cx :=
  { X with A := A, s_0 := s, H_0 := H, env := cenv, outer := X.stack, stack := cenv :: X.stack, ex := fp, fn := fun _ => false, calm := true, pn := [], xe := fun _ _ => False }
/-- where its element runs -/
abbrev gnA (X : Cx) (elt tg iter : Expr) (scope : Scope) (gpos : Pos) (it : Addr) (cenv : PySem.Env) : Around :=
  (X.A.in1.in1).over (.compLoop (.GeneratorExp elt [⟨tg, iter, [], 0⟩] scope gpos) 0 (.ref it) .none cenv) []
theorem room_gn {X : Cx} {k : Nat} {elt tg iter : Expr} {scope : Scope} {gpos : Pos} {it : Addr} {cenv : PySem.Env} (hr : Room (k + 1) X.A) : Room k (gnA X elt tg iter scope gpos it cenv) := by
  have hd : (gnA X elt tg iter scope gpos it cenv).depth ≤ X.A.depth + 1 := Nat.le_of_eq rfl
  have hu : (gnA X elt tg iter scope gpos it cenv).units ≤ X.A.units + 1 + 1 + 3 := Nat.le_of_eq rfl
  exact ⟨hr.hd, by have := hr.dp; omega, by have := hr.un; omega⟩

theorem Inv.regen {X : Cx} {pins : List (Addr × Obj)} {σ : L2.St} {H : Hp} {s s' : Shared} (I : Inv X pins σ H s) (hh : s'.heap = s.heap) (ho : s'.os = s.os) (hb : AllBare s'.gens) : Inv X pins σ H s' := by
  obtain ⟨h1, g1, d1, t1, o1⟩ := s
  obtain ⟨h2, g2, d2, t2, o2⟩ := s'
  obtain rfl : h2 = h1 := hh
  obtain rfl : o2 = o1 := ho
  exact ⟨I.ok, I.os, hb, I.base, I.loc, I.cell, I.free, I.freeC, I.pin, I.hok, I.len⟩

/-- names of a generator's scope: its own -/
structure GnOk (N : List Str) (sc scope : Scope) (own : List (Str × Nat)) : Prop where
  blk : BlkOk N sc scope own
  co : scope.isCoroutine = false
  nocell : ∀ y ∈ scope.names, y.2 ≠ .cell
  nofree : ∀ y ∈ scope.names, y.2 ≠ .free
  dot : scope.names.lookup (".0" : Str) = some NameKind.local
def gnC (scope : Scope) : Bool := !scope.isCoroutine && (scope.names.all fun y => match y.2 with
      | .cell => false
      | .free => false
      | _ => true) && (match scope.names.lookup (".0" : Str) with | some .local => true | _ => false)
theorem gnOk_by {N : List Str} {sc scope : Scope} {own : List (Str × Nat)} (hb : blkC N sc scope own = true) (h : gnC scope = true) : GnOk N sc scope own := by
  unfold gnC at h
  simp only [Bool.and_eq_true, List.all_eq_true, Bool.not_eq_true'] at h
  obtain ⟨⟨h1, h2⟩, h3⟩ := h
  refine ⟨blkOk_by hb, h1, fun y hy e => ?_, fun y hy e => ?_, ?_⟩
  · have z := h2 y hy; rw [e] at z; cases z
  · have z := h2 y hy; rw [e] at z; cases z
  · split at h3
    · assumption
    · cases h3
theorem cloFrom_nil {cells : List (Str × Addr)} : ∀ {names : List (Str × NameKind)}, (∀ y ∈ names, y.2 ≠ .free) → cloFrom cells names [] = []
  | [], _ => rfl
  | (n, k) :: r, h => by
    unfold cloFrom
    have hk : ¬ (k == NameKind.free) = true := fun z => h (n, k) List.mem_cons_self (by simpa using z)
    rw [if_neg hk]
    exact cloFrom_nil fun y hy => h y (List.mem_cons_of_mem _ hy)

section
variable {X : Cx} {pins : List (Addr × Obj)} {σ : L2.St} {H : Hp} {s : Shared}
/-- the generator's object -/
abbrev genObj (g : Nat) (q : Str) (t1 t2 : Nat) : Obj := { cls := .type "generator", data := .fields #[.int g 0, .str "<genexpr>" t1, .str q t2] }

/-- the frame of a generator that was made -/
theorem gen_start {scope : Scope} {own : List (Str × Nat)} {fp : List Addr} {code : Value} {A' : Around} {h' : Heap} {m0 : Str → Option Value} {gs : GenState} {tk : Nat} {ob : Obj} (I : Inv X pins σ H s) (hN : X.N.Nodup) (ok : GnOk X.N X.env.scope scope own)
    (hfp : ∀ b ∈ fp, FpOk X pins H b ∧ b < s.heap.objs.size) (hA : A'.handled = none) (hAf : A'.frames = some (genEnv scope [] s.heap.objs.size code builtinsNs X.env :: X.stack)) (hgs : gs.bare = true) (hob : ∀ v, ob.data ≠ .cell v) (hcl : ob.isFreed = false)
    (hn : h'.Ns s.heap.objs.size m0) (hs : Heap.SameBut s.heap.objs.size (s.heap.push { cls := .type "frame", data := .dict #[] }) h') :
    Inv (gnx X s H (genEnv scope [] s.heap.objs.size code builtinsNs X.env) A' fp) [(h'.objs.size, ob)] (wipe σ (own.map (·.2))) H { s with gens := s.gens.push gs, toks := tk, heap := h'.push ob } := by
  have kp1 : ∀ b o, s.heap.get? b = some o → h'.get? b = some o := fun b o e => hs.extBut b o (Nat.ne_of_lt (Heap.lt_size e)) (Heap.get?_push_of_some _ e)
  have kp : ∀ b o, s.heap.get? b = some o → (h'.push ob).get? b = some o := fun b o e => Heap.get?_push_of_some _ (kp1 b o e)
  have hsz : h'.objs.size = s.heap.objs.size + 1 := by rw [hs.1, Heap.size_push]
  have okG : (gnx X s H (genEnv scope [] s.heap.objs.size code builtinsNs X.env) A' fp).Ok := by
    refine ⟨I.ok.mod, ok.blk.kind, I.ok.glob, rfl, Nat.le_refl _, fun y z c e1 e2 => (nomatch e1), fun y hy => ?_, fun y c z e => (nomatch e), fun _ => hA, hAf, .inr ⟨rfl, rfl⟩, fun b hb => ⟨Nat.ne_of_lt (hfp b hb).2, fun y c e z => (nomatch e)⟩, I.bs, Nat.le_trans I.ok.bsz I.sz, fun b o e hb => ?_, fun b hb z => ?_, I.stack, I.stkFree⟩
    · rcases hy with hy | hy
      · exact absurd rfl (ok.nocell _ (PySem.mem_of_lookup (show scope.names.lookup y = some .cell from hy)))
      · exact absurd rfl (ok.nofree _ (PySem.mem_of_lookup (show scope.names.lookup y = some .free from hy)))
    · rcases (hfp b hb).1.2.2.2.1 with z | z
      · exact I.ok.noex b o e z
      · exact absurd (Nat.lt_of_lt_of_le (Heap.lt_size e) (Nat.le_trans I.ok.bsz z)) (Nat.lt_irrefl _)
    · rcases List.mem_cons.mp (I.stkSub b z) with z | z
      · exact (hfp b hb).1.2.1 z
      · exact (hfp b hb).1.2.2.1 z
  refine ⟨okG, rfl, I.bare.push hgs, Un.kept kp, ⟨m0, hn.push _, fun i y av e1 e2 e3 => ?_⟩, fun y c e => (nomatch e), I.hok.fresh (Nat.le_refl _), fun y c e => (nomatch e), fun p hp => ?_, I.hok.kept kp, by rw [wipe_length]; exact I.len⟩
  · obtain ⟨e2, hne⟩ := wipe_some e2
    have no : ∀ k, scope.names.lookup y = some k → k = .local ∨ k = .cell → False := fun k hk hk' => by
      rcases ok.blk.own _ (PySem.mem_of_lookup hk) hk' with e' | e'
      · obtain ⟨p, hp, hpy⟩ := List.mem_map.mp e'
        have e3 := ok.blk.ix p hp
        have : p.1 = y := hpy
        rw [this] at e3
        exact hne (List.mem_map.mpr ⟨p, hp, nodup_ix hN e3 e1⟩)
      · exact e' (List.mem_of_getElem? e1)
    have e3 : Vis scope y := e3
    rcases e3 with e3 | e3 | e3
    · exact (no _ e3 (.inl rfl)).elim
    · exact (no _ e3 (.inr rfl)).elim
    · exact absurd rfl (ok.nofree _ (PySem.mem_of_lookup e3))
  · have hp' : p = (h'.objs.size, ob) := by simpa using hp
    subst hp'
    refine ⟨Heap.get?_push_size _ hcl, I.hok.fresh (by omega), ?_, fun z => ?_, hob⟩
    · show h'.objs.size ≠ s.heap.objs.size
      omega
    · rcases List.mem_cons.mp (I.stkSub _ z) with z | z
      · have := I.lt
        rw [← z] at this
        have h2 : h'.objs.size < s.heap.objs.size := this
        omega
      · exact I.nofs (a := h'.objs.size) (by omega) z
end
end Dv
end
section
set_option maxRecDepth 100000
set_option maxHeartbeats 2000000
namespace Dv
open PySem PySem.Spec PyProof.Rows L2 GenW
section
variable {X : Cx} {pins : List (Addr × Obj)} {σ : L2.St} {elt tg iter : Expr} {scope : Scope} {gpos : Pos} {own : List (Str × Nat)} {g : TG} {te : TE}

/-- what a generator's frame holds at turn i -/
structure Gnv (XG : Cx) (a : Addr) (ob : Obj) (vs : List Nat) (σ : L2.St) (fp : List Addr) (tn : Nat → Heap → Prop) (i : Nat) (H : Hp) (s : Shared) : Prop where
  inv : Inv XG [(a, ob)] (wipe σ vs) H s
  at_ : tn i s.heap
  fpn : ∀ b ∈ fp, H b = none
theorem Gnv.same {XG : Cx} {a : Addr} {ob : Obj} {vs : List Nat} {σ : L2.St} {fp : List Addr} {tn : Nat → Heap → Prop} {i : Nat} {H : Hp} {s s' : Shared} (G : Gnv XG a ob vs σ fp tn i H s) (hh : s'.heap = s.heap) (ho : s'.os = s.os) (hb : AllBare s'.gens) : Gnv XG a ob vs σ fp tn i H s' :=
  ⟨Inv.regen G.inv hh ho hb, by rw [hh]; exact G.at_, G.fpn⟩
/-- the protocol of all(..): a bool is handed out -/
def gnY (XG : Cx) (a : Addr) (gi : Nat) (ob : Obj) (vs : List Nat) (σ : L2.St) (fp : List Addr) (tn : Nat → Heap → Prop) (W : Nat → Nat → Hp → Prop) (Qf : Hp → Prop) : Protocol := fun m _ v s kap =>
  ∃ b i H, v = .bool b ∧ Gnv XG a ob vs σ fp tn i H s ∧ gi + 1 ≤ s.gens.size ∧ (if b = true then W i m H else Qf H) ∧
    (b = true → ∀ s'' : Shared, s''.heap = s.heap → s''.os = s.os → AllBare s''.gens → gi + 1 ≤ s''.gens.size → kap (.send .none) s'')
def gnP (XG : Cx) (a : Addr) (ob : Obj) (vs : List Nat) (σ : L2.St) (Qt : Hp → Prop) : Nat → Shared → Shared → Prop := fun _ _ s => ∃ H, Inv XG [(a, ob)] (wipe σ vs) H s ∧ Qt H

theorem gen_loop {s4 : Shared} {H4 : Hp} {cenv : PySem.Env} {fp : List Addr} {it a : Addr} {gi : Nat} {ob : Obj} {tn : Nat → Heap → Prop} {J : It} {W : Nat → Nat → Hp → Prop} {Qt Qf : Hp → Prop}
    (T : Turn X.prog X.w X.K tg J fp it tn) (hco : cenv.scope.isCoroutine = false) (hfa : ∀ b ∈ fp, a ≠ b)
    (pg : PG (gnx X s4 H4 cenv (gnA X elt tg iter scope gpos it cenv) fp) tg g) (pe : PE (gnx X s4 H4 cenv (gnA X elt tg iter scope gpos it cenv) fp) elt te)
    (turn : ∀ i m H, W i m H → (J.stop i H ∧ Qt H) ∨ (J.go i H ∧ ∃ m', m = m' + 1 ∧ ∀ x H', J.yld i H x H' → g x (wipe σ (own.map (·.2))) H' fun σ2 H2 => wipe σ2 (own.map (·.2)) = wipe σ (own.map (·.2)) ∧
      te σ2 H2 fun y H3 => ∃ b, y = .bl b ∧ (if b = true then W (i + 1) m' H3 else Qf H3))) :
    ∀ (m i : Nat) (s₀ s : Shared) (H : Hp), W i m H → Gnv (gnx X s4 H4 cenv (gnA X elt tg iter scope gpos it cenv) fp) a ob (own.map (·.2)) σ fp tn i H s → gi + 1 ≤ s.gens.size →
      Seg (model X.prog X.w) X.A.in1.in1 (fun n s₀ r s₁ => r = .ok .next ∧ gnP (gnx X s4 H4 cenv (gnA X elt tg iter scope gpos it cenv) fp) a ob (own.map (·.2)) σ Qt n s₀ s₁)
        (gnY (gnx X s4 H4 cenv (gnA X elt tg iter scope gpos it cenv) fp) a gi ob (own.map (·.2)) σ fp tn W Qf) m s₀
        (.compLoop (.GeneratorExp elt [⟨tg, iter, [], 0⟩] scope gpos) 0 (.ref it) .none cenv)
        ((model X.prog X.w).den (.compLoop (.GeneratorExp elt [⟨tg, iter, [], 0⟩] scope gpos) 0 (.ref it) .none cenv)) [] s := by
  have stat : ∀ {σ' : L2.St} {H' : Hp} {s' : Shared}, Inv (gnx X s4 H4 cenv (gnA X elt tg iter scope gpos it cenv) fp) [(a, ob)] σ' H' s' → (∀ b ∈ fp, H' b = none) → ∀ b ∈ fp, FpOk (gnx X s4 H4 cenv (gnA X elt tg iter scope gpos it cenv) fp) [(a, ob)] H' b := fun {σ' H' s'} I' hn b hb =>
    ⟨hn b hb, (I'.ok.exf b hb).1, I'.ok.exfs b hb, .inl hb, fun x c e => (I'.ok.exf b hb).2 x c e, fun p hp => by
      have hp' : p = (a, ob) := by simpa using hp
      subst hp'
      exact hfa b hb⟩
  intro m
  induction m with
  | zero =>
    intro i s₀ s H hW G hgs
    rcases turn i 0 H hW with ⟨stop, qt⟩ | ⟨_, m', e, _⟩
    · show Seg _ _ _ _ _ s₀ _ ((compTurn (.GeneratorExp elt [⟨tg, iter, [], 0⟩] scope gpos) 0 (.ref it) .none cenv).onRaise (leaving cenv)) [] s
      rw [compTurn_gen, Sem.onRaise_eq_wrap]
      refine seg_bind_wrap (wpAny_standAt ?_)
      refine seg_bind_wrap (thnF (T.done (gnx X s4 H4 cenv (gnA X elt tg iter scope gpos it cenv) fp) rfl rfl rfl rfl i _ s _ H (fun _ _ => False) G.inv (stat G.inv G.fpn) G.at_ stop) fun r s6 ⟨hr, I6⟩ => ?_)
      subst hr
      exact seg_end (.ok .next) ⟨rfl, H, I6, qt⟩
    · cases e
  | succ m ih =>
    intro i s₀ s H hW G hgs
    show Seg _ _ _ _ _ s₀ _ ((compTurn (.GeneratorExp elt [⟨tg, iter, [], 0⟩] scope gpos) 0 (.ref it) .none cenv).onRaise (leaving cenv)) [] s
    rw [compTurn_gen, Sem.onRaise_eq_wrap]
    refine seg_bind_wrap (wpAny_standAt ?_)
    rcases turn i (m + 1) H hW with ⟨stop, qt⟩ | ⟨go, m', e, step⟩
    · refine seg_bind_wrap (thnF (T.done (gnx X s4 H4 cenv (gnA X elt tg iter scope gpos it cenv) fp) rfl rfl rfl rfl i _ s _ H (fun _ _ => False) G.inv (stat G.inv G.fpn) G.at_ stop) fun r s6 ⟨hr, I6⟩ => ?_)
      subst hr
      exact seg_end (.ok .next) ⟨rfl, H, I6, qt⟩
    · obtain rfl : m = m' := by omega
      refine seg_bind_wrap (wpAny_gsz hgs (thnF (T.item (gnx X s4 H4 cenv (gnA X elt tg iter scope gpos it cenv) fp) rfl rfl rfl rfl i _ s _ H (fun _ _ => False) G.inv (stat G.inv G.fpn) G.at_ go) fun r s6 ⟨u, hr, h6⟩ hz => ?_))
      subst hr
      refine seg_bind_wrap (wpAny_gsz hz (thnF h6 fun _ s7 ⟨x, H7, I7, r7, y7, st7, n7⟩ hz7 => ?_))
      have I7' := I7.pinned (stat I7 n7) (T.obj _ _ st7)
      refine seg_bind_wrap (wpAny_gsz hz7 (thnF (pg.run _ s7 _ H7 x u _ I7' r7 (step x H7 y7)) fun _ s8 ⟨σ8, H8, I8, hw8, q8⟩ hz8 => ?_))
      refine seg_bind_wrap ?_
      rw [List.forIn_nil]
      refine wpAny_pure ?_
      simp only [if_true]
      have hy : ∀ v, yieldOut cenv v = yieldValue v := fun v => by simp only [yieldOut, hco, Bool.false_eq_true, if_false]
      simp only [hy]
      rw [Sem.bind_eq_wrap', Sem.bind_eq_wrap', Sem.wrap_wrap, Sem.wrap_wrap]
      refine seg_wrap (wpAny_gsz hz8 (thnF (pe.run _ s8 σ8 H8 _ I8 q8) fun z s9 ⟨yv, H9, I9, r9, b, eb, nx⟩ hz9 => ?_))
      subst eb
      obtain rfl : z = Value.bool b := r9
      have pin' : ∀ b ∈ fp, ∀ o, s7.heap.get? b = some o → s9.heap.get? b = some o ∧ H9 b = none := fun b hb o e =>
        let z := I9.pin (b, o) (List.mem_append_right _ (List.mem_append_right _ (mem_pinsAt hb e)))
        ⟨z.1, z.2.1⟩
      have hl : (wipe σ (own.map (·.2))).length = σ8.length := by rw [← hw8, wipe_length]
      have G9 : Gnv (gnx X s4 H4 cenv (gnA X elt tg iter scope gpos it cenv) fp) a ob (own.map (·.2)) σ fp tn (i + 1) H9 s9 := by
        refine ⟨(I9.unpinned (pins := [(a, ob)])).weak hl (fun j v e => ?_), T.keep _ _ _ st7 fun b hb o e => (pin' b hb o e).1, fun b hb => ?_⟩
        · rw [← hw8] at e
          exact (wipe_some e).1
        · obtain ⟨o, e, _⟩ := T.obj _ _ st7 b hb
          exact (pin' b hb o e).2
      refine seg_at (seg_yield rfl rfl rfl ⟨b, i + 1, H9, rfl, G9, hz9, nx, fun hb s'' hh ho hg hzz => ?_⟩)
      rw [if_pos hb] at nx
      exact seg_again rfl (ih (i + 1) s'' s'' H9 nx (G9.same hh ho hg) hzz)
end
end Dv
end
section
set_option maxRecDepth 100000
set_option maxHeartbeats 2000000
namespace Dv
open PySem PySem.Spec PyProof.Rows L2 GenW
section
variable {X : Cx} {pins : List (Addr × Obj)} {σ : L2.St} {elt tg iter : Expr} {scope : Scope} {gpos : Pos} {own : List (Str × Nat)} {g : TG} {te : TE}
theorem gnA_fr {it : Addr} {cenv : PySem.Env} {l : List PySem.Env} (h : X.A.frames = some l) : (gnA X elt tg iter scope gpos it cenv).frames = some (cenv :: l) := by
  have e : (gnA X elt tg iter scope gpos it cenv).frames = pushEnvs [cenv] (pushEnvs [] X.A.frames) := rfl
  rw [e, h]
  rfl
/-- it begins -/
theorem gen_begin {cenv : PySem.Env} {fp : List Addr} {it : Addr} {tn : Nat → Heap → Prop} {J : It} {m : Nat} {s₀ s : Shared} {R : GenEnd} {Y : Protocol}
    (T : Turn X.prog X.w X.K tg J fp it tn) (st : tn 0 s.heap)
    (loop : Seg (model X.prog X.w) X.A.in1.in1 R Y m s₀ (.compLoop (.GeneratorExp elt [⟨tg, iter, [], 0⟩] scope gpos) 0 (.ref it) .none cenv)
        ((model X.prog X.w).den (.compLoop (.GeneratorExp elt [⟨tg, iter, [], 0⟩] scope gpos) 0 (.ref it) .none cenv)) [] s) :
    Seg (model X.prog X.w) X.A.in1.in1 R Y m s₀ (.compStart (.GeneratorExp elt [⟨tg, iter, [], 0⟩] scope gpos) 0 (.ref it) .none cenv)
        ((model X.prog X.w).den (.compStart (.GeneratorExp elt [⟨tg, iter, [], 0⟩] scope gpos) 0 (.ref it) .none cenv)) [] s := by
  show Seg _ _ _ _ _ s₀ _ ((compStart (.GeneratorExp elt [⟨tg, iter, [], 0⟩] scope gpos) 0 (.ref it) .none cenv).onRaise (leaving cenv)) [] s
  unfold compStart
  rw [Sem.onRaise_eq_wrap]
  show Seg _ _ _ _ _ s₀ _ ((ask >>= _).wrap _ _ _ _) [] s
  refine seg_bind_wrap (wpAny_askSetting ?_)
  split
  · exact seg_again rfl loop
  · first
      | exact seg_bind_wrap (wpAny_rule (seg_bind_wrap (wpAny_standAt (seg_bind_wrap (T.self _ 0 _ _ _ st (seg_again rfl loop))))))
      | (refine seg_bind_wrap (wpAny_rule ?_); show Seg _ _ _ _ _ s₀ _ ((standAt iter.pos >>= _).wrap _ _ _ _) [] s; exact seg_bind_wrap (wpAny_standAt (seg_bind_wrap (T.self _ 0 _ _ _ st (seg_again rfl loop)))))

/-- all(..) takes what comes -/
theorem all_takes {XG : Cx} {a : Addr} {gi : Nat} {vs : List Nat} {q : Str} {t1 t2 : Nat} {fp : List Addr} {tn : Nat → Heap → Prop} {W : Nat → Nat → Hp → Prop} {Qt Qf : Hp → Prop} {P : Program} {w : World} {A : Around} {R : Result → Shared → Prop}
    (hh : A.handled = none) (hroom : A.depth < recursionLimit) (hlim : ∀ {i H s}, Gnv XG a (genObj gi q t1 t2) vs σ fp tn i H s → s.heap.NoLimit)
    (hR : ∀ b H s' s'', Inv XG [(a, genObj gi q t1 t2)] (wipe σ vs) H s' → (if b = true then Qt H else Qf H) → s''.os = s'.os → AllBare s''.gens → (∀ x o, s'.heap.get? x = some o → s''.heap.get? x = some o) → R (.ok (.ret (.bool b))) s'') :
    ∀ (m i : Nat) (H : Hp) (s : Shared) (gs : GenState), Gnv XG a (genObj gi q t1 t2) vs σ fp tn i H s → s.gens[gi]? = some gs →
      gs.Goes (model P w) A.in1.in1 (fun n s₀ r s₁ => r = .ok .next ∧ gnP XG a (genObj gi q t1 t2) vs σ Qt n s₀ s₁) (gnY XG a gi (genObj gi q t1 t2) vs σ fp tn W Qf) m (.send .none) (s.setGen gi .running) →
      codeAny (model P w) A (.builtin "all.loop" ⟨[.ref a], []⟩) R s := by
  have isg : ∀ {i H s}, Gnv XG a (genObj gi q t1 t2) vs σ fp tn i H s → s.heap.IsGen a gi := fun {i H s} G => by
    have e := (G.inv.pin (a, genObj gi q t1 t2) (List.mem_append_right _ List.mem_cons_self)).1
    exact ⟨_, _, _, e, rfl, rfl, rfl⟩
  intro m
  induction m with
  | zero =>
    intro i H s gs G hgs hgo
    refine codeAny_builtin F.entry_all_loop ?_
    rw [Around.under_plainId F.plain_all_loop _]
    show wpAny _ A.in1 (pyNext (.ref a) >>= _) _ _ s
    refine wpAny_bind (wpAny_pyNext_genexpQ (P := gnP XG a (genObj gi q t1 t2) vs σ Qt) hh (hlim G) hroom (isg G) hgs hgo (fun v s₁ gs' hb hv => ?_) (fun s₁ hp h' hk => ?_))
    · obtain ⟨b, i', H', rfl, G', hz, nx, hkap⟩ := hv
      cases b with
      | true => exact (hkap rfl s₁ rfl rfl G'.inv.bare hz).elim
      | false =>
        rw [if_neg Bool.false_ne_true] at nx
        refine wpAny_bind (wpAny_holding (wpAny_truthy_bool ?_))
        refine wpAny_bind (wpAny_letGo ?_)
        simp only [Bool.false_eq_true, if_false]
        exact wpAny_bind (wpAny_rule (wpAny_pure (hR false H' s₁ _ G'.inv nx rfl (allBare_setGen G'.inv.bare hb) fun _ _ e => e)))
    · obtain ⟨H', I', qt⟩ := hp
      exact wpAny_bind (wpAny_rule (wpAny_pure (hR true H' s₁ _ I' qt rfl (allBare_setGen I'.bare rfl) hk)))
  | succ m ih =>
    intro i H s gs G hgs hgo
    refine codeAny_builtin F.entry_all_loop ?_
    rw [Around.under_plainId F.plain_all_loop _]
    show wpAny _ A.in1 (pyNext (.ref a) >>= _) _ _ s
    refine wpAny_bind (wpAny_pyNext_genexpQ (P := gnP XG a (genObj gi q t1 t2) vs σ Qt) hh (hlim G) hroom (isg G) hgs hgo (fun v s₁ gs' hb hv => ?_) (fun s₁ hp h' hk => ?_))
    · obtain ⟨b, i', H', rfl, G', hz, nx, hkap⟩ := hv
      cases b with
      | true =>
        refine wpAny_bind (wpAny_holding (wpAny_truthy_bool ?_))
        refine wpAny_bind (wpAny_letGo ?_)
        simp only [if_true]
        have hb2 := allBare_setGen (s := s₁) (g := gi) (x := gs') G'.inv.bare hb
        refine wpAny_pure ⟨plainId_quiet F.plain_all_loop _, ih i' H' _ gs' (G'.same rfl rfl hb2) ?_ (hkap rfl _ rfl rfl (allBare_setGen hb2 rfl) ?_)⟩
        · show (s₁.gens.setIfInBounds gi gs')[gi]? = some gs'
          simp [show gi < s₁.gens.size by omega]
        · rw [setGen_size, setGen_size]; exact hz
      | false =>
        rw [if_neg Bool.false_ne_true] at nx
        refine wpAny_bind (wpAny_holding (wpAny_truthy_bool ?_))
        refine wpAny_bind (wpAny_letGo ?_)
        simp only [Bool.false_eq_true, if_false]
        exact wpAny_bind (wpAny_rule (wpAny_pure (hR false H' s₁ _ G'.inv nx rfl (allBare_setGen G'.inv.bare hb) fun _ _ e => e)))
    · obtain ⟨H', I', qt⟩ := hp
      exact wpAny_bind (wpAny_rule (wpAny_pure (hR true H' s₁ _ I' qt rfl (allBare_setGen I'.bare rfl) hk)))

/-- all(elt for tg in iter): W by the turn and a count down -/
def tAllG (P : Addr) (wi : TI) (g : TG) (te : TE) (vs : List Nat) : TE := fun σ H Q => wi σ H fun J H1 => H1 P = some (.ext (TabF P)) ∧ ∃ W : Nat → Nat → Hp → Prop, (∃ m, W 0 m H1) ∧ ∀ i m H, W i m H →
  (J.stop i H ∧ Q (.bl true) H) ∨ (J.go i H ∧ ∃ m', m = m' + 1 ∧ ∀ x H', J.yld i H x H' → g x (wipe σ vs) H' fun σ2 H2 => wipe σ2 vs = wipe σ vs ∧ te σ2 H2 fun y H3 => ∃ b, y = .bl b ∧ (if b = true then W (i + 1) m' H3 else Q (.bl false) H3))

theorem pe_allG {c P : Addr} {p pos : Pos} {wi : TI} {k : Nat}
    (hr : Room k X.A) (hN : X.N.Nodup) (hg : Gl X "all") (hm : X.mg "all" = none) (hb : bootBuiltins "all" = some (.builtin "all")) (TB : GxR.TabB X.base X.mg c P) (hcode : X.env.code = .ref c) (hi : PI X tg iter wi) (ok : GnOk X.N X.env.scope scope own)
    (pg : ∀ (s : Shared) (H : Hp) (C : Addr) (code : Value) (it : Addr) (fp : List Addr), PG (gnx X s H (genEnv scope [] C code builtinsNs X.env) (gnA X elt tg iter scope gpos it (genEnv scope [] C code builtinsNs X.env)) fp) tg g)
    (pe : ∀ (s : Shared) (H : Hp) (C : Addr) (code : Value) (it : Addr) (fp : List Addr), PE (gnx X s H (genEnv scope [] C code builtinsNs X.env) (gnA X elt tg iter scope gpos it (genEnv scope [] C code builtinsNs X.env)) fp) elt te)
    (hs : ∀ v, genFold iter X.env v = pure v)
    (he : starEach [.GeneratorExp elt [⟨tg, iter, [], 0⟩] scope gpos] X.env = (false, eval (.GeneratorExp elt [⟨tg, iter, [], 0⟩] scope gpos) X.env) :: starEach [] X.env := by rfl) :
    PE X (.Call (.Name "all" p) [.GeneratorExp elt [⟨tg, iter, [], 0⟩] scope gpos] [] pos) (tAllG P wi g te (own.map (·.2))) := by
  refine ⟨fun pins s σ H Q I h => ?_⟩
  refine wpAny_Call_Name_kw (ld_blt I hg hm hb ?_)
  refine PyProof.Rows.callWith_builtin1 ?_ he (by rfl)
  rw [he]
  show wpAny _ _ (spliced ((false, eval (.GeneratorExp elt [⟨tg, iter, [], 0⟩] scope gpos) X.env) :: backTo pos (starEach [] X.env))) _ _ s
  refine Calls.spliced_cons ?_
  refine wpAny_GeneratorExp_make ok.co (closure_ok fun y hy e => absurd e (ok.nofree y hy)) ok.nocell ok.dot ok.blk.kind (by have := hr.dp; omega) ?_ hs
  refine thn (hi.run pins s σ H _ I h) fun xv s1 hx => thn hx fun itv s2 h2 => ?_
  obtain ⟨it, fp, tn, J, H2, e, I2, T, st2, f2, hP, W, ⟨m0, w0⟩, turn⟩ := h2
  subst e
  obtain ⟨⟨ps, hPs, ht⟩, _, _⟩ := I2.hok P _ hP
  refine ⟨I2.nolimit, ?_⟩
  have cd : PySem.W.CodeHd s2.heap c P := TB.code.keeps fun b u e => I2.bk b u e
  have sz : ∀ b ∈ fp, b < s2.heap.objs.size := fun b hb => by
    obtain ⟨o, e, _⟩ := T.obj _ _ st2 b hb
    exact Heap.lt_size e
  have fpP : ∀ b ∈ fp, b ≠ P := fun b hb z => by
    have := (f2 b hb).1
    rw [z, hP] at this; cases this
  -- behind the code object
  have cont : ∀ (code : Value) (s3 : Shared), Inv X pins σ H2 s3 → s2.heap.objs.size ≤ s3.heap.objs.size → s3.os = s2.os → (∀ b o, b ≠ P → s2.heap.get? b = some o → s3.heap.get? b = some o) →
      wpAny (model X.prog X.w) X.A (builtinsFor X.env.globals X.env.builtins) (fun bi s₄ =>
        ∀ h', h'.Ns s₄.heap.objs.size (fun y => if y = ".0" then some (.ref it) else none) → Heap.SameBut s₄.heap.objs.size (s₄.heap.push { cls := .type "frame", data := .dict #[] }) h' →
          (fun v s' => wpAny (model X.prog X.w) X.A (spliced (backTo pos (starEach [] X.env))) (fun vs s'' => wpAny (model X.prog X.w) X.A (call (.builtin "all") (v :: vs)) (EP X pins σ Q) X.xe s'') X.xe s') (.ref h'.objs.size) { s₄ with
            gens := s₄.gens.push (.fresh (.compStart (.GeneratorExp elt [⟨tg, iter, [], 0⟩] scope gpos) 0 (.ref it) .none (genEnv scope (cloFrom X.env.cells scope.names []) s₄.heap.objs.size code bi X.env))),
            toks := s₄.toks + 1 + 1 + 1,
            heap := h'.push { cls := .type "generator", data := .fields #[.int s₄.gens.size 0, .str "<genexpr>" (s₄.toks + 1), .str (X.env.qual ++ "<genexpr>") (s₄.toks + 1 + 1)] } }) X.xe s3 := by
    intro code s3 I3 hsz hos hkp
    obtain ⟨bm, ob, e1, e2, e3, e4, e5, e6, e7, e8⟩ := TB.bm
    refine wpAny_builtinsFor (m := X.mg) (by rw [I3.ok.glob]; exact I3.mod.glob.keeps I3.bk) e1 e2 (I3.bk _ _ e5) e6 e7 e8 ?_
    intro h' hn' hs'
    rw [cloFrom_nil ok.nofree]
    have f3 : ∀ b ∈ fp, FpOk X pins H2 b ∧ b < s3.heap.objs.size := fun b hb => ⟨f2 b hb, Nat.lt_of_lt_of_le (sz b hb) hsz⟩
    have I5 := gen_start (gs := .fresh (.compStart (.GeneratorExp elt [⟨tg, iter, [], 0⟩] scope gpos) 0 (.ref it) .none (genEnv scope [] s3.heap.objs.size code builtinsNs X.env))) (tk := s3.toks + 1 + 1 + 1) (ob := genObj s3.gens.size (X.env.qual ++ "<genexpr>") (s3.toks + 1) (s3.toks + 1 + 1)) (code := code)
      (A' := gnA X elt tg iter scope gpos it (genEnv scope [] s3.heap.objs.size code builtinsNs X.env)) I3 hN ok f3 hr.hd (gnA_fr I3.ok.frames) rfl (fun v z => by cases z) rfl hn' hs'
    have hsz' : h'.objs.size = s3.heap.objs.size + 1 := by rw [hs'.1, Heap.size_push]
    have kp1 : ∀ b o, s3.heap.get? b = some o → h'.get? b = some o := fun b o e => hs'.extBut b o (Nat.ne_of_lt (Heap.lt_size e)) (Heap.get?_push_of_some _ e)
    have kp5 : ∀ b o, s3.heap.get? b = some o → (h'.push (genObj s3.gens.size (X.env.qual ++ "<genexpr>") (s3.toks + 1) (s3.toks + 1 + 1))).get? b = some o := fun b o e => Heap.get?_push_of_some _ (kp1 b o e)
    have st5 : tn 0 (h'.push (genObj s3.gens.size (X.env.qual ++ "<genexpr>") (s3.toks + 1) (s3.toks + 1 + 1))) := T.keep _ _ _ st2 fun b hb o e => kp5 b o (hkp b o (fpP b hb) e)
    refine Calls.spliced_nil ?_
    refine call_function_tree F.kind_all F.plain_all F.entry_all (F.args_all1 _) ?_
    unfold Builtin.«all»
    refine wpAny_bind (m := oneArg "all" _) (wpAny_pure ?_)
    refine wpAny_bind (wpAny_pyIter_gen (g := s3.gens.size) ⟨_, _, _, Heap.get?_push_size _ rfl, rfl, rfl, rfl⟩ ?_)
    have G5 : Gnv (gnx X s3 H2 (genEnv scope [] s3.heap.objs.size code builtinsNs X.env) (gnA X elt tg iter scope gpos it (genEnv scope [] s3.heap.objs.size code builtinsNs X.env)) fp) h'.objs.size (genObj s3.gens.size (X.env.qual ++ "<genexpr>") (s3.toks + 1) (s3.toks + 1 + 1)) (own.map (·.2)) σ fp tn 0 H2 _ := ⟨I5, st5, fun b hb => (f2 b hb).1⟩
    refine wpAny_pure ⟨plainId_quiet F.plain_all_loop _, all_takes (σ := σ) (Qt := Q (.bl true)) (Qf := Q (.bl false)) (W := W) hr.hd (by have := hr.dp; omega) (fun G => G.inv.nolimit) (fun b H' s' s'' I' qb o1 o2 o3 => ?_) m0 0 H2 _ (.fresh (.compStart (.GeneratorExp elt [⟨tg, iter, [], 0⟩] scope gpos) 0 (.ref it) .none (genEnv scope [] s3.heap.objs.size code builtinsNs X.env))) G5 (by simp) ⟨rfl, ?_⟩⟩
    · have hq : Q (.bl b) H' := by
        cases b with
        | true => exact qb
        | false => exact qb
      refine ⟨.bl b, H', I3.call' (ch := fp) (o1.trans I'.os) (Un.trans I'.base (Un.kept o3)) (I'.hok.kept o3) o2 fun b hb => ⟨(f2 b hb).2.2.2.1, (f2 b hb).2.1, (f2 b hb).2.2.2.2.1, (f2 b hb).2.2.2.2.2⟩, rfl, hq⟩
    · refine gen_begin T ?_ (gen_loop (own := own) (σ := σ) (J := J) (W := W) (Qt := Q (.bl true)) (Qf := Q (.bl false)) T ok.co (fun b hb => ?_) (pg _ _ _ _ _ _) (pe _ _ _ _ _ _) turn m0 0 _ _ H2 w0 (G5.same rfl rfl (allBare_setGen I5.bare rfl)) ?_)
      · exact st5
      · exact (Nat.ne_of_lt (Nat.lt_of_lt_of_le (sz b hb) (by omega))).symm
      · rw [setGen_size]
        show s3.gens.size + 1 ≤ (s3.gens.push _).size
        rw [Array.size_push]; exact Nat.le_refl _
  cases hf : codeAmong gpos ps.toList with
  | none =>
    refine wpAny_genexprCodeX hcode (cd.code hPs ht) (cd.tab hPs) hf fun c' h3 tk hx hge hlt hco' _ htab' _ => ?_
    obtain ⟨o1, vs, f1, tf, fl, tg1, inF, tx, tt, op, _, _, _, _, _, _, _, _, _, htr, _⟩ := hco'
    have I3 : Inv X pins σ H2 { s2 with heap := h3, toks := tk } := by
      have J := I2.write (x := P) (e := P) (o := .ext (TabF P)) (h' := h3) (t' := tk) (by rw [hP]; trivial) (.inl rfl) (fun b u hb e => hx b u hb e) ⟨_, htab'.2⟩ (by rw [upd_self hP]; exact tab_ok ⟨_, htab'.2, htr⟩)
      rw [upd_self hP] at J
      exact J
    exact cont _ _ I3 (Nat.le_trans hge (Nat.le_of_lt hlt)) rfl fun b o hb e => hx b o hb e
  | some cv =>
    refine wpAny_genexprCode_hit hcode (cd.code hPs ht) hf ?_
    exact cont cv s2 I2 (Nat.le_refl _) rfl fun b o _ e => e
end
end Dv
end
section
set_option maxRecDepth 100000
set_option maxHeartbeats 2000000
namespace Dv
open PySem PySem.Spec PyProof.Rows L2 GenW
/-! ### all(..) of a generator expression, as data -/
def allL (g : D → Env → Option Env) (f : Env → R D) (ρ : Env) : List D → R D
  | [] => .ok (.bl true)
  | d :: ds => match g d ρ with
    | none => .no
    | some ρ1 => (f ρ1).calm.bind fun y => match y with
      | .bl true => allL g f ρ ds
      | .bl false => .ok (.bl false)
      | _ => .no
theorem allL_nil (g : D → Env → Option Env) (f : Env → R D) (ρ : Env) : allL g f ρ [] = .ok (.bl true) := rfl
theorem allL_cons (g : D → Env → Option Env) (f : Env → R D) (ρ : Env) (d : D) (ds : List D) : allL g f ρ (d :: ds) = match g d ρ with
    | none => .no
    | some ρ1 => (f ρ1).calm.bind fun y => match y with
      | .bl true => allL g f ρ ds
      | .bl false => .ok (.bl false)
      | _ => .no := rfl
def eAllG (it : Env → R (List D)) (g : D → Env → Option Env) (f : Env → R D) (vs : List Nat) : Env → R D := fun ρ => (it ρ).bind fun ds => allL g f (wipeE ρ vs) ds
@[simp] theorem eAllG_eq (it : Env → R (List D)) (g : D → Env → Option Env) (f : Env → R D) (vs : List Nat) (ρ : Env) : eAllG it g f vs ρ = (it ρ).bind fun ds => allL g f (wipeE ρ vs) ds := rfl
section
variable {X : Cx} {E : En} {W : WX}
theorem allG_imp {P : Addr} {it : Env → R (List D)} {g : D → Env → Option Env} {f : Env → R D} {vs : List Nat} (hP : P ∈ E.k.tb) (hb : ∀ v ∈ vs, v ∉ E.bs) {F H : Hp} {σ : L2.St} {ρ : Env} {Q : VK} (s : Stt E F H σ ρ)
    (q : Res (eAllG it g f vs ρ) (fun d => ∀ F' H' v A, Tr F H F' H' → Rp E.k F' H' d v A → A.Nodup → (∀ a ∈ A, H a = none) → Q v H') (fun c => ∀ F' H', Tr F H F' H' → W (E.ec c) none σ H')) :
    tAllG P (tI E W it) (tGw E g vs) (tO E WN f) vs σ H Q := by
  refine ⟨F, ρ, s, Res.mono q.bind (fun ds _ q F1 H1 J t1 wk => ?_) fun c _ z F' H' t => z F' H' t⟩
  have s1 := s.tr t1
  refine ⟨s1.fh _ _ (s1.e0.tb P hP), fun i m H' => ∃ F', Tr F1 H1 F' H' ∧ i ≤ ds.length ∧ m = ds.length - i ∧ Res (allL g f (wipeE ρ vs) (ds.drop i)) (fun d => ∀ F' H' v A, Tr F H F' H' → Rp E.k F' H' d v A → A.Nodup → (∀ a ∈ A, H a = none) → Q v H') (fun c => ∀ F' H', Tr F H F' H' → W (E.ec c) none σ H'), ⟨_, F1, Tr.refl t1.fh, Nat.zero_le _, rfl, q⟩, ?_⟩
  rintro i m H' ⟨F', tr, hi, rfl, q'⟩
  by_cases hlt : i < ds.length
  · have ed : ds.drop i = ds[i] :: ds.drop (i + 1) := List.drop_eq_getElem_cons hlt
    rw [ed, allL_cons] at q'
    refine .inr ⟨wk.go i hlt F' H' tr.ff tr.fh, ds.length - (i + 1), by omega, fun v H2 y => ?_⟩
    obtain ⟨pd, F2, t2, r2⟩ := wk.yld i ds[i] (List.getElem?_eq_getElem hlt) F' H' v H2 tr.ff tr.fh y
    cases eg : g ds[i] (wipeE ρ vs) with
    | none => rw [eg] at q'; exact q'.elim
    | some ρ1 =>
      rw [eg] at q'
      have tr2 := tr.trans t2
      refine ⟨F2, wipeE ρ vs, ds[i], (s1.tr tr2).wipe hb, pd, r2, ρ1, eg, fun σ3 s3 w3 => ⟨w3.trans wipe_wipe, F2, ρ1, s3, ?_⟩⟩
      obtain ⟨b, eb, q'⟩ := R.calm_of q'
      rw [eb]
      intro F3 H3 w A t3 r3 nd3 u3
      cases b with
      | bl b =>
        obtain ⟨rfl, rfl⟩ := r3
        refine ⟨b, rfl, ?_⟩
        cases b with
        | true =>
          rw [if_pos rfl]
          exact ⟨F3, tr2.trans t3, hlt, rfl, q'⟩
        | false =>
          rw [if_neg Bool.false_ne_true]
          exact q' F3 H3 (.bl false) [] (t1.trans (tr2.trans t3)) ⟨rfl, rfl⟩ .nil fun _ z => nomatch z
      | _ => exact q'.elim
  · have e : i = ds.length := by omega
    subst e
    rw [List.drop_length, allL_nil] at q'
    exact .inl ⟨wk.stop F' H' tr.ff tr.fh, q' F' H' (.bl true) [] (t1.trans tr) ⟨rfl, rfl⟩ .nil fun _ z => nomatch z⟩

theorem eo_allG {c P : Addr} {elt tg iter : Expr} {scope : Scope} {gpos p pos : Pos} {own : List (Str × Nat)} {it : Env → R (List D)} {g : D → Env → Option Env} {f : Env → R D} {k : Nat}
    (hr : Room (k + 1) X.A) (hN : X.N.Nodup) (hg : Gl X "all") (hm : X.mg "all" = none) (TB : GxR.TabB X.base X.mg c P) (hcode : X.env.code = .ref c) (hP : P ∈ E.k.tb)
    (hi : EI X E W tg iter it) (ok : blkC X.N X.env.scope scope own = true) (ok2 : gnC scope = true)
    (pg : ∀ (s : Shared) (H : Hp) (C : Addr) (code : Value) (it : Addr) (fp : List Addr), EGw (gnx X s H (genEnv scope [] C code builtinsNs X.env) (gnA X elt tg iter scope gpos it (genEnv scope [] C code builtinsNs X.env)) fp) E (own.map (·.2)) tg g)
    (pe : ∀ (s : Shared) (H : Hp) (C : Addr) (code : Value) (it : Addr) (fp : List Addr) (tk : Takes (gnx X s H (genEnv scope [] C code builtinsNs X.env) (gnA X elt tg iter scope gpos it (genEnv scope [] C code builtinsNs X.env)) fp) WN)
      (hr : Room k (gnx X s H (genEnv scope [] C code builtinsNs X.env) (gnA X elt tg iter scope gpos it (genEnv scope [] C code builtinsNs X.env)) fp).A), EO (gnx X s H (genEnv scope [] C code builtinsNs X.env) (gnA X elt tg iter scope gpos it (genEnv scope [] C code builtinsNs X.env)) fp) E WN elt f)
    (hb : ∀ v ∈ own.map (·.2), v ∉ E.bs) (hs : ∀ v, genFold iter X.env v = pure v := by intro _; rfl)
    (he : starEach [.GeneratorExp elt [⟨tg, iter, [], 0⟩] scope gpos] X.env = (false, eval (.GeneratorExp elt [⟨tg, iter, [], 0⟩] scope gpos) X.env) :: starEach [] X.env := by rfl) :
    EO X E W (.Call (.Name "all" p) [.GeneratorExp elt [⟨tg, iter, [], 0⟩] scope gpos] [] pos) (eAllG it g f (own.map (·.2))) :=
  ⟨pe_mono (pe_allG hr hN hg hm bb_all TB hcode hi.pi (gnOk_by ok ok2) (fun s H C code it fp => (pg s H C code it fp).pg) (fun s H C code it fp => (pe s H C code it fp takes_no (room_gn hr)).pe) hs he) fun σ H Q ⟨F, ρ, s, q⟩ => allG_imp hP hb s q⟩
end
end Dv
end
section
set_option maxRecDepth 100000
set_option maxHeartbeats 2000000
namespace Dv
open PySem PySem.Spec PyProof.Rows L2
/-! ### the end of a law whose defs hold generator expressions -/
/-- the law's promise: the tables of cs are there, empty -/
def spLawT (K : PySem.W.Frag) (cs : List (Addr × Addr)) : Sp := fun vs H Q _ => ∃ (a : Addr) (ns : List Int), vs = [.ref a] ∧ SqL K H a (ns.map V.int) ∧ ns.length ≤ 63 ∧ (∀ p ∈ cs, H p.2 = some (.tbl #[])) ∧ ∀ H', Q (.bl true) H'
/-- the tables told by what is true of them -/
noncomputable def extH (tb : List Addr) (H : Hp) : Hp := fun b => if b ∈ tb then some (.ext (TabF b)) else H b
theorem extH_in {tb : List Addr} {H : Hp} {b : Addr} (h : b ∈ tb) : extH tb H b = some (.ext (TabF b)) := if_pos h
theorem extH_out {tb : List Addr} {H : Hp} {b : Addr} (h : b ∉ tb) : extH tb H b = H b := if_neg h
/-- .. and by what stands in them -/
noncomputable def tblH (tb : List Addr) (h : Heap) (H : Hp) : Hp := fun b => if b ∈ tb then (match h.get? b with
  | some ⟨_, _, .fields ps, _⟩ => some (.tbl ps)
  | _ => none) else H b
theorem tblH_in {tb : List Addr} {h : Heap} {H : Hp} {b : Addr} {ps : Array Value} (hb : b ∈ tb) (e : h.get? b = some { cls := .none, data := .fields ps }) : tblH tb h H b = some (.tbl ps) := by
  unfold tblH
  rw [if_pos hb, e]
theorem tblH_out {tb : List Addr} {h : Heap} {H : Hp} {b : Addr} (hb : b ∉ tb) : tblH tb h H b = H b := if_neg hb
section
variable {P : Program} {w : World} {K : PySem.W.Frag} {mg : Str → Option Value} {base : Heap}
theorem tab_end {kx : Kx} {ec : Nat → Value} {k : Nat} {f : Addr} {fd : FuncData} {ps : List Str} {cs : List (Addr × Addr)} {g : List D → R D} (G : FnOk P w K mg base (L2.CX P w) k f fd ps (spD kx ec 1 g)) (hK : kx.K = K)
    (h : ∀ ns : List Int, ns.length ≤ 63 → g [.scr (dInts ns)] = .ok (.bl true)) (ht : kx.tb = cs.map (·.2)) : FnOk P w K mg base (L2.CX P w) k f fd ps (spLawT K cs) := by
  have isT : ∀ {H : Hp}, (∀ p ∈ cs, H p.2 = some (.tbl #[])) → ∀ b ∈ kx.tb, H b = some (.tbl #[]) := fun {H} hT b hb => by
    rw [ht] at hb
    obtain ⟨p, hp, e⟩ := List.mem_map.mp hb
    rw [← e]; exact hT p hp
  have out : ∀ {H : Hp}, (∀ p ∈ cs, H p.2 = some (.tbl #[])) → ∀ {b : Addr}, H b ≠ some (.tbl #[]) → b ∉ kx.tb := fun {H} hT {b} n z => n (isT hT b z)
  have conv : ∀ {vs : List V} {H : Hp} {Q : VK} {Ew : XK}, spLawT K cs vs H Q Ew → spD kx ec 1 g vs (extH kx.tb H) (fun v H' => v = .bl true ∧ ∀ b ∈ kx.tb, H' b = some (.ext (TabF b))) fun _ _ _ => False := fun {vs H Q Ew} hs => by
    obtain ⟨a, ns, e, s, hl, hT, q⟩ := hs
    subst e
    have s' : SqL K (extH kx.tb H) a (ns.map V.int) := by
      rcases s with (s | ⟨o, s⟩) | s
      · exact .inl (.inl (by rw [extH_out (out hT (by rw [s]; exact fun z => nomatch z))]; exact s))
      · exact .inl (.inr ⟨o, by rw [extH_out (out hT (by rw [s]; exact fun z => nomatch z))]; exact s⟩)
      · exact .inr s
    refine ⟨_, [.scr (dInts ns)], .refl _, fun b hb => extH_in hb, ⟨.ref a, [], [], [], rfl, rfl, ⟨a, _, rfl, rfl, by rw [hK]; exact s', rp_dInts ns⟩, rfl, rfl⟩, by simp, rfl, ?_⟩
    rw [h ns hl]
    intro F' H' v A t r _ _
    exact ⟨r.1, fun b hb => t.hh b _ (extH_in hb)⟩
  refine ⟨fun vs H Q E hs => G.len _ _ _ _ (conv hs), fun A outer s H args us vs Q E hr e0 hb hv hs => ?_⟩
  have hs' := hs
  obtain ⟨_, _, _, _, _, hT, hQ⟩ := hs
  have nT : ∀ {b : Addr}, H b = none → b ∉ kx.tb := fun {b} n => out hT (by rw [n]; exact fun z => nomatch z)
  have hok : HOk P w (extH kx.tb H) s.heap := fun b o e => by
    by_cases hb : b ∈ kx.tb
    · rw [extH_in hb] at e
      cases e
      exact tab_ok ⟨#[], e0.hok b _ (isT hT b hb), trivial⟩
    · rw [extH_out hb] at e
      exact (e0.hok b o e).stay (fun _ _ _ q => q) (fun c q => by rw [extH_out (out hT (by rw [q]; exact fun z => nomatch z))]; exact q) fun c xs q => by rw [extH_out (out hT (by rw [q]; exact fun z => nomatch z))]; exact q
  refine codeAny_mono (G.run A outer s (extH kx.tb H) args us vs _ _ hr ⟨e0.frames, e0.mod, fun b o e => ⟨(e0.bs b o e).1, by rw [extH_out (nT (e0.bs b o e).2)]; exact (e0.bs b o e).2⟩, e0.bsz, e0.funs, fun b hb => by rw [extH_out (nT (e0.frf b hb))]; exact e0.frf b hb, hok, e0.bare⟩ hb hv (conv hs')) fun r s' hq => ?_
  cases r with
  | error e => exact (cx_no hq).elim
  | ok fl =>
    cases fl with
    | next => exact False.elim hq
    | brk => exact False.elim hq
    | cont => exact False.elim hq
    | ret u =>
      obtain ⟨v, H', os, bare, un, hok', rv, ev, hx⟩ := hq
      subst ev
      have tab : ∀ b ∈ kx.tb, ∃ ps, s'.heap.get? b = some { cls := .none, data := .fields ps } := fun b hb => by
        obtain ⟨⟨ps, e, _⟩, _⟩ := hok' b _ (hx b hb)
        exact ⟨ps, e⟩
      have nX : ∀ {b : Addr} {o : HO}, H' b = some o → (∀ φ, o ≠ .ext φ) → b ∉ kx.tb := fun {b o} e n z => by
        rw [hx b z] at e
        cases e
        exact n _ rfl
      refine ⟨.bl true, tblH kx.tb s'.heap H', os, bare, ⟨fun b o e n h1 h2 => ?_, fun b o e n h1 h2 => ?_, fun b o e n h2 => ?_, un.there, fun b xs e => ?_, fun b o u e => ?_, fun b qs e => ?_⟩, fun b o e => ?_, rv, hQ _⟩
      · exact un.keep b o e (by rw [extH_out (nT n)]; exact n) h1 h2
      · exact un.slot b o e (by rw [extH_out (nT n)]; exact n) h1 h2
      · rw [tblH_out (nT n)]
        exact un.free b o e (by rw [extH_out (nT n)]; exact n) h2
      · have hb := out hT (b := b) (by rw [e]; exact fun z => nomatch z)
        rw [tblH_out hb]
        exact un.tups b xs (by rw [extH_out hb]; exact e)
      · have hb := out hT (b := b) (by rw [e]; exact fun z => nomatch z)
        rw [tblH_out hb]
        exact un.frzs b o u (by rw [extH_out hb]; exact e)
      · by_cases hb : b ∈ kx.tb
        · obtain ⟨p2, e2⟩ := tab b hb
          have e3 := isT hT b hb
          rw [e] at e3
          cases e3
          exact ⟨p2, by rw [tblH_in hb e2, Array.empty_append]⟩
        · rw [tblH_out hb]
          exact un.tbls b qs (by rw [extH_out hb]; exact e)
      · by_cases hb : b ∈ kx.tb
        · obtain ⟨p2, e2⟩ := tab b hb
          rw [tblH_in hb e2] at e
          cases e
          exact e2
        · rw [tblH_out hb] at e
          exact (hok' b o e).stay (fun _ _ _ q => q) (fun c q => by rw [tblH_out (nX q fun _ z => nomatch z)]; exact q) fun c xs q => by rw [tblH_out (nX q fun _ z => nomatch z)]; exact q
end
/-- the end, by names of defs that hold generator expressions -/
theorem walk_tabs {l : PySem.W.OpenLaw} {n k : Nat} {q : Program} {loose : List Str} {XP : (Str → Option Value) → Heap → Prop} {YP : World → Heap → Prop} {d : DefRec} {K : Params → PySem.W.Frag} {x : Str} (ts : List Str)
    (hn : l.most = some n) (hn2 : n ≤ 63) (hdf : d.params.defaults = []) (hr : Room k callerA) (hrec : (ts.all fun y => (recsOf q).any fun e => e.name == y) = true) (hY : ∀ (w : World) (h : Heap), YP w h → (K w.params).In h)
    (F : ∀ (w : World) (mg : Str → Option Value) (fa : Addr) (h : Heap), (K w.params).In h → h.Ns mainGlobals mg → mg d.name = some (.ref fa) → ∃ (fd : FuncData) (cs : List (Addr × Addr)), (∀ p ∈ cs, ∃ y ∈ ts, PySem.W.tabIn (K w.params) y = some p) ∧ (∀ p ∈ cs, (K w.params).lookup p.2 = none) ∧
      (∀ (s : Shared) (u : Value), BindsTo s fd ⟨[u], []⟩ [(x, u)]) ∧ ∀ base : Heap, (K w.params).In base → base.Ns mainGlobals mg → (∀ p ∈ cs, GxR.TabB base mg p.1 p.2) → FnOk l.prog w (K w.params) mg base (L2.CX l.prog w) k fa fd [x] (spLawT (K w.params) cs)) :
    PySem.W.WalkO q loose XP YP l.row.toRowW d [] (fun f vs => PySem.call f vs) := by
  refine Att.attach_callB hn hdf fun w s₀ s₁ mg mb fa o pm cd doc a vs ns G Y ho hd hcd hmg hobj hints hlen hbits hg => ?_
  have KX := hY w _ Y
  obtain ⟨fd, cs, h1, h2, h3, h4⟩ := F w mg fa _ KX G.T.g hmg
  have tabs : ∀ p ∈ cs, PySem.W.CodeHd s₁.heap p.1 p.2 ∧ s₁.heap.get? p.2 = some { cls := .none, data := .fields #[] } := fun p hp => by
    obtain ⟨y, hy, e⟩ := h1 p hp
    have ha := List.all_eq_true.mp hrec y hy
    obtain ⟨d', hf⟩ : ∃ d', (recsOf q).find? (fun e => e.name == y) = some d' := by
      cases z : (recsOf q).find? (fun e => e.name == y) with
      | some d' => exact ⟨d', rfl⟩
      | none =>
        obtain ⟨e1, m1, m2⟩ := List.any_eq_true.mp ha
        exact absurd m2 (List.find?_eq_none.mp z e1 m1)
    exact PySem.W.tab_of G.T KX hf e
  exact LamX.law_callTs KX G.T.g G.T.b G.T.builtins G.T.nolimit hg (fun p hp => (tabs p hp).2) h2 (fun p hp => (tabs p hp).1) G.T.bmain hobj hints (Nat.le_trans hlen (Nat.le_trans hn2 (by decide))) hr (fun base b1 b2 b3 => h4 base b1 b2 fun p hp => ⟨(b3 p hp).code, (b3 p hp).bm, (b3 p hp).gP⟩) h3
    (fun H hH hS => ⟨a, ns, rfl, hS, Nat.le_trans hlen hn2, hH, fun _ => rfl⟩) fun H e s' z => cx_no z
/-- what the text says of a def's code object -/
theorem tab_code {K : PySem.W.Frag} {h : Heap} {mg : Str → Option Value} {x : Str} {c P fa : Addr} {oc : Value} {od : Option Addr} {fd : FuncData} {sl : Array (Option Value)} (X : K.In h) (G : h.Ns mainGlobals mg) (ht : PySem.W.tabIn K x = some (c, P)) (hm : mg x = some (.ref fa)) (hl : K.lookup fa = some ⟨oc, od, .func fd, sl⟩) : fd.code = .ref c :=
  PySem.W.law_code X G ht hm (X _ _ hl) rfl
end Dv
end
section
set_option maxRecDepth 100000
set_option maxHeartbeats 2000000
namespace Dv
open PySem PySem.Spec PyProof.Rows L2
/-! ### for .. in an own list (it is not frozen): if ..: return .. -/
/-- J yields the data ds, whatever is made on the way -/
structure WkQ (k : Kx) (J : It) (F H : Hp) (ds : List D) : Prop where
  go : ∀ i, i < ds.length → ∀ F' H', Tr F H F' H' → J.go i H'
  stop : ∀ F' H', Tr F H F' H' → J.stop ds.length H'
  yld : ∀ i d, ds[i]? = some d → ∀ F' H' x H'', Tr F H F' H' → J.yld i H' x H'' → d.pure = true ∧ H'' = H' ∧ Rp k F' H' d x []
def ownD : D → Option (List D)
  | .lst true xs => if D.pureL xs = true then some xs else none
  | _ => none
@[simp] theorem ownD_lst (xs : List D) : ownD (.lst true xs) = if D.pureL xs = true then some xs else none := rfl
/-- a suite that does not end behind itself -/
def out (b : Env → SR) : Env → SR := fun ρ => match b ρ with
  | .rt d ρ' => .rt d ρ'
  | .ex c ρ' => .ex c ρ'
  | _ => .no
@[simp] theorem out_eq (b : Env → SR) (ρ : Env) : out b ρ = match b ρ with
  | .rt d ρ' => .rt d ρ'
  | .ex c ρ' => .ex c ρ'
  | _ => .no := rfl
def sForW (f : Env → R D) (g : D → Env → Option Env) (t : Env → R Bool) (b : Env → SR) : Env → SR := fun ρ => (f ρ).st ρ fun d => match ownD d with
  | some ds => forL g (sIf t (out b) sNil) ds ρ
  | none => .no
@[simp] theorem sForW_eq (f : Env → R D) (g : D → Env → Option Env) (t : Env → R Bool) (b : Env → SR) (ρ : Env) : sForW f g t b ρ = (f ρ).st ρ fun d => match ownD d with
  | some ds => forL g (sIf t (out b) sNil) ds ρ
  | none => .no := rfl
section
variable {X : Cx} {E : En} {W : WX}
theorem wkQ_own {k : Kx} {F H : Hp} {d : D} {v : V} {A : List Addr} {ds : List D} (r : Rp k F H d v A) (e : ownD d = some ds) : ∃ a xs, v = .ref a ∧ SqL k.K H a xs ∧ WkQ k (Itl k.K a) F H ds := by
  cases d with
  | lst o xs =>
    cases o with
    | true =>
      obtain ⟨z, e⟩ := if_some (show (if D.pureL xs = true then some xs else none) = some ds from e)
      subst e
      obtain ⟨a, vs, B, rfl, r, h1, h2⟩ := r
      have hH : H a = some (.lst vs) := (h2 rfl).2.2
      have r0 := RpL.pure (H' := H) z (.refl F) r
      have at_ : ∀ {F' H' : Hp}, Tr F H F' H' → SqL k.K H' a vs := fun t => .inl (.inl (t.hh _ _ hH))
      refine ⟨a, vs, rfl, .inl (.inl hH), fun i hi F' H' t => ⟨vs, vs[i]'(by rw [← r.len]; exact hi), at_ t, List.getElem?_eq_getElem _⟩, fun F' H' t => ⟨vs, at_ t, by rw [r.len]; exact Nat.le_refl _⟩, fun i d e F' H' x H'' t y => ?_⟩
      obtain ⟨rfl, y⟩ := y
      obtain ⟨w, e1, r1⟩ := r0.get0 e
      have e2 := y vs (at_ t)
      rw [e1] at e2
      cases e2
      have pd := pureL_get z e
      exact ⟨pd, rfl, Rp.pure pd t.ff r1⟩
    | false => cases e
  | _ => cases e
theorem ss_forW {tg iter c : Expr} {a : List Stmt} {f : Env → R D} {g : D → Env → Option Env} {t : Env → R Bool} {b : Env → SR} {ipos pos : Pos} (hp : PassesOwn (model X.prog X.w) X.A X.env X.xe) (hc : X.calm = true) (hK : E.k.K = X.K) (hi : EV X E W iter f) (hg : EG X E tg g) (ht : ET X E W c t) (hb : SB X E W a b)
    (hs : ∀ x, foldedSetIterable iter X.env x = pure x := by intro _; rfl) : SS X E W (.For tg iter [.If c a [] ipos] [] pos) (sForW f g t b) := by
  refine ⟨ps_mono (ps_for hp hc (pi_seq hi.pe) hg.pg (pss_one (ps_if ht.pt hb.ps pss_nil)) hs) fun Z σ H h => ?_⟩
  obtain ⟨F, ρ, s, q⟩ := h
  refine ⟨F, ρ, s, Res.mono q.st (fun d _ q F1 H1 v A t1 r1 => ?_) fun c _ z => SRes.exc s z⟩
  cases eo : ownD d with
  | none => rw [eo] at q; exact q.elim
  | some ds =>
    rw [eo] at q
    have q : SRes E W F Z (forL g (sIf t (out b) sNil) ds ρ) := q
    obtain ⟨l, xs, rfl, sl, wk⟩ := wkQ_own r1 eo
    rw [hK] at sl wk
    refine .inl ⟨l, xs, rfl, sl, fun i m σ' H' => ∃ F' ρ', Tr F1 H1 F' H' ∧ Stt E F' H' σ' ρ' ∧ i ≤ ds.length ∧ m = ds.length - i ∧ SRes E W F' Z (forL g (sIf t (out b) sNil) (ds.drop i) ρ'), ⟨_, F1, ρ, Tr.refl t1.fh, s.tr t1, Nat.zero_le _, rfl, SRes.at q t1.ff⟩, ?_⟩
    rintro i m σ' H' ⟨F', ρ', x, s', hi, rfl, q'⟩
    by_cases hlt : i < ds.length
    · have ed : ds.drop i = ds[i] :: ds.drop (i + 1) := List.drop_eq_getElem_cons hlt
      rw [ed, forL_cons] at q'
      refine .inr ⟨wk.go i hlt F' H' x, fun σ2 H2 => ∃ F2 ρ2, Tr F1 H1 F2 H2 ∧ Stt E F2 H2 σ2 ρ2 ∧ SRes E W F2 Z (forL g (sIf t (out b) sNil) (ds.drop (i + 1)) ρ2), ?_, fun v H2 y => ?_⟩
      · rintro σ2 H2 ⟨F2, ρ2, x2, s2, q2⟩
        exact ⟨_, by omega, F2, ρ2, x2, s2, hlt, rfl, q2⟩
      · obtain ⟨pd, rfl, r2⟩ := wk.yld i ds[i] (List.getElem?_eq_getElem hlt) F' H' v H2 x y
        cases eg : g ds[i] ρ' with
        | none => rw [eg] at q'; exact q'.elim
        | some ρ1 =>
          rw [eg] at q'
          refine ⟨F', ρ', ds[i], s', pd, r2, ρ1, eg, fun σ3 s3 => ⟨F', ρ1, s3, ?_⟩⟩
          have q' : SRes E W F' Z (match (t ρ1).st ρ1 (fun c => if c = true then out b ρ1 else .nx ρ1) with
            | .nx ρ2 => forL g (sIf t (out b) sNil) (ds.drop (i + 1)) ρ2
            | .ct ρ2 => forL g (sIf t (out b) sNil) (ds.drop (i + 1)) ρ2
            | .bk ρ2 => .nx ρ2
            | r => r) := q'
          cases et : t ρ1 with
          | no => rw [et] at q'; exact q'
          | ex c => rw [et] at q'; exact SRes.exc s3 q'
          | ok c =>
            rw [et] at q'
            intro F3 H3 t3
            cases c with
            | true =>
              rw [if_pos rfl]
              refine ⟨F3, ρ1, s3.tr t3, ?_⟩
              have q' : SRes E W F' Z (match out b ρ1 with
                | .nx ρ2 => forL g (sIf t (out b) sNil) (ds.drop (i + 1)) ρ2
                | .ct ρ2 => forL g (sIf t (out b) sNil) (ds.drop (i + 1)) ρ2
                | .bk ρ2 => .nx ρ2
                | r => r) := q'
              rw [out_eq] at q'
              cases eb : b ρ1 with
              | rt d ρ2 => rw [eb] at q'; exact q'
              | ex c ρ2 => rw [eb] at q'; exact fun F4 H4 σ4 x4 s4 => q' F4 H4 σ4 (t3.ff.trans x4) s4
              | _ => rw [eb] at q'; exact q'.elim
            | false =>
              rw [if_neg Bool.false_ne_true]
              exact ⟨F3, ρ1, x.trans t3, s3.tr t3, SRes.at q' t3.ff⟩
    · have e : i = ds.length := by omega
      subst e
      rw [List.drop_length, forL_nil] at q'
      exact .inl ⟨wk.stop F' H' x, q' F' H' σ' (.refl _) s'⟩
end
end Dv
end
section
set_option maxRecDepth 100000
set_option maxHeartbeats 2000000
namespace Dv
open PySem PySem.Spec PyProof.Rows L2
/-! ## classes: o.m(), C(..), return o.f -/
/-- a statement of a class's body -/
def subS (s : Stmt) (j : Nat) : Stmt := match s with
  | .ClassDef _ _ _ body _ _ _ _ _ _ _ => body.getD j (.Pass ⟨0, 0, 0, 0⟩)
  | s => s
section
variable {X : Cx} {CX : CXT} {k : Nat} {f C : Addr} {fd : FuncData} {ps : List Str} {sp : Sp} {Ex : L2.St → XK} {m : Str} {apos pos : Pos} {o : Expr} {ta : TE}
theorem pe_meth0S {pl : Sem Bool} (he : PE X o ta) (c : Cls X.K C) (hm : Meth X.K C m f) (F : FnOk X.prog X.w X.K X.mg X.base CX k f fd ps sp) (hr : Room k X.A) (hb : Binds X.K fd ps []) (hx : ∀ σ, PassesAt CX X σ (Ex σ))
    (ht : eval (.Call (.Attribute o m apos) [] [] pos) X.env = (do
      let ov ← eval o X.env
      standAt apos.atName
      let (f, first) ← holding [ov] (getMethod ov m pl)
      callWith pos f first (backTo pos (starEach [] X.env)) (backToKw pos (keywordEach [] X.env))) := by rfl) :
    PE X (.Call (.Attribute o m apos) [] [] pos) (tMethS C m sp Ex ta tNil) := by
  refine ⟨fun pins s σ H Q I h => ?_⟩
  refine PySem.W.methodCall_KW (pl := pl) (thn (he.run pins s σ H _ I h) fun u s1 ⟨x, H1, I1, rx, a, dx, fs, ex, ea, l, q⟩ => ?_) ht
  subst ex
  obtain rfl : u = Value.ref a := rx
  refine getmeth_ok I1 ea c hm l ?_
  exact PySem.W.callWith_K0 (first := [.ref a]) I1.kIn hm.kp (run_fnS (us := [.ref a]) (vs := [.ref a]) F hr hb (hx σ) I1 (.cons rfl .nil) q)
end
section
variable {X : Cx} {E : En} {W : WX}
theorem xe_meth0 {k c i : Nat} {mk : List Bool} {fa : Addr} {fd : FuncData} {ps : List Str} {f : List D → XR D} {m : Str} {apos pos : Pos} {o : Expr} {pl : Sem Bool} (hK : E.k.K = X.K) (ho : PE X o (tVar i)) (hc : Cls X.K (E.k.cm c)) (hm : Meth X.K (E.k.cm c) m fa) (G : FnOk X.prog X.w X.K X.mg X.base (L2.CX X.prog X.w) k fa fd ps (spX E.k E.ec mk f)) (tk : Takes X W) (hr : Room k X.A) (hb : Binds X.K fd ps [])
    (hmk : mk = (some i :: ([] : List (Option Nat))).map Option.isSome) (hall : (∀ j ∈ (some i :: ([] : List (Option Nat))).filterMap id, j ∈ E.bs) ∨ ∀ j ∈ (some i :: ([] : List (Option Nat))).filterMap id, j ∉ E.bs)
    (ht : eval (.Call (.Attribute o m apos) [] [] pos) X.env = (do
      let ov ← eval o X.env
      standAt apos.atName
      let (f, first) ← holding [ov] (getMethod ov m pl)
      callWith pos f first (backTo pos (starEach [] X.env)) (backToKw pos (keywordEach [] X.env))) := by rfl) : EX X E W (.Call (.Attribute o m apos) [] [] pos) (xMeth c i m f [] xaNil) := by
  refine ⟨pe_mono (pe_meth0S (Ex := WE W) ho hc hm G hr hb (fun σ => passAt tk σ) ht) fun σ H Q h => ?_⟩
  obtain ⟨v, ev, a, dx, fs, e1, e2, e3, F, ρ, τ, δ, s, hl, hb, q⟩ := meth_imp (E := E) (W := W) (sh := []) (fs := xaNil) hmk (by simp [shOk]) hall h
  exact ⟨v, ev, a, dx, fs, e1, e2, e3, q F H [] [] (.refl _) hl rfl rfl ⟨rfl, rfl⟩ (by simpa using s)⟩

/-! a new instance -/
def eMake (c n : Nat) (f : List D → XR D) (fs : Env → R (List D)) : Env → R D := fun ρ => (fs ρ).bind fun ds => if D.pureL ds = true ∧ ds.length = n then (match f (.ins c [] [] :: ds) with
  | .ok .non (some (.ins c' ns xs) :: _) => .ok (.ins c' ns xs)
  | _ => .no) else .no
theorem eMake_eq (c n : Nat) (f : List D → XR D) (fs : Env → R (List D)) (ρ : Env) : eMake c n f fs ρ = (fs ρ).bind fun ds => if D.pureL ds = true ∧ ds.length = n then (match f (.ins c [] [] :: ds) with
  | .ok .non (some (.ins c' ns xs) :: _) => .ok (.ins c' ns xs)
  | _ => .no) else .no := rfl
theorem make_in {k : Kx} {ec : Nat → Value} {c : Nat} {F H : Hp} {ds : List D} {vs : List V} {mk : List Bool} {x dx : Addr} (fh : Ex F H) (tb : Tb k F) (r : RpL k F H ds vs []) (hx : H x = none) (hd : H dx = none) (hne : dx ≠ x) (h0 : mk[0]? = some true) (hm : mk.length = ds.length + 1) :
    Stt (EnB k ec mk (upd (upd H dx (.own x)) x (.ins (k.cm c) dx [])) F [x] ((V.ref x :: vs).map some)) F (upd (upd H dx (.own x)) x (.ins (k.cm c) dx [])) ((V.ref x :: vs).map some) ((D.ins c [] [] :: ds).map some) := by
  have hF : ∀ {a : Addr}, H a = none → F a = none := fun {a} e => by
    cases q : F a with
    | none => rfl
    | some o => rw [fh a o q] at e; cases e
  have up : ∀ a o, H a = some o → upd (upd H dx (.own x)) x (.ins (k.cm c) dx []) a = some o := fun a o e => by
    rw [upd_ne (ne_of_none e hx), upd_ne (ne_of_none e hd)]; exact e
  have hl := r.len
  refine ⟨⟨.refl _, tb⟩, fun a o e => up a o (fh a o e), fun a h _ => h, fun a o h _ => h, fun a ha => ?_, by rw [List.length_map, List.length_map, List.length_cons, List.length_cons, hl], fun i hi => ⟨?_, rfl⟩, fun i => if i = 0 then [x] else [], fun i d e => ?_, fun i e => ?_, fun i => ?_, fun i j a h1 h2 => ?_, fun i a ha => ?_⟩
  · rw [List.mem_singleton.mp ha, upd_same]; exact fun z => nomatch z
  · have := (List.getElem?_eq_some_iff.mp (mem_bsM.mp hi)).1
    rw [List.length_map, List.length_cons]; omega
  · cases i with
    | zero =>
      have e' : D.ins c [] [] = d := by simpa using e
      subst e'
      exact ⟨.ref x, rfl, x, dx, [], [], rfl, rfl, ⟨rfl, rfl⟩, rfl, hF hx, upd_same⟩
    | succ i =>
      have e' : ds[i]? = some d := by simpa using e
      obtain ⟨v, h1, h2⟩ := r.get0 e'
      refine ⟨v, by simpa using h1, ?_⟩
      exact Rp.mono (.refl _) d v [] (fun _ z => nomatch z) h2
  · show (if i = 0 then [x] else []) = []
    cases i with
    | zero => simp at e
    | succ i => rfl
  · show (if i = 0 then [x] else []).Nodup
    by_cases q : i = 0
    · rw [if_pos q]; simp
    · rw [if_neg q]; exact .nil
  · have h1 : a ∈ (if i = 0 then [x] else []) := h1
    have h2 : a ∈ (if j = 0 then [x] else []) := h2
    by_cases q : i = 0
    · by_cases q' : j = 0
      · rw [q, q']
      · rw [if_neg q'] at h2; cases h2
    · rw [if_neg q] at h1; cases h1
  · have ha : a ∈ (if i = 0 then [x] else []) := ha
    by_cases q : i = 0
    · rw [if_pos q] at ha
      exact .inr ⟨ha, mem_bsM.mpr (by rw [q]; exact h0)⟩
    · rw [if_neg q] at ha; cases ha
theorem passes_no {X : Cx} : Passes (L2.CX X.prog X.w) X (fun _ _ _ => False) := fun _ _ _ _ _ _ _ h => (cx_no h).elim
theorem eo_make {k c n : Nat} {mk : List Bool} {fi : Addr} {fd : FuncData} {ps : List Str} {f : List D → XR D} {fs : Env → R (List D)} {x : Str} {p pos : Pos} {e : Expr} {es : List Expr} (M : Mk X.K (E.k.cm c) fi) (G : FnOk X.prog X.w X.K X.mg X.base (L2.CX X.prog X.w) k fi fd ps (spX E.k E.ec mk f)) (hmk : mk = true :: List.replicate n false) (hr : Room (k + 1) X.A) (hg : Gl X x) (hm : X.mg x = some (.ref (E.k.cm c))) (hb : Binds X.K fd ps [])
    (ha : EA X E W (e :: es) fs) (hdb : (x == ("__debug__" : Str)) = false := by decide) (he : starEach (e :: es) X.env = (false, eval e X.env) :: starEach es X.env := by rfl) (hpl : (backTo pos (starEach es X.env)).any (·.1) = false := by rfl) : EO X E W (.Call (.Name x p) (e :: es) [] pos) (eMake c n f fs) := by
  refine ⟨pe_mono (pe_make (dvs := []) (ds := []) M G hr hg hm hb .nil passes_no ha.pa hdb he hpl) fun σ H Q h => ?_⟩
  obtain ⟨F, ρ, s, q⟩ := h
  refine ⟨F, ρ, s, Res.mono q.bind (fun ds _ q F1 H1 vs t1 r1 x dx hx hdx hne => ?_) fun c _ z F' H' t => z F' H' t⟩
  by_cases hz : D.pureL ds = true ∧ ds.length = n
  · rw [if_pos hz] at q
    obtain ⟨A, ra⟩ := Vw.rpl r1
    have r0 := RpL.pure (H' := H1) hz.1 (.refl F1) ra
    have lv := r0.len
    have m0 : mk[0]? = some true := by rw [hmk]; rfl
    have ml : mk.length = ds.length + 1 := by rw [hmk, List.length_cons, List.length_replicate, hz.2]
    have S := make_in (ec := E.ec) (c := c) t1.fh (s.e0.trans t1.ff).tb r0 hx hdx hne m0 ml
    rw [List.append_nil]
    refine ⟨F1, .ins c [] [] :: ds, [x], by rw [List.length_cons, ml, lv], S, ?_⟩
    cases ef : f (.ins c [] [] :: ds) with
    | no => rw [ef] at q; exact q.elim
    | ex c' qs => rw [ef] at q; exact q.elim
    | ok d qs =>
      rw [ef] at q
      intro F' H' v x2 lq s3
      cases d with
      | non =>
        cases qs with
        | nil => exact q.elim
        | cons q0 qs =>
          cases q0 with
          | none => exact q.elim
          | some dd =>
            cases dd with
            | ins c' ns xs =>
              obtain ⟨fp3, sl3⟩ := s3.sl
              have bl : ∀ j ∈ bsM mk, j < ((V.ref x :: vs).map some).length := fun j hj => by
                have := (List.getElem?_eq_some_iff.mp (mem_bsM.mp hj)).1
                rw [List.length_map, List.length_cons]; omega
              obtain ⟨s4, sl4, h4, n4, u4⟩ := s3.pop' sl3 bl
              obtain ⟨v', ev', r4⟩ := h4 .non rfl
              cases ev'
              refine ⟨r4.1, ?_⟩
              obtain ⟨w, ew, rw_⟩ := sl4.rp 0 (.ins c' ns xs) rfl
              have ew' : V.ref x = w := by simpa using ew
              subst ew'
              have q : ∀ F' H' v A, Tr F H F' H' → Rp E.k F' H' (.ins c' ns xs) v A → A.Nodup → (∀ a ∈ A, H a = none) → Q v H' := q
              have back : ∀ a, (upd (upd H1 dx (.own x)) x (.ins (E.k.cm c) dx [])) a = none → H1 a = none := fun a e => by
                cases z : H1 a with
                | none => rfl
                | some o => rw [upd_ne (ne_of_none z hx), upd_ne (ne_of_none z hdx), z] at e; cases e
              have t2 : Tr F1 H1 F' H' := by
                refine ⟨x2, fun a o e => ?_, s4.fh, fun a e1 e2 => ?_⟩
                · refine s4.st a o ?_ fun z => ?_
                  · show upd (upd H1 dx (.own x)) x (.ins (E.k.cm c) dx []) a = some o
                    rw [upd_ne (ne_of_none e hx), upd_ne (ne_of_none e hdx)]; exact e
                  · rw [List.mem_singleton.mp z, hx] at e; cases e
                · refine s4.fr a e1 fun z => e2 (back a z)
              refine q F' H' (.ref x) _ (t1.trans t2) rw_ (sl4.nd 0) fun a ha => ?_
              have n1 : H1 a = none := by
                rcases sl4.nw 0 a ha with z | ⟨z, _⟩
                · exact back a z
                · rw [List.mem_singleton.mp z]; exact hx
              cases z : H a with
              | none => rfl
              | some o => rw [t1.hh a o z] at n1; cases n1
            | _ => exact q.elim
      | _ => exact q.elim
  · rw [if_neg hz] at q; exact q.elim

/-! return o.f: the instance ends -/
def sRetF (c i : Nat) (f : Str) : Env → SR := fun ρ => match ρ[i]?.getD none with
  | some d => (match gFld c f d with
    | some y => .rt y ρ
    | none => .no)
  | none => .no
theorem sRetF_eq (c i : Nat) (f : Str) (ρ : Env) : sRetF c i f ρ = match ρ[i]?.getD none with
  | some d => (match gFld c f d with
    | some y => .rt y ρ
    | none => .no)
  | none => .no := rfl
theorem ss_retF {c i : Nat} {f : Str} {o : Expr} {pos pos' : Pos} (hK : E.k.K = X.K) (hb : i ∉ E.bs) (ho : PE X o (tVar i)) (hc : Cls X.K (E.k.cm c)) (hn : NoAttr X.K (E.k.cm c) f) (hE : E.bs = [] := by rfl) (hab : attributeBase o f X.env (eval o X.env) = eval o X.env := by rfl) :
    SS X E W (.Return (some (.Attribute o f pos')) pos) (sRetF c i f) := by
  refine ⟨ps_mono (ps_ret (pe_fld ho hab)) fun Z σ H h => ?_⟩
  obtain ⟨F, ρ, s, q⟩ := h
  rw [sRetF_eq] at q
  obtain ⟨fp, sl⟩ := s.sl
  cases eD : ρ[i]?.getD none with
  | none => rw [eD] at q; exact q.elim
  | some x =>
    rw [eD] at q
    have q : SRes E W F Z (match gFld c f x with
      | some y => .rt y ρ
      | none => .no) := q
    obtain ⟨v, ev, r1⟩ := sl.rp i x (some_some eD)
    cases eg : gFld c f x with
    | none => rw [eg] at q; exact q.elim
    | some d =>
      rw [eg] at q
      have q2 : SRes E W F Z (.rt d ρ) := q
      cases x with
      | ins c' fs xs =>
        obtain ⟨hcc, e1⟩ := if_of (show (if c' = c then (fIx fs f).bind fun j => xs[j]? else none) = some d from eg)
        obtain ⟨j, ej, e2⟩ := Option.bind_eq_some_iff.mp e1
        rw [← hcc] at hc hn
        obtain ⟨a, dx, ws, B, rfl, hl, rl, eA, fa, ha⟩ := r1
        obtain ⟨u, A1, B1, A3, hv, hB, rv, _⟩ := rl.nth (show xs[j]? = some d from e2)
        have sub : ∀ b ∈ B1, b ∈ fp i := fun b hb => by
          rw [eA, hB]
          exact List.mem_cons_of_mem _ (List.mem_append_left _ (List.mem_append_right _ hb))
        have nd : B1.Nodup := by
          have n0 := sl.nd i
          rw [eA, hB] at n0
          have n1 := (List.nodup_cons.mp n0).2
          exact (List.nodup_append.mp (List.nodup_append.mp n1).1).2.1
        refine ⟨.ref a, ev, a, _, dx, _, u, rfl, ha, hc, hn, ?_, q2 F H σ u s ⟨s.e0, s.fh, s.fr, s.st, s.bt, B1, rv, nd, fun b hb' => (sl.nw i b (sub b hb')).elim (fun z => z) fun z => absurd z.2 hb⟩ (.inl hE)⟩
        rw [fIx_lookup f fs ws hl, ej]
        exact hv
      | _ => cases eg
end
end Dv
end
set_option maxRecDepth 100000
set_option maxHeartbeats 4000000
namespace K47
open PySem PySem.Spec PyProof.Rows L2 Dv
noncomputable section
def top (i : Nat) : Stmt := PySem.Challenge.pw_stillroom_k47_lines.main.body.getD i (.Pass ⟨0, 0, 0, 0⟩)
abbrev s__law_cell : Stmt := top 4
theorem sc__law_cell : FnScope ["_law_script", "_law_k"] ["_law_script", "_law_k"] (defScope s__law_cell) := ⟨rfl, rfl, rfl, by decide +kernel, rfl, by decide +kernel, by decide +kernel⟩
abbrev s__law_twice : Stmt := top 5
theorem sc__law_twice : FnScope ["_law_cell_here", "_law_k", "_law_x"] ["_law_cell_here", "_law_k"] (defScope s__law_twice) := ⟨rfl, rfl, rfl, by decide +kernel, rfl, by decide +kernel, by decide +kernel⟩
abbrev s__law_words : Stmt := top 8
theorem sc__law_words : FnScope ["_law_script", "_law_words_here", "_law_k", "_law_cell_here", "_law_word", "_law_j", "_law_draw"] ["_law_script"] (defScope s__law_words) := ⟨rfl, rfl, rfl, by decide +kernel, rfl, by decide +kernel, by decide +kernel⟩
abbrev s_Lines_close : Stmt := subS (top 1) 1
theorem sc_Lines_close : FnScope ["self"] ["self"] (defScope s_Lines_close) := ⟨rfl, rfl, rfl, by decide +kernel, rfl, by decide +kernel, by decide +kernel⟩
abbrev s_Lines___init__ : Stmt := subS (top 1) 0
theorem sc_Lines___init__ : FnScope ["self", "width"] ["self", "width"] (defScope s_Lines___init__) := ⟨rfl, rfl, rfl, by decide +kernel, rfl, by decide +kernel, by decide +kernel⟩
abbrev s_Lines_begin_word : Stmt := subS (top 1) 2
theorem sc_Lines_begin_word : FnScope ["self", "advances", "space"] ["self", "advances", "space"] (defScope s_Lines_begin_word) := ⟨rfl, rfl, rfl, by decide +kernel, rfl, by decide +kernel, by decide +kernel⟩
abbrev s_Lines_put : Stmt := subS (top 1) 3
theorem sc_Lines_put : FnScope ["self", "word", "rune", "advance"] ["self", "word", "rune", "advance"] (defScope s_Lines_put) := ⟨rfl, rfl, rfl, by decide +kernel, rfl, by decide +kernel, by decide +kernel⟩
abbrev s_break_lines : Stmt := top 2
theorem sc_break_lines : FnScope ["advances", "space", "width", "lines", "word", "row", "rune", "advance"] ["advances", "space", "width"] (defScope s_break_lines) := ⟨rfl, rfl, rfl, by decide +kernel, rfl, by decide +kernel, by decide +kernel⟩
abbrev s__law_due : Stmt := top 9
theorem sc__law_due : FnScope ["_law_words_here", "_law_space", "_law_width", "_law_lines", "_law_line", "_law_end", "_law_w", "_law_total", "_law_r"] ["_law_words_here", "_law_space", "_law_width"] (defScope s__law_due) := ⟨rfl, rfl, rfl, by decide +kernel, rfl, by decide +kernel, by decide +kernel⟩
abbrev s__law_integer : Stmt := top 7
theorem sc__law_integer : FnScope ["_law_value"] ["_law_value"] (defScope s__law_integer) := ⟨rfl, rfl, rfl, by decide +kernel, rfl, by decide +kernel, by decide +kernel⟩
abbrev s_law : Stmt := top 10
theorem sc_law : FnScope ["_law_script", "_law_words_here", "_law_space", "_law_width", "_law_given", "_law_found", "_law_seen", "_law_line", "_law_due_here", "_law_w", "_law_place", "_law_r", "_law_word"] ["_law_script"] (defScope s_law) := ⟨rfl, rfl, rfl, by decide +kernel, rfl, by decide +kernel, by decide +kernel⟩
/-! ### what each def means -/
def b__law_cell : Dv.Env → SR := sq (sIf (eT (e2 gLt (eVar 1) (eB gLen (aV (eVar 0) (aNil))))) (sRet (eB gInt (aV (e2 gIx (eVar 0) (eVar 1)) (aNil)))) (sNil)) (sRet (eC (.int 0)))
def d__law_cell : List D → R D := fnD 2 2 b__law_cell
def b__law_twice : Dv.Env → SR := sq (sAsg 2 (e2 gMod (eB gInt (aV (e2 gAdd (e2 gAdd (e2 gMul (eVar 0) (eC (.int 48271))) (e2 gMul (eVar 1) (eC (.int 69621)))) (eC (.int 7))) (aNil))) (eC (.int 2147483647)))) (sq (sAsg 2 (e2 gMod (eB gInt (aV (e2 gAdd (e2 gAdd (e2 gMul (eVar 2) (eVar 2)) (e2 gMul (eVar 1) (eC (.int 40692)))) (eC (.int 3))) (aNil))) (eC (.int 2147483629)))) (sq (sAsg 2 (e2 gMod (eB gInt (aV (e2 gAdd (e2 gAdd (e2 gMul (eVar 2) (eVar 2)) (e2 gMul (eVar 1) (eC (.int 30269)))) (eC (.int 5))) (aNil))) (eC (.int 2147483587)))) (sRet (e2 gDiv (eVar 2) (eC (.int 64))))))
def d__law_twice : List D → R D := fnD 2 3 b__law_twice
def lp__law_words_2 : Dv.Env → SR := sq (sAsg 6 (eCall 2 d__law_twice (aV (eVar 3) (aV (eVar 5) (aNil))))) (sApp 4 (asOwn (e2 gIx (eLst (aO (e2 gMod (e2 gDiv (eVar 6) (eC (.int 3))) (eC (.int 21))) (aO (e2 gMod (e2 gDiv (eVar 6) (eC (.int 3))) (eC (.int 4))) (aO (eC (.int 70)) (aNil))))) (e2 gIx (eLst (aO (eC (.int 0)) (aO (eC (.int 1)) (aO (eC (.int 0)) (aO (eC (.int 2)) (aNil)))))) (e2 gMul (e2 gMod (eVar 6) (eC (.int 4))) (eB gInt (aV (e2 gLt (e2 gMod (eVar 6) (eC (.int 16))) (eC (.int 4))) (aNil))))))))
def lp__law_words_1 : Dv.Env → SR := sq (sAsg 3 (eB gAbs (aV (eCall 2 d__law_cell (aV (eVar 0) (aO (e2 gAdd (eC (.int 3)) (eVar 2)) (aNil)))) (aNil)))) (sq (sAsg 4 (eLstM (mNil))) (sq (sFor (iA rng1 (aV (e2 gAdd (eC (.int 1)) (e2 gMod (eVar 3) (eC (.int 8)))) (aNil))) (gNm 5) lp__law_words_2) (sFz 4 (sApp 1 (asOwn (eVar 4))))))
def b__law_words : Dv.Env → SR := sq (sAsg 1 (eLstM (mNil))) (sq (sFor (iA rng1 (aV (e2 gMod (eB gAbs (aV (eCall 2 d__law_cell (aV (eVar 0) (aO (eC (.int 2)) (aNil)))) (aNil))) (eC (.int 11))) (aNil))) (gNm 2) lp__law_words_1) (sRet (eVar 1)))
def d__law_words : List D → R D := fnD 1 7 b__law_words
def b_Lines_close : Dv.Env → SR := sq (sIf (eT (e2 gGt (eB gLen (aV (e1 (gFld 0 "places") (eVar 0)) (aNil))) (eC (.int 0)))) (sFldA 0 0 "lines" (eTupM (mO (eB gTuple (aV (e1 (gFld 0 "places") (eVar 0)) (aNil))) (mV (e1 (gFld 0 "end") (eVar 0)) (mNil))))) (sNil)) (sq (sFldS 0 0 "places" (eLstM (mNil))) (sFldS 0 0 "end" (eC (.int 0))))
def d_Lines_close : List D → XR D := fnX [true] 1 b_Lines_close
def b_Lines___init__ : Dv.Env → SR := sq (sFldS 0 0 "width" (asOwn (eVar 1))) (sq (sFldS 0 0 "lines" (eLstM (mNil))) (sq (sFldS 0 0 "places" (eLstM (mNil))) (sFldS 0 0 "end" (eC (.int 0)))))
def d_Lines___init__ : List D → XR D := fnX [true, false] 2 b_Lines___init__
def b_Lines_begin_word : Dv.Env → SR := sIf (eT (e2 gGt (eB gLen (aV (e1 (gFld 0 "places") (eVar 0)) (aNil))) (eC (.int 0)))) (sIf (eT (e2 gGt (e2 gAdd (e2 gAdd (e1 (gFld 0 "end") (eVar 0)) (eVar 2)) (eB gSum (aV (eVar 1) (aNil)))) (e1 (gFld 0 "width") (eVar 0)))) (zDrop (xMeth 0 0 "close" d_Lines_close [] xaNil)) (sFldS 0 0 "end" (e2 gAdd (e1 (gFld 0 "end") (eVar 0)) (eVar 2)))) (sNil)
def d_Lines_begin_word : List D → XR D := fnX [true, false, false] 3 b_Lines_begin_word
def b_Lines_put : Dv.Env → SR := sq (sIf (tAndF (eT (e2 gGt (eB gLen (aV (e1 (gFld 0 "places") (eVar 0)) (aNil))) (eC (.int 0)))) (eT (e2 gGt (e2 gAdd (e1 (gFld 0 "end") (eVar 0)) (eVar 3)) (e1 (gFld 0 "width") (eVar 0))))) (zDrop (xMeth 0 0 "close" d_Lines_close [] xaNil)) (sNil)) (sq (sFldA 0 0 "places" (eTupM (mV (eVar 1) (mV (eVar 2) (mV (e1 (gFld 0 "end") (eVar 0)) (mNil)))))) (sFldS 0 0 "end" (e2 gAdd (e1 (gFld 0 "end") (eVar 0)) (eVar 3))))
def d_Lines_put : List D → XR D := fnX [true, false, false, false] 4 b_Lines_put
def lp_break_lines_2 : Dv.Env → SR := zDrop (xMeth 0 3 "put" d_Lines_put [none, none, none] (xcP (xO (asOwn (eVar 4))) (xcP (xO (asOwn (eVar 6))) (xcP (xO (asOwn (eVar 7))) (xaNil)))))
def lp_break_lines_1 : Dv.Env → SR := sq (zDrop (xMeth 0 3 "begin_word" d_Lines_begin_word [none, none] (xcP (xO (asOwn (eVar 5))) (xcP (xO (asOwn (eVar 1))) (xaNil))))) (sFor (iA enum1 (aV (eVar 5) (aNil))) (gTp (gsCons (gNm 6) (gsCons (gNm 7) (gsNil)))) lp_break_lines_2)
def b_break_lines : Dv.Env → SR := sq (sAsg 3 (eMake 0 1 d_Lines___init__ (aV (eVar 2) (aNil)))) (sq (sFor (iA enum1 (aV (eVar 0) (aNil))) (gTp (gsCons (gNm 4) (gsCons (gNm 5) (gsNil)))) lp_break_lines_1) (sq (zDrop (xMeth 0 3 "close" d_Lines_close [] xaNil)) (sRetF 0 3 "lines")))
def d_break_lines : List D → R D := fnD 3 8 b_break_lines
def lp__law_due_2 : Dv.Env → SR := sq (sIf (tAndF (eT (e2 gGt (eB gLen (aV (eVar 4) (aNil))) (eC (.int 0)))) (eT (e2 gGt (e2 gAdd (eVar 5) (e2 gIx (e2 gIx (eVar 0) (eVar 6)) (eVar 8))) (eVar 2)))) (sq (sApp 3 (eTupM (mO (eB gTuple (aV (eVar 4) (aNil))) (mV (eVar 5) (mNil))))) (sq (sAsg 4 (eLstM (mNil))) (sAsg 5 (eC (.int 0))))) (sNil)) (sq (sApp 4 (eTupM (mV (eVar 6) (mV (eVar 8) (mV (eVar 5) (mNil)))))) (sAsg 5 (e2 gAdd (eVar 5) (e2 gIx (e2 gIx (eVar 0) (eVar 6)) (eVar 8)))))
def lp__law_due_1 : Dv.Env → SR := sq (sAsg 7 (eB gSum (aV (e2 gIx (eVar 0) (eVar 6)) (aNil)))) (sq (sIf (eT (e2 gGt (eB gLen (aV (eVar 4) (aNil))) (eC (.int 0)))) (sIf (eT (e2 gGt (e2 gAdd (e2 gAdd (eVar 5) (eVar 1)) (eVar 7)) (eVar 2))) (sq (sApp 3 (eTupM (mO (eB gTuple (aV (eVar 4) (aNil))) (mV (eVar 5) (mNil))))) (sq (sAsg 4 (eLstM (mNil))) (sAsg 5 (eC (.int 0))))) (sAsg 5 (e2 gAdd (eVar 5) (eVar 1)))) (sNil)) (sFor (iA rng1 (aV (eB gLen (aV (e2 gIx (eVar 0) (eVar 6)) (aNil))) (aNil))) (gNm 8) lp__law_due_2))
def b__law_due : Dv.Env → SR := sq (sAsg 3 (eLstM (mNil))) (sq (sAsg 4 (eLstM (mNil))) (sq (sAsg 5 (eC (.int 0))) (sq (sFor (iA rng1 (aV (eB gLen (aV (eVar 0) (aNil))) (aNil))) (gNm 6) lp__law_due_1) (sq (sIf (eT (e2 gGt (eB gLen (aV (eVar 4) (aNil))) (eC (.int 0)))) (sApp 3 (eTupM (mO (eB gTuple (aV (eVar 4) (aNil))) (mV (eVar 5) (mNil))))) (sNil)) (sRet (eVar 3))))))
def d__law_due : List D → R D := fnD 3 9 b__law_due
def b__law_integer : Dv.Env → SR := sRet (asOwn (eAnd (eIsi "int" (eVar 0)) (eNot (eIsi "bool" (eVar 0)))))
def d__law_integer : List D → R D := fnD 1 1 b__law_integer
def lp_law_2 : Dv.Env → SR := sApp 6 (eTupM (mV (e2 gIx (eVar 10) (eC (.int 0))) (mV (e2 gIx (eVar 10) (eC (.int 1))) (mNil))))
def lp_law_1 : Dv.Env → SR := sq (sIf (tOrF (tNotF (eT (eIsi "tuple" (eVar 7)))) (tOrF (eT (e2 gNe (eB gLen (aV (eVar 7) (aNil))) (eC (.int 2)))) (tOrF (tNotF (eT (eIsi "tuple" (e2 gIx (eVar 7) (eC (.int 0)))))) (tNotF (eT (eCall 1 d__law_integer (aV (e2 gIx (eVar 7) (eC (.int 1))) (aNil)))))))) (sRet (eC (.bl false))) (sNil)) (sq (sFor (iW (e2 gIx (eVar 7) (eC (.int 0)))) (gNm 10) lp_law_2) (sIf (tAndF (eT (e2 gGt (e2 gIx (eVar 7) (eC (.int 1))) (eVar 3))) (eT (e2 gGt (eB gLen (aV (eLc (iW (e2 gIx (eVar 7) (eC (.int 0)))) (gNm 10) (eT (e2 gGt (e2 gIx (e2 gIx (eVar 1) (e2 gIx (eVar 10) (eC (.int 0)))) (e2 gIx (eVar 10) (eC (.int 1)))) (eC (.int 0)))) (asOwn (eVar 10)) [10]) (aNil))) (eC (.int 1))))) (sRet (eC (.bl false))) (sNil)))
def lp_law_4 : Dv.Env → SR := sApp 8 (eTupM (mV (eVar 9) (mV (eVar 11) (mNil))))
def lp_law_3 : Dv.Env → SR := sFor (iA rng1 (aV (eB gLen (aV (e2 gIx (eVar 1) (eVar 9)) (aNil))) (aNil))) (gNm 11) lp_law_4
def b_law : Dv.Env → SR := sq (sAsg 1 (eCall 1 d__law_words (aV (eVar 0) (aNil)))) (sq (sAsg 2 (e2 gMod (eB gAbs (aV (eCall 2 d__law_cell (aV (eVar 0) (aO (eC (.int 0)) (aNil)))) (aNil))) (eC (.int 10)))) (sq (sAsg 3 (e2 gAdd (eC (.int 1)) (e2 gMod (eB gAbs (aV (eCall 2 d__law_cell (aV (eVar 0) (aO (eC (.int 1)) (aNil)))) (aNil))) (eC (.int 60))))) (sq (sFz 1 (sAsg 4 (eLc (iW (eVar 1)) (gNm 12) (tYes) (eB gList (aV (eVar 12) (aNil))) [12]))) (sq (sAsg 5 (eCall 3 d_break_lines (aV (eVar 4) (aV (eVar 2) (aV (eVar 3) (aNil)))))) (sq (sIf (tOrF (tNotF (eT (eIsi "list" (eVar 5)))) (tOrF (eT (e2 gNe (eVar 5) (eCall 3 d__law_due (aV (eVar 1) (aV (eVar 2) (aV (eVar 3) (aNil))))))) (eT (e2 gNe (eVar 4) (eVar 1))))) (sRet (eC (.bl false))) (sNil)) (sq (sAsg 6 (eLstM (mNil))) (sq (sFz 5 (sFor (iW (eVar 5)) (gNm 7) lp_law_1)) (sq (sAsg 8 (eLstM (mNil))) (sq (sFor (iA rng1 (aV (eB gLen (aV (eVar 1) (aNil))) (aNil))) (gNm 9) lp_law_3) (sRet (e2 gEq (eVar 6) (eVar 8))))))))))))
def d_law : List D → R D := fnD 1 13 b_law
/-! ### what stands in the text -/
structure Ad where
  a__law_cell : Addr
  fd__law_cell : FuncData
  a__law_twice : Addr
  fd__law_twice : FuncData
  a__law_words : Addr
  fd__law_words : FuncData
  a_Lines_close : Addr
  fd_Lines_close : FuncData
  a_Lines___init__ : Addr
  fd_Lines___init__ : FuncData
  a_Lines_begin_word : Addr
  fd_Lines_begin_word : FuncData
  a_Lines_put : Addr
  fd_Lines_put : FuncData
  a_break_lines : Addr
  fd_break_lines : FuncData
  a__law_due : Addr
  fd__law_due : FuncData
  a__law_integer : Addr
  fd__law_integer : FuncData
  a_law : Addr
  fd_law : FuncData
  cl_Lines : Addr
def kx (K : PySem.W.Frag) (A : Ad) : Kx := ⟨K, fun i => match i with
  | 0 => A.cl_Lines
  | _ => 0, fun i => match i with
  | _ => 0, []⟩
def ec (A : Ad) : Nat → Value := fun c => match c with
  | _ => .none
structure Txt (K : PySem.W.Frag) (mg : Str → Option Value) (A : Ad) : Prop where
  f__law_cell : Fun K "_law_cell" "_law_cell" s__law_cell A.a__law_cell A.fd__law_cell
  m__law_cell : mg "_law_cell" = some (.ref A.a__law_cell)
  i__law_cell : Binds K A.fd__law_cell ["_law_script", "_law_k"] []
  f__law_twice : Fun K "_law_twice" "_law_twice" s__law_twice A.a__law_twice A.fd__law_twice
  m__law_twice : mg "_law_twice" = some (.ref A.a__law_twice)
  i__law_twice : Binds K A.fd__law_twice ["_law_cell_here", "_law_k"] []
  f__law_words : Fun K "_law_words" "_law_words" s__law_words A.a__law_words A.fd__law_words
  m__law_words : mg "_law_words" = some (.ref A.a__law_words)
  i__law_words : Binds K A.fd__law_words ["_law_script"] []
  f_Lines_close : Fun K "close" "Lines.close" s_Lines_close A.a_Lines_close A.fd_Lines_close
  M_Lines_close : Meth K A.cl_Lines "close" A.a_Lines_close
  i_Lines_close : Binds K A.fd_Lines_close ["self"] []
  f_Lines___init__ : Fun K "__init__" "Lines.__init__" s_Lines___init__ A.a_Lines___init__ A.fd_Lines___init__
  M_Lines___init__ : Meth K A.cl_Lines "__init__" A.a_Lines___init__
  i_Lines___init__ : Binds K A.fd_Lines___init__ ["self", "width"] []
  f_Lines_begin_word : Fun K "begin_word" "Lines.begin_word" s_Lines_begin_word A.a_Lines_begin_word A.fd_Lines_begin_word
  M_Lines_begin_word : Meth K A.cl_Lines "begin_word" A.a_Lines_begin_word
  i_Lines_begin_word : Binds K A.fd_Lines_begin_word ["self", "advances", "space"] []
  f_Lines_put : Fun K "put" "Lines.put" s_Lines_put A.a_Lines_put A.fd_Lines_put
  M_Lines_put : Meth K A.cl_Lines "put" A.a_Lines_put
  i_Lines_put : Binds K A.fd_Lines_put ["self", "word", "rune", "advance"] []
  f_break_lines : Fun K "break_lines" "break_lines" s_break_lines A.a_break_lines A.fd_break_lines
  m_break_lines : mg "break_lines" = some (.ref A.a_break_lines)
  i_break_lines : Binds K A.fd_break_lines ["advances", "space", "width"] []
  f__law_due : Fun K "_law_due" "_law_due" s__law_due A.a__law_due A.fd__law_due
  m__law_due : mg "_law_due" = some (.ref A.a__law_due)
  i__law_due : Binds K A.fd__law_due ["_law_words_here", "_law_space", "_law_width"] []
  f__law_integer : Fun K "_law_integer" "_law_integer" s__law_integer A.a__law_integer A.fd__law_integer
  m__law_integer : mg "_law_integer" = some (.ref A.a__law_integer)
  i__law_integer : Binds K A.fd__law_integer ["_law_value"] []
  f_law : Fun K "law" "law" s_law A.a_law A.fd_law
  m_law : mg "law" = some (.ref A.a_law)
  i_law : Binds K A.fd_law ["_law_script"] []
  C_Lines : Cls K A.cl_Lines
  K_Lines : Mk K A.cl_Lines A.a_Lines___init__
  mc_Lines : mg "Lines" = some (.ref A.cl_Lines)
  N_Lines_end : NoAttr K A.cl_Lines "end"
  N_Lines_lines : NoAttr K A.cl_Lines "lines"
  N_Lines_places : NoAttr K A.cl_Lines "places"
  N_Lines_width : NoAttr K A.cl_Lines "width"
  z_abs : mg "abs" = none
  z_bool : mg "bool" = none
  z_enumerate : mg "enumerate" = none
  z_int : mg "int" = none
  z_isinstance : mg "isinstance" = none
  z_len : mg "len" = none
  z_list : mg "list" = none
  z_range : mg "range" = none
  z_sum : mg "sum" = none
  z_tuple : mg "tuple" = none
section
variable {P : Program} {w : World} {K : PySem.W.Frag} {mg : Str → Option Value} {base : Heap} {A : Ad}
theorem ok__law_cell (T : Txt K mg A) : FnOk P w K mg base (L2.CX P w) 1 A.a__law_cell A.fd__law_cell ["_law_script", "_law_k"] (spD (kx K A) (ec A) 2 d__law_cell) := by
  refine fn_ok 0 2 2 (kx K A) (ec A) rfl rfl T.f__law_cell sc__law_cell (b := b__law_cell) fun cdv A' outer s H Ew He F0 v0 W hr tk hp hc => ?_
  exact sb_cons (ss_if (et_lt (ev_var (pv 1)) (EO.v (eo_B call_len says_len rfl T.z_len bb_len (ea_v (ev_var (pv 0)) (ea_nil))))) (sb_one (ss_ret (eo_T call_int1 says_int rfl T.z_int bb_int (ea_v (ev_ix rfl (ev_var (pv 0)) (ev_var (pv 1))) (ea_nil))))) (sb_nil)) (sb_one (ss_ret (eo_int)))
theorem ok__law_twice (T : Txt K mg A) : FnOk P w K mg base (L2.CX P w) 1 A.a__law_twice A.fd__law_twice ["_law_cell_here", "_law_k"] (spD (kx K A) (ec A) 2 d__law_twice) := by
  refine fn_ok 0 2 3 (kx K A) (ec A) rfl rfl T.f__law_twice sc__law_twice (b := b__law_twice) fun cdv A' outer s H Ew He F0 v0 W hr tk hp hc => ?_
  exact sb_cons (ss_asg sc__law_twice.nd rfl (by first | exact .inl rfl | exact .inr rfl) (fun z => nomatch z) (eo_mod (EO.v (eo_T call_int1 says_int rfl T.z_int bb_int (ea_v (EO.v (eo_add (EO.v (eo_add (EO.v (eo_mul (ev_var (pv 0)) (EO.v (eo_int)))) (EO.v (eo_mul (ev_var (pv 1)) (EO.v (eo_int)))))) (EO.v (eo_int)))) (ea_nil)))) (EO.v (eo_int)))) (sb_cons (ss_asg sc__law_twice.nd rfl (by first | exact .inl rfl | exact .inr rfl) (fun z => nomatch z) (eo_mod (EO.v (eo_T call_int1 says_int rfl T.z_int bb_int (ea_v (EO.v (eo_add (EO.v (eo_add (EO.v (eo_mul (ev_var (pv 2)) (ev_var (pv 2)))) (EO.v (eo_mul (ev_var (pv 1)) (EO.v (eo_int)))))) (EO.v (eo_int)))) (ea_nil)))) (EO.v (eo_int)))) (sb_cons (ss_asg sc__law_twice.nd rfl (by first | exact .inl rfl | exact .inr rfl) (fun z => nomatch z) (eo_mod (EO.v (eo_T call_int1 says_int rfl T.z_int bb_int (ea_v (EO.v (eo_add (EO.v (eo_add (EO.v (eo_mul (ev_var (pv 2)) (ev_var (pv 2)))) (EO.v (eo_mul (ev_var (pv 1)) (EO.v (eo_int)))))) (EO.v (eo_int)))) (ea_nil)))) (EO.v (eo_int)))) (sb_one (ss_ret (eo_div (ev_var (pv 2)) (EO.v (eo_int)))))))
theorem ok__law_words (T : Txt K mg A) : FnOk P w K mg base (L2.CX P w) 2 A.a__law_words A.fd__law_words ["_law_script"] (spD (kx K A) (ec A) 1 d__law_words) := by
  refine fn_ok 1 1 7 (kx K A) (ec A) rfl rfl T.f__law_words sc__law_words (b := b__law_words) fun cdv A' outer s H Ew He F0 v0 W hr tk hp hc => ?_
  exact sb_cons (ss_asg sc__law_words.nd rfl (by first | exact .inl rfl | exact .inr rfl) (fun z => nomatch z) (eo_lstM (em_nil))) (sb_cons (ss_for hp rfl (ei_rng1 rfl T.z_range (ea_v (EO.v (eo_mod (EO.v (eo_B call_abs says_abs rfl T.z_abs bb_abs (ea_v (EO.v (eo_call (ok__law_cell T) tk (hr.mono (by decide)) rfl T.m__law_cell T.f__law_cell.kp T.i__law_cell (ea_v (ev_var (pv 0)) (ea_o (eo_int) (ea_nil))))) (ea_nil)))) (EO.v (eo_int)))) (ea_nil))) (eg_name sc__law_words.nd rfl (by first | exact .inl rfl | exact .inr rfl) (fun z => nomatch z)) (b := lp__law_words_1) (sb_cons (ss_asg sc__law_words.nd rfl (by first | exact .inl rfl | exact .inr rfl) (fun z => nomatch z) (eo_B call_abs says_abs rfl T.z_abs bb_abs (ea_v (EO.v (eo_call (ok__law_cell T) tk (hr.mono (by decide)) rfl T.m__law_cell T.f__law_cell.kp T.i__law_cell (ea_v (ev_var (pv 0)) (ea_o (eo_add (EO.v (eo_int)) (ev_var (pv 2))) (ea_nil))))) (ea_nil)))) (sb_cons (ss_asg sc__law_words.nd rfl (by first | exact .inl rfl | exact .inr rfl) (fun z => nomatch z) (eo_lstM (em_nil))) (sb_cons (ss_for hp rfl (ei_rng1 rfl T.z_range (ea_v (EO.v (eo_add (EO.v (eo_int)) (EO.v (eo_mod (ev_var (pv 3)) (EO.v (eo_int)))))) (ea_nil))) (eg_name sc__law_words.nd rfl (by first | exact .inl rfl | exact .inr rfl) (fun z => nomatch z)) (b := lp__law_words_2) (sb_cons (ss_asg sc__law_words.nd rfl (by first | exact .inl rfl | exact .inr rfl) (fun z => nomatch z) (eo_call (ok__law_twice T) tk (hr.mono (by decide)) rfl T.m__law_twice T.f__law_twice.kp T.i__law_twice (ea_v (ev_var (pv 3)) (ea_v (ev_var (pv 5)) (ea_nil))))) (sb_one (ss_app (pv 4) (EV.o (ev_ix rfl (EO.v (eo_lst (ea_o (eo_mod (EO.v (eo_div (ev_var (pv 6)) (EO.v (eo_int)))) (EO.v (eo_int))) (ea_o (eo_mod (EO.v (eo_div (ev_var (pv 6)) (EO.v (eo_int)))) (EO.v (eo_int))) (ea_o (eo_int) (ea_nil)))))) (ev_ix rfl (EO.v (eo_lst (ea_o (eo_int) (ea_o (eo_int) (ea_o (eo_int) (ea_o (eo_int) (ea_nil))))))) (EO.v (eo_mul (EO.v (eo_mod (ev_var (pv 6)) (EO.v (eo_int)))) (EO.v (eo_T call_int1 says_int rfl T.z_int bb_int (ea_v (EO.v (eo_lt (EO.v (eo_mod (ev_var (pv 6)) (EO.v (eo_int)))) (EO.v (eo_int)))) (ea_nil))))))))))))) (sb_one (ss_fz 4 (fun z => nomatch z) (ss_app (pv 1) (EV.o (ev_var (pv 4)))))))))) (sb_one (ss_retV (i := 1) (fun z => nomatch z) (pv 1))))
theorem ok_Lines_close (T : Txt K mg A) : FnOk P w K mg base (L2.CX P w) 1 A.a_Lines_close A.fd_Lines_close ["self"] (spX (kx K A) (ec A) [true] d_Lines_close) := by
  refine fn_okX 0 [true] 1 (kx K A) (ec A) rfl rfl (by decide) (by decide) T.f_Lines_close sc_Lines_close (b := b_Lines_close) fun cdv A' outer s H Ew He F0 B v0 W hr tk hp => ?_
  exact sb_cons (ss_if (et_gt (EO.v (eo_B call_len says_len rfl T.z_len bb_len (ea_v (ev_fld (c := 0) rfl (ev_var (pv 0)) T.C_Lines T.N_Lines_places) (ea_nil)))) (EO.v (eo_int))) (sb_one (ss_fldA (c := 0) rfl (pv 0) (eo_tupM (em_o (eo_T call_tuple_of says_tuple rfl T.z_tuple bb_tuple (ea_v (ev_fld (c := 0) rfl (ev_var (pv 0)) T.C_Lines T.N_Lines_places) (ea_nil))) (em_v (ev_fld (c := 0) rfl (ev_var (pv 0)) T.C_Lines T.N_Lines_end) (em_nil)))) T.C_Lines T.N_Lines_lines)) (sb_nil)) (sb_cons (ss_fld (c := 0) rfl (pv 0) (eo_lstM (em_nil)) T.C_Lines T.N_Lines_places) (sb_one (ss_fld (c := 0) rfl (pv 0) (eo_int) T.C_Lines T.N_Lines_end)))
theorem ok_Lines___init__ (T : Txt K mg A) : FnOk P w K mg base (L2.CX P w) 1 A.a_Lines___init__ A.fd_Lines___init__ ["self", "width"] (spX (kx K A) (ec A) [true, false] d_Lines___init__) := by
  refine fn_okX 0 [true, false] 2 (kx K A) (ec A) rfl rfl (by decide) (by decide) T.f_Lines___init__ sc_Lines___init__ (b := b_Lines___init__) fun cdv A' outer s H Ew He F0 B v0 W hr tk hp => ?_
  exact sb_cons (ss_fld (c := 0) rfl (pv 0) (EV.o (ev_var (pv 1))) T.C_Lines T.N_Lines_width) (sb_cons (ss_fld (c := 0) rfl (pv 0) (eo_lstM (em_nil)) T.C_Lines T.N_Lines_lines) (sb_cons (ss_fld (c := 0) rfl (pv 0) (eo_lstM (em_nil)) T.C_Lines T.N_Lines_places) (sb_one (ss_fld (c := 0) rfl (pv 0) (eo_int) T.C_Lines T.N_Lines_end))))
theorem ok_Lines_begin_word (T : Txt K mg A) : FnOk P w K mg base (L2.CX P w) 2 A.a_Lines_begin_word A.fd_Lines_begin_word ["self", "advances", "space"] (spX (kx K A) (ec A) [true, false, false] d_Lines_begin_word) := by
  refine fn_okX 1 [true, false, false] 3 (kx K A) (ec A) rfl rfl (by decide) (by decide) T.f_Lines_begin_word sc_Lines_begin_word (b := b_Lines_begin_word) fun cdv A' outer s H Ew He F0 B v0 W hr tk hp => ?_
  exact sb_one (ss_if (et_gt (EO.v (eo_B call_len says_len rfl T.z_len bb_len (ea_v (ev_fld (c := 0) rfl (ev_var (pv 0)) T.C_Lines T.N_Lines_places) (ea_nil)))) (EO.v (eo_int))) (sb_one (ss_if (et_gt (EO.v (eo_add (EO.v (eo_add (ev_fld (c := 0) rfl (ev_var (pv 0)) T.C_Lines T.N_Lines_end) (ev_var (pv 2)))) (EO.v (eo_B (cr_sum rfl) says_sum rfl T.z_sum bb_sum (ea_v (ev_var (pv 1)) (ea_nil)))))) (ev_fld (c := 0) rfl (ev_var (pv 0)) T.C_Lines T.N_Lines_width)) (sb_one (sx_drop (xe_meth0 (c := 0) rfl (pv 0) T.C_Lines T.M_Lines_close (ok_Lines_close T) tk (hr.mono (by decide)) T.i_Lines_close rfl (.inl (show ∀ i ∈ ([some 0] : List (Option Nat)).filterMap id, i ∈ bsM [true, false, false] by decide))))) (sb_one (ss_fld (c := 0) rfl (pv 0) (eo_add (ev_fld (c := 0) rfl (ev_var (pv 0)) T.C_Lines T.N_Lines_end) (ev_var (pv 2))) T.C_Lines T.N_Lines_end)))) (sb_nil))
theorem ok_Lines_put (T : Txt K mg A) : FnOk P w K mg base (L2.CX P w) 2 A.a_Lines_put A.fd_Lines_put ["self", "word", "rune", "advance"] (spX (kx K A) (ec A) [true, false, false, false] d_Lines_put) := by
  refine fn_okX 1 [true, false, false, false] 4 (kx K A) (ec A) rfl rfl (by decide) (by decide) T.f_Lines_put sc_Lines_put (b := b_Lines_put) fun cdv A' outer s H Ew He F0 B v0 W hr tk hp => ?_
  exact sb_cons (ss_if (EW.t (ew_and (et_gt (EO.v (eo_B call_len says_len rfl T.z_len bb_len (ea_v (ev_fld (c := 0) rfl (ev_var (pv 0)) T.C_Lines T.N_Lines_places) (ea_nil)))) (EO.v (eo_int))) (ew_and1 (et_gt (EO.v (eo_add (ev_fld (c := 0) rfl (ev_var (pv 0)) T.C_Lines T.N_Lines_end) (ev_var (pv 3)))) (ev_fld (c := 0) rfl (ev_var (pv 0)) T.C_Lines T.N_Lines_width))))) (sb_one (sx_drop (xe_meth0 (c := 0) rfl (pv 0) T.C_Lines T.M_Lines_close (ok_Lines_close T) tk (hr.mono (by decide)) T.i_Lines_close rfl (.inl (show ∀ i ∈ ([some 0] : List (Option Nat)).filterMap id, i ∈ bsM [true, false, false, false] by decide))))) (sb_nil)) (sb_cons (ss_fldA (c := 0) rfl (pv 0) (eo_tupM (em_v (ev_var (pv 1)) (em_v (ev_var (pv 2)) (em_v (ev_fld (c := 0) rfl (ev_var (pv 0)) T.C_Lines T.N_Lines_end) (em_nil))))) T.C_Lines T.N_Lines_places) (sb_one (ss_fld (c := 0) rfl (pv 0) (eo_add (ev_fld (c := 0) rfl (ev_var (pv 0)) T.C_Lines T.N_Lines_end) (ev_var (pv 3))) T.C_Lines T.N_Lines_end)))
theorem ok_break_lines (T : Txt K mg A) : FnOk P w K mg base (L2.CX P w) 3 A.a_break_lines A.fd_break_lines ["advances", "space", "width"] (spD (kx K A) (ec A) 3 d_break_lines) := by
  refine fn_ok 2 3 8 (kx K A) (ec A) rfl rfl T.f_break_lines sc_break_lines (b := b_break_lines) fun cdv A' outer s H Ew He F0 v0 W hr tk hp hc => ?_
  exact sb_cons (ss_asg sc_break_lines.nd rfl (by first | exact .inl rfl | exact .inr rfl) (fun z => nomatch z) (eo_make (c := 0) T.K_Lines (ok_Lines___init__ T) rfl (hr.mono (by decide)) rfl T.mc_Lines T.i_Lines___init__ (ea_v (ev_var (pv 2)) (ea_nil)))) (sb_cons (ss_for hp rfl (ei_enum rfl rfl T.z_enumerate (ea_v (ev_var (pv 0)) (ea_nil))) (eg_tup rfl rfl (egs_cons (eg_name sc_break_lines.nd rfl (by first | exact .inl rfl | exact .inr rfl) (fun z => nomatch z)) (egs_cons (eg_name sc_break_lines.nd rfl (by first | exact .inl rfl | exact .inr rfl) (fun z => nomatch z)) (egs_nil))) 2 (gsCons_len (gsCons_len (gsNil_len)))) (b := lp_break_lines_1) (sb_cons (sx_drop (xe_meth (c := 0) (sh := [none, none]) rfl (pv 3) T.C_Lines T.M_Lines_begin_word (ok_Lines_begin_word T) tk (hr.mono (by decide)) T.i_Lines_begin_word rfl (by decide) (.inr fun _ _ z => nomatch z) (xc_p (xe_o (EV.o (ev_var (pv 5)))) (xc_p (xe_o (EV.o (ev_var (pv 1)))) (xc_nil))))) (sb_one (ss_for hp rfl (ei_enum rfl rfl T.z_enumerate (ea_v (ev_var (pv 5)) (ea_nil))) (eg_tup rfl rfl (egs_cons (eg_name sc_break_lines.nd rfl (by first | exact .inl rfl | exact .inr rfl) (fun z => nomatch z)) (egs_cons (eg_name sc_break_lines.nd rfl (by first | exact .inl rfl | exact .inr rfl) (fun z => nomatch z)) (egs_nil))) 2 (gsCons_len (gsCons_len (gsNil_len)))) (b := lp_break_lines_2) (sb_one (sx_drop (xe_meth (c := 0) (sh := [none, none, none]) rfl (pv 3) T.C_Lines T.M_Lines_put (ok_Lines_put T) tk (hr.mono (by decide)) T.i_Lines_put rfl (by decide) (.inr fun _ _ z => nomatch z) (xc_p (xe_o (EV.o (ev_var (pv 4)))) (xc_p (xe_o (EV.o (ev_var (pv 6)))) (xc_p (xe_o (EV.o (ev_var (pv 7)))) (xc_nil))))))))))) (sb_cons (sx_drop (xe_meth0 (c := 0) rfl (pv 3) T.C_Lines T.M_Lines_close (ok_Lines_close T) tk (hr.mono (by decide)) T.i_Lines_close rfl (.inr fun _ _ z => nomatch z))) (sb_one (ss_retF (c := 0) (i := 3) rfl (fun z => nomatch z) (pv 3) T.C_Lines T.N_Lines_lines))))
theorem ok__law_due (T : Txt K mg A) : FnOk P w K mg base (L2.CX P w) 1 A.a__law_due A.fd__law_due ["_law_words_here", "_law_space", "_law_width"] (spD (kx K A) (ec A) 3 d__law_due) := by
  refine fn_ok 0 3 9 (kx K A) (ec A) rfl rfl T.f__law_due sc__law_due (b := b__law_due) fun cdv A' outer s H Ew He F0 v0 W hr tk hp hc => ?_
  exact sb_cons (ss_asg sc__law_due.nd rfl (by first | exact .inl rfl | exact .inr rfl) (fun z => nomatch z) (eo_lstM (em_nil))) (sb_cons (ss_asg sc__law_due.nd rfl (by first | exact .inl rfl | exact .inr rfl) (fun z => nomatch z) (eo_lstM (em_nil))) (sb_cons (ss_asg sc__law_due.nd rfl (by first | exact .inl rfl | exact .inr rfl) (fun z => nomatch z) (eo_int)) (sb_cons (ss_for hp rfl (ei_rng1 rfl T.z_range (ea_v (EO.v (eo_B call_len says_len rfl T.z_len bb_len (ea_v (ev_var (pv 0)) (ea_nil)))) (ea_nil))) (eg_name sc__law_due.nd rfl (by first | exact .inl rfl | exact .inr rfl) (fun z => nomatch z)) (b := lp__law_due_1) (sb_cons (ss_asg sc__law_due.nd rfl (by first | exact .inl rfl | exact .inr rfl) (fun z => nomatch z) (eo_B (cr_sum rfl) says_sum rfl T.z_sum bb_sum (ea_v (ev_ix rfl (ev_var (pv 0)) (ev_var (pv 6))) (ea_nil)))) (sb_cons (ss_if (et_gt (EO.v (eo_B call_len says_len rfl T.z_len bb_len (ea_v (ev_var (pv 4)) (ea_nil)))) (EO.v (eo_int))) (sb_one (ss_if (et_gt (EO.v (eo_add (EO.v (eo_add (ev_var (pv 5)) (ev_var (pv 1)))) (ev_var (pv 7)))) (ev_var (pv 2))) (sb_cons (ss_app (pv 3) (eo_tupM (em_o (eo_T call_tuple_of says_tuple rfl T.z_tuple bb_tuple (ea_v (ev_var (pv 4)) (ea_nil))) (em_v (ev_var (pv 5)) (em_nil))))) (sb_cons (ss_asg sc__law_due.nd rfl (by first | exact .inl rfl | exact .inr rfl) (fun z => nomatch z) (eo_lstM (em_nil))) (sb_one (ss_asg sc__law_due.nd rfl (by first | exact .inl rfl | exact .inr rfl) (fun z => nomatch z) (eo_int))))) (sb_one (ss_asg sc__law_due.nd rfl (by first | exact .inl rfl | exact .inr rfl) (fun z => nomatch z) (eo_add (ev_var (pv 5)) (ev_var (pv 1))))))) (sb_nil)) (sb_one (ss_for hp rfl (ei_rng1 rfl T.z_range (ea_v (EO.v (eo_B call_len says_len rfl T.z_len bb_len (ea_v (ev_ix rfl (ev_var (pv 0)) (ev_var (pv 6))) (ea_nil)))) (ea_nil))) (eg_name sc__law_due.nd rfl (by first | exact .inl rfl | exact .inr rfl) (fun z => nomatch z)) (b := lp__law_due_2) (sb_cons (ss_if (EW.t (ew_and (et_gt (EO.v (eo_B call_len says_len rfl T.z_len bb_len (ea_v (ev_var (pv 4)) (ea_nil)))) (EO.v (eo_int))) (ew_and1 (et_gt (EO.v (eo_add (ev_var (pv 5)) (ev_ix rfl (ev_ix rfl (ev_var (pv 0)) (ev_var (pv 6))) (ev_var (pv 8))))) (ev_var (pv 2)))))) (sb_cons (ss_app (pv 3) (eo_tupM (em_o (eo_T call_tuple_of says_tuple rfl T.z_tuple bb_tuple (ea_v (ev_var (pv 4)) (ea_nil))) (em_v (ev_var (pv 5)) (em_nil))))) (sb_cons (ss_asg sc__law_due.nd rfl (by first | exact .inl rfl | exact .inr rfl) (fun z => nomatch z) (eo_lstM (em_nil))) (sb_one (ss_asg sc__law_due.nd rfl (by first | exact .inl rfl | exact .inr rfl) (fun z => nomatch z) (eo_int))))) (sb_nil)) (sb_cons (ss_app (pv 4) (eo_tupM (em_v (ev_var (pv 6)) (em_v (ev_var (pv 8)) (em_v (ev_var (pv 5)) (em_nil)))))) (sb_one (ss_asg sc__law_due.nd rfl (by first | exact .inl rfl | exact .inr rfl) (fun z => nomatch z) (eo_add (ev_var (pv 5)) (ev_ix rfl (ev_ix rfl (ev_var (pv 0)) (ev_var (pv 6))) (ev_var (pv 8))))))))))))) (sb_cons (ss_if (et_gt (EO.v (eo_B call_len says_len rfl T.z_len bb_len (ea_v (ev_var (pv 4)) (ea_nil)))) (EO.v (eo_int))) (sb_one (ss_app (pv 3) (eo_tupM (em_o (eo_T call_tuple_of says_tuple rfl T.z_tuple bb_tuple (ea_v (ev_var (pv 4)) (ea_nil))) (em_v (ev_var (pv 5)) (em_nil)))))) (sb_nil)) (sb_one (ss_retV (i := 3) (fun z => nomatch z) (pv 3)))))))
theorem ok__law_integer (T : Txt K mg A) : FnOk P w K mg base (L2.CX P w) 1 A.a__law_integer A.fd__law_integer ["_law_value"] (spD (kx K A) (ec A) 1 d__law_integer) := by
  refine fn_ok 0 1 1 (kx K A) (ec A) rfl rfl T.f__law_integer sc__law_integer (b := b__law_integer) fun cdv A' outer s H Ew He F0 v0 W hr tk hp hc => ?_
  exact sb_one (ss_ret (EV.o (ev_and rfl (EO.v (eo_isi rfl rfl T.z_isinstance bb_isinstance rfl T.z_int bb_int (ev_var (pv 0)))) (ev_one (EO.v (eo_not rfl (EO.v (eo_isi rfl rfl T.z_isinstance bb_isinstance rfl T.z_bool bb_bool (ev_var (pv 0))))))))))
theorem ok_law (T : Txt K mg A) : FnOk P w K mg base (L2.CX P w) 4 A.a_law A.fd_law ["_law_script"] (spD (kx K A) (ec A) 1 d_law) := by
  refine fn_ok 3 1 13 (kx K A) (ec A) rfl rfl T.f_law sc_law (b := b_law) fun cdv A' outer s H Ew He F0 v0 W hr tk hp hc => ?_
  exact sb_cons (ss_asg sc_law.nd rfl (by first | exact .inl rfl | exact .inr rfl) (fun z => nomatch z) (eo_call (ok__law_words T) tk (hr.mono (by decide)) rfl T.m__law_words T.f__law_words.kp T.i__law_words (ea_v (ev_var (pv 0)) (ea_nil)))) (sb_cons (ss_asg sc_law.nd rfl (by first | exact .inl rfl | exact .inr rfl) (fun z => nomatch z) (eo_mod (EO.v (eo_B call_abs says_abs rfl T.z_abs bb_abs (ea_v (EO.v (eo_call (ok__law_cell T) tk (hr.mono (by decide)) rfl T.m__law_cell T.f__law_cell.kp T.i__law_cell (ea_v (ev_var (pv 0)) (ea_o (eo_int) (ea_nil))))) (ea_nil)))) (EO.v (eo_int)))) (sb_cons (ss_asg sc_law.nd rfl (by first | exact .inl rfl | exact .inr rfl) (fun z => nomatch z) (eo_add (EO.v (eo_int)) (EO.v (eo_mod (EO.v (eo_B call_abs says_abs rfl T.z_abs bb_abs (ea_v (EO.v (eo_call (ok__law_cell T) tk (hr.mono (by decide)) rfl T.m__law_cell T.f__law_cell.kp T.i__law_cell (ea_v (ev_var (pv 0)) (ea_o (eo_int) (ea_nil))))) (ea_nil)))) (EO.v (eo_int)))))) (sb_cons (ss_fz 1 (fun z => nomatch z) (ss_setLc (own := [("_law_word", 12)]) rfl sc_law.nd rfl rfl (fun z => nomatch z) rfl rfl rfl (by decide +kernel) (ei_w rfl (ev_var (pv 1))) (by first | (show blkC ["_law_script", "_law_words_here", "_law_space", "_law_width", "_law_given", "_law_found", "_law_seen", "_law_line", "_law_due_here", "_law_w", "_law_place", "_law_r", "_law_word"] (defScope s_law) _ _ = true; decide +kernel) | rfl | (with_unfolding_all rfl)) (fun _ _ _ _ _ => egw_name (by decide) sc_law.nd rfl (by first | exact .inl rfl | exact .inr rfl) (fun z => nomatch z)) (fun _ _ _ _ _ tk => ets_nil) (fun _ _ _ _ _ tk => eo_T call_list_of says_list rfl T.z_list bb_list (ea_v (ev_var (pv 12)) (ea_nil))) (fun _ _ z => nomatch z))) (sb_cons (ss_asg sc_law.nd rfl (by first | exact .inl rfl | exact .inr rfl) (fun z => nomatch z) (eo_call (ok_break_lines T) tk (hr.mono (by decide)) rfl T.m_break_lines T.f_break_lines.kp T.i_break_lines (ea_v (ev_var (pv 4)) (ea_v (ev_var (pv 2)) (ea_v (ev_var (pv 3)) (ea_nil)))))) (sb_cons (ss_if (EW.t (ew_or (et_not (et_tru rfl (EO.v (eo_isi rfl rfl T.z_isinstance bb_isinstance rfl T.z_list bb_list (ev_var (pv 5)))))) (ew_or (et_ne rfl hr.units (ev_var (pv 5)) (EO.v (eo_call (ok__law_due T) tk (hr.mono (by decide)) rfl T.m__law_due T.f__law_due.kp T.i__law_due (ea_v (ev_var (pv 1)) (ea_v (ev_var (pv 2)) (ea_v (ev_var (pv 3)) (ea_nil))))))) (ew_or1 (et_ne rfl hr.units (ev_var (pv 4)) (ev_var (pv 1))))))) (sb_one (ss_ret (eo_bl))) (sb_nil)) (sb_cons (ss_asg sc_law.nd rfl (by first | exact .inl rfl | exact .inr rfl) (fun z => nomatch z) (eo_lstM (em_nil))) (sb_cons (ss_fz 5 (fun z => nomatch z) (ss_for hp rfl (ei_w rfl (ev_var (pv 5))) (eg_name sc_law.nd rfl (by first | exact .inl rfl | exact .inr rfl) (fun z => nomatch z)) (b := lp_law_1) (sb_cons (ss_if (EW.t (ew_or (et_not (et_tru rfl (EO.v (eo_isi rfl rfl T.z_isinstance bb_isinstance rfl T.z_tuple bb_tuple (ev_var (pv 7)))))) (ew_or (et_ne rfl hr.units (EO.v (eo_B call_len says_len rfl T.z_len bb_len (ea_v (ev_var (pv 7)) (ea_nil)))) (EO.v (eo_int))) (ew_or (et_not (et_tru rfl (EO.v (eo_isi rfl rfl T.z_isinstance bb_isinstance rfl T.z_tuple bb_tuple (ev_ix rfl (ev_var (pv 7)) (EO.v (eo_int))))))) (ew_or1 (et_not (et_tru rfl (EO.v (eo_call (ok__law_integer T) tk (hr.mono (by decide)) rfl T.m__law_integer T.f__law_integer.kp T.i__law_integer (ea_v (ev_ix rfl (ev_var (pv 7)) (EO.v (eo_int))) (ea_nil))))))))))) (sb_one (ss_ret (eo_bl))) (sb_nil)) (sb_cons (ss_for hp rfl (ei_w rfl (ev_ix rfl (ev_var (pv 7)) (EO.v (eo_int)))) (eg_name sc_law.nd rfl (by first | exact .inl rfl | exact .inr rfl) (fun z => nomatch z)) (b := lp_law_2) (sb_one (ss_app (pv 6) (eo_tupM (em_v (ev_ix rfl (ev_var (pv 10)) (EO.v (eo_int))) (em_v (ev_ix rfl (ev_var (pv 10)) (EO.v (eo_int))) (em_nil))))))) (sb_one (ss_if (EW.t (ew_and (et_gt (ev_ix rfl (ev_var (pv 7)) (EO.v (eo_int))) (ev_var (pv 3))) (ew_and1 (et_gt (EO.v (eo_B call_len says_len rfl T.z_len bb_len (ea_v (EO.v (eo_lc (own := [("_law_place", 10)]) rfl sc_law.nd (ei_w rfl (ev_ix rfl (ev_var (pv 7)) (EO.v (eo_int)))) (by first | (show blkC ["_law_script", "_law_words_here", "_law_space", "_law_width", "_law_given", "_law_found", "_law_seen", "_law_line", "_law_due_here", "_law_w", "_law_place", "_law_r", "_law_word"] (defScope s_law) _ _ = true; decide +kernel) | rfl | (with_unfolding_all rfl)) (fun _ _ _ _ _ => egw_name (by decide) sc_law.nd rfl (by first | exact .inl rfl | exact .inr rfl) (fun z => nomatch z)) (fun _ _ _ _ _ tk => ets_one (et_gt (ev_ix rfl (ev_ix rfl (ev_var (pv 1)) (ev_ix rfl (ev_var (pv 10)) (EO.v (eo_int)))) (ev_ix rfl (ev_var (pv 10)) (EO.v (eo_int)))) (EO.v (eo_int)))) (fun _ _ _ _ _ tk => EV.o (ev_var (pv 10))) (fun _ _ z => nomatch z))) (ea_nil)))) (EO.v (eo_int)))))) (sb_one (ss_ret (eo_bl))) (sb_nil))))))) (sb_cons (ss_asg sc_law.nd rfl (by first | exact .inl rfl | exact .inr rfl) (fun z => nomatch z) (eo_lstM (em_nil))) (sb_cons (ss_for hp rfl (ei_rng1 rfl T.z_range (ea_v (EO.v (eo_B call_len says_len rfl T.z_len bb_len (ea_v (ev_var (pv 1)) (ea_nil)))) (ea_nil))) (eg_name sc_law.nd rfl (by first | exact .inl rfl | exact .inr rfl) (fun z => nomatch z)) (b := lp_law_3) (sb_one (ss_for hp rfl (ei_rng1 rfl T.z_range (ea_v (EO.v (eo_B call_len says_len rfl T.z_len bb_len (ea_v (ev_ix rfl (ev_var (pv 1)) (ev_var (pv 9))) (ea_nil)))) (ea_nil))) (eg_name sc_law.nd rfl (by first | exact .inl rfl | exact .inr rfl) (fun z => nomatch z)) (b := lp_law_4) (sb_one (ss_app (pv 8) (eo_tupM (em_v (ev_var (pv 9)) (em_v (ev_var (pv 11)) (em_nil))))))))) (sb_one (ss_ret (eo_eq rfl hr.units (ev_var (pv 6)) (ev_var (pv 8))))))))))))))
end
set_option maxRecDepth 100000
set_option maxHeartbeats 4000000
open PySem PySem.Spec PyProof.Rows L2 Dv
noncomputable section
/-! ## lines and places, plainly -/
structure Pl where
  w : Nat
  r : Nat
  e : Int
def plD (p : Pl) : D := .tup [.int (p.w : Int), .int (p.r : Int), .int p.e]
structure Ln where
  ps : List Pl
  e : Int
def lnD (l : Ln) : D := .tup [.tup (l.ps.map plD), .int l.e]
structure S where
  ls : List Ln
  ps : List Pl
  e : Int
def S.close (s : S) : S := ⟨if s.ps.length = 0 then s.ls else s.ls ++ [⟨s.ps, s.e⟩], [], 0⟩
def S.begin (wd sp t : Int) (s : S) : S := if s.ps.length = 0 then s else if wd < s.e + sp + t then s.close else ⟨s.ls, s.ps, s.e + sp⟩
def S.app (w r : Nat) (a : Int) (s : S) : S := ⟨s.ls, s.ps ++ [⟨w, r, s.e⟩], s.e + a⟩
def S.put (wd : Int) (w r : Nat) (a : Int) (s : S) : S := (if 0 < s.ps.length ∧ wd < s.e + a then s.close else s).app w r a
def rowN (wd : Int) (w : Nat) (row : List Int) (s : S) : Nat → S
  | 0 => s
  | j + 1 => (rowN wd w row s j).put wd w j (row.getD j 0)
def allN (wd sp : Int) (ws : List (List Int)) : Nat → S
  | 0 => ⟨[], [], 0⟩
  | w + 1 => rowN wd w (ws.getD w []) ((allN wd sp ws w).begin wd sp (ws.getD w []).sum) (ws.getD w []).length
theorem pl_pure : ∀ ps : List Pl, D.pureL (ps.map plD) = true
  | [] => rfl
  | p :: ps => by rw [List.map_cons, pureL_cons, pl_pure ps]; rfl
/-- bounds -/
structure Bd (n : Nat) (s : S) : Prop where
  l : s.ls.length ≤ n
  p : s.ps.length ≤ n
  lo : 0 ≤ s.e
  hi : s.e ≤ 80 * n
theorem Bd.mono {n m : Nat} {s : S} (b : Bd n s) (h : n ≤ m) : Bd m s := ⟨by have := b.l; omega, by have := b.p; omega, b.lo, by have := b.hi; omega⟩
theorem Bd.close {n : Nat} {s : S} (b : Bd n s) : Bd (n + 1) s.close := by
  refine ⟨?_, Nat.zero_le _, Int.le_refl _, by show (0 : Int) ≤ _; omega⟩
  have := b.l
  unfold S.close
  split <;> simp <;> omega
theorem Bd.begin {n : Nat} {s : S} (b : Bd n s) {wd sp t : Int} (h0 : 0 ≤ sp) (h1 : sp ≤ 10) : Bd (n + 1) (s.begin wd sp t) := by
  unfold S.begin
  split
  · exact b.mono (Nat.le_succ n)
  · split
    · exact b.close
    · exact ⟨by have := b.l; show s.ls.length ≤ _; omega, by have := b.p; show s.ps.length ≤ _; omega, by have := b.lo; show 0 ≤ s.e + sp; omega, by have := b.hi; show s.e + sp ≤ _; omega⟩
theorem Bd.app {n : Nat} {s : S} (b : Bd n s) {w r : Nat} {a : Int} (h0 : 0 ≤ a) (h1 : a ≤ 70) : Bd (n + 1) (s.app w r a) :=
  ⟨by have := b.l; show s.ls.length ≤ _; omega, by have := b.p; show (s.ps ++ [_]).length ≤ _; rw [List.length_append, List.length_singleton]; omega, by have := b.lo; show 0 ≤ s.e + a; omega, by have := b.hi; show s.e + a ≤ _; omega⟩
theorem Bd.put {n : Nat} {s : S} (b : Bd n s) {wd : Int} {w r : Nat} {a : Int} (h0 : 0 ≤ a) (h1 : a ≤ 70) : Bd (n + 2) (s.put wd w r a) := by
  unfold S.put
  split
  · exact b.close.app h0 h1
  · exact (b.mono (Nat.le_succ n)).app h0 h1
/-- words as the law draws them -/
structure WsOk (ws : List (List Int)) : Prop where
  n : ws.length ≤ 10
  l : ∀ row ∈ ws, row.length ≤ 8
  a : ∀ row ∈ ws, ∀ a ∈ row, 0 ≤ a ∧ a ≤ 70
theorem Bd.row {n : Nat} {s : S} (b : Bd n s) {wd : Int} {w : Nat} {row : List Int} (h : ∀ a ∈ row, 0 ≤ a ∧ a ≤ 70) : ∀ j, j ≤ row.length → Bd (n + 2 * j) (rowN wd w row s j)
  | 0, _ => b
  | j + 1, hj => by
    have e : row.getD j 0 = row[j] := by rw [List.getD_eq_getElem?_getD, List.getElem?_eq_getElem (by omega)]; rfl
    have := h row[j] (List.getElem_mem _)
    exact ((Bd.row b h j (by omega)).put (by omega) (by omega)).mono (by omega)
theorem Bd.all {ws : List (List Int)} (hw : WsOk ws) {wd sp : Int} (h0 : 0 ≤ sp) (h1 : sp ≤ 10) : ∀ w, w ≤ ws.length → Bd (17 * w) (allN wd sp ws w)
  | 0, _ => ⟨Nat.le_refl _, Nat.le_refl _, Int.le_refl _, by show (0 : Int) ≤ _; omega⟩
  | w + 1, h => by
    have e : ws.getD w [] = ws[w] := by rw [List.getD_eq_getElem?_getD, List.getElem?_eq_getElem (by omega)]; rfl
    have hm : ws[w] ∈ ws := List.getElem_mem _
    have hl := hw.l _ hm
    have q := (Bd.row ((Bd.all hw (wd := wd) h0 h1 w (by omega)).begin (wd := wd) (t := (ws[w]).sum) h0 h1) (wd := wd) (w := w) (hw.a _ hm) _ (Nat.le_refl _)).mono (m := 17 * (w + 1)) (by omega)
    rw [← e] at q
    exact q
/-! ## the class -/
def ob (wd : Int) (s : S) : D := .ins 0 ["width", "lines", "places", "end"] [.int wd, .lst true (s.ls.map lnD), .lst true (s.ps.map plD), .int s.e]
theorem ix_w : fIx ["width", "lines", "places", "end"] "width" = some 0 := by decide +kernel
theorem ix_l : fIx ["width", "lines", "places", "end"] "lines" = some 1 := by decide +kernel
theorem ix_p : fIx ["width", "lines", "places", "end"] "places" = some 2 := by decide +kernel
theorem ix_e : fIx ["width", "lines", "places", "end"] "end" = some 3 := by decide +kernel
theorem ix_0 : fIx [] "width" = none := by decide +kernel
theorem ix_1 : fIx ["width"] "lines" = none := by decide +kernel
theorem ix_2 : fIx ["width", "lines"] "places" = none := by decide +kernel
theorem ix_3 : fIx ["width", "lines", "places"] "end" = none := by decide +kernel
theorem ix_c : fIx ["width", "lines", "places", "end"] "close" = none := by decide +kernel
theorem ix_b : fIx ["width", "lines", "places", "end"] "begin_word" = none := by decide +kernel
theorem ix_t : fIx ["width", "lines", "places", "end"] "put" = none := by decide +kernel
theorem close_core (wd e : Int) (L P : List D) (hL : L.length < 16777216) (hP : P.length < 16777216) (pP : D.pureL P = true) (we : W62 e) (wp : W64 (P.length : Int)) :
    d_Lines_close [.ins 0 ["width", "lines", "places", "end"] [.int wd, .lst true L, .lst true P, .int e]] = .ok .non [some (.ins 0 ["width", "lines", "places", "end"] [.int wd, .lst true (if P.length = 0 then L else L ++ [.tup [.tup P, .int e]]), .lst true [], .int 0])] := by
  by_cases h : P.length = 0
  · have h' : P = [] := List.length_eq_zero_iff.mp h
    subst h'
    simp [d_Lines_close, b_Lines_close, fnX, sFldS_eq, sFldA_eq, gFld, ix_w, ix_l, ix_p, ix_e]
  · have h2 : 0 < P.length := by omega
    simp [d_Lines_close, b_Lines_close, fnX, sFldS_eq, sFldA_eq, gFld, ix_w, ix_l, ix_p, ix_e, h, h2, hL, pP]
theorem begin_core (wd e sp : Int) (row : List Int) (L P : List D) (hL : L.length < 16777216) (hP : P.length < 16777216) (pP : D.pureL P = true) (we : W62 e) (wp : W64 (P.length : Int)) (w1 : W64 (e + sp)) (w2 : W64 (e + sp + row.sum)) (hs : gSum [.lst false (dInts row)] = some (.int row.sum)) :
    d_Lines_begin_word [.ins 0 ["width", "lines", "places", "end"] [.int wd, .lst true L, .lst true P, .int e], .lst false (dInts row), .int sp] = .ok .non [some (if P.length = 0 then .ins 0 ["width", "lines", "places", "end"] [.int wd, .lst true L, .lst true P, .int e] else if wd < e + sp + row.sum then .ins 0 ["width", "lines", "places", "end"] [.int wd, .lst true (L ++ [.tup [.tup P, .int e]]), .lst true [], .int 0] else .ins 0 ["width", "lines", "places", "end"] [.int wd, .lst true L, .lst true P, .int (e + sp)]), none, none] := by
  have c := close_core wd e L P hL hP pP we wp
  by_cases h : P.length = 0
  · have h' : P = [] := List.length_eq_zero_iff.mp h
    subst h'
    simp [d_Lines_begin_word, b_Lines_begin_word, fnX, gFld, ix_p]
  · have h2 : 0 < P.length := by omega
    rw [if_neg h] at c
    by_cases hq : wd < e + sp + row.sum
    · simp [d_Lines_begin_word, b_Lines_begin_word, fnX, sFldS_eq, xMeth_eq, gFld, ix_w, ix_p, ix_e, ix_c, h, h2, hq, w1, w2, -gSum_one, hs, c]
    · simp [d_Lines_begin_word, b_Lines_begin_word, fnX, sFldS_eq, xMeth_eq, gFld, ix_w, ix_p, ix_e, ix_c, h, h2, hq, w1, w2, -gSum_one, hs]
theorem put_core (wd e a : Int) (w r : Int) (L P : List D) (hL : L.length < 16777216) (hP : P.length < 16777215) (pP : D.pureL P = true) (we : W62 e) (wp : W64 (P.length : Int)) (w1 : W64 (e + a)) (w0 : W64 a) :
    d_Lines_put [.ins 0 ["width", "lines", "places", "end"] [.int wd, .lst true L, .lst true P, .int e], .int w, .int r, .int a] = .ok .non [some (if 0 < P.length ∧ wd < e + a then .ins 0 ["width", "lines", "places", "end"] [.int wd, .lst true (L ++ [.tup [.tup P, .int e]]), .lst true [.tup [.int w, .int r, .int 0]], .int a] else .ins 0 ["width", "lines", "places", "end"] [.int wd, .lst true L, .lst true (P ++ [.tup [.int w, .int r, .int e]]), .int (e + a)]), none, none, none] := by
  have c := close_core wd e L P hL (by omega) pP we wp
  have hP' : P.length < 16777216 := by omega
  by_cases h : P.length = 0
  · have h' : P = [] := List.length_eq_zero_iff.mp h
    subst h'
    simp [d_Lines_put, b_Lines_put, fnX, gFld, sFldS_eq, sFldA_eq, ix_w, ix_p, ix_e, w1]
  · have h2 : 0 < P.length := by omega
    rw [if_neg h] at c
    by_cases hq : wd < e + a
    · simp [d_Lines_put, b_Lines_put, fnX, sFldS_eq, sFldA_eq, xMeth_eq, gFld, ix_w, ix_p, ix_e, ix_c, h, h2, hq, w1, w0, hP', c]
    · simp [d_Lines_put, b_Lines_put, fnX, sFldS_eq, sFldA_eq, xMeth_eq, gFld, ix_w, ix_p, ix_e, ix_c, h, h2, hq, w1, w0, hP']
theorem init_core (wd : Int) : d_Lines___init__ [.ins 0 [] [], .int wd] = .ok .non [some (.ins 0 ["width", "lines", "places", "end"] [.int wd, .lst true [], .lst true [], .int 0]), none] := by
  simp [d_Lines___init__, b_Lines___init__, fnX, sFldS_eq, ix_0, ix_1, ix_2, ix_3]

end
set_option maxRecDepth 100000
set_option maxHeartbeats 4000000
open PySem PySem.Spec PyProof.Rows L2 Dv
noncomputable section
theorem put_ob (wd : Int) (w r : Nat) (a : Int) (s : S) : ob wd (s.put wd w r a) = if 0 < s.ps.length ∧ wd < s.e + a then .ins 0 ["width", "lines", "places", "end"] [.int wd, .lst true (s.ls.map lnD ++ [.tup [.tup (s.ps.map plD), .int s.e]]), .lst true [.tup [.int (w : Int), .int (r : Int), .int 0]], .int a] else .ins 0 ["width", "lines", "places", "end"] [.int wd, .lst true (s.ls.map lnD), .lst true (s.ps.map plD ++ [.tup [.int (w : Int), .int (r : Int), .int s.e]]), .int (s.e + a)] := by
  unfold S.put
  by_cases h : 0 < s.ps.length ∧ wd < s.e + a
  · have h0 : ¬ s.ps.length = 0 := by omega
    rw [if_pos h, if_pos h]
    unfold S.close
    rw [if_neg h0]
    simp [ob, S.app, lnD, plD]
  · rw [if_neg h, if_neg h]
    simp [ob, S.app, plD]
theorem m_put (wd : Int) (w r : Nat) (a : Int) (s : S) {n : Nat} (b : Bd n s) (hn : n ≤ 1000) (h0 : 0 ≤ a) (h1 : a ≤ 70) : d_Lines_put [ob wd s, .int (w : Int), .int (r : Int), .int a] = .ok .non [some (ob wd (s.put wd w r a)), none, none, none] := by
  have b1 := b.l
  have b2 := b.p
  have b3 := b.lo
  have b4 := b.hi
  rw [put_ob]
  have c := put_core wd s.e a w r (s.ls.map lnD) (s.ps.map plD) (by rw [List.length_map]; omega) (by rw [List.length_map]; omega) (pl_pure _) (w62 (by omega) (by omega)) (w64 (by omega) (by rw [List.length_map]; omega)) (w64 (by omega) (by omega)) (w64 (by omega) (by omega))
  rw [List.length_map] at c
  exact c
theorem begin_ob (wd sp t : Int) (s : S) : ob wd (s.begin wd sp t) = if s.ps.length = 0 then .ins 0 ["width", "lines", "places", "end"] [.int wd, .lst true (s.ls.map lnD), .lst true (s.ps.map plD), .int s.e] else if wd < s.e + sp + t then .ins 0 ["width", "lines", "places", "end"] [.int wd, .lst true (s.ls.map lnD ++ [.tup [.tup (s.ps.map plD), .int s.e]]), .lst true [], .int 0] else .ins 0 ["width", "lines", "places", "end"] [.int wd, .lst true (s.ls.map lnD), .lst true (s.ps.map plD), .int (s.e + sp)] := by
  unfold S.begin
  by_cases h : s.ps.length = 0
  · rw [if_pos h, if_pos h]; rfl
  · rw [if_neg h, if_neg h]
    by_cases hq : wd < s.e + sp + t
    · rw [if_pos hq, if_pos hq]
      unfold S.close
      rw [if_neg h]
      simp [ob, lnD]
    · rw [if_neg hq, if_neg hq]; rfl
theorem sum_bd : ∀ {row : List Int}, (∀ a ∈ row, 0 ≤ a ∧ a ≤ 70) → 0 ≤ row.sum ∧ row.sum ≤ 70 * row.length
  | [], _ => ⟨Int.le_refl _, Int.le_refl _⟩
  | a :: row, h => by
    have h1 := h a List.mem_cons_self
    have h2 := sum_bd fun x hx => h x (List.mem_cons_of_mem _ hx)
    rw [List.sum_cons, List.length_cons]
    omega
theorem gsum_row (row : List Int) : gSum [.lst false (dInts row)] = some (.int row.sum) := by
  rw [gSum_one, lInts_lst]
  simp
theorem m_begin (wd sp : Int) (row : List Int) (s : S) {n : Nat} (b : Bd n s) (hn : n ≤ 1000) (h0 : 0 ≤ sp) (h1 : sp ≤ 10) (hr : ∀ a ∈ row, 0 ≤ a ∧ a ≤ 70) (hl : row.length ≤ 8) : d_Lines_begin_word [ob wd s, .lst false (dInts row), .int sp] = .ok .non [some (ob wd (s.begin wd sp row.sum)), none, none] := by
  have b1 := b.l
  have b2 := b.p
  have b3 := b.lo
  have b4 := b.hi
  have hs := sum_bd hr
  rw [begin_ob]
  have c := begin_core wd s.e sp row (s.ls.map lnD) (s.ps.map plD) (by rw [List.length_map]; omega) (by rw [List.length_map]; omega) (pl_pure _) (w62 (by omega) (by omega)) (w64 (by omega) (by rw [List.length_map]; omega)) (w64 (by omega) (by omega)) (w64 (by omega) (by omega)) (gsum_row row)
  rw [List.length_map] at c
  exact c
theorem close_ob (wd : Int) (s : S) : ob wd s.close = .ins 0 ["width", "lines", "places", "end"] [.int wd, .lst true (if s.ps.length = 0 then s.ls.map lnD else s.ls.map lnD ++ [.tup [.tup (s.ps.map plD), .int s.e]]), .lst true [], .int 0] := by
  unfold S.close
  by_cases h : s.ps.length = 0
  · simp [ob, h]
  · simp [ob, h, lnD]
theorem m_close (wd : Int) (s : S) {n : Nat} (b : Bd n s) (hn : n ≤ 1000) : d_Lines_close [ob wd s] = .ok .non [some (ob wd s.close)] := by
  have b1 := b.l
  have b2 := b.p
  have b3 := b.lo
  have b4 := b.hi
  rw [close_ob]
  have c := close_core wd s.e (s.ls.map lnD) (s.ps.map plD) (by rw [List.length_map]; omega) (by rw [List.length_map]; omega) (pl_pure _) (w62 (by omega) (by omega)) (w64 (by omega) (by rw [List.length_map]; omega))
  rw [List.length_map] at c
  exact c
/-! ## break_lines -/
theorem ob_ins (wd : Int) (s : S) : ∃ xs, ob wd s = .ins 0 ["width", "lines", "places", "end"] xs := ⟨_, rfl⟩
theorem bl2 (x0 x1 x2 : Option D) (o o' : D) (xs : List D) (eo : o = .ins 0 ["width", "lines", "places", "end"] xs) (w r a : Int) (row : Option D) (hc : d_Lines_put [o, .int w, .int r, .int a] = .ok .non [some o', none, none, none]) :
    lp_break_lines_2 [x0, x1, x2, some o, some (.int w), row, some (.int r), some (.int a)] = .nx [x0, x1, x2, some o', some (.int w), row, some (.int r), some (.int a)] := by
  subst eo
  simp [lp_break_lines_2, xMeth_eq, ix_t, hc]
theorem bl1 (x0 x2 : Option D) (sp : Int) (o o' o2 : D) (xs : List D) (eo : o = .ins 0 ["width", "lines", "places", "end"] xs) (w : Int) (row : List Int) (y6 y7 z6 z7 : Option D) (hc : d_Lines_begin_word [o, .lst false (dInts row), .int sp] = .ok .non [some o', none, none])
    (hf : forL (gTp (gsCons (gNm 6) (gsCons (gNm 7) (gsNil)))) lp_break_lines_2 (enumD 0 (dInts row)) [x0, some (.int sp), x2, some o', some (.int w), some (.lst false (dInts row)), y6, y7] = .nx [x0, some (.int sp), x2, some o2, some (.int w), some (.lst false (dInts row)), z6, z7]) :
    lp_break_lines_1 [x0, some (.int sp), x2, some o, some (.int w), some (.lst false (dInts row)), y6, y7] = .nx [x0, some (.int sp), x2, some o2, some (.int w), some (.lst false (dInts row)), z6, z7] := by
  subst eo
  simp [lp_break_lines_1, xMeth_eq, ix_b, hc, hf]
/-- the words as they are walked -/
def frD (ws : List (List Int)) : List D := ws.map fun row => .lst false (dInts row)
theorem bl0 (W : List D) (sp wd : Int) (o1 o2 : D) (xs : List D) (L : List D) (y4 y5 y6 y7 : Option D) (e1 : o1 = .ins 0 ["width", "lines", "places", "end"] xs) (pW : D.pureL W = true)
    (hf : forL (gTp (gsCons (gNm 4) (gsCons (gNm 5) (gsNil)))) lp_break_lines_1 (enumD 0 W) [some (.lst false W), some (.int sp), some (.int wd), some (.ins 0 ["width", "lines", "places", "end"] [.int wd, .lst true [], .lst true [], .int 0]), none, none, none, none] = .nx [some (.lst false W), some (.int sp), some (.int wd), some o1, y4, y5, y6, y7])
    (hc : d_Lines_close [o1] = .ok .non [some o2]) (e2 : gFld 0 "lines" o2 = some (.lst true L)) :
    d_break_lines [.lst false W, .int sp, .int wd] = .ok (.lst true L) := by
  subst e1
  simp [d_break_lines, b_break_lines, fnD, eMake_eq, sRetF_eq, xMeth_eq, ix_c, init_core, hf, hc, e2, pW]

end
set_option maxRecDepth 100000
set_option maxHeartbeats 4000000
open PySem PySem.Spec PyProof.Rows L2 Dv
noncomputable section
theorem getD_int {row : List Int} {j : Nat} (h : j < row.length) : row.getD j 0 = row[j] := by rw [List.getD_eq_getElem?_getD, List.getElem?_eq_getElem h]; rfl
theorem getD_row {ws : List (List Int)} {j : Nat} (h : j < ws.length) : ws.getD j [] = ws[j] := by rw [List.getD_eq_getElem?_getD, List.getElem?_eq_getElem h]; rfl
theorem bl2_loop (x0 x1 x2 x5 z6 z7 : Option D) (wd : Int) (w : Nat) (row : List Int) (s : S) {n : Nat} (b : Bd n s) (hn : n ≤ 500) (hr : ∀ a ∈ row, 0 ≤ a ∧ a ≤ 70) (hl : row.length ≤ 8) :
    ∃ y6 y7, forL (gTp (gsCons (gNm 6) (gsCons (gNm 7) (gsNil)))) lp_break_lines_2 (enumD 0 (dInts row)) [x0, x1, x2, some (ob wd s), some (.int (w : Int)), x5, z6, z7] = .nx [x0, x1, x2, some (ob wd (rowN wd w row s row.length)), some (.int (w : Int)), x5, y6, y7] := by
  obtain ⟨ρ', e, y6, y7, rfl⟩ := forL_inv (g := gTp (gsCons (gNm 6) (gsCons (gNm 7) (gsNil)))) (b := lp_break_lines_2) (fun i ρ => ∃ y6 y7, ρ = [x0, x1, x2, some (ob wd (rowN wd w row s i)), some (.int (w : Int)), x5, y6, y7])
    (enumD 0 (dInts row)) 0 [x0, x1, x2, some (ob wd s), some (.int (w : Int)), x5, z6, z7] (fun j d ρ ed H => by
      obtain ⟨y6, y7, rfl⟩ := H
      rw [enumD_get, dInts_get] at ed
      rw [Nat.zero_add] at ed ⊢
      by_cases hj : j < row.length
      · rw [List.getElem?_eq_getElem hj] at ed
        cases ed
        have ha := hr row[j] (List.getElem_mem _)
        have c := m_put wd w j row[j] (rowN wd w row s j) (b.row hr j (by omega)) (by omega) ha.1 ha.2
        refine ⟨_, _, rfl, .inl (bl2 x0 x1 x2 _ _ _ rfl (w : Int) (j : Int) row[j] x5 c), some (.int (j : Int)), some (.int row[j]), ?_⟩
        show _ = [x0, x1, x2, some (ob wd ((rowN wd w row s j).put wd w j (row.getD j 0))), _, _, _, _]
        rw [getD_int hj]
      · rw [List.getElem?_eq_none (by omega)] at ed
        cases ed) ⟨z6, z7, rfl⟩
  rw [enumD_len, dInts_len, Nat.zero_add] at e
  exact ⟨y6, y7, e⟩
theorem frD_pure : ∀ ws : List (List Int), D.pureL (frD ws) = true
  | [] => rfl
  | w :: ws => by
    show D.pureL (.lst false (dInts w) :: frD ws) = true
    rw [pureL_cons, frD_pure ws]
    simp
theorem bl1_loop (x0 : Option D) (wd sp : Int) (ws : List (List Int)) (hw : WsOk ws) (h0 : 0 ≤ sp) (h1 : sp ≤ 10) :
    ∃ y4 y5 y6 y7, forL (gTp (gsCons (gNm 4) (gsCons (gNm 5) (gsNil)))) lp_break_lines_1 (enumD 0 (frD ws)) [x0, some (.int sp), some (.int wd), some (ob wd ⟨[], [], 0⟩), none, none, none, none] = .nx [x0, some (.int sp), some (.int wd), some (ob wd (allN wd sp ws ws.length)), y4, y5, y6, y7] := by
  obtain ⟨ρ', e, y4, y5, y6, y7, rfl⟩ := forL_inv (g := gTp (gsCons (gNm 4) (gsCons (gNm 5) (gsNil)))) (b := lp_break_lines_1) (fun i ρ => ∃ y4 y5 y6 y7, ρ = [x0, some (.int sp), some (.int wd), some (ob wd (allN wd sp ws i)), y4, y5, y6, y7])
    (enumD 0 (frD ws)) 0 [x0, some (.int sp), some (.int wd), some (ob wd ⟨[], [], 0⟩), none, none, none, none] (fun j d ρ ed H => by
      obtain ⟨y4, y5, y6, y7, rfl⟩ := H
      rw [enumD_get] at ed
      unfold frD at ed
      rw [List.getElem?_map] at ed
      rw [Nat.zero_add] at ed ⊢
      by_cases hj : j < ws.length
      · rw [List.getElem?_eq_getElem hj] at ed
        cases ed
        have hm : ws[j] ∈ ws := List.getElem_mem _
        have hn := hw.n
        have ha := Bd.all hw (wd := wd) h0 h1 j (by omega)
        have c := m_begin wd sp ws[j] (allN wd sp ws j) ha (by omega) h0 h1 (hw.a _ hm) (hw.l _ hm)
        obtain ⟨z6, z7, f⟩ := bl2_loop x0 (some (.int sp)) (some (.int wd)) (some (.lst false (dInts ws[j]))) y6 y7 wd j ws[j] _ (ha.begin (wd := wd) (t := ws[j].sum) h0 h1) (by omega) (hw.a _ hm) (hw.l _ hm)
        refine ⟨_, _, rfl, .inl (bl1 x0 (some (.int wd)) sp _ _ _ _ rfl (j : Int) ws[j] y6 y7 z6 z7 c f), some (.int (j : Int)), some (.lst false (dInts ws[j])), z6, z7, ?_⟩
        show _ = [x0, _, _, some (ob wd (rowN wd j (ws.getD j []) ((allN wd sp ws j).begin wd sp (ws.getD j []).sum) (ws.getD j []).length)), _, _, _, _]
        rw [getD_row hj]
      · rw [List.getElem?_eq_none (by omega)] at ed
        cases ed) ⟨none, none, none, none, rfl⟩
  rw [enumD_len, Nat.zero_add] at e
  unfold frD at e ⊢
  rw [List.length_map] at e
  exact ⟨y4, y5, y6, y7, e⟩
/-- the lines -/
def lines (wd sp : Int) (ws : List (List Int)) : List Ln := (allN wd sp ws ws.length).close.ls
theorem m_break (wd sp : Int) (ws : List (List Int)) (hw : WsOk ws) (h0 : 0 ≤ sp) (h1 : sp ≤ 10) : d_break_lines [.lst false (frD ws), .int sp, .int wd] = .ok (.lst true ((lines wd sp ws).map lnD)) := by
  obtain ⟨y4, y5, y6, y7, f⟩ := bl1_loop (some (.lst false (frD ws))) wd sp ws hw h0 h1
  have hn := hw.n
  have c := m_close wd _ (Bd.all hw (wd := wd) h0 h1 ws.length (Nat.le_refl _)) (by omega)
  exact bl0 (frD ws) sp wd _ _ _ _ y4 y5 y6 y7 rfl (frD_pure ws) f c (by simp [ob, gFld, ix_l, lines])

end
set_option maxRecDepth 100000
set_option maxHeartbeats 4000000
open PySem PySem.Spec PyProof.Rows L2 Dv
noncomputable section
theorem ld2 (W P L : List D) (sp wd e a : Int) (row : List Int) (w r : Nat) (x7 : Option D) (hw : w < W.length) (ew : W[w] = .lst false (dInts row)) (hr : r < row.length) (er : row[r] = a) (hL : L.length < 16777216) (hP : P.length < 16777215) (pP : D.pureL P = true) (w1 : W64 (e + a)) (w0 : W64 a) :
    lp__law_due_2 [some (.lst false W), some (.int sp), some (.int wd), some (.lst true L), some (.lst true P), some (.int e), some (.int (w : Int)), x7, some (.int (r : Int))] =
      .nx (if 0 < P.length ∧ wd < e + a then [some (.lst false W), some (.int sp), some (.int wd), some (.lst true (L ++ [.tup [.tup P, .int e]])), some (.lst true [.tup [.int (w : Int), .int (r : Int), .int 0]]), some (.int a), some (.int (w : Int)), x7, some (.int (r : Int))]
        else [some (.lst false W), some (.int sp), some (.int wd), some (.lst true L), some (.lst true (P ++ [.tup [.int (w : Int), .int (r : Int), .int e]])), some (.int (e + a)), some (.int (w : Int)), x7, some (.int (r : Int))]) := by
  have hP' : P.length < 16777216 := by omega
  have hP2 : P.length ≤ 16777216 := by omega
  by_cases h : P.length = 0
  · have h' : P = [] := List.length_eq_zero_iff.mp h
    subst h'
    simp [lp__law_due_2, ixD_nat, hw, ew, hr, er, w1, onL]
  · have h2 : 0 < P.length := by omega
    by_cases hq : wd < e + a
    · simp [lp__law_due_2, ixD_nat, hw, ew, hr, er, w1, w0, onL, h, h2, hq, hL, hP', pP]
    · simp [lp__law_due_2, ixD_nat, hw, ew, hr, er, w1, w0, onL, h, h2, hq, hL, hP', pP]

end
set_option maxRecDepth 100000
set_option maxHeartbeats 4000000
open PySem PySem.Spec PyProof.Rows L2 Dv
noncomputable section
def cell (ns : List Int) (k : Nat) : Int := ns.getD k 0
theorem m_cell (ns : List Int) (k : Nat) : d__law_cell [.scr (dInts ns), .int k] = .ok (.int (cell ns k)) := by
  by_cases h : k < ns.length
  · simp [d__law_cell, b__law_cell, fnD, cell, h, ixD_nat]
  · simp [d__law_cell, b__law_cell, fnD, cell, h, ixD_nat]
theorem m_cellI (ns : List Int) (i : Int) (h : 0 ≤ i) : d__law_cell [.scr (dInts ns), .int i] = .ok (.int (cell ns i.toNat)) := by
  obtain ⟨k, rfl⟩ := Int.eq_ofNat_of_zero_le h
  exact m_cell ns k
/-- abs -/
def iabs (c : Int) : Int := if c < 0 then -c else c
theorem iabs_nn (c : Int) : 0 ≤ iabs c := by unfold iabs; split <;> omega
theorem iabs_eq (c : Int) : (if c < 0 then -c else c) = iabs c := rfl
theorem ixN_lt {n : Nat} {k : Nat} (h : k < n) : ixN n (k : Int) = some k := by
  unfold ixN
  rw [if_pos (by omega), if_pos (by omega), Int.toNat_natCast]
theorem for_rng {g : D → Dv.Env → Option Dv.Env} {b : Dv.Env → SR} (I : Nat → Dv.Env → Prop) (n : Nat) (ρ : Dv.Env) (hs : ∀ j ρ, j < n → I j ρ → ∃ ρ1 ρ2, g (.int (j : Int)) ρ = some ρ1 ∧ (b ρ1 = .nx ρ2 ∨ b ρ1 = .ct ρ2) ∧ I (j + 1) ρ2) (h0 : I 0 ρ) :
    ∃ ρ', forL g b (rngL 0 n) ρ = .nx ρ' ∧ I n ρ' := by
  obtain ⟨ρ', e, h⟩ := forL_inv (g := g) (b := b) I (rngL 0 n) 0 ρ (fun j d ρ ed h => by
    have hj : j < n := by have := (List.getElem?_eq_some_iff.mp ed).1; rwa [rngL_len] at this
    have ed' : d = .int (j : Int) := by
      unfold rngL at ed
      rw [List.getElem?_map, List.getElem?_range hj] at ed
      simpa using ed.symm
    subst ed'
    rw [Nat.zero_add] at h ⊢
    exact hs j ρ hj h) h0
  rw [rngL_len, Nat.zero_add] at h
  exact ⟨ρ', e, h⟩
/-- over a list of ints -/
theorem for_ints {g : D → Dv.Env → Option Dv.Env} {b : Dv.Env → SR} (I : Nat → Dv.Env → Prop) (xs : List Int) (ρ : Dv.Env) (hs : ∀ j x ρ, xs[j]? = some x → I j ρ → ∃ ρ1 ρ2, g (.int x) ρ = some ρ1 ∧ (b ρ1 = .nx ρ2 ∨ b ρ1 = .ct ρ2) ∧ I (j + 1) ρ2) (h0 : I 0 ρ) :
    ∃ ρ', forL g b (dInts xs) ρ = .nx ρ' ∧ I xs.length ρ' := by
  obtain ⟨ρ', e, h⟩ := forL_inv (g := g) (b := b) I (dInts xs) 0 ρ (fun j d ρ ed h => by
    rw [dInts_get] at ed
    cases ex : xs[j]? with
    | none => rw [ex] at ed; cases ed
    | some x =>
      rw [ex] at ed
      cases ed
      rw [Nat.zero_add] at h ⊢
      exact hs j x ρ ex h) h0
  rw [dInts_len, Nat.zero_add] at h
  exact ⟨ρ', e, h⟩

theorem ld1 (W P L : List D) (sp wd e : Int) (row : List Int) (w : Nat) (x7 x8 : Option D) (ρ' : Dv.Env) (hw : w < W.length) (ew : W[w] = .lst false (dInts row)) (hL : L.length < 16777216) (hP : P.length < 16777215) (pP : D.pureL P = true) (w1 : W64 (e + sp)) (w2 : W64 (e + sp + row.sum)) (wr : W62 (row.length : Int)) (hs : gSum [.lst false (dInts row)] = some (.int row.sum))
    (hf : forL (gNm 8) lp__law_due_2 (rngL 0 row.length) (if P.length = 0 then [some (.lst false W), some (.int sp), some (.int wd), some (.lst true L), some (.lst true P), some (.int e), some (.int (w : Int)), some (.int row.sum), x8]
      else if wd < e + sp + row.sum then [some (.lst false W), some (.int sp), some (.int wd), some (.lst true (L ++ [.tup [.tup P, .int e]])), some (.lst true []), some (.int 0), some (.int (w : Int)), some (.int row.sum), x8]
      else [some (.lst false W), some (.int sp), some (.int wd), some (.lst true L), some (.lst true P), some (.int (e + sp)), some (.int (w : Int)), some (.int row.sum), x8]) = .nx ρ') :
    lp__law_due_1 [some (.lst false W), some (.int sp), some (.int wd), some (.lst true L), some (.lst true P), some (.int e), some (.int (w : Int)), x7, x8] = .nx ρ' := by
  have hP' : P.length < 16777216 := by omega
  have hP2 : P.length ≤ 16777216 := by omega
  by_cases h : P.length = 0
  · have h' : P = [] := List.length_eq_zero_iff.mp h
    subst h'
    rw [if_pos h] at hf
    simp [lp__law_due_1, ixD_nat, hw, ew, -gSum_one, hs, wr, hf]
  · have h2 : 0 < P.length := by omega
    rw [if_neg h] at hf
    by_cases hq : wd < e + sp + row.sum
    · rw [if_pos hq] at hf
      simp [lp__law_due_1, ixD_nat, hw, ew, -gSum_one, hs, wr, w1, w2, onL, h, h2, hq, hL, hP', pP, hf]
    · rw [if_neg hq] at hf
      simp [lp__law_due_1, ixD_nat, hw, ew, -gSum_one, hs, wr, w1, w2, onL, h, h2, hq, hL, hP', pP, hf]
/-- the law's slots -/
def lv (W : List D) (sp wd : Int) (s : S) (x6 x7 x8 : Option D) : Dv.Env := [some (.lst false W), some (.int sp), some (.int wd), some (.lst true (s.ls.map lnD)), some (.lst true (s.ps.map plD)), some (.int s.e), x6, x7, x8]
theorem ld2s (ws : List (List Int)) (sp wd : Int) (w r : Nat) (a : Int) (row : List Int) (s : S) (x7 : Option D) {n : Nat} (b : Bd n s) (hn : n ≤ 1000) (hw : w < ws.length) (ew : ws[w] = row) (hr : r < row.length) (er : row[r] = a) (h0 : 0 ≤ a) (h1 : a ≤ 70) :
    lp__law_due_2 (lv (frD ws) sp wd s (some (.int (w : Int))) x7 (some (.int (r : Int)))) = .nx (lv (frD ws) sp wd (s.put wd w r a) (some (.int (w : Int))) x7 (some (.int (r : Int)))) := by
  have b1 := b.l
  have b2 := b.p
  have b3 := b.lo
  have b4 := b.hi
  have c := ld2 (frD ws) (s.ps.map plD) (s.ls.map lnD) sp wd s.e a row w r x7 (by unfold frD; rw [List.length_map]; exact hw) (by unfold frD; rw [List.getElem_map, ew]) hr er (by rw [List.length_map]; omega) (by rw [List.length_map]; omega) (pl_pure _) (w64 (by omega) (by omega)) (w64 (by omega) (by omega))
  rw [List.length_map] at c
  unfold lv
  rw [c]
  unfold S.put
  by_cases h : 0 < s.ps.length ∧ wd < s.e + a
  · have h0 : ¬ s.ps.length = 0 := by omega
    rw [if_pos h, if_pos h]
    unfold S.close
    rw [if_neg h0]
    simp [S.app, lnD, plD]
  · rw [if_neg h, if_neg h]
    simp [S.app, plD]
theorem ld2_loop (ws : List (List Int)) (sp wd : Int) (w : Nat) (row : List Int) (s : S) (x7 x8 : Option D) {n : Nat} (b : Bd n s) (hn : n ≤ 500) (hw : w < ws.length) (ew : ws[w] = row) (hr : ∀ a ∈ row, 0 ≤ a ∧ a ≤ 70) (hl : row.length ≤ 8) :
    ∃ y8, forL (gNm 8) lp__law_due_2 (rngL 0 row.length) (lv (frD ws) sp wd s (some (.int (w : Int))) x7 x8) = .nx (lv (frD ws) sp wd (rowN wd w row s row.length) (some (.int (w : Int))) x7 y8) := by
  obtain ⟨ρ', e, y8, rfl⟩ := for_rng (g := gNm 8) (b := lp__law_due_2) (fun j ρ => ∃ y8, ρ = lv (frD ws) sp wd (rowN wd w row s j) (some (.int (w : Int))) x7 y8)
    row.length (lv (frD ws) sp wd s (some (.int (w : Int))) x7 x8) (fun j ρ hj H => by
      obtain ⟨y8, rfl⟩ := H
      have ha := hr row[j] (List.getElem_mem _)
      refine ⟨_, _, rfl, .inl (ld2s ws sp wd w j row[j] row _ x7 (b.row hr j (by omega)) (by omega) hw ew hj rfl ha.1 ha.2), some (.int (j : Int)), ?_⟩
      show _ = lv (frD ws) sp wd ((rowN wd w row s j).put wd w j (row.getD j 0)) _ _ _
      rw [getD_int hj]) ⟨x8, rfl⟩
  exact ⟨y8, e⟩
theorem ld1s (ws : List (List Int)) (hw : WsOk ws) (sp wd : Int) (h0 : 0 ≤ sp) (h1 : sp ≤ 10) (w : Nat) (hj : w < ws.length) (x7 x8 : Option D) :
    ∃ y7 y8, lp__law_due_1 (lv (frD ws) sp wd (allN wd sp ws w) (some (.int (w : Int))) x7 x8) = .nx (lv (frD ws) sp wd (allN wd sp ws (w + 1)) (some (.int (w : Int))) y7 y8) := by
  have hm : ws[w] ∈ ws := List.getElem_mem _
  have hn := hw.n
  have hl := hw.l _ hm
  have ha := hw.a _ hm
  have hs := sum_bd ha
  have b := Bd.all hw (wd := wd) h0 h1 w (by omega)
  have b' := b.begin (wd := wd) (t := ws[w].sum) h0 h1
  obtain ⟨y8, f⟩ := ld2_loop ws sp wd w ws[w] _ (some (.int ws[w].sum)) x8 b' (by omega) hj rfl ha hl
  have e1 : allN wd sp ws (w + 1) = rowN wd w ws[w] ((allN wd sp ws w).begin wd sp ws[w].sum) ws[w].length := by
    show rowN wd w (ws.getD w []) ((allN wd sp ws w).begin wd sp (ws.getD w []).sum) (ws.getD w []).length = _
    rw [getD_row hj]
  rw [e1]
  generalize allN wd sp ws w = s at *
  have b1 := b.l
  have b2 := b.p
  have b3 := b.lo
  have b4 := b.hi
  refine ⟨some (.int ws[w].sum), y8, ld1 (frD ws) (s.ps.map plD) (s.ls.map lnD) sp wd s.e ws[w] w x7 x8 _ (by unfold frD; rw [List.length_map]; exact hj) (by unfold frD; rw [List.getElem_map]) (by rw [List.length_map]; omega) (by rw [List.length_map]; omega) (pl_pure _) (w64 (by omega) (by omega)) (w64 (by omega) (by omega)) (w62 (by omega) (by omega)) (gsum_row _) ?_⟩
  rw [← f, List.length_map]
  congr 1
  unfold S.begin
  by_cases h : s.ps.length = 0
  · rw [if_pos h, if_pos h]; rfl
  · rw [if_neg h, if_neg h]
    by_cases hq : wd < s.e + sp + ws[w].sum
    · rw [if_pos hq, if_pos hq]
      unfold S.close
      rw [if_neg h]
      simp [lv, lnD]
    · rw [if_neg hq, if_neg hq]; rfl
theorem ld0 (W P L : List D) (sp wd e : Int) (x6 x7 x8 : Option D) (wl : W62 (W.length : Int)) (hL : L.length < 16777216) (hP : P.length < 16777215) (pP : D.pureL P = true)
    (hf : forL (gNm 6) lp__law_due_1 (rngL 0 W.length) [some (.lst false W), some (.int sp), some (.int wd), some (.lst true []), some (.lst true []), some (.int 0), none, none, none] = .nx [some (.lst false W), some (.int sp), some (.int wd), some (.lst true L), some (.lst true P), some (.int e), x6, x7, x8]) :
    d__law_due [.lst false W, .int sp, .int wd] = .ok (.lst true (if P.length = 0 then L else L ++ [.tup [.tup P, .int e]])) := by
  have hP' : P.length < 16777216 := by omega
  have hP2 : P.length ≤ 16777216 := by omega
  by_cases h : P.length = 0
  · have h' : P = [] := List.length_eq_zero_iff.mp h
    subst h'
    simp [d__law_due, b__law_due, fnD, wl, hf]
  · have h2 : 0 < P.length := by omega
    simp [d__law_due, b__law_due, fnD, wl, hf, onL, h, h2, hL, hP', pP]
theorem m_due (wd sp : Int) (ws : List (List Int)) (hw : WsOk ws) (h0 : 0 ≤ sp) (h1 : sp ≤ 10) : d__law_due [.lst false (frD ws), .int sp, .int wd] = .ok (.lst true ((lines wd sp ws).map lnD)) := by
  have hn := hw.n
  have fl : (frD ws).length = ws.length := List.length_map _
  obtain ⟨ρ', e, y6, y7, y8, rfl⟩ := for_rng (g := gNm 6) (b := lp__law_due_1) (fun j ρ => ∃ y6 y7 y8, ρ = lv (frD ws) sp wd (allN wd sp ws j) y6 y7 y8)
    ws.length (lv (frD ws) sp wd ⟨[], [], 0⟩ none none none) (fun j ρ hj H => by
      obtain ⟨y6, y7, y8, rfl⟩ := H
      obtain ⟨z7, z8, c⟩ := ld1s ws hw sp wd h0 h1 j hj y7 y8
      exact ⟨_, _, rfl, .inl c, some (.int (j : Int)), z7, z8, rfl⟩) ⟨none, none, none, rfl⟩
  have b := Bd.all hw (wd := wd) h0 h1 ws.length (Nat.le_refl _)
  have b1 := b.l
  have b2 := b.p
  unfold lines
  generalize allN wd sp ws ws.length = s at *
  rw [← fl] at e
  have c := ld0 (frD ws) (s.ps.map plD) (s.ls.map lnD) sp wd s.e y6 y7 y8 (w62 (by omega) (by omega)) (by rw [List.length_map]; omega) (by rw [List.length_map]; omega) (pl_pure _) e
  rw [c, List.length_map]
  unfold S.close
  by_cases h : s.ps.length = 0
  · rw [if_pos h, if_pos h]
  · rw [if_neg h, if_neg h]
    simp [lnD]

end
set_option maxRecDepth 100000
set_option maxHeartbeats 4000000
open PySem PySem.Spec PyProof.Rows L2 Dv
noncomputable section
theorem twice_core (c k x y z : Int) (hx : (c * 48271 + k * 69621 + 7) % 2147483647 = x) (wx : W64 x) (hy : (x * x + k * 40692 + 3) % 2147483629 = y) (wy : W64 y) (hz : (y * y + k * 30269 + 5) % 2147483587 = z) :
    d__law_twice [.int c, .int k] = .ok (.int (z / 64)) := by
  simp [d__law_twice, b__law_twice, fnD, hx, hy, hz, wx, wy]
theorem m_twice (c k : Int) : ∃ t : Int, d__law_twice [.int c, .int k] = .ok (.int t) ∧ 0 ≤ t := by
  refine ⟨_, twice_core c k _ _ _ rfl (w64 ?_ ?_) rfl (w64 ?_ ?_) rfl, ?_⟩ <;> omega
theorem wd2 (x0 x1 x2 x6 : Option D) (c j t m n q : Int) (word : List Int) (ht : d__law_twice [.int c, .int j] = .ok (.int t)) (h1 : t / 3 % 21 = m) (h2 : t / 3 % 4 = n) (h3 : t % 4 = q) (hq : q = 0 ∨ q = 1 ∨ q = 2 ∨ q = 3) (hl : word.length < 16777216) :
    ∃ a, lp__law_words_2 [x0, x1, x2, some (.int c), some (.lst true (dInts word)), some (.int j), x6] = .nx [x0, x1, x2, some (.int c), some (.lst true (dInts (word ++ [a]))), some (.int j), some (.int t)] ∧ (a = m ∨ a = n ∨ a = 70) := by
  have i1 : ∀ (x y z : D) , ixD [x, y, z] 0 = some x := fun _ _ _ => rfl
  by_cases hb : t % 16 < 4
  · rcases hq with rfl | rfl | rfl | rfl
    · exact ⟨m, by simp [lp__law_words_2, callF, ht, h1, h2, h3, hb, hl, onL, ixD], .inl rfl⟩
    · exact ⟨n, by simp [lp__law_words_2, callF, ht, h1, h2, h3, hb, hl, onL, ixD], .inr (.inl rfl)⟩
    · exact ⟨m, by simp [lp__law_words_2, callF, ht, h1, h2, h3, hb, hl, onL, ixD], .inl rfl⟩
    · exact ⟨70, by simp [lp__law_words_2, callF, ht, h1, h2, h3, hb, hl, onL, ixD], .inr (.inr rfl)⟩
  · refine ⟨m, ?_, .inl rfl⟩
    rcases hq with rfl | rfl | rfl | rfl <;> simp [lp__law_words_2, callF, ht, h1, h2, h3, hb, hl, onL, ixD]
theorem wd2_loop (x0 x1 x2 x5 x6 : Option D) (c : Int) (n : Nat) (hn : n ≤ 8) : ∃ word y5 y6, forL (gNm 5) lp__law_words_2 (rngL 0 n) [x0, x1, x2, some (.int c), some (.lst true []), x5, x6] = .nx [x0, x1, x2, some (.int c), some (.lst true (dInts word)), y5, y6] ∧ word.length = n ∧ ∀ a ∈ word, 0 ≤ a ∧ a ≤ 70 := by
  obtain ⟨ρ', e, word, y5, y6, rfl, h1, h2⟩ := for_rng (g := gNm 5) (b := lp__law_words_2) (fun j ρ => ∃ word y5 y6, ρ = [x0, x1, x2, some (.int c), some (.lst true (dInts word)), y5, y6] ∧ word.length = j ∧ ∀ a ∈ word, 0 ≤ a ∧ a ≤ 70)
    n [x0, x1, x2, some (.int c), some (.lst true []), x5, x6] (fun j ρ hj H => by
      obtain ⟨word, y5, y6, rfl, h1, h2⟩ := H
      obtain ⟨t, ht, t0⟩ := m_twice c (j : Int)
      obtain ⟨a, e, ha⟩ := wd2 x0 x1 x2 y6 c (j : Int) t _ _ _ word ht rfl rfl rfl (by omega) (by omega)
      refine ⟨_, _, rfl, .inl e, word ++ [a], some (.int (j : Int)), some (.int t), rfl, by rw [List.length_append, h1]; rfl, fun b hb => ?_⟩
      rcases List.mem_append.mp hb with hb | hb
      · exact h2 b hb
      · rw [List.mem_singleton.mp hb]
        omega) ⟨[], x5, x6, rfl, rfl, fun b z => nomatch z⟩
  exact ⟨word, y5, y6, e, h1, h2⟩
theorem wd1 (ns : List Int) (ws : List (List Int)) (k : Nat) (c : Int) (word : List Int) (n : Nat) (x3 x4 x5 x6 y5 y6 : Option D) (wk : W64 (3 + (k : Int))) (hc : d__law_cell [.scr (dInts ns), .int (3 + (k : Int))] = .ok (.int c)) (hn : (1 + (if c < 0 then -c else c) % 8).toNat = n) (wn : W62 (1 + (if c < 0 then -c else c) % 8)) (wn' : W64 (1 + (if c < 0 then -c else c) % 8)) (hl : ws.length < 16777216)
    (hf : forL (gNm 5) lp__law_words_2 (rngL 0 n) [some (.scr (dInts ns)), some (.lst true (frD ws)), some (.int (k : Int)), some (.int (if c < 0 then -c else c)), some (.lst true []), x5, x6] = .nx [some (.scr (dInts ns)), some (.lst true (frD ws)), some (.int (k : Int)), some (.int (if c < 0 then -c else c)), some (.lst true (dInts word)), y5, y6]) :
    lp__law_words_1 [some (.scr (dInts ns)), some (.lst true (frD ws)), some (.int (k : Int)), x3, x4, x5, x6] = .nx [some (.scr (dInts ns)), some (.lst true (frD (ws ++ [word]))), some (.int (k : Int)), some (.int (if c < 0 then -c else c)), some (.lst false (dInts word)), y5, y6] := by
  have fl : (frD ws).length = ws.length := List.length_map _
  have fa : frD (ws ++ [word]) = frD ws ++ [.lst false (dInts word)] := by unfold frD; rw [List.map_append]; rfl
  rw [fa]
  generalize hc2 : (if c < 0 then -c else c) = c2 at *
  simp [lp__law_words_1, frzAt, callF, hc, hc2, wk, hn, wn, wn', hf, onL, fl, hl]
theorem wd0 (ns : List Int) (c : Int) (n : Nat) (ws : List (List Int)) (y2 y3 y4 y5 y6 : Option D) (hc : d__law_cell [.scr (dInts ns), .int 2] = .ok (.int c)) (hn : ((if c < 0 then -c else c) % 11).toNat = n) (wn : W62 ((if c < 0 then -c else c) % 11))
    (hf : forL (gNm 2) lp__law_words_1 (rngL 0 n) [some (.scr (dInts ns)), some (.lst true []), none, none, none, none, none] = .nx [some (.scr (dInts ns)), some (.lst true (frD ws)), y2, y3, y4, y5, y6]) :
    d__law_words [.scr (dInts ns)] = .ok (.lst true (frD ws)) := by
  simp [d__law_words, b__law_words, fnD, callF, hc, hn, wn, hf]
theorem m_words (ns : List Int) : ∃ ws, d__law_words [.scr (dInts ns)] = .ok (.lst true (frD ws)) ∧ WsOk ws := by
  generalize hN : ((if cell ns 2 < 0 then -cell ns 2 else cell ns 2) % 11).toNat = N
  have hN' : N ≤ 10 := by omega
  obtain ⟨ρ', e, ws, y2, y3, y4, y5, y6, rfl, h1, h2⟩ := for_rng (g := gNm 2) (b := lp__law_words_1) (fun j ρ => ∃ ws y2 y3 y4 y5 y6, ρ = [some (.scr (dInts ns)), some (.lst true (frD ws)), y2, y3, y4, y5, y6] ∧ ws.length = j ∧ ∀ row ∈ ws, row.length ≤ 8 ∧ ∀ a ∈ row, 0 ≤ a ∧ a ≤ 70)
    N [some (.scr (dInts ns)), some (.lst true []), none, none, none, none, none] (fun j ρ hj H => by
      obtain ⟨ws, y2, y3, y4, y5, y6, rfl, h1, h2⟩ := H
      have hc := m_cellI ns (3 + (j : Int)) (by omega)
      generalize cell ns (3 + (j : Int)).toNat = c at hc
      obtain ⟨word, z5, z6, f, l, ha⟩ := wd2_loop (some (.scr (dInts ns))) (some (.lst true (frD ws))) (some (.int (j : Int))) y5 y6 (if c < 0 then -c else c) (1 + (if c < 0 then -c else c) % 8).toNat (by omega)
      refine ⟨_, _, rfl, .inl (wd1 ns ws j c word _ y3 y4 y5 y6 z5 z6 (w64 (by omega) (by omega)) hc rfl (w62 (by omega) (by omega)) (w64 (by omega) (by omega)) (by omega) f), ws ++ [word], some (.int (j : Int)), _, _, z5, z6, rfl, by rw [List.length_append, h1]; rfl, fun row hr => ?_⟩
      rcases List.mem_append.mp hr with hr | hr
      · exact h2 row hr
      · rw [List.mem_singleton.mp hr]
        exact ⟨by omega, ha⟩) ⟨[], none, none, none, none, none, rfl, rfl, fun b z => nomatch z⟩
  exact ⟨ws, wd0 ns _ N ws y2 y3 y4 y5 y6 (m_cell ns 2) hN (w62 (by omega) (by omega)) e, by omega, fun r h => (h2 r h).1, fun r h => (h2 r h).2⟩

end
set_option maxRecDepth 100000
set_option maxHeartbeats 4000000
open PySem PySem.Spec PyProof.Rows L2 Dv
noncomputable section
/-! ## the law's walk over what was found -/
theorem lw2 (x0 x1 x2 x3 x4 x5 x7 x8 x9 x11 x12 : Option D) (A : List D) (w r e : Int) (hA : A.length < 16777216) : lp_law_2 [x0, x1, x2, x3, x4, x5, some (.lst true A), x7, x8, x9, some (.tup [.int w, .int r, .int e]), x11, x12] = .nx [x0, x1, x2, x3, x4, x5, some (.lst true (A ++ [.tup [.int w, .int r]])), x7, x8, x9, some (.tup [.int w, .int r, .int e]), x11, x12] := by
  simp [lp_law_2, onL, hA, ixD]
theorem lw_int (e : Int) : d__law_integer [.int e] = .ok (.bl true) := by simp [d__law_integer, b__law_integer, fnD]
theorem lw1a (x0 x2 x4 x5 x8 x9 x11 x12 x10 y10 : Option D) (W : List D) (wd e : Int) (P A B : List D) (we : W62 e) (hc : ¬ wd < e) (pP : D.pureL P = true)
    (hf : forL (gNm 10) lp_law_2 P [x0, some (.lst false W), x2, some (.int wd), x4, x5, some (.lst true A), some (.tup [.tup P, .int e]), x8, x9, x10, x11, x12] = .nx [x0, some (.lst false W), x2, some (.int wd), x4, x5, some (.lst true B), some (.tup [.tup P, .int e]), x8, x9, y10, x11, x12]) :
    lp_law_1 [x0, some (.lst false W), x2, some (.int wd), x4, x5, some (.lst true A), some (.tup [.tup P, .int e]), x8, x9, x10, x11, x12] = .nx [x0, some (.lst false W), x2, some (.int wd), x4, x5, some (.lst true B), some (.tup [.tup P, .int e]), x8, x9, y10, x11, x12] := by
  simp [lp_law_1, callF, lw_int, ixD, hf, hc, pP]
theorem lw1b (x0 x2 x4 x5 x8 x9 x11 x12 x10 y10 : Option D) (W : List D) (wd e : Int) (A B : List D) (we : W62 e)
    (hf : forL (gNm 10) lp_law_2 [] [x0, some (.lst false W), x2, some (.int wd), x4, x5, some (.lst true A), some (.tup [.tup [], .int e]), x8, x9, x10, x11, x12] = .nx [x0, some (.lst false W), x2, some (.int wd), x4, x5, some (.lst true B), some (.tup [.tup [], .int e]), x8, x9, y10, x11, x12]) :
    lp_law_1 [x0, some (.lst false W), x2, some (.int wd), x4, x5, some (.lst true A), some (.tup [.tup [], .int e]), x8, x9, x10, x11, x12] = .nx [x0, some (.lst false W), x2, some (.int wd), x4, x5, some (.lst true B), some (.tup [.tup [], .int e]), x8, x9, y10, x11, x12] := by
  by_cases hc : wd < e
  · simp [lp_law_1, callF, lw_int, ixD, hf, hc, lcL]
  · exact lw1a x0 x2 x4 x5 x8 x9 x11 x12 x10 y10 W wd e [] A B we hc (by simp) hf
theorem lw1c (x0 x2 x4 x5 x8 x9 x11 x12 x10 y10 : Option D) (W : List D) (wd e e' : Int) (w r : Nat) (row : List Int) (A B : List D) (we : W62 e) (hw : w < W.length) (ew : W[w] = .lst false (dInts row)) (hr : r < row.length)
    (hf : forL (gNm 10) lp_law_2 [.tup [.int (w : Int), .int (r : Int), .int e']] [x0, some (.lst false W), x2, some (.int wd), x4, x5, some (.lst true A), some (.tup [.tup [.tup [.int (w : Int), .int (r : Int), .int e']], .int e]), x8, x9, x10, x11, x12] = .nx [x0, some (.lst false W), x2, some (.int wd), x4, x5, some (.lst true B), some (.tup [.tup [.tup [.int (w : Int), .int (r : Int), .int e']], .int e]), x8, x9, y10, x11, x12]) :
    lp_law_1 [x0, some (.lst false W), x2, some (.int wd), x4, x5, some (.lst true A), some (.tup [.tup [.tup [.int (w : Int), .int (r : Int), .int e']], .int e]), x8, x9, x10, x11, x12] = .nx [x0, some (.lst false W), x2, some (.int wd), x4, x5, some (.lst true B), some (.tup [.tup [.tup [.int (w : Int), .int (r : Int), .int e']], .int e]), x8, x9, y10, x11, x12] := by
  by_cases hc : wd < e
  · have i0 : ∀ (x y : D), ixD [x, y] 0 = some x := fun _ _ => rfl
    have i1 : ∀ (x y : D), ixD [x, y] 1 = some y := fun _ _ => rfl
    have j0 : ∀ (x y z : D), ixD [x, y, z] 0 = some x := fun _ _ _ => rfl
    have j1 : ∀ (x y z : D), ixD [x, y, z] 1 = some y := fun _ _ _ => rfl
    simp [lp_law_1, callF, lw_int, i0, i1, hf, hc]
    by_cases hp : 0 < row[r]
    · simp [j0, j1, ixD_nat, hw, ew, hr, hp, lcL]
    · simp [j0, j1, ixD_nat, hw, ew, hr, hp, lcL]
  · exact lw1a x0 x2 x4 x5 x8 x9 x11 x12 x10 y10 W wd e _ A B we hc (by simp) hf

end
set_option maxRecDepth 100000
set_option maxHeartbeats 4000000
open PySem PySem.Spec PyProof.Rows L2 Dv
noncomputable section
/-! ## what is seen, and the width -/
def wr (p : Pl) : Nat × Nat := (p.w, p.r)
def S.seen (s : S) : List (Nat × Nat) := (s.ls.flatMap (·.ps) ++ s.ps).map wr
def Vd (ws : List (List Int)) (q : Nat × Nat) : Prop := ∃ h : q.1 < ws.length, q.2 < (ws[q.1]).length
theorem seen_close (s : S) : s.close.seen = s.seen := by
  unfold S.close S.seen
  by_cases h : s.ps.length = 0
  · rw [if_pos h, List.length_eq_zero_iff.mp h]
  · rw [if_neg h]
    simp
theorem seen_begin (wd sp t : Int) (s : S) : (s.begin wd sp t).seen = s.seen := by
  unfold S.begin
  split
  · rfl
  · split
    · exact seen_close s
    · rfl
theorem seen_app (w r : Nat) (a : Int) (s : S) : (s.app w r a).seen = s.seen ++ [(w, r)] := by
  unfold S.app S.seen
  simp [wr]
theorem seen_put (wd : Int) (w r : Nat) (a : Int) (s : S) : (s.put wd w r a).seen = s.seen ++ [(w, r)] := by
  unfold S.put
  rw [seen_app]
  split
  · rw [seen_close]
  · rfl
structure Iv (wd : Int) (s : S) : Prop where
  ok : ∀ l ∈ s.ls, l.e ≤ wd ∨ l.ps.length ≤ 1
  cur : s.e ≤ wd ∨ s.ps.length ≤ 1
theorem Iv.close {wd : Int} {s : S} (i : Iv wd s) : Iv wd s.close := by
  refine ⟨fun l hl => ?_, .inr (Nat.zero_le _)⟩
  unfold S.close at hl
  split at hl
  · exact i.ok l hl
  · rcases List.mem_append.mp hl with hl | hl
    · exact i.ok l hl
    · rw [List.mem_singleton.mp hl]
      exact i.cur
theorem Iv.begin {wd sp t : Int} {s : S} (i : Iv wd s) (ht : 0 ≤ t) : Iv wd (s.begin wd sp t) := by
  unfold S.begin
  split
  · exact i
  · split
    · exact i.close
    · exact ⟨i.ok, .inl (by show s.e + sp ≤ wd; omega)⟩
theorem Iv.put {wd : Int} {w r : Nat} {a : Int} {s : S} (i : Iv wd s) : Iv wd (s.put wd w r a) := by
  unfold S.put
  split
  · exact ⟨i.close.ok, .inr (by show ([] ++ [_]).length ≤ 1; exact Nat.le_refl _)⟩
  · refine ⟨i.ok, ?_⟩
    by_cases h : 0 < s.ps.length
    · exact .inl (by show s.e + a ≤ wd; omega)
    · exact .inr (by show (s.ps ++ [_]).length ≤ 1; rw [List.length_append, List.length_singleton]; omega)
theorem row_iv {wd : Int} {w : Nat} {row : List Int} {s : S} (i : Iv wd s) : ∀ j, Iv wd (rowN wd w row s j) ∧ (rowN wd w row s j).seen = s.seen ++ (List.range j).map fun r => (w, r)
  | 0 => ⟨i, by simp [rowN]⟩
  | j + 1 => by
    obtain ⟨h1, h2⟩ := row_iv (row := row) i j
    refine ⟨h1.put, ?_⟩
    show ((rowN wd w row s j).put wd w j (row.getD j 0)).seen = _
    rw [seen_put, h2, List.range_succ, List.map_append, List.append_assoc]
    rfl
def ordN (ws : List (List Int)) : Nat → List (Nat × Nat)
  | 0 => []
  | w + 1 => ordN ws w ++ (List.range (ws.getD w []).length).map fun r => (w, r)
theorem all_iv {wd sp : Int} {ws : List (List Int)} (hw : WsOk ws) : ∀ w, w ≤ ws.length → Iv wd (allN wd sp ws w) ∧ (allN wd sp ws w).seen = ordN ws w
  | 0, _ => ⟨⟨fun _ h => (nomatch h), .inr (Nat.zero_le _)⟩, rfl⟩
  | w + 1, h => by
    obtain ⟨h1, h2⟩ := all_iv (wd := wd) (sp := sp) hw w (by omega)
    have e := getD_row (ws := ws) (j := w) (by omega)
    have hs := sum_bd (hw.a _ (List.getElem_mem (l := ws) (n := w) (by omega)))
    have q := row_iv (w := w) (row := ws.getD w []) (h1.begin (sp := sp) (t := (ws.getD w []).sum) (by rw [e]; exact hs.1)) (ws.getD w []).length
    refine ⟨q.1, ?_⟩
    show (rowN _ _ _ _ _).seen = _
    rw [q.2, seen_begin, h2]
    rfl
theorem ord_vd (ws : List (List Int)) : ∀ w, w ≤ ws.length → ∀ q ∈ ordN ws w, Vd ws q
  | 0, _, q, h => (nomatch h)
  | w + 1, h, q, hq => by
    rcases List.mem_append.mp hq with hq | hq
    · exact ord_vd ws w (by omega) q hq
    · obtain ⟨r, hr, rfl⟩ := List.mem_map.mp hq
      have := List.mem_range.mp hr
      rw [getD_row (by omega)] at this
      exact ⟨by show w < _; omega, this⟩
theorem ord_len {ws : List (List Int)} (hw : WsOk ws) : ∀ w, w ≤ ws.length → (ordN ws w).length ≤ 8 * w
  | 0, _ => Nat.le_refl _
  | w + 1, h => by
    have := ord_len hw w (by omega)
    have := hw.l _ (List.getElem_mem (l := ws) (n := w) (by omega))
    show (ordN ws w ++ _).length ≤ _
    rw [List.length_append, List.length_map, List.length_range, getD_row (by omega)]
    omega
/-- all that the law asks of the lines -/
structure LsOk (ws : List (List Int)) (wd : Int) (ls : List Ln) : Prop where
  ok : ∀ l ∈ ls, l.e ≤ wd ∨ l.ps.length ≤ 1
  w : ∀ l ∈ ls, 0 ≤ l.e ∧ l.e ≤ 20000
  v : ∀ l ∈ ls, ∀ p ∈ l.ps, Vd ws (wr p)
theorem e_bd {n : Nat} {s : S} : (∀ l ∈ s.ls, 0 ≤ l.e ∧ l.e ≤ 20000) → Bd n s → n ≤ 200 → ∀ l ∈ s.close.ls, 0 ≤ l.e ∧ l.e ≤ 20000 := fun h b hn l hl => by
  unfold S.close at hl
  split at hl
  · exact h l hl
  · rcases List.mem_append.mp hl with hl | hl
    · exact h l hl
    · rw [List.mem_singleton.mp hl]
      exact ⟨b.lo, by have := b.hi; show s.e ≤ _; omega⟩
theorem e_begin {n : Nat} {wd sp t : Int} {s : S} (h : ∀ l ∈ s.ls, 0 ≤ l.e ∧ l.e ≤ 20000) (b : Bd n s) (hn : n ≤ 200) : ∀ l ∈ (s.begin wd sp t).ls, 0 ≤ l.e ∧ l.e ≤ 20000 := by
  unfold S.begin
  split
  · exact h
  · split
    · exact e_bd h b hn
    · exact h
theorem e_row {n : Nat} {wd : Int} {w : Nat} {row : List Int} {s : S} (h : ∀ l ∈ s.ls, 0 ≤ l.e ∧ l.e ≤ 20000) (b : Bd n s) (hr : ∀ a ∈ row, 0 ≤ a ∧ a ≤ 70) : ∀ j, j ≤ row.length → n + 2 * j ≤ 200 → ∀ l ∈ (rowN wd w row s j).ls, 0 ≤ l.e ∧ l.e ≤ 20000
  | 0, _, _ => h
  | j + 1, hj, hn => by
    have q := e_row (wd := wd) (w := w) h b hr j (by omega) (by omega)
    have bj := b.row (wd := wd) (w := w) hr j (by omega)
    show ∀ l ∈ ((rowN wd w row s j).put wd w j (row.getD j 0)).ls, _
    unfold S.put
    split
    · exact e_bd q bj (by omega)
    · exact q
theorem e_all {wd sp : Int} {ws : List (List Int)} (hw : WsOk ws) (h0 : 0 ≤ sp) (h1 : sp ≤ 10) : ∀ w, w ≤ ws.length → ∀ l ∈ (allN wd sp ws w).ls, 0 ≤ l.e ∧ l.e ≤ 20000
  | 0, _ => fun _ h => (nomatch h)
  | w + 1, h => by
    have hn := hw.n
    have e := getD_row (ws := ws) (j := w) (by omega)
    have hm : ws[w] ∈ ws := List.getElem_mem _
    have hl := hw.l _ hm
    have b := Bd.all hw (wd := wd) h0 h1 w (by omega)
    show ∀ l ∈ (rowN wd w (ws.getD w []) ((allN wd sp ws w).begin wd sp (ws.getD w []).sum) (ws.getD w []).length).ls, _
    rw [e]
    exact e_row (e_begin (e_all hw h0 h1 w (by omega)) b (by omega)) (b.begin (wd := wd) (t := ws[w].sum) h0 h1) (hw.a _ hm) _ (Nat.le_refl _) (by omega)
theorem seen_lines (wd sp : Int) (ws : List (List Int)) (hw : WsOk ws) : ((lines wd sp ws).flatMap (·.ps)).map wr = ordN ws ws.length := by
  have q := (all_iv (wd := wd) (sp := sp) hw ws.length (Nat.le_refl _)).2
  rw [← seen_close] at q
  unfold S.seen at q
  have : (allN wd sp ws ws.length).close.ps = [] := rfl
  rw [this, List.append_nil] at q
  exact q
theorem ls_ok (wd sp : Int) (ws : List (List Int)) (hw : WsOk ws) (h0 : 0 ≤ sp) (h1 : sp ≤ 10) : LsOk ws wd (lines wd sp ws) := by
  have hn := hw.n
  refine ⟨(all_iv (wd := wd) (sp := sp) hw ws.length (Nat.le_refl _)).1.close.ok, e_bd (e_all hw h0 h1 _ (Nat.le_refl _)) (Bd.all hw (wd := wd) h0 h1 _ (Nat.le_refl _)) (by omega), fun l hl p hp => ?_⟩
  refine ord_vd ws ws.length (Nat.le_refl _) _ ?_
  rw [← seen_lines wd sp ws hw]
  exact List.mem_map.mpr ⟨p, List.mem_flatMap.mpr ⟨l, hl, hp⟩, rfl⟩

end
set_option maxRecDepth 100000
set_option maxHeartbeats 4000000
open PySem PySem.Spec PyProof.Rows L2 Dv
noncomputable section
/-! data that may be compared -/
mutual
theorem lay_mono : ∀ (n m : Nat) (d : D), n ≤ m → d.lay n = true → d.lay m = true
  | _, _, .non, _, _ => by simp [D.lay]
  | _, _, .bl _, _, _ => by simp [D.lay]
  | _, _, .int _, _, _ => by simp [D.lay]
  | _, _, .str _, _, h => by simpa [D.lay] using h
  | n + 1, m + 1, .tup xs, hm, h => by
    simp only [D.lay] at h ⊢
    exact layL_mono n m xs (by omega) h
  | n + 1, m + 1, .lst _ xs, hm, h => by
    simp only [D.lay] at h ⊢
    exact layL_mono n m xs (by omega) h
  | _ + 1, 0, .tup _, hm, _ => absurd hm (by omega)
  | _ + 1, 0, .lst _ _, hm, _ => absurd hm (by omega)
  | 0, _, .tup _, _, h => absurd h (by simp [D.lay])
  | 0, _, .lst _ _, _, h => absurd h (by simp [D.lay])
  | _, _, .scr _, _, h => absurd h (by simp [D.lay])
  | _, _, .dic _ _ _, _, h => absurd h (by simp [D.lay])
  | _, _, .dit _ _ _, _, h => absurd h (by simp [D.lay])
  | _, _, .fn _, _, h => absurd h (by simp [D.lay])
  | _, _, .ins _ _ _, _, h => absurd h (by simp [D.lay])
theorem layL_mono : ∀ (n m : Nat) (ds : List D), n ≤ m → D.layL n ds = true → D.layL m ds = true
  | _, _, [], _, _ => by simp [D.layL]
  | n, m, d :: ds, hm, h => by
    have h' : d.lay n = true ∧ D.layL n ds = true := by simpa [D.layL] using h
    simp only [D.layL, lay_mono n m d hm h'.1, layL_mono n m ds hm h'.2, Bool.and_self]
end
theorem eqv_self {n : Nat} {d : D} (h : d.lay n = true) : d.eqv d = true := SeqAt.eqv_refl _ (D.lay_can n d h).1
theorem gEq_self {d : D} (h : d.lay 60 = true) : gEq d d = some (.bl true) := by
  have e := eqv_self h
  cases d <;> simp_all [gEq]
theorem gNe_self {d : D} (h : d.lay 60 = true) : gNe d d = some (.bl false) := by
  have e := eqv_self h
  cases d <;> simp_all [gNe]
def Good (n : Nat) (d : D) : Prop := d.pure = true ∧ d.lay n = true
theorem Good.mono {n m : Nat} {d : D} (h : Good n d) (l : n ≤ m) : Good m d := ⟨h.1, lay_mono n m d l h.2⟩
theorem Good.ne {n : Nat} {d : D} (h : Good n d) (l : n ≤ 60) : gNe d d = some (.bl false) := gNe_self (h.mono l).2
theorem Good.eq {n : Nat} {d : D} (h : Good n d) (l : n ≤ 60) : gEq d d = some (.bl true) := gEq_self (h.mono l).2
theorem good_int (n : Nat) (i : Int) : Good n (.int i) := ⟨by simp [D.pure], by simp [D.lay]⟩
theorem good_non (n : Nat) : Good n .non := ⟨by simp [D.pure], by simp [D.lay]⟩
theorem good_str (n : Nat) (s : Str) (h : PyData.strOk s = true) : Good n (.str s) := ⟨by simp [D.pure], by simpa [D.lay] using h⟩
theorem good_nil (n : Nat) : D.pureL [] = true ∧ D.layL n [] = true := ⟨by simp [D.pureL], by simp [D.layL]⟩
theorem good_cons {n : Nat} {d : D} {ds : List D} (h : Good n d) (hs : D.pureL ds = true ∧ D.layL n ds = true) : D.pureL (d :: ds) = true ∧ D.layL n (d :: ds) = true := ⟨by simp [D.pureL, h.1, hs.1], by simp [D.layL, h.2, hs.2]⟩
theorem good_all {n : Nat} : ∀ {ds : List D}, (∀ d ∈ ds, Good n d) → D.pureL ds = true ∧ D.layL n ds = true
  | [], _ => good_nil n
  | d :: ds, h => good_cons (h d List.mem_cons_self) (good_all fun x hx => h x (List.mem_cons_of_mem _ hx))
theorem good_tup {n : Nat} {ds : List D} (h : D.pureL ds = true ∧ D.layL n ds = true) : Good (n + 1) (.tup ds) := ⟨by simp [D.pure, h.1], by simp [D.lay, h.2]⟩
theorem good_dInts (n : Nat) (ns : List Int) : D.pureL (dInts ns) = true ∧ D.layL n (dInts ns) = true := ⟨dInts_pure ns, dInts_lay n ns⟩
/-- a comprehension whose items are made with some property -/
theorem lcL_ex {g : D → Dv.Env → Option Dv.Env} {t : Dv.Env → R Bool} {f : Dv.Env → R D} {ρ : Dv.Env} (P : D → Prop) (ds : List D) (h : ∀ d ∈ ds, ∃ ρ1 y, g d ρ = some ρ1 ∧ t ρ1 = .ok true ∧ f ρ1 = .ok y ∧ P y) (hl : ds.length ≤ 16777216) :
    ∃ ys, lcL g t f ρ ds [] = .ok (.lst true ys) ∧ ys.length = ds.length ∧ ∀ y ∈ ys, P y := by
  have gen : ∀ (ds acc : List D), (∀ d ∈ ds, ∃ ρ1 y, g d ρ = some ρ1 ∧ t ρ1 = .ok true ∧ f ρ1 = .ok y ∧ P y) → acc.length + ds.length ≤ 16777216 → (∀ y ∈ acc, P y) →
      ∃ ys, lcL g t f ρ ds acc = .ok (.lst true ys) ∧ ys.length = acc.length + ds.length ∧ ∀ y ∈ ys, P y := by
    intro ds
    induction ds with
    | nil => intro acc _ _ ha; exact ⟨acc, rfl, rfl, ha⟩
    | cons d ds ih =>
      intro acc h hl ha
      obtain ⟨ρ1, y, e1, e2, e3, hy⟩ := h d List.mem_cons_self
      rw [List.length_cons] at hl
      rw [lcL_cons, e1]
      simp only [e2, e3, R.calm_ok, R.bind_ok, if_true]
      rw [if_pos (by omega)]
      obtain ⟨ys, e, l, hys⟩ := ih (acc ++ [y]) (fun d hd => h d (List.mem_cons_of_mem _ hd)) (by rw [List.length_append, List.length_singleton]; omega) (fun z hz => (List.mem_append.mp hz).elim (ha z) fun q => by rw [List.mem_singleton.mp q]; exact hy)
      exact ⟨ys, e, by rw [l, List.length_append, List.length_singleton, List.length_cons]; omega, hys⟩
  obtain ⟨ys, e, l, hys⟩ := gen ds [] h (by simpa using hl) (fun _ z => nomatch z)
  exact ⟨ys, e, by simpa using l, hys⟩
theorem lcL_rng {g : D → Dv.Env → Option Dv.Env} {t : Dv.Env → R Bool} {f : Dv.Env → R D} {ρ : Dv.Env} (P : D → Prop) (n : Nat) (h : ∀ j : Nat, j < n → ∃ ρ1 y, g (.int (j : Int)) ρ = some ρ1 ∧ t ρ1 = .ok true ∧ f ρ1 = .ok y ∧ P y) (hl : n ≤ 16777216) :
    ∃ ys, lcL g t f ρ (rngL 0 n) [] = .ok (.lst true ys) ∧ ys.length = n ∧ ∀ y ∈ ys, P y := by
  have := lcL_ex (g := g) (t := t) (f := f) (ρ := ρ) P (rngL 0 n) (fun d hd => by
    unfold rngL at hd
    obtain ⟨j, hj, rfl⟩ := List.mem_map.mp hd
    have := h j (List.mem_range.mp hj)
    rw [Int.zero_add]
    exact this) (by rw [rngL_len]; exact hl)
  rw [rngL_len] at this
  exact this
theorem eqv_tints (a b : List Int) : (D.tup (dInts a)).eqv (.tup (dInts b)) = (a == b) := by
  have := dInts_eqvAll a b
  simpa [D.eqv, D.toP, PyData.eqv] using this
theorem pureL_app : ∀ xs ys : List D, D.pureL (xs ++ ys) = (D.pureL xs && D.pureL ys)
  | [], ys => by simp [D.pureL]
  | x :: xs, ys => by rw [List.cons_append, D.pureL, D.pureL, pureL_app xs ys, Bool.and_assoc]
/-! equal but for who owns it -/
theorem gNe_tup {xs ys : List D} (h : D.toPL xs = D.toPL ys) (l1 : D.lay 60 (.tup xs) = true) (l2 : D.lay 60 (.tup ys) = true) : gNe (.tup xs) (.tup ys) = some (.bl false) := by
  have e : (D.tup xs).eqv (.tup ys) = true := by
    have e2 : (D.tup ys).toP = (D.tup xs).toP := by show PyData.tuple _ = PyData.tuple _; rw [h]
    unfold D.eqv
    rw [e2]
    exact eqv_self l1
  simp only [gNe, l1, l2, and_self, if_true, e]
  rfl
theorem gNe_lsts {o p : Bool} {xs ys : List D} (h : D.toPL xs = D.toPL ys) (l1 : D.lay 60 (.lst o xs) = true) (l2 : D.lay 60 (.lst p ys) = true) : gNe (.lst o xs) (.lst p ys) = some (.bl false) := by
  have e : (D.lst o xs).eqv (.lst p ys) = true := by
    have e2 : (D.lst p ys).toP = (D.lst o xs).toP := by show PyData.list _ = PyData.list _; rw [h]
    unfold D.eqv
    rw [e2]
    exact eqv_self l1
  simp only [gNe, l1, l2, and_self, if_true, e]
  rfl
theorem gEq_tup {xs ys : List D} (h : D.toPL xs = D.toPL ys) (l1 : D.lay 60 (.tup xs) = true) (l2 : D.lay 60 (.tup ys) = true) : gEq (.tup xs) (.tup ys) = some (.bl true) := by
  have e : (D.tup xs).eqv (.tup ys) = true := by
    have e2 : (D.tup ys).toP = (D.tup xs).toP := by show PyData.tuple _ = PyData.tuple _; rw [h]
    unfold D.eqv
    rw [e2]
    exact eqv_self l1
  simp only [gEq, l1, l2, and_self, if_true, e]
theorem gEq_lsts {o p : Bool} {xs ys : List D} (h : D.toPL xs = D.toPL ys) (l1 : D.lay 60 (.lst o xs) = true) (l2 : D.lay 60 (.lst p ys) = true) : gEq (.lst o xs) (.lst p ys) = some (.bl true) := by
  have e : (D.lst o xs).eqv (.lst p ys) = true := by
    have e2 : (D.lst p ys).toP = (D.lst o xs).toP := by show PyData.list _ = PyData.list _; rw [h]
    unfold D.eqv
    rw [e2]
    exact eqv_self l1
  simp only [gEq, l1, l2, and_self, if_true, e]
theorem ne_ints (o p : Bool) (xs : List Int) : gNe (.lst o (dInts xs)) (.lst p (dInts xs)) = some (.bl false) := gNe_lsts rfl (dInts_lay 59 xs) (dInts_lay 59 xs)
theorem eq_ints (o p : Bool) (xs : List Int) : gEq (.lst o (dInts xs)) (.lst p (dInts xs)) = some (.bl true) := gEq_lsts rfl (dInts_lay 59 xs) (dInts_lay 59 xs)
theorem lay_ints (n : Nat) (o : Bool) (xs : List Int) : D.lay (n + 1) (.lst o (dInts xs)) = true := dInts_lay n xs

def srD (q : List (Nat × Nat)) : List D := q.map fun p => .tup [.int (p.1 : Int), .int (p.2 : Int)]
theorem sr_len (q : List (Nat × Nat)) : (srD q).length = q.length := List.length_map _
theorem sr_app (q : List (Nat × Nat)) (w r : Nat) : srD (q ++ [(w, r)]) = srD q ++ [.tup [.int (w : Int), .int (r : Int)]] := by unfold srD; rw [List.map_append]; rfl
theorem fl_nx {g : D → Dv.Env → Option Dv.Env} {b : Dv.Env → SR} {d : D} {ds : List D} {ρ ρ1 ρ2 : Dv.Env} (e1 : g d ρ = some ρ1) (e2 : b ρ1 = .nx ρ2) : forL g b (d :: ds) ρ = forL g b ds ρ2 := by
  rw [forL_cons, e1]
  simp only [e2]
theorem lw2_loop (x0 x1 x2 x3 x4 x5 x7 x8 x9 x11 x12 : Option D) : ∀ (ps : List Pl) (acc : List (Nat × Nat)) (x10 : Option D), acc.length + ps.length ≤ 10000 →
    ∃ y10, forL (gNm 10) lp_law_2 (ps.map plD) [x0, x1, x2, x3, x4, x5, some (.lst true (srD acc)), x7, x8, x9, x10, x11, x12] = .nx [x0, x1, x2, x3, x4, x5, some (.lst true (srD (acc ++ ps.map wr))), x7, x8, x9, y10, x11, x12]
  | [], acc, x10, _ => ⟨x10, by simp⟩
  | p :: ps, acc, x10, h => by
    rw [List.length_cons] at h
    obtain ⟨y10, e⟩ := lw2_loop x0 x1 x2 x3 x4 x5 x7 x8 x9 x11 x12 ps (acc ++ [wr p]) (some (plD p)) (by rw [List.length_append, List.length_singleton]; omega)
    refine ⟨y10, ?_⟩
    rw [List.map_cons, fl_nx (ρ1 := [x0, x1, x2, x3, x4, x5, some (.lst true (srD acc)), x7, x8, x9, some (plD p), x11, x12]) rfl (lw2 x0 x1 x2 x3 x4 x5 x7 x8 x9 x11 x12 (srD acc) p.w p.r p.e (by rw [sr_len]; omega)), ← sr_app]
    rw [List.append_assoc] at e
    exact e
theorem fr_len (ws : List (List Int)) : (frD ws).length = ws.length := List.length_map _
theorem lw1_loop (x0 x2 x4 x5 x8 x9 x11 x12 : Option D) (ws : List (List Int)) (wd : Int) : ∀ (ls : List Ln) (acc : List (Nat × Nat)) (x7 x10 : Option D), acc.length + (ls.flatMap (·.ps)).length ≤ 10000 → LsOk ws wd ls →
    ∃ y7 y10, forL (gNm 7) lp_law_1 (ls.map lnD) [x0, some (.lst false (frD ws)), x2, some (.int wd), x4, x5, some (.lst true (srD acc)), x7, x8, x9, x10, x11, x12] = .nx [x0, some (.lst false (frD ws)), x2, some (.int wd), x4, x5, some (.lst true (srD (acc ++ (ls.flatMap (·.ps)).map wr))), y7, x8, x9, y10, x11, x12]
  | [], acc, x7, x10, _, _ => ⟨x7, x10, by simp⟩
  | ⟨ps, e⟩ :: ls, acc, x7, x10, h, k => by
    rw [List.flatMap_cons, List.length_append] at h
    have h' : acc.length + (ps.length + (ls.flatMap (·.ps)).length) ≤ 10000 := h
    obtain ⟨y10, f⟩ := lw2_loop x0 (some (.lst false (frD ws))) x2 (some (.int wd)) x4 x5 (some (lnD ⟨ps, e⟩)) x8 x9 x11 x12 ps acc x10 (by omega)
    obtain ⟨z7, z10, q⟩ := lw1_loop x0 x2 x4 x5 x8 x9 x11 x12 ws wd ls (acc ++ ps.map wr) (some (lnD ⟨ps, e⟩)) y10 (by rw [List.length_append, List.length_map]; omega) ⟨fun l hl => k.ok l (List.mem_cons_of_mem _ hl), fun l hl => k.w l (List.mem_cons_of_mem _ hl), fun l hl => k.v l (List.mem_cons_of_mem _ hl)⟩
    have kw : 0 ≤ e ∧ e ≤ 20000 := k.w _ List.mem_cons_self
    have ko := k.ok _ List.mem_cons_self
    have kv : ∀ p ∈ ps, Vd ws (wr p) := k.v _ List.mem_cons_self
    have we : W62 e := w62 (by have := kw.1; omega) (by have := kw.2; omega)
    have one : lp_law_1 [x0, some (.lst false (frD ws)), x2, some (.int wd), x4, x5, some (.lst true (srD acc)), some (lnD ⟨ps, e⟩), x8, x9, x10, x11, x12] = .nx [x0, some (.lst false (frD ws)), x2, some (.int wd), x4, x5, some (.lst true (srD (acc ++ ps.map wr))), some (lnD ⟨ps, e⟩), x8, x9, y10, x11, x12] := by
      by_cases hc : wd < e
      · have l1 : ps.length ≤ 1 := by
          rcases ko with z | z
          · have z' : e ≤ wd := z
            omega
          · exact z
        match ps, l1, f, kv with
        | [], _, f, _ => exact lw1b x0 x2 x4 x5 x8 x9 x11 x12 x10 y10 (frD ws) wd e _ _ we f
        | [p], _, f, kv =>
          obtain ⟨hw, hr⟩ := kv p List.mem_cons_self
          exact lw1c x0 x2 x4 x5 x8 x9 x11 x12 x10 y10 (frD ws) wd e p.e p.w p.r ws[p.w] _ _ we (by rw [fr_len]; exact hw) (by unfold frD; rw [List.getElem_map]; rfl) hr f
      · exact lw1a x0 x2 x4 x5 x8 x9 x11 x12 x10 y10 (frD ws) wd e _ _ _ we hc (pl_pure ps) f
    refine ⟨z7, z10, ?_⟩
    rw [List.map_cons, fl_nx (ρ1 := [x0, some (.lst false (frD ws)), x2, some (.int wd), x4, x5, some (.lst true (srD acc)), some (lnD ⟨ps, e⟩), x8, x9, x10, x11, x12]) rfl one, q, List.flatMap_cons, List.map_append, List.append_assoc]
theorem lw4 (x0 x1 x2 x3 x4 x5 x6 x7 x10 x12 : Option D) (A : List D) (w r : Int) (hA : A.length < 16777216) : lp_law_4 [x0, x1, x2, x3, x4, x5, x6, x7, some (.lst true A), some (.int w), x10, some (.int r), x12] = .nx [x0, x1, x2, x3, x4, x5, x6, x7, some (.lst true (A ++ [.tup [.int w, .int r]])), some (.int w), x10, some (.int r), x12] := by
  simp [lp_law_4, onL, hA]
theorem lw3 (x0 x2 x3 x4 x5 x6 x7 x10 x11 y11 x12 : Option D) (W A B : List D) (w : Nat) (row : List Int) (hw : w < W.length) (ew : W[w] = .lst false (dInts row)) (wr : W62 (row.length : Int))
    (hf : forL (gNm 11) lp_law_4 (rngL 0 row.length) [x0, some (.lst false W), x2, x3, x4, x5, x6, x7, some (.lst true A), some (.int (w : Int)), x10, x11, x12] = .nx [x0, some (.lst false W), x2, x3, x4, x5, x6, x7, some (.lst true B), some (.int (w : Int)), x10, y11, x12]) :
    lp_law_3 [x0, some (.lst false W), x2, x3, x4, x5, x6, x7, some (.lst true A), some (.int (w : Int)), x10, x11, x12] = .nx [x0, some (.lst false W), x2, x3, x4, x5, x6, x7, some (.lst true B), some (.int (w : Int)), x10, y11, x12] := by
  simp [lp_law_3, ixD_nat, hw, ew, wr, hf]
theorem lw3_loop (x0 x2 x3 x4 x5 x6 x7 x10 x12 : Option D) (ws : List (List Int)) (hw : WsOk ws) : ∃ y9 y11, forL (gNm 9) lp_law_3 (rngL 0 ws.length) [x0, some (.lst false (frD ws)), x2, x3, x4, x5, x6, x7, some (.lst true []), none, x10, none, x12] = .nx [x0, some (.lst false (frD ws)), x2, x3, x4, x5, x6, x7, some (.lst true (srD (ordN ws ws.length))), y9, x10, y11, x12] := by
  have hn := hw.n
  obtain ⟨ρ', e, y9, y11, rfl⟩ := for_rng (g := gNm 9) (b := lp_law_3) (fun j ρ => ∃ y9 y11, ρ = [x0, some (.lst false (frD ws)), x2, x3, x4, x5, x6, x7, some (.lst true (srD (ordN ws j))), y9, x10, y11, x12])
    ws.length [x0, some (.lst false (frD ws)), x2, x3, x4, x5, x6, x7, some (.lst true []), none, x10, none, x12] (fun j ρ hj H => by
      obtain ⟨y9, y11, rfl⟩ := H
      have ol := ord_len hw j (by omega)
      have hl := hw.l _ (List.getElem_mem (l := ws) (n := j) hj)
      obtain ⟨ρ1, e1, z11, rfl⟩ := for_rng (g := gNm 11) (b := lp_law_4) (fun r ρ => ∃ y11, ρ = [x0, some (.lst false (frD ws)), x2, x3, x4, x5, x6, x7, some (.lst true (srD (ordN ws j ++ (List.range r).map fun r => (j, r)))), some (.int (j : Int)), x10, y11, x12])
        (ws[j]).length [x0, some (.lst false (frD ws)), x2, x3, x4, x5, x6, x7, some (.lst true (srD (ordN ws j))), some (.int (j : Int)), x10, y11, x12] (fun r ρ hr H => by
          obtain ⟨y11, rfl⟩ := H
          refine ⟨_, _, rfl, .inl (lw4 x0 (some (.lst false (frD ws))) x2 x3 x4 x5 x6 x7 x10 x12 _ (j : Int) (r : Int) (by rw [sr_len, List.length_append, List.length_map, List.length_range]; omega)), some (.int (r : Int)), ?_⟩
          rw [List.range_succ, List.map_append, ← List.append_assoc]
          show _ = [_, _, _, _, _, _, _, _, some (D.lst true (srD (_ ++ [(j, r)]))), _, _, _, _]
          rw [sr_app]) ⟨y11, by simp⟩
      have c := lw3 x0 x2 x3 x4 x5 x6 x7 x10 y11 z11 x12 (frD ws) _ _ j ws[j] (by rw [fr_len]; exact hj) (by unfold frD; rw [List.getElem_map]) (w62 (by omega) (by omega)) e1
      refine ⟨_, _, rfl, .inl c, some (.int (j : Int)), z11, ?_⟩
      show _ = [_, _, _, _, _, _, _, _, some (D.lst true (srD (ordN ws j ++ (List.range (ws.getD j []).length).map fun r => (j, r)))), _, _, _, _]
      rw [getD_row hj]) ⟨none, none, rfl⟩
  exact ⟨y9, y11, e⟩

end
set_option maxRecDepth 100000
set_option maxHeartbeats 4000000
open PySem PySem.Spec PyProof.Rows L2 Dv
noncomputable section
def giD (ws : List (List Int)) : List D := ws.map fun row => .lst true (dInts row)
theorem gi_frz (ws : List (List Int)) : D.frzL (giD ws) = frD ws := by
  induction ws with
  | nil => rfl
  | cons w ws ih =>
    show D.frzL (.lst true (dInts w) :: giD ws) = .lst false (dInts w) :: frD ws
    rw [D.frzL, ih]
    simp [D.frz]
theorem gi_toP (ws : List (List Int)) : D.toPL (giD ws) = D.toPL (frD ws) := by
  induction ws with
  | nil => rfl
  | cons w ws ih =>
    show D.toPL (.lst true (dInts w) :: giD ws) = D.toPL (.lst false (dInts w) :: frD ws)
    simp [D.toPL, D.toP, ih]
theorem gi_cold (ws : List (List Int)) : D.coldL (giD ws) = true := by
  induction ws with
  | nil => rfl
  | cons w ws ih =>
    show D.coldL (.lst true (dInts w) :: giD ws) = true
    simp [D.coldL, D.cold, ih]
theorem gi_lay (ws : List (List Int)) (o : Bool) : D.lay 60 (.lst o (giD ws)) = true := by
  have h : D.layL 59 (giD ws) = true := by
    induction ws with
    | nil => simp [giD, D.layL]
    | cons w ws ih =>
      show D.layL 59 (.lst true (dInts w) :: giD ws) = true
      simp [D.layL, D.lay, ih]
  simp [D.lay, h]
theorem fr_lay (ws : List (List Int)) (o : Bool) : D.lay 60 (.lst o (frD ws)) = true := by
  have h : D.layL 59 (frD ws) = true := by
    induction ws with
    | nil => simp [frD, D.layL]
    | cons w ws ih =>
      show D.layL 59 (.lst false (dInts w) :: frD ws) = true
      simp [D.layL, D.lay, ih]
  simp [D.lay, h]
theorem ls_good (ls : List Ln) : D.pureL (ls.map lnD) = true ∧ D.layL 59 (ls.map lnD) = true ∧ D.noFzL (ls.map lnD) = true := by
  have hp : ∀ ps : List Pl, D.layL 57 (ps.map plD) = true ∧ D.noFzL (ps.map plD) = true := fun ps => by
    induction ps with
    | nil => simp [D.layL, D.noFzL]
    | cons p ps ih =>
      rw [List.map_cons]
      simp [plD, D.layL, D.lay, D.noFzL, D.noFz, ih]
  induction ls with
  | nil => simp [D.layL, D.noFzL]
  | cons l ls ih =>
    rw [List.map_cons]
    have := hp l.ps
    simp [lnD, D.layL, D.lay, D.noFzL, D.noFz, this, ih, pl_pure, D.pure]
theorem sr_good (q : List (Nat × Nat)) : D.layL 59 (srD q) = true := by
  induction q with
  | nil => simp [srD, D.layL]
  | cons p q ih =>
    show D.layL 59 (.tup [.int (p.1 : Int), .int (p.2 : Int)] :: srD q) = true
    simp [D.layL, D.lay, ih]
theorem gi_lc (ρ : Dv.Env) (h : ∃ a b c d e f g i j k l m n, ρ = [a, b, c, d, e, f, g, i, j, k, l, m, n]) : ∀ (ws : List (List Int)) (acc : List D), acc.length + ws.length ≤ 1000 → lcL (gNm 12) tYes (eB gList (aV (eVar 12) aNil)) ρ (frD ws) acc = .ok (.lst true (acc ++ giD ws))
  | [], acc, _ => by simp [frD, giD, lcL]
  | w :: ws, acc, hl => by
    rw [List.length_cons] at hl
    have ih := gi_lc ρ h ws (acc ++ [.lst true (dInts w)]) (by rw [List.length_append, List.length_singleton]; omega)
    obtain ⟨a, b, c, d, e, f, g, i, j, k, l, m, n, rfl⟩ := h
    have hc : acc.length < 16777216 := by omega
    have e1 : giD (w :: ws) = .lst true (dInts w) :: giD ws := rfl
    have e2 : frD (w :: ws) = .lst false (dInts w) :: frD ws := rfl
    rw [e1, e2]
    simp [lcL_cons, hc, ih]

end
set_option maxRecDepth 100000
set_option maxHeartbeats 4000000
open PySem PySem.Spec PyProof.Rows L2 Dv
noncomputable section
theorem law_core (ns : List Int) (W G L Q : List D) (c0 c1 sp wd : Int) (y7 y10 y9 y11 : Option D) (hW : d__law_words [.scr (dInts ns)] = .ok (.lst true W)) (h0 : d__law_cell [.scr (dInts ns), .int 0] = .ok (.int c0)) (h1 : d__law_cell [.scr (dInts ns), .int 1] = .ok (.int c1)) (hsp : (if c0 < 0 then -c0 else c0) % 10 = sp) (hwd : 1 + (if c1 < 0 then -c1 else c1) % 60 = wd) (wwd : W64 wd) (pW : D.pureL W = true)
    (hG : lcL (gNm 12) tYes (eB gList (aV (eVar 12) aNil)) [some (.scr (dInts ns)), some (.lst false W), some (.int sp), some (.int wd), none, none, none, none, none, none, none, none, none] W [] = .ok (.lst true G)) (fG : D.frzL G = W) (cG : D.coldL G = true)
    (hb : d_break_lines [.lst false W, .int sp, .int wd] = .ok (.lst true L)) (hd : d__law_due [.lst false W, .int sp, .int wd] = .ok (.lst true L)) (nL : D.noFzL L = true) (pL : D.pureL L = true)
    (g1 : gNe (.lst true L) (.lst true L) = some (.bl false)) (g2 : gNe (.lst true G) (.lst false W) = some (.bl false)) (g3 : gEq (.lst true Q) (.lst true Q) = some (.bl true)) (wl : W62 (W.length : Int))
    (l1 : forL (gNm 7) lp_law_1 L [some (.scr (dInts ns)), some (.lst false W), some (.int sp), some (.int wd), some (.lst true G), some (.lst false L), some (.lst true []), none, none, none, none, none, none] = .nx [some (.scr (dInts ns)), some (.lst false W), some (.int sp), some (.int wd), some (.lst true G), some (.lst false L), some (.lst true Q), y7, none, none, y10, none, none])
    (l2 : forL (gNm 9) lp_law_3 (rngL 0 W.length) [some (.scr (dInts ns)), some (.lst false W), some (.int sp), some (.int wd), some (.lst true G), some (.lst false L), some (.lst true Q), y7, some (.lst true []), none, y10, none, none] = .nx [some (.scr (dInts ns)), some (.lst false W), some (.int sp), some (.int wd), some (.lst true G), some (.lst false L), some (.lst true Q), y7, some (.lst true Q), y9, y10, y11, none]) :
    d_law [.scr (dInts ns)] = .ok (.bl true) := by
  have zW := D.pureL_frzL W pW
  have zL := D.pureL_frzL L pL
  have kW := D.pureL_cold W pW
  have kL := D.pureL_cold L pL
  simp [d_law, b_law, fnD, callF, frzAt, hW, h0, h1, hsp, hwd, wwd, zW, kW, kL, pW, hG, fG, cG, hb, nL, hd, g1, g2, zL, pL, l1, wl, l2, g3]
theorem law_true : ∀ ns : List Int, ns.length ≤ 63 → d_law [.scr (dInts ns)] = .ok (.bl true) := by
  intro ns _
  obtain ⟨ws, hW, hw⟩ := m_words ns
  have hn := hw.n
  have h0 := m_cell ns 0
  have h1 := m_cell ns 1
  generalize cell ns 0 = c0 at h0
  generalize cell ns 1 = c1 at h1
  generalize hsp : (if c0 < 0 then -c0 else c0) % 10 = sp
  generalize hwd : 1 + (if c1 < 0 then -c1 else c1) % 60 = wd
  have s0 : 0 ≤ sp := by omega
  have s1 : sp ≤ 10 := by omega
  have hb := m_break wd sp ws hw s0 s1
  have hd := m_due wd sp ws hw s0 s1
  obtain ⟨pL, lL, nL⟩ := ls_good (lines wd sp ws)
  have so := seen_lines wd sp ws hw
  have ol := ord_len hw ws.length (Nat.le_refl _)
  have sl : ((lines wd sp ws).flatMap (·.ps)).length = (ordN ws ws.length).length := by rw [← so, List.length_map]
  have gl := gi_lc [some (.scr (dInts ns)), some (.lst false (frD ws)), some (.int sp), some (.int wd), none, none, none, none, none, none, none, none, none] ⟨_, _, _, _, _, _, _, _, _, _, _, _, _, rfl⟩ ws [] (by rw [List.length_nil]; omega)
  obtain ⟨y7, y10, f1⟩ := lw1_loop (some (.scr (dInts ns))) (some (.int sp)) (some (.lst true (giD ws))) (some (.lst false ((lines wd sp ws).map lnD))) none none none none ws wd (lines wd sp ws) [] none none (by rw [List.length_nil, sl]; omega) (ls_ok wd sp ws hw s0 s1)
  rw [List.nil_append, so] at f1
  obtain ⟨y9, y11, f2⟩ := lw3_loop (some (.scr (dInts ns))) (some (.int sp)) (some (.int wd)) (some (.lst true (giD ws))) (some (.lst false ((lines wd sp ws).map lnD))) (some (.lst true (srD (ordN ws ws.length)))) y7 y10 none ws hw
  rw [← fr_len ws] at f2
  have q := sr_good (ordN ws (frD ws).length)
  refine law_core ns (frD ws) (giD ws) ((lines wd sp ws).map lnD) (srD (ordN ws (frD ws).length)) c0 c1 sp wd y7 y10 y9 y11 hW h0 h1 hsp hwd (w64 (by omega) (by omega)) (frD_pure ws) gl (gi_frz ws) (gi_cold ws) hb hd nL pL
    (gNe_self (by simp [D.lay, lL])) (gNe_lsts (gi_toP ws) (gi_lay ws true) (fr_lay ws false)) (gEq_self (by simp [D.lay, q])) (w62 (by omega) (by rw [fr_len]; omega)) ?_ f2
  rw [fr_len]
  exact f1

end
theorem end_ok {K : PySem.W.Frag} {P : Program} {w : World} {mg : Str → Option Value} {base : Heap} {A : Ad} (T : Txt K mg A) : FnOk P w K mg base (L2.CX P w) 4 A.a_law A.fd_law ["_law_script"] (spLaw K) := end_of (kx := kx K A) (ok_law T) rfl law_true
theorem all_mk {l : PySem.W.OpenLaw} {w : World} {K : PySem.W.Frag} {h : Heap} {mg : Str → Option Value} {fa f0 f1 f2 f3 f4 f5 f6 f7 f8 f9 f10  : Addr} {od0 an0 od1 an1 od2 an2 od3 an3 od4 an4 od5 an5 od6 an6 od7 an7 od8 an8 od9 an9 od10 an10 : Option Addr} {sl0 sl1 sl2 sl3 sl4 sl5 sl6 sl7 sl8 sl9 sl10 : Array (Option Value)} {oc0 kV0 dc0 pm0 cd0 ct0 oc1 kV1 dc1 pm1 cd1 ct1 oc2 kV2 dc2 pm2 cd2 ct2 oc3 kV3 dc3 pm3 cd3 ct3 oc4 kV4 dc4 pm4 cd4 ct4 oc5 kV5 dc5 pm5 cd5 ct5 oc6 kV6 dc6 pm6 cd6 ct6 oc7 kV7 dc7 pm7 cd7 ct7 oc8 kV8 dc8 pm8 cd8 ct8 oc9 kV9 dc9 pm9 cd9 ct9 oc10 kV10 dc10 pm10 cd10 ct10 : Value} {cl_Lines : Addr} (X : K.In h) (G : h.Ns mainGlobals mg) (hfa : mg "law" = some (.ref fa)) (ca_Lines : PySem.W.nsIn K mainGlobals "Lines" = some (some (.ref cl_Lines))) (cp_Lines : PySem.W.plainGet K cl_Lines Str.empty = true) (ch_Lines : PySem.W.hasDictIn K cl_Lines = true) (co_Lines : PySem.W.plainOver K cl_Lines = true) (cs_Lines : PySem.W.findIn K (.ref cl_Lines) "__setattr__" = some (some (.builtin "object.__setattr__"))) (cm_Lines : PySem.W.makesIn K cl_Lines = true) (ck_Lines : PySem.W.keepIn K (.ref cl_Lines) = true) (cn_Lines_end : PySem.W.findIn K (.ref cl_Lines) "end" = some none) (cn_Lines_lines : PySem.W.findIn K (.ref cl_Lines) "lines" = some none) (cn_Lines_places : PySem.W.findIn K (.ref cl_Lines) "places" = some none) (cn_Lines_width : PySem.W.findIn K (.ref cl_Lines) "width" = some none) (a0 : PySem.W.nsIn K mainGlobals "_law_cell" = some (some (.ref f0))) (l0 : K.lookup f0 = some ⟨oc0, od0, .func (PySem.W.fnOf "_law_cell" "_law_cell" (defArgs s__law_cell) (defBody s__law_cell) (defScope s__law_cell) .none kV0 dc0 pm0 an0 cd0 ct0), sl0⟩) (c0 : PySem.W.codeIn K cd0 "_law_cell" = true) (k0 : PySem.W.keepIn K (.ref f0) = true) (a1 : PySem.W.nsIn K mainGlobals "_law_twice" = some (some (.ref f1))) (l1 : K.lookup f1 = some ⟨oc1, od1, .func (PySem.W.fnOf "_law_twice" "_law_twice" (defArgs s__law_twice) (defBody s__law_twice) (defScope s__law_twice) .none kV1 dc1 pm1 an1 cd1 ct1), sl1⟩) (c1 : PySem.W.codeIn K cd1 "_law_twice" = true) (k1 : PySem.W.keepIn K (.ref f1) = true) (a2 : PySem.W.nsIn K mainGlobals "_law_words" = some (some (.ref f2))) (l2 : K.lookup f2 = some ⟨oc2, od2, .func (PySem.W.fnOf "_law_words" "_law_words" (defArgs s__law_words) (defBody s__law_words) (defScope s__law_words) .none kV2 dc2 pm2 an2 cd2 ct2), sl2⟩) (c2 : PySem.W.codeIn K cd2 "_law_words" = true) (k2 : PySem.W.keepIn K (.ref f2) = true) (a3 : PySem.W.findIn K (.ref cl_Lines) "close" = some (some (.ref f3))) (fn3 : PySem.W.isFn K (.ref f3) = true) (l3 : K.lookup f3 = some ⟨oc3, od3, .func (PySem.W.fnOf "close" "Lines.close" (defArgs s_Lines_close) (defBody s_Lines_close) (defScope s_Lines_close) .none kV3 dc3 pm3 an3 cd3 ct3), sl3⟩) (c3 : PySem.W.codeIn K cd3 "Lines.close" = true) (k3 : PySem.W.keepIn K (.ref f3) = true) (a4 : PySem.W.findIn K (.ref cl_Lines) "__init__" = some (some (.ref f4))) (fn4 : PySem.W.isFn K (.ref f4) = true) (l4 : K.lookup f4 = some ⟨oc4, od4, .func (PySem.W.fnOf "__init__" "Lines.__init__" (defArgs s_Lines___init__) (defBody s_Lines___init__) (defScope s_Lines___init__) .none kV4 dc4 pm4 an4 cd4 ct4), sl4⟩) (c4 : PySem.W.codeIn K cd4 "Lines.__init__" = true) (k4 : PySem.W.keepIn K (.ref f4) = true) (a5 : PySem.W.findIn K (.ref cl_Lines) "begin_word" = some (some (.ref f5))) (fn5 : PySem.W.isFn K (.ref f5) = true) (l5 : K.lookup f5 = some ⟨oc5, od5, .func (PySem.W.fnOf "begin_word" "Lines.begin_word" (defArgs s_Lines_begin_word) (defBody s_Lines_begin_word) (defScope s_Lines_begin_word) .none kV5 dc5 pm5 an5 cd5 ct5), sl5⟩) (c5 : PySem.W.codeIn K cd5 "Lines.begin_word" = true) (k5 : PySem.W.keepIn K (.ref f5) = true) (a6 : PySem.W.findIn K (.ref cl_Lines) "put" = some (some (.ref f6))) (fn6 : PySem.W.isFn K (.ref f6) = true) (l6 : K.lookup f6 = some ⟨oc6, od6, .func (PySem.W.fnOf "put" "Lines.put" (defArgs s_Lines_put) (defBody s_Lines_put) (defScope s_Lines_put) .none kV6 dc6 pm6 an6 cd6 ct6), sl6⟩) (c6 : PySem.W.codeIn K cd6 "Lines.put" = true) (k6 : PySem.W.keepIn K (.ref f6) = true) (a7 : PySem.W.nsIn K mainGlobals "break_lines" = some (some (.ref f7))) (l7 : K.lookup f7 = some ⟨oc7, od7, .func (PySem.W.fnOf "break_lines" "break_lines" (defArgs s_break_lines) (defBody s_break_lines) (defScope s_break_lines) .none kV7 dc7 pm7 an7 cd7 ct7), sl7⟩) (c7 : PySem.W.codeIn K cd7 "break_lines" = true) (k7 : PySem.W.keepIn K (.ref f7) = true) (a8 : PySem.W.nsIn K mainGlobals "_law_due" = some (some (.ref f8))) (l8 : K.lookup f8 = some ⟨oc8, od8, .func (PySem.W.fnOf "_law_due" "_law_due" (defArgs s__law_due) (defBody s__law_due) (defScope s__law_due) .none kV8 dc8 pm8 an8 cd8 ct8), sl8⟩) (c8 : PySem.W.codeIn K cd8 "_law_due" = true) (k8 : PySem.W.keepIn K (.ref f8) = true) (a9 : PySem.W.nsIn K mainGlobals "_law_integer" = some (some (.ref f9))) (l9 : K.lookup f9 = some ⟨oc9, od9, .func (PySem.W.fnOf "_law_integer" "_law_integer" (defArgs s__law_integer) (defBody s__law_integer) (defScope s__law_integer) .none kV9 dc9 pm9 an9 cd9 ct9), sl9⟩) (c9 : PySem.W.codeIn K cd9 "_law_integer" = true) (k9 : PySem.W.keepIn K (.ref f9) = true) (a10 : PySem.W.nsIn K mainGlobals "law" = some (some (.ref f10))) (l10 : K.lookup f10 = some ⟨oc10, od10, .func (PySem.W.fnOf "law" "law" (defArgs s_law) (defBody s_law) (defScope s_law) .none kV10 dc10 pm10 an10 cd10 ct10), sl10⟩) (c10 : PySem.W.codeIn K cd10 "law" = true) (k10 : PySem.W.keepIn K (.ref f10) = true) (z_abs : PySem.W.nsIn K mainGlobals "abs" = some none) (z_bool : PySem.W.nsIn K mainGlobals "bool" = some none) (z_enumerate : PySem.W.nsIn K mainGlobals "enumerate" = some none) (z_int : PySem.W.nsIn K mainGlobals "int" = some none) (z_isinstance : PySem.W.nsIn K mainGlobals "isinstance" = some none) (z_len : PySem.W.nsIn K mainGlobals "len" = some none) (z_list : PySem.W.nsIn K mainGlobals "list" = some none) (z_range : PySem.W.nsIn K mainGlobals "range" = some none) (z_sum : PySem.W.nsIn K mainGlobals "sum" = some none) (z_tuple : PySem.W.nsIn K mainGlobals "tuple" = some none) :
    ∃ fd : FuncData, (∀ (s : Shared) (v : Value), BindsTo s fd ⟨[v], []⟩ [("_law_script", v)]) ∧ ∀ base : Heap, K.In base → base.Ns mainGlobals mg → FnOk l.prog w K mg base (L2.CX l.prog w) 4 fa fd ["_law_script"] (spLaw K) := by
  have e := hfa.symm.trans (PySem.W.mg_of X G a10)
  cases e
  have F0 := fun_mk (st := s__law_cell) l0 c0 k0
  have B0 := F0.binds (ps := ["_law_script", "_law_k"]) fun _ _ _ _ _ _ us hl => match us, hl with | [_, _], _ => rfl
  have F1 := fun_mk (st := s__law_twice) l1 c1 k1
  have B1 := F1.binds (ps := ["_law_cell_here", "_law_k"]) fun _ _ _ _ _ _ us hl => match us, hl with | [_, _], _ => rfl
  have F2 := fun_mk (st := s__law_words) l2 c2 k2
  have B2 := F2.binds (ps := ["_law_script"]) fun _ _ _ _ _ _ us hl => match us, hl with | [_], _ => rfl
  have F3 := fun_mk (st := s_Lines_close) l3 c3 k3
  have B3 := F3.binds (ps := ["self"]) fun _ _ _ _ _ _ us hl => match us, hl with | [_], _ => rfl
  have F4 := fun_mk (st := s_Lines___init__) l4 c4 k4
  have B4 := F4.binds (ps := ["self", "width"]) fun _ _ _ _ _ _ us hl => match us, hl with | [_, _], _ => rfl
  have F5 := fun_mk (st := s_Lines_begin_word) l5 c5 k5
  have B5 := F5.binds (ps := ["self", "advances", "space"]) fun _ _ _ _ _ _ us hl => match us, hl with | [_, _, _], _ => rfl
  have F6 := fun_mk (st := s_Lines_put) l6 c6 k6
  have B6 := F6.binds (ps := ["self", "word", "rune", "advance"]) fun _ _ _ _ _ _ us hl => match us, hl with | [_, _, _, _], _ => rfl
  have F7 := fun_mk (st := s_break_lines) l7 c7 k7
  have B7 := F7.binds (ps := ["advances", "space", "width"]) fun _ _ _ _ _ _ us hl => match us, hl with | [_, _, _], _ => rfl
  have F8 := fun_mk (st := s__law_due) l8 c8 k8
  have B8 := F8.binds (ps := ["_law_words_here", "_law_space", "_law_width"]) fun _ _ _ _ _ _ us hl => match us, hl with | [_, _, _], _ => rfl
  have F9 := fun_mk (st := s__law_integer) l9 c9 k9
  have B9 := F9.binds (ps := ["_law_value"]) fun _ _ _ _ _ _ us hl => match us, hl with | [_], _ => rfl
  have F10 := fun_mk (st := s_law) l10 c10 k10
  have B10 := F10.binds (ps := ["_law_script"]) fun _ _ _ _ _ _ us hl => match us, hl with | [_], _ => rfl
  have T : Txt K mg ⟨f0, (PySem.W.fnOf "_law_cell" "_law_cell" (defArgs s__law_cell) (defBody s__law_cell) (defScope s__law_cell) .none kV0 dc0 pm0 an0 cd0 ct0), f1, (PySem.W.fnOf "_law_twice" "_law_twice" (defArgs s__law_twice) (defBody s__law_twice) (defScope s__law_twice) .none kV1 dc1 pm1 an1 cd1 ct1), f2, (PySem.W.fnOf "_law_words" "_law_words" (defArgs s__law_words) (defBody s__law_words) (defScope s__law_words) .none kV2 dc2 pm2 an2 cd2 ct2), f3, (PySem.W.fnOf "close" "Lines.close" (defArgs s_Lines_close) (defBody s_Lines_close) (defScope s_Lines_close) .none kV3 dc3 pm3 an3 cd3 ct3), f4, (PySem.W.fnOf "__init__" "Lines.__init__" (defArgs s_Lines___init__) (defBody s_Lines___init__) (defScope s_Lines___init__) .none kV4 dc4 pm4 an4 cd4 ct4), f5, (PySem.W.fnOf "begin_word" "Lines.begin_word" (defArgs s_Lines_begin_word) (defBody s_Lines_begin_word) (defScope s_Lines_begin_word) .none kV5 dc5 pm5 an5 cd5 ct5), f6, (PySem.W.fnOf "put" "Lines.put" (defArgs s_Lines_put) (defBody s_Lines_put) (defScope s_Lines_put) .none kV6 dc6 pm6 an6 cd6 ct6), f7, (PySem.W.fnOf "break_lines" "break_lines" (defArgs s_break_lines) (defBody s_break_lines) (defScope s_break_lines) .none kV7 dc7 pm7 an7 cd7 ct7), f8, (PySem.W.fnOf "_law_due" "_law_due" (defArgs s__law_due) (defBody s__law_due) (defScope s__law_due) .none kV8 dc8 pm8 an8 cd8 ct8), f9, (PySem.W.fnOf "_law_integer" "_law_integer" (defArgs s__law_integer) (defBody s__law_integer) (defScope s__law_integer) .none kV9 dc9 pm9 an9 cd9 ct9), fa, (PySem.W.fnOf "law" "law" (defArgs s_law) (defBody s_law) (defScope s_law) .none kV10 dc10 pm10 an10 cd10 ct10), cl_Lines⟩ := {
    f__law_cell := F0, m__law_cell := PySem.W.mg_of X G a0, i__law_cell := B0,
    f__law_twice := F1, m__law_twice := PySem.W.mg_of X G a1, i__law_twice := B1,
    f__law_words := F2, m__law_words := PySem.W.mg_of X G a2, i__law_words := B2,
    f_Lines_close := F3, M_Lines_close := ⟨a3, fn3, k3⟩, i_Lines_close := B3,
    f_Lines___init__ := F4, M_Lines___init__ := ⟨a4, fn4, k4⟩, i_Lines___init__ := B4,
    f_Lines_begin_word := F5, M_Lines_begin_word := ⟨a5, fn5, k5⟩, i_Lines_begin_word := B5,
    f_Lines_put := F6, M_Lines_put := ⟨a6, fn6, k6⟩, i_Lines_put := B6,
    f_break_lines := F7, m_break_lines := PySem.W.mg_of X G a7, i_break_lines := B7,
    f__law_due := F8, m__law_due := PySem.W.mg_of X G a8, i__law_due := B8,
    f__law_integer := F9, m__law_integer := PySem.W.mg_of X G a9, i__law_integer := B9,
    f_law := F10, m_law := PySem.W.mg_of X G a10, i_law := B10,
    C_Lines := ⟨cp_Lines, ch_Lines, co_Lines, cs_Lines⟩, K_Lines := ⟨cm_Lines, a4, fn4, ck_Lines⟩, mc_Lines := PySem.W.mg_of X G ca_Lines, N_Lines_end := cn_Lines_end, N_Lines_lines := cn_Lines_lines, N_Lines_places := cn_Lines_places, N_Lines_width := cn_Lines_width,
    z_abs := PySem.W.mg_none_of X G z_abs,
    z_bool := PySem.W.mg_none_of X G z_bool,
    z_enumerate := PySem.W.mg_none_of X G z_enumerate,
    z_int := PySem.W.mg_none_of X G z_int,
    z_isinstance := PySem.W.mg_none_of X G z_isinstance,
    z_len := PySem.W.mg_none_of X G z_len,
    z_list := PySem.W.mg_none_of X G z_list,
    z_range := PySem.W.mg_none_of X G z_range,
    z_sum := PySem.W.mg_none_of X G z_sum,
    z_tuple := PySem.W.mg_none_of X G z_tuple }
  exact ⟨_, fun s v => .of_eq rfl, fun base _ _ => end_ok T⟩
end
end K47
open PySem PySem.W PyProof.Rows in
set_option maxHeartbeats 0 in
set_option maxRecDepth 100000 in
theorem PySem.Challenge.cw_stillroom_k47_lines_holds : PySem.Challenge.rw_stillroom_k47_lines.Holds := by
  w_on; o_law; k_head; (case hw => w_witness2)
  k_fill
  refine L2.walk_of (l := PySem.Challenge.rw_stillroom_k47_lines) (n := 63) (k := 4) (x := "_law_script") (CX := fun w => L2.CX PySem.Challenge.rw_stillroom_k47_lines.prog w) (sp := fun w => Dv.spLaw _) rfl (by decide) rfl ⟨rfl, by decide, by decide⟩ (fun w h Y => PySem.W.kIn_of Y) ?F (fun _ _ a ns hl _ hS => ⟨a, ns, rfl, hS, hl, fun _ => rfl⟩) (fun _ _ _ _ _ z => Dv.cx_no z)
  case F =>
    intro w mg fa h KX G hmg
    refine' K47.all_mk KX G hmg ?ca_Lines ?cp_Lines ?ch_Lines ?co_Lines ?cs_Lines ?cm_Lines ?ck_Lines ?cn_Lines_end ?cn_Lines_lines ?cn_Lines_places ?cn_Lines_width ?a0 ?l0 ?c0 ?k0 ?a1 ?l1 ?c1 ?k1 ?a2 ?l2 ?c2 ?k2 ?a3 ?fn3 ?l3 ?c3 ?k3 ?a4 ?fn4 ?l4 ?c4 ?k4 ?a5 ?fn5 ?l5 ?c5 ?k5 ?a6 ?fn6 ?l6 ?c6 ?k6 ?a7 ?l7 ?c7 ?k7 ?a8 ?l8 ?c8 ?k8 ?a9 ?l9 ?c9 ?k9 ?a10 ?l10 ?c10 ?k10 ?z_abs ?z_bool ?z_enumerate ?z_int ?z_isinstance ?z_len ?z_list ?z_range ?z_sum ?z_tuple
    (case ca_Lines => k_is)
    (case cp_Lines => k_is)
    (case ch_Lines => k_is)
    (case co_Lines => k_is)
    (case cs_Lines => k_is)
    (case cm_Lines => k_is)
    (case ck_Lines => k_is)
    (case cn_Lines_end => k_is)
    (case cn_Lines_lines => k_is)
    (case cn_Lines_places => k_is)
    (case cn_Lines_width => k_is)
    (case a0 => k_is)
    (case l0 => k_is)
    (case c0 => k_is)
    (case k0 => k_is)
    (case a1 => k_is)
    (case l1 => k_is)
    (case c1 => k_is)
    (case k1 => k_is)
    (case a2 => k_is)
    (case l2 => k_is)
    (case c2 => k_is)
    (case k2 => k_is)
    (case a3 => k_is)
    (case fn3 => k_is)
    (case l3 => k_is)
    (case c3 => k_is)
    (case k3 => k_is)
    (case a4 => k_is)
    (case fn4 => k_is)
    (case l4 => k_is)
    (case c4 => k_is)
    (case k4 => k_is)
    (case a5 => k_is)
    (case fn5 => k_is)
    (case l5 => k_is)
    (case c5 => k_is)
    (case k5 => k_is)
    (case a6 => k_is)
    (case fn6 => k_is)
    (case l6 => k_is)
    (case c6 => k_is)
    (case k6 => k_is)
    (case a7 => k_is)
    (case l7 => k_is)
    (case c7 => k_is)
    (case k7 => k_is)
    (case a8 => k_is)
    (case l8 => k_is)
    (case c8 => k_is)
    (case k8 => k_is)
    (case a9 => k_is)
    (case l9 => k_is)
    (case c9 => k_is)
    (case k9 => k_is)
    (case a10 => k_is)
    (case l10 => k_is)
    (case c10 => k_is)
    (case k10 => k_is)
    (case z_abs => k_is)
    (case z_bool => k_is)
    (case z_enumerate => k_is)
    (case z_int => k_is)
    (case z_isinstance => k_is)
    (case z_len => k_is)
    (case z_list => k_is)
    (case z_range => k_is)
    (case z_sum => k_is)
    (case z_tuple => k_is)
#print axioms PySem.Challenge.cw_stillroom_k47_lines_holds
