import PyProof.Rows.All
import Wide.All
import OpenK.AllK
import Wide.FinOn
import HandS.ForMost
import HandS.Exc
import HandS.ExcOwn
import HandS.WordsExc
import HandS.CallSlots
import HandS.TupAny
import HandS.Star
import HandS.IsInst
import HandS.Flow
import HandS.Deep
import HandS.Wide
import HandS.TupLe
import HandS.Rev
import HandS.RevRange
import HandS.Zip
import HandS.SortInts
import HandS.Strs
import PyProof.FString3
import HandS.FStr
import PyProof.Rows.StrIntSpec
import HandS.ExcIs
import HandS.TryMany
import KE.GoesNew
import KE.GoesMore
import HandS.Style
import HandS.List
import PyProof.StrOps2
import PyProof.DictMoreH
import HandS.StrMore
import KE.IntTextLaws
import HandS.Conv
import HandS.NoneIn
import PyProof.ListRange
import HandS.More
import PySem.Challenge.RW_stillroom_k19_whole_nothing_twice
set_option Elab.async false
set_option linter.all false
section
set_option maxRecDepth 100000
set_option maxHeartbeats 1000000
namespace Dv
open PySem PySem.Spec PyProof.Rows L2

/-- a value as plain data; lists and dicts carry whether they are owned (may be changed) -/
inductive D where
  | non | bl (b : Bool) | int (i : Int) | str (x : Str)
  | tup (xs : List D)
  | lst (o : Bool) (xs : List D)
  | scr (xs : List D)
  | dic (o : Bool) (ks : List Key) (xs : List D)
  | dit (o : Bool) (ks : List (List Key)) (xs : List D)
  | ins (c : Nat) (fs : List Str) (xs : List D)
  | fn (i : Nat)

mutual
def D.pure : D → Bool
  | .non => true | .bl _ => true | .int _ => true | .str _ => true | .fn _ => true
  | .tup xs => D.pureL xs
  | .lst o xs => !o && D.pureL xs
  | .scr xs => D.pureL xs
  | .dic o _ xs => !o && D.pureL xs
  | .dit o _ xs => !o && D.pureL xs
  | .ins _ _ _ => false
def D.pureL : List D → Bool
  | [] => true
  | x :: xs => x.pure && D.pureL xs
end
mutual
/-- frozen: nothing is owned any more (instances stay) -/
def D.frz : D → D
  | .non => .non | .bl b => .bl b | .int i => .int i | .str x => .str x | .fn i => .fn i
  | .tup xs => .tup (D.frzL xs)
  | .lst _ xs => .lst false (D.frzL xs)
  | .scr xs => .scr (D.frzL xs)
  | .dic _ ks xs => .dic false ks (D.frzL xs)
  | .dit _ ks xs => .dit false ks (D.frzL xs)
  | .ins c fs xs => .ins c fs xs
def D.frzL : List D → List D
  | [] => []
  | x :: xs => x.frz :: D.frzL xs
end
mutual
/-- may be frozen: no instance in it -/
def D.cold : D → Bool
  | .non => true | .bl _ => true | .int _ => true | .str _ => true | .fn _ => true
  | .tup xs => D.coldL xs
  | .lst _ xs => D.coldL xs
  | .scr xs => D.coldL xs
  | .dic _ _ xs => D.coldL xs
  | .dit _ _ xs => D.coldL xs
  | .ins _ _ _ => false
def D.coldL : List D → Bool
  | [] => true
  | x :: xs => x.cold && D.coldL xs
end
mutual
/-- no frozen list or dict in it: it can't share a list with anything -/
def D.noFz : D → Bool
  | .non => true | .bl _ => true | .int _ => true | .str _ => true | .fn _ => true
  | .tup xs => D.noFzL xs
  | .lst o xs => o && D.noFzL xs
  | .scr xs => false
  | .dic o _ xs => o && D.noFzL xs
  | .dit o _ xs => o && D.noFzL xs
  | .ins _ _ xs => D.noFzL xs
def D.noFzL : List D → Bool
  | [] => true
  | x :: xs => x.noFz && D.noFzL xs
end

/-- what a def's proof is written over: the written part, the classes' addresses -/
structure Kx where
  K : PySem.W.Frag
  cm : Nat → Addr
  fm : Nat → Addr

mutual
/-- the value v stands for the data d: what is frozen lies in HF, what is owned in H at the addresses A -/
def Rp (k : Kx) (HF H : Hp) : D → V → List Addr → Prop
  | .non, v, A => v = .non ∧ A = []
  | .bl b, v, A => v = .bl b ∧ A = []
  | .int i, v, A => v = .int i ∧ A = []
  | .str x, v, A => v = .str x ∧ A = []
  | .fn i, v, A => v = .ref (k.fm i) ∧ A = []
  | .tup ds, v, A => ∃ a xs, v = .ref a ∧ SqT k.K HF a xs ∧ RpL k HF H ds xs A
  | .lst o ds, v, A => ∃ a xs B, v = .ref a ∧ RpL k HF H ds xs B ∧
      (o = false → HF a = some (.lst xs) ∧ A = [] ∧ B = []) ∧ (o = true → A = a :: B ∧ HF a = none ∧ H a = some (.lst xs))
  | .scr ds, v, A => ∃ a xs, v = .ref a ∧ A = [] ∧ SqL k.K HF a xs ∧ RpL k HF H ds xs []
  | .dic o ks ds, v, A => ∃ a xs B, v = .ref a ∧ ks.length = xs.length ∧ RpL k HF H ds xs B ∧
      (o = false → HF a = some (.dK (ks.zip xs)) ∧ A = [] ∧ B = []) ∧ (o = true → A = a :: B ∧ HF a = none ∧ H a = some (.dK (ks.zip xs)))
  | .dit o ks ds, v, A => ∃ a xs B, v = .ref a ∧ ks.length = xs.length ∧ RpL k HF H ds xs B ∧
      (o = false → HF a = some (.dT (ks.zip xs)) ∧ A = [] ∧ B = []) ∧ (o = true → A = a :: B ∧ HF a = none ∧ H a = some (.dT (ks.zip xs)))
  | .ins c fs ds, v, A => ∃ a dx xs B, v = .ref a ∧ fs.length = xs.length ∧ RpL k HF H ds xs B ∧ A = a :: B ∧ HF a = none ∧ H a = some (.ins (k.cm c) dx (fs.zip xs))
def RpL (k : Kx) (HF H : Hp) : List D → List V → List Addr → Prop
  | [], xs, A => xs = [] ∧ A = []
  | d :: ds, xs, A => ∃ v vs B C, xs = v :: vs ∧ A = B ++ C ∧ Rp k HF H d v B ∧ RpL k HF H ds vs C
end

def Ex (H H' : Hp) : Prop := ∀ a o, H a = some o → H' a = some o
theorem Ex.refl (H : Hp) : Ex H H := fun _ _ h => h
theorem Ex.trans {H H1 H2 : Hp} (a : Ex H H1) (b : Ex H1 H2) : Ex H H2 := fun x o h => b x o (a x o h)
theorem Ex.new {H : Hp} {p : Addr} {o : HO} (h : H p = none) : Ex H (upd H p o) := fun a u e => by
  rw [upd_ne (ne_of_none e h)]
  exact e
theorem ex_rd {H H' : Hp} {a : Addr} {u : HO} (e : Ex H H') (h : Rd H a u) : Rd H' a u := by
  rcases h with h | ⟨o, h⟩
  · exact Or.inl (e a _ h)
  · exact Or.inr ⟨o, e a _ h⟩
theorem ex_l {K : PySem.W.Frag} {H H' : Hp} {a : Addr} {xs : List V} (e : Ex H H') (h : SqL K H a xs) : SqL K H' a xs := by
  rcases h with h | h
  · exact Or.inl (ex_rd e h)
  · exact Or.inr h
theorem ex_t {K : PySem.W.Frag} {H H' : Hp} {a : Addr} {xs : List V} (e : Ex H H') (h : SqT K H a xs) : SqT K H' a xs := by
  rcases h with h | h
  · exact Or.inl (ex_rd e h)
  · exact Or.inr h

/-- a step of a pure evaluation -/
structure Tr (HF H HF' H' : Hp) : Prop where
  ff : Ex HF HF'
  hh : Ex H H'
  fh : Ex HF' H'
  no : ∀ a, HF a = none → H a ≠ none → HF' a = none
theorem Tr.refl {HF H : Hp} (h : Ex HF H) : Tr HF H HF H := ⟨.refl _, .refl _, h, fun _ e _ => e⟩
theorem Tr.trans {F H F1 H1 F2 H2 : Hp} (a : Tr F H F1 H1) (b : Tr F1 H1 F2 H2) : Tr F H F2 H2 :=
  ⟨a.ff.trans b.ff, a.hh.trans b.hh, b.fh, fun x e n => b.no x (a.no x e n) fun z => by
    cases q : H x with
    | none => exact n q
    | some o => rw [a.hh x o q] at z; cases z⟩

section
variable {k : Kx} {F H F' H' : Hp}
mutual
theorem Rp.mono (ff : Ex F F') : ∀ (d : D) (v : V) (A : List Addr), (∀ a ∈ A, ∀ o, H a = some o → F a = none → H' a = some o ∧ F' a = none) → Rp k F H d v A → Rp k F' H' d v A
  | .non, _, _, _, h => h
  | .bl _, _, _, _, h => h
  | .int _, _, _, _, h => h
  | .str _, _, _, _, h => h
  | .fn _, _, _, _, h => h
  | .tup ds, v, A, n, h => by
    obtain ⟨a, xs, e, s, r⟩ := h
    exact ⟨a, xs, e, ex_t ff s, RpL.mono ff ds xs A n r⟩
  | .lst o ds, v, A, n, h => by
    obtain ⟨a, xs, B, e, r, h1, h2⟩ := h
    refine ⟨a, xs, B, e, RpL.mono ff ds xs B (fun b hb => n b ?_) r, fun q => ?_, fun q => ?_⟩
    · cases o with
      | false => rw [(h1 rfl).2.2] at hb; cases hb
      | true => rw [(h2 rfl).1]; exact List.mem_cons_of_mem _ hb
    · exact ⟨ff _ _ (h1 q).1, (h1 q).2⟩
    · have := n a (by rw [(h2 q).1]; exact List.mem_cons_self) _ (h2 q).2.2 (h2 q).2.1
      exact ⟨(h2 q).1, this.2, this.1⟩
  | .scr ds, v, A, n, h => by
    obtain ⟨a, xs, e, e2, s, r⟩ := h
    exact ⟨a, xs, e, e2, ex_l ff s, RpL.mono ff ds xs [] (fun _ z => nomatch z) r⟩
  | .dic o ks ds, v, A, n, h => by
    obtain ⟨a, xs, B, e, l, r, h1, h2⟩ := h
    refine ⟨a, xs, B, e, l, RpL.mono ff ds xs B (fun b hb => n b ?_) r, fun q => ?_, fun q => ?_⟩
    · cases o with
      | false => rw [(h1 rfl).2.2] at hb; cases hb
      | true => rw [(h2 rfl).1]; exact List.mem_cons_of_mem _ hb
    · exact ⟨ff _ _ (h1 q).1, (h1 q).2⟩
    · have := n a (by rw [(h2 q).1]; exact List.mem_cons_self) _ (h2 q).2.2 (h2 q).2.1
      exact ⟨(h2 q).1, this.2, this.1⟩
  | .dit o ks ds, v, A, n, h => by
    obtain ⟨a, xs, B, e, l, r, h1, h2⟩ := h
    refine ⟨a, xs, B, e, l, RpL.mono ff ds xs B (fun b hb => n b ?_) r, fun q => ?_, fun q => ?_⟩
    · cases o with
      | false => rw [(h1 rfl).2.2] at hb; cases hb
      | true => rw [(h2 rfl).1]; exact List.mem_cons_of_mem _ hb
    · exact ⟨ff _ _ (h1 q).1, (h1 q).2⟩
    · have := n a (by rw [(h2 q).1]; exact List.mem_cons_self) _ (h2 q).2.2 (h2 q).2.1
      exact ⟨(h2 q).1, this.2, this.1⟩
  | .ins c fs ds, v, A, n, h => by
    obtain ⟨a, dx, xs, B, e, l, r, h1, h2, h3⟩ := h
    have := n a (by rw [h1]; exact List.mem_cons_self) _ h3 h2
    exact ⟨a, dx, xs, B, e, l, RpL.mono ff ds xs B (fun b hb => n b (by rw [h1]; exact List.mem_cons_of_mem _ hb)) r, h1, this.2, this.1⟩
theorem RpL.mono (ff : Ex F F') : ∀ (ds : List D) (vs : List V) (A : List Addr), (∀ a ∈ A, ∀ o, H a = some o → F a = none → H' a = some o ∧ F' a = none) → RpL k F H ds vs A → RpL k F' H' ds vs A
  | [], _, _, _, h => h
  | d :: ds, xs, A, n, h => by
    obtain ⟨v, vs, B, C, e1, e2, h1, h2⟩ := h
    refine ⟨v, vs, B, C, e1, e2, Rp.mono ff d v B (fun a ha => n a ?_) h1, RpL.mono ff ds vs C (fun a ha => n a ?_) h2⟩
    · rw [e2]; exact List.mem_append_left _ ha
    · rw [e2]; exact List.mem_append_right _ ha
end
end
end Dv
end
section
set_option maxRecDepth 100000
set_option maxHeartbeats 1000000
namespace Dv
open PySem PySem.Spec PyProof.Rows L2
section
variable {k : Kx} {F H F' H' : Hp}
mutual
/-- what is pure owns nothing -/
theorem Rp.own_nil : ∀ (d : D) (v : V) (A : List Addr), d.pure = true → Rp k F H d v A → A = []
  | .non, _, _, _, h => h.2
  | .bl _, _, _, _, h => h.2
  | .int _, _, _, _, h => h.2
  | .str _, _, _, _, h => h.2
  | .fn _, _, _, _, h => h.2
  | .tup ds, v, A, p, h => by
    obtain ⟨a, xs, e, s, r⟩ := h
    exact RpL.own_nil ds xs A p r
  | .lst o ds, v, A, p, h => by
    obtain ⟨a, xs, B, e, r, h1, h2⟩ := h
    cases o with
    | false => exact (h1 rfl).2.1
    | true => exact absurd p (by simp [D.pure])
  | .scr ds, v, A, p, h => by
    obtain ⟨a, xs, e, e2, s, r⟩ := h
    exact e2
  | .dic o ks ds, v, A, p, h => by
    obtain ⟨a, xs, B, e, l, r, h1, h2⟩ := h
    cases o with
    | false => exact (h1 rfl).2.1
    | true => exact absurd p (by simp [D.pure])
  | .dit o ks ds, v, A, p, h => by
    obtain ⟨a, xs, B, e, l, r, h1, h2⟩ := h
    cases o with
    | false => exact (h1 rfl).2.1
    | true => exact absurd p (by simp [D.pure])
  | .ins _ _ _, _, _, p, _ => absurd p (by simp [D.pure])
theorem RpL.own_nil : ∀ (ds : List D) (vs : List V) (A : List Addr), D.pureL ds = true → RpL k F H ds vs A → A = []
  | [], _, _, _, h => h.2
  | d :: ds, xs, A, p, h => by
    obtain ⟨v, vs, B, C, e1, e2, h1, h2⟩ := h
    have p' : d.pure = true ∧ D.pureL ds = true := by simpa [D.pureL] using p
    rw [e2, Rp.own_nil d v B p'.1 h1, RpL.own_nil ds vs C p'.2 h2]
    rfl
end
/-- what is pure stands on the frozen part alone -/
theorem Rp.pure {d : D} {v : V} {A : List Addr} (p : d.pure = true) (ff : Ex F F') (h : Rp k F H d v A) : Rp k F' H' d v [] := by
  have e := Rp.own_nil d v A p h
  subst e
  exact Rp.mono ff d v [] (fun _ z => nomatch z) h
theorem RpL.pure {ds : List D} {vs : List V} {A : List Addr} (p : D.pureL ds = true) (ff : Ex F F') (h : RpL k F H ds vs A) : RpL k F' H' ds vs [] := by
  have e := RpL.own_nil ds vs A p h
  subst e
  exact RpL.mono ff ds vs [] (fun _ z => nomatch z) h
mutual
/-- the owned addresses stand in H and not in F -/
theorem Rp.dom : ∀ (d : D) (v : V) (A : List Addr), Rp k F H d v A → ∀ a ∈ A, F a = none ∧ ∃ o, H a = some o ∧ (∀ xs, o ≠ .tup xs) ∧ ∀ ob u, o ≠ .frz ob u
  | .non, _, _, h => by rw [h.2]; exact fun _ z => nomatch z
  | .bl _, _, _, h => by rw [h.2]; exact fun _ z => nomatch z
  | .int _, _, _, h => by rw [h.2]; exact fun _ z => nomatch z
  | .str _, _, _, h => by rw [h.2]; exact fun _ z => nomatch z
  | .fn _, _, _, h => by rw [h.2]; exact fun _ z => nomatch z
  | .tup ds, v, A, h => by
    obtain ⟨a, xs, e, s, r⟩ := h
    exact RpL.dom ds xs A r
  | .lst o ds, v, A, h => by
    obtain ⟨a, xs, B, e, r, h1, h2⟩ := h
    cases o with
    | false => rw [(h1 rfl).2.1]; exact fun _ z => nomatch z
    | true =>
      rw [(h2 rfl).1]
      intro b hb
      rcases List.mem_cons.mp hb with rfl | hb
      · exact ⟨(h2 rfl).2.1, _, (h2 rfl).2.2, (fun _ z => nomatch z), (fun _ _ z => nomatch z)⟩
      · exact RpL.dom ds xs B r b hb
  | .scr ds, v, A, h => by
    obtain ⟨a, xs, e, e2, s, r⟩ := h
    rw [e2]; exact fun _ z => nomatch z
  | .dic o ks ds, v, A, h => by
    obtain ⟨a, xs, B, e, l, r, h1, h2⟩ := h
    cases o with
    | false => rw [(h1 rfl).2.1]; exact fun _ z => nomatch z
    | true =>
      rw [(h2 rfl).1]
      intro b hb
      rcases List.mem_cons.mp hb with rfl | hb
      · exact ⟨(h2 rfl).2.1, _, (h2 rfl).2.2, (fun _ z => nomatch z), (fun _ _ z => nomatch z)⟩
      · exact RpL.dom ds xs B r b hb
  | .dit o ks ds, v, A, h => by
    obtain ⟨a, xs, B, e, l, r, h1, h2⟩ := h
    cases o with
    | false => rw [(h1 rfl).2.1]; exact fun _ z => nomatch z
    | true =>
      rw [(h2 rfl).1]
      intro b hb
      rcases List.mem_cons.mp hb with rfl | hb
      · exact ⟨(h2 rfl).2.1, _, (h2 rfl).2.2, (fun _ z => nomatch z), (fun _ _ z => nomatch z)⟩
      · exact RpL.dom ds xs B r b hb
  | .ins c fs ds, v, A, h => by
    obtain ⟨a, dx, xs, B, e, l, r, h1, h2, h3⟩ := h
    rw [h1]
    intro b hb
    rcases List.mem_cons.mp hb with rfl | hb
    · exact ⟨h2, _, h3, (fun _ z => nomatch z), (fun _ _ z => nomatch z)⟩
    · exact RpL.dom ds xs B r b hb
theorem RpL.dom : ∀ (ds : List D) (vs : List V) (A : List Addr), RpL k F H ds vs A → ∀ a ∈ A, F a = none ∧ ∃ o, H a = some o ∧ (∀ xs, o ≠ .tup xs) ∧ ∀ ob u, o ≠ .frz ob u
  | [], _, _, h => by rw [h.2]; exact fun _ z => nomatch z
  | d :: ds, xs, A, h => by
    obtain ⟨v, vs, B, C, e1, e2, h1, h2⟩ := h
    rw [e2]
    intro b hb
    rcases List.mem_append.mp hb with hb | hb
    · exact Rp.dom d v B h1 b hb
    · exact RpL.dom ds vs C h2 b hb
end
/-- the frozen part with A's objects -/
def fz (F H : Hp) (A : List Addr) : Hp := fun a => if a ∈ A then H a else F a
theorem fz_in {A : List Addr} {a : Addr} (h : a ∈ A) : fz F H A a = H a := if_pos h
theorem fz_out {A : List Addr} {a : Addr} (h : a ∉ A) : fz F H A a = F a := if_neg h
theorem fz_ex {A : List Addr} (h : ∀ a ∈ A, F a = none) : Ex F (fz F H A) := fun a o e => by
  rw [fz_out fun z => by rw [h a z] at e; cases e]
  exact e
theorem fz_exH {A : List Addr} (h : Ex F H) : Ex (fz F H A) H := fun a o e => by
  by_cases q : a ∈ A
  · rw [fz_in q] at e; exact e
  · rw [fz_out q] at e; exact h a o e
mutual
theorem Rp.frz {A0 : List Addr} (n : ∀ a ∈ A0, F a = none) : ∀ (d : D) (v : V) (A : List Addr), d.cold = true → (∀ a ∈ A, a ∈ A0) → Rp k F H d v A → Rp k (fz F H A0) H' d.frz v []
  | .non, _, _, _, _, h => ⟨h.1, rfl⟩
  | .bl _, _, _, _, _, h => ⟨h.1, rfl⟩
  | .int _, _, _, _, _, h => ⟨h.1, rfl⟩
  | .str _, _, _, _, _, h => ⟨h.1, rfl⟩
  | .fn _, _, _, _, _, h => ⟨h.1, rfl⟩
  | .tup ds, v, A, c, m, h => by
    obtain ⟨a, xs, e, s, r⟩ := h
    exact ⟨a, xs, e, ex_t (fz_ex n) s, RpL.frz n ds xs A c m r⟩
  | .lst o ds, v, A, c, m, h => by
    obtain ⟨a, xs, B, e, r, h1, h2⟩ := h
    cases o with
    | false => exact ⟨a, xs, [], e, RpL.frz n ds xs B c (by rw [(h1 rfl).2.2]; exact fun _ z => nomatch z) r, fun _ => ⟨fz_ex n _ _ (h1 rfl).1, rfl, rfl⟩, (fun z => nomatch z)⟩
    | true =>
      have e1 := (h2 rfl).1
      refine ⟨a, xs, [], e, RpL.frz n ds xs B c (fun b hb => m b (by rw [e1]; exact List.mem_cons_of_mem _ hb)) r, fun _ => ⟨?_, rfl, rfl⟩, (fun z => nomatch z)⟩
      rw [fz_in (m a (by rw [e1]; exact List.mem_cons_self))]
      exact (h2 rfl).2.2
  | .scr ds, v, A, c, m, h => by
    obtain ⟨a, xs, e, e2, s, r⟩ := h
    exact ⟨a, xs, e, rfl, ex_l (fz_ex n) s, RpL.frz n ds xs [] c (fun _ z => nomatch z) r⟩
  | .dic o ks ds, v, A, c, m, h => by
    obtain ⟨a, xs, B, e, l, r, h1, h2⟩ := h
    cases o with
    | false => exact ⟨a, xs, [], e, l, RpL.frz n ds xs B c (by rw [(h1 rfl).2.2]; exact fun _ z => nomatch z) r, fun _ => ⟨fz_ex n _ _ (h1 rfl).1, rfl, rfl⟩, (fun z => nomatch z)⟩
    | true =>
      have e1 := (h2 rfl).1
      refine ⟨a, xs, [], e, l, RpL.frz n ds xs B c (fun b hb => m b (by rw [e1]; exact List.mem_cons_of_mem _ hb)) r, fun _ => ⟨?_, rfl, rfl⟩, (fun z => nomatch z)⟩
      rw [fz_in (m a (by rw [e1]; exact List.mem_cons_self))]
      exact (h2 rfl).2.2
  | .dit o ks ds, v, A, c, m, h => by
    obtain ⟨a, xs, B, e, l, r, h1, h2⟩ := h
    cases o with
    | false => exact ⟨a, xs, [], e, l, RpL.frz n ds xs B c (by rw [(h1 rfl).2.2]; exact fun _ z => nomatch z) r, fun _ => ⟨fz_ex n _ _ (h1 rfl).1, rfl, rfl⟩, (fun z => nomatch z)⟩
    | true =>
      have e1 := (h2 rfl).1
      refine ⟨a, xs, [], e, l, RpL.frz n ds xs B c (fun b hb => m b (by rw [e1]; exact List.mem_cons_of_mem _ hb)) r, fun _ => ⟨?_, rfl, rfl⟩, (fun z => nomatch z)⟩
      rw [fz_in (m a (by rw [e1]; exact List.mem_cons_self))]
      exact (h2 rfl).2.2
  | .ins _ _ _, _, _, c, _, _ => absurd c (by simp [D.cold])
theorem RpL.frz {A0 : List Addr} (n : ∀ a ∈ A0, F a = none) : ∀ (ds : List D) (vs : List V) (A : List Addr), D.coldL ds = true → (∀ a ∈ A, a ∈ A0) → RpL k F H ds vs A → RpL k (fz F H A0) H' (D.frzL ds) vs []
  | [], _, _, _, _, h => ⟨h.1, rfl⟩
  | d :: ds, xs, A, c, m, h => by
    obtain ⟨v, vs, B, C, e1, e2, h1, h2⟩ := h
    have c' : d.cold = true ∧ D.coldL ds = true := by simpa [D.coldL] using c
    exact ⟨v, vs, [], [], e1, rfl, Rp.frz n d v B c'.1 (fun a ha => m a (by rw [e2]; exact List.mem_append_left _ ha)) h1, RpL.frz n ds vs C c'.2 (fun a ha => m a (by rw [e2]; exact List.mem_append_right _ ha)) h2⟩
end
mutual
theorem D.frz_pure : ∀ d : D, d.cold = true → d.frz.pure = true
  | .non, _ => rfl | .bl _, _ => rfl | .int _, _ => rfl | .str _, _ => rfl | .fn _, _ => rfl
  | .tup xs, c => by simpa [D.frz, D.pure] using D.frzL_pure xs c
  | .lst _ xs, c => by simpa [D.frz, D.pure] using D.frzL_pure xs c
  | .scr xs, c => by simpa [D.frz, D.pure] using D.frzL_pure xs c
  | .dic _ _ xs, c => by simpa [D.frz, D.pure] using D.frzL_pure xs c
  | .dit _ _ xs, c => by simpa [D.frz, D.pure] using D.frzL_pure xs c
  | .ins _ _ _, c => absurd c (by simp [D.cold])
theorem D.frzL_pure : ∀ ds : List D, D.coldL ds = true → D.pureL (D.frzL ds) = true
  | [], _ => rfl
  | d :: ds, c => by
    have c' : d.cold = true ∧ D.coldL ds = true := by simpa [D.coldL] using c
    simp [D.frzL, D.pureL, D.frz_pure d c'.1, D.frzL_pure ds c'.2]
end
mutual
theorem D.pure_cold : ∀ d : D, d.pure = true → d.cold = true
  | .non, _ => rfl | .bl _, _ => rfl | .int _, _ => rfl | .str _, _ => rfl | .fn _, _ => rfl
  | .tup xs, c => D.pureL_cold xs c
  | .lst o xs, c => D.pureL_cold xs (by simp [D.pure] at c; exact c.2)
  | .scr xs, c => D.pureL_cold xs c
  | .dic o _ xs, c => D.pureL_cold xs (by simp [D.pure] at c; exact c.2)
  | .dit o _ xs, c => D.pureL_cold xs (by simp [D.pure] at c; exact c.2)
  | .ins _ _ _, c => absurd c (by simp [D.pure])
theorem D.pureL_cold : ∀ ds : List D, D.pureL ds = true → D.coldL ds = true
  | [], _ => rfl
  | d :: ds, c => by
    have c' : d.pure = true ∧ D.pureL ds = true := by simpa [D.pureL] using c
    simp [D.coldL, D.pure_cold d c'.1, D.pureL_cold ds c'.2]
end
mutual
theorem D.pure_frz : ∀ d : D, d.pure = true → d.frz = d
  | .non, _ => rfl | .bl _, _ => rfl | .int _, _ => rfl | .str _, _ => rfl | .fn _, _ => rfl
  | .tup xs, c => by rw [D.frz, D.pureL_frzL xs c]
  | .lst o xs, c => by simp [D.pure] at c; rw [D.frz, D.pureL_frzL xs c.2, c.1]
  | .scr xs, c => by rw [D.frz, D.pureL_frzL xs c]
  | .dic o _ xs, c => by simp [D.pure] at c; rw [D.frz, D.pureL_frzL xs c.2, c.1]
  | .dit o _ xs, c => by simp [D.pure] at c; rw [D.frz, D.pureL_frzL xs c.2, c.1]
  | .ins _ _ _, c => absurd c (by simp [D.pure])
theorem D.pureL_frzL : ∀ ds : List D, D.pureL ds = true → D.frzL ds = ds
  | [], _ => rfl
  | d :: ds, c => by
    have c' : d.pure = true ∧ D.pureL ds = true := by simpa [D.pureL] using c
    rw [D.frzL, D.pure_frz d c'.1, D.pureL_frzL ds c'.2]
end
mutual
/-- without frozen lists: the frozen part may lose addresses of lists and dicts -/
theorem Rp.thin (m : List Addr) (hm : ∀ a ∈ m, ∀ o, F a = some o → (∀ xs, o ≠ .tup xs) ∧ ∀ ob u, o ≠ .frz ob u) : ∀ (d : D) (v : V) (A : List Addr), d.noFz = true → Rp k F H d v A → Rp k (fun a => if a ∈ m then none else F a) H d v A
  | .non, _, _, _, h => h
  | .bl _, _, _, _, h => h
  | .int _, _, _, _, h => h
  | .str _, _, _, _, h => h
  | .fn _, _, _, _, h => h
  | .tup ds, v, A, p, h => by
    obtain ⟨a, xs, e, s, r⟩ := h
    refine ⟨a, xs, e, ?_, RpL.thin m hm ds xs A p r⟩
    rcases s with (s | ⟨o, s⟩) | s
    · refine .inl (.inl ?_)
      show (if a ∈ m then none else F a) = _
      rw [if_neg fun z => (hm a z _ s).1 _ rfl]
      exact s
    · refine .inl (.inr ⟨o, ?_⟩)
      show (if a ∈ m then none else F a) = _
      rw [if_neg fun z => (hm a z _ s).2 _ _ rfl]
      exact s
    · exact .inr s
  | .lst o ds, v, A, p, h => by
    obtain ⟨a, xs, B, e, r, h1, h2⟩ := h
    cases o with
    | false => exact absurd p (by simp [D.noFz])
    | true =>
      refine ⟨a, xs, B, e, RpL.thin m hm ds xs B (by simpa [D.noFz] using p) r, (fun z => nomatch z), fun _ => ⟨(h2 rfl).1, ?_, (h2 rfl).2.2⟩⟩
      show (if a ∈ m then none else F a) = none
      rw [(h2 rfl).2.1]; split <;> rfl
  | .scr _, _, _, p, _ => absurd p (by simp [D.noFz])
  | .dic o ks ds, v, A, p, h => by
    obtain ⟨a, xs, B, e, l, r, h1, h2⟩ := h
    cases o with
    | false => exact absurd p (by simp [D.noFz])
    | true =>
      refine ⟨a, xs, B, e, l, RpL.thin m hm ds xs B (by simpa [D.noFz] using p) r, (fun z => nomatch z), fun _ => ⟨(h2 rfl).1, ?_, (h2 rfl).2.2⟩⟩
      show (if a ∈ m then none else F a) = none
      rw [(h2 rfl).2.1]; split <;> rfl
  | .dit o ks ds, v, A, p, h => by
    obtain ⟨a, xs, B, e, l, r, h1, h2⟩ := h
    cases o with
    | false => exact absurd p (by simp [D.noFz])
    | true =>
      refine ⟨a, xs, B, e, l, RpL.thin m hm ds xs B (by simpa [D.noFz] using p) r, (fun z => nomatch z), fun _ => ⟨(h2 rfl).1, ?_, (h2 rfl).2.2⟩⟩
      show (if a ∈ m then none else F a) = none
      rw [(h2 rfl).2.1]; split <;> rfl
  | .ins c fs ds, v, A, p, h => by
    obtain ⟨a, dx, xs, B, e, l, r, h1, h2, h3⟩ := h
    refine ⟨a, dx, xs, B, e, l, RpL.thin m hm ds xs B p r, h1, ?_, h3⟩
    show (if a ∈ m then none else F a) = none
    rw [h2]; split <;> rfl
theorem RpL.thin (m : List Addr) (hm : ∀ a ∈ m, ∀ o, F a = some o → (∀ xs, o ≠ .tup xs) ∧ ∀ ob u, o ≠ .frz ob u) : ∀ (ds : List D) (vs : List V) (A : List Addr), D.noFzL ds = true → RpL k F H ds vs A → RpL k (fun a => if a ∈ m then none else F a) H ds vs A
  | [], _, _, _, h => h
  | d :: ds, xs, A, p, h => by
    obtain ⟨v, vs, B, C, e1, e2, h1, h2⟩ := h
    have p' : d.noFz = true ∧ D.noFzL ds = true := by simpa [D.noFzL] using p
    exact ⟨v, vs, B, C, e1, e2, Rp.thin m hm d v B p'.1 h1, RpL.thin m hm ds vs C p'.2 h2⟩
end
/-! lists of data -/
theorem RpL.len : ∀ {ds : List D} {vs : List V} {A : List Addr}, RpL k F H ds vs A → ds.length = vs.length
  | [], _, _, h => by rw [h.1]; rfl
  | d :: ds, xs, A, h => by
    obtain ⟨v, vs, B, C, e1, e2, h1, h2⟩ := h
    rw [e1, List.length_cons, List.length_cons, RpL.len h2]
theorem RpL.get : ∀ {ds : List D} {vs : List V} {A : List Addr} {i : Nat} {d : D}, RpL k F H ds vs A → ds[i]? = some d → ∃ v B, vs[i]? = some v ∧ Rp k F H d v B ∧ ∀ a ∈ B, a ∈ A
  | [], _, _, i, _, _, e => by simp at e
  | d :: ds, xs, A, 0, d', h, e => by
    obtain ⟨v, vs, B, C, e1, e2, h1, h2⟩ := h
    have e' : d = d' := by simpa using e
    subst e'
    exact ⟨v, B, by rw [e1]; rfl, h1, fun a ha => by rw [e2]; exact List.mem_append_left _ ha⟩
  | d :: ds, xs, A, i + 1, d', h, e => by
    obtain ⟨v, vs, B, C, e1, e2, h1, h2⟩ := h
    obtain ⟨w, B', g1, g2, g3⟩ := RpL.get (i := i) h2 (by simpa using e)
    exact ⟨w, B', by rw [e1]; exact g1, g2, fun a ha => by rw [e2]; exact List.mem_append_right _ (g3 a ha)⟩
theorem RpL.append : ∀ {ds es : List D} {vs ws : List V} {A B : List Addr}, RpL k F H ds vs A → RpL k F H es ws B → RpL k F H (ds ++ es) (vs ++ ws) (A ++ B)
  | [], es, vs, ws, A, B, h, h' => by
    rw [h.1, h.2]
    exact h'
  | d :: ds, es, xs, ws, A, B, h, h' => by
    obtain ⟨v, vs, A1, A2, e1, e2, h1, h2⟩ := h
    refine ⟨v, vs ++ ws, A1, A2 ++ B, by rw [e1]; rfl, by rw [e2, List.append_assoc], h1, RpL.append h2 h'⟩
theorem RpL.one {d : D} {v : V} {A : List Addr} (h : Rp k F H d v A) : RpL k F H [d] [v] A := ⟨v, [], A, [], rfl, (List.append_nil A).symm, h, rfl, rfl⟩
theorem RpL.take : ∀ {ds : List D} {vs : List V} (n : Nat), RpL k F H ds vs [] → RpL k F H (ds.take n) (vs.take n) []
  | ds, vs, 0, _ => by
    rw [List.take_zero, List.take_zero]
    exact ⟨rfl, rfl⟩
  | [], vs, n + 1, h => by
    rw [h.1]
    exact ⟨rfl, rfl⟩
  | d :: ds, xs, n + 1, h => by
    obtain ⟨v, vs, A1, A2, e1, e2, h1, h2⟩ := h
    obtain ⟨r1, r2⟩ := List.append_eq_nil_iff.mp e2.symm
    subst r1 r2
    exact ⟨v, vs.take n, [], [], by rw [e1]; rfl, rfl, h1, RpL.take n h2⟩
theorem RpL.drop : ∀ {ds : List D} {vs : List V} (n : Nat), RpL k F H ds vs [] → RpL k F H (ds.drop n) (vs.drop n) []
  | ds, vs, 0, h => h
  | [], vs, n + 1, h => by
    rw [h.1]
    exact ⟨rfl, rfl⟩
  | d :: ds, xs, n + 1, h => by
    obtain ⟨v, vs, A1, A2, e1, e2, h1, h2⟩ := h
    obtain ⟨r1, r2⟩ := List.append_eq_nil_iff.mp e2.symm
    subst r1 r2
    rw [e1]
    exact RpL.drop (vs := vs) n h2
theorem RpL.reverse : ∀ {ds : List D} {vs : List V}, RpL k F H ds vs [] → RpL k F H ds.reverse vs.reverse []
  | [], vs, h => by
    rw [h.1]
    exact ⟨rfl, rfl⟩
  | d :: ds, xs, h => by
    obtain ⟨v, vs, A1, A2, e1, e2, h1, h2⟩ := h
    obtain ⟨r1, r2⟩ := List.append_eq_nil_iff.mp e2.symm
    subst r1 r2
    rw [e1, List.reverse_cons, List.reverse_cons]
    exact RpL.append (RpL.reverse h2) (RpL.one h1)
/-- a place set anew -/
theorem RpL.set : ∀ {ds : List D} {vs : List V} {A : List Addr} {i : Nat} {d : D} {v : V} {B : List Addr}, RpL k F H ds vs A → Rp k F H d v B → i < ds.length → ∃ A1 A2 A3, A = A1 ++ A2 ++ A3 ∧ RpL k F H (ds.set i d) (vs.set i v) (A1 ++ B ++ A3)
  | [], _, _, _, _, _, _, _, _, hi => by simp at hi
  | d0 :: ds, xs, A, 0, d, v, B, h, hd, hi => by
    obtain ⟨w, vs, A1, A2, e1, e2, h1, h2⟩ := h
    refine ⟨[], A1, A2, by rw [e2]; rfl, v, vs, B, A2, by rw [e1]; rfl, rfl, hd, h2⟩
  | d0 :: ds, xs, A, i + 1, d, v, B, h, hd, hi => by
    obtain ⟨w, vs, A1, A2, e1, e2, h1, h2⟩ := h
    obtain ⟨C1, C2, C3, e3, h3⟩ := RpL.set (i := i) h2 hd (by simpa using hi)
    refine ⟨A1 ++ C1, C2, C3, by rw [e2, e3]; simp, w, vs.set i v, A1, C1 ++ B ++ C3, by rw [e1]; rfl, by simp, h1, h3⟩
end
end Dv
end
section
set_option maxRecDepth 100000
set_option maxHeartbeats 1000000
namespace Dv
open PySem PySem.Spec PyProof.Rows L2

/-- what an expression comes to: nothing is said, a value, an exception of the class numbered -/
inductive R (α : Type) where
  | no | ok (a : α) | ex (c : Nat)
def R.bind {α β : Type} (r : R α) (f : α → R β) : R β :=
  match r with
  | .no => .no
  | .ok a => f a
  | .ex c => .ex c
@[simp] theorem R.bind_no {α β : Type} (f : α → R β) : (R.no).bind f = .no := rfl
@[simp] theorem R.bind_ok {α β : Type} (a : α) (f : α → R β) : (R.ok a).bind f = f a := rfl
@[simp] theorem R.bind_ex {α β : Type} (c : Nat) (f : α → R β) : (R.ex c).bind f = .ex c := rfl
abbrev Env := List (Option D)
/-- what a statement comes to -/
inductive SR where
  | no | nx (ρ : Env) | bk (ρ : Env) | ct (ρ : Env) | rt (d : D) (ρ : Env) | ex (c : Nat) (ρ : Env)

def Res {α : Type} (r : R α) (P : α → Prop) (E : Nat → Prop) : Prop :=
  match r with
  | .no => False
  | .ok a => P a
  | .ex c => E c
theorem Res.mono {α : Type} {r : R α} {P P' : α → Prop} {E E' : Nat → Prop} (h : Res r P E) (p : ∀ a, r = .ok a → P a → P' a) (e : ∀ c, r = .ex c → E c → E' c) : Res r P' E' := by
  cases r with
  | no => exact h
  | ok a => exact p a rfl h
  | ex c => exact e c rfl h
theorem Res.bind {α β : Type} {r : R α} {f : α → R β} {P : β → Prop} {E : Nat → Prop} (h : Res (r.bind f) P E) : Res r (fun a => Res (f a) P E) E := by
  cases r with
  | no => exact h
  | ok a => exact h
  | ex c => exact h

/-- a def's run: what was at its entry -/
structure En where
  k : Kx
  ec : Nat → Value
  He : Hp
  F0 : Hp
  B : List Addr
  bs : List Nat
  v0 : L2.St

/-- what the slots own -/
structure Sl (E : En) (F H : Hp) (σ : L2.St) (ρ : Env) (fp : Nat → List Addr) : Prop where
  rp : ∀ i d, ρ[i]? = some (some d) → ∃ v, σ[i]? = some (some v) ∧ Rp E.k F H d v (fp i)
  em : ∀ i, ρ[i]?.getD none = none → fp i = []
  nd : ∀ i, (fp i).Nodup
  dj : ∀ i j a, a ∈ fp i → a ∈ fp j → i = j
  nw : ∀ i a, a ∈ fp i → E.He a = none ∨ (a ∈ E.B ∧ i ∈ E.bs)
theorem some_some {ρ : Env} {i : Nat} {d : D} (e : ρ[i]?.getD none = some d) : ρ[i]? = some (some d) := by
  cases z : ρ[i]? with
  | none => rw [z] at e; cases e
  | some o => rw [z] at e; exact congrArg some e
theorem Sl.there {E : En} {F H : Hp} {σ : L2.St} {ρ : Env} {fp : Nat → List Addr} (s : Sl E F H σ ρ fp) {i : Nat} {a : Addr} (h : a ∈ fp i) : F a = none ∧ H a ≠ none := by
  cases e : ρ[i]?.getD none with
  | none => rw [s.em i e] at h; cases h
  | some d =>
    obtain ⟨v, _, r⟩ := s.rp i d (some_some e)
    obtain ⟨h1, o, h2, _⟩ := Rp.dom d v _ r a h
    exact ⟨h1, by rw [h2]; exact fun z => nomatch z⟩
structure Stt (E : En) (F H : Hp) (σ : L2.St) (ρ : Env) : Prop where
  e0 : Ex E.F0 F
  fh : Ex F H
  fr : ∀ a, E.F0 a = none → E.He a ≠ none → F a = none
  st : ∀ a o, E.He a = some o → a ∉ E.B → H a = some o
  bt : ∀ a ∈ E.B, H a ≠ none
  len : ρ.length = σ.length
  bv : ∀ i ∈ E.bs, i < σ.length ∧ σ[i]? = E.v0[i]?
  sl : ∃ fp, Sl E F H σ ρ fp

section
variable {E : En} {F H F' H' : Hp} {σ : L2.St} {ρ : Env}
theorem Rp.tr {k : Kx} {d : D} {v : V} {A : List Addr} (t : Tr F H F' H') (r : Rp k F H d v A) : Rp k F' H' d v A :=
  Rp.mono t.ff d v A (fun a _ o e n => ⟨t.hh a o e, t.no a n fun z => by rw [z] at e; cases e⟩) r
theorem RpL.tr {k : Kx} {d : List D} {v : List V} {A : List Addr} (t : Tr F H F' H') (r : RpL k F H d v A) : RpL k F' H' d v A :=
  RpL.mono t.ff d v A (fun a _ o e n => ⟨t.hh a o e, t.no a n fun z => by rw [z] at e; cases e⟩) r
/-- what was there at the entry is there -/
theorem Stt.there (s : Stt E F H σ ρ) {a : Addr} (h : E.He a ≠ none) : H a ≠ none := by
  by_cases b : a ∈ E.B
  · exact s.bt a b
  · cases q : E.He a with
    | none => exact absurd q h
    | some o => rw [s.st a o q b]; exact fun z => nomatch z
theorem Stt.new (s : Stt E F H σ ρ) {a : Addr} (h : H a = none) : E.He a = none := by
  cases q : E.He a with
  | none => rfl
  | some o => exact absurd h (s.there (by rw [q]; exact fun z => nomatch z))
theorem Stt.tr (s : Stt E F H σ ρ) (t : Tr F H F' H') : Stt E F' H' σ ρ := by
  obtain ⟨fp, sl⟩ := s.sl
  refine ⟨s.e0.trans t.ff, t.fh, fun a e n => t.no a (s.fr a e n) (s.there n), fun a o e b => t.hh a o (s.st a o e b), fun a b z => ?_, s.len, s.bv, fp, fun i d e => ?_, sl.em, sl.nd, sl.dj, sl.nw⟩
  · cases q : H a with
    | none => exact s.bt a b q
    | some o => rw [t.hh a o q] at z; cases z
  · obtain ⟨v, e1, r⟩ := sl.rp i d e
    exact ⟨v, e1, r.tr t⟩
end

/-! ### what is wanted -/
/-- of an expression whose value is its own; of one whose value may be looked at only -/
def tO (E : En) (W : WX) (f : Env → R D) : TE := fun σ H Q => ∃ F ρ, Stt E F H σ ρ ∧
  Res (f ρ) (fun d => ∀ F' H' v A, Tr F H F' H' → Rp E.k F' H' d v A → A.Nodup → (∀ a ∈ A, H a = none) → Q v H') (fun c => ∀ F' H', Tr F H F' H' → W (E.ec c) none σ H')
def tV (E : En) (W : WX) (f : Env → R D) : TE := fun σ H Q => ∃ F ρ, Stt E F H σ ρ ∧
  Res (f ρ) (fun d => ∀ F' H' v A, Tr F H F' H' → Rp E.k F' H' d v A → Q v H') (fun c => ∀ F' H', Tr F H F' H' → W (E.ec c) none σ H')
def tT (E : En) (W : WX) (f : Env → R Bool) : TT := fun σ H Q => ∃ F ρ, Stt E F H σ ρ ∧
  Res (f ρ) (fun b => ∀ F' H', Tr F H F' H' → Q b H') (fun c => ∀ F' H', Tr F H F' H' → W (E.ec c) none σ H')
/-- of an argument list: values that are looked at -/
def tA (E : En) (W : WX) (f : Env → R (List D)) : TA := fun σ H Q => ∃ F ρ, Stt E F H σ ρ ∧
  Res (f ρ) (fun ds => ∀ F' H' vs, Tr F H F' H' → Paired (fun v d => ∃ A, Rp E.k F' H' d v A) vs ds → Q vs H') (fun c => ∀ F' H', Tr F H F' H' → W (E.ec c) none σ H')
/-- what a def's end is: the value is new or old and frozen, what the caller has is as it was -/
structure Fin (E : En) (F' H' : Hp) (d : D) (v : V) : Prop where
  e0 : Ex E.F0 F'
  fh : Ex F' H'
  fr : ∀ a, E.F0 a = none → E.He a ≠ none → F' a = none
  st : ∀ a o, E.He a = some o → a ∉ E.B → H' a = some o
  bt : ∀ a ∈ E.B, H' a ≠ none
  rp : ∃ A, Rp E.k F' H' d v A ∧ A.Nodup ∧ ∀ a ∈ A, E.He a = none
def SRes (E : En) (W : WX) (F : Hp) (Z : Ends) (r : SR) : Prop :=
  match r with
  | .no => False
  | .nx ρ => ∀ F' H' σ, Ex F F' → Stt E F' H' σ ρ → Z.nx σ H'
  | .bk ρ => ∀ F' H' σ, Ex F F' → Stt E F' H' σ ρ → Z.bk σ H'
  | .ct ρ => ∀ F' H' σ, Ex F F' → Stt E F' H' σ ρ → Z.ct σ H'
  | .rt d ρ => ∀ F' H' σ v, Stt E F' H' σ ρ → Fin E F' H' d v → (E.bs = [] ∨ Stt E F' H' (σ ++ [some v]) (ρ ++ [some d])) → Z.rt v H'
  | .ex c ρ => ∀ F' H' σ, Ex F F' → Stt E F' H' σ ρ → W (E.ec c) none σ H'
def tSS (E : En) (W : WX) (f : Env → SR) : TS := fun Z σ H => ∃ F ρ, Stt E F H σ ρ ∧ SRes E W F Z (f ρ)

structure EO (X : Cx) (E : En) (W : WX) (e : Expr) (f : Env → R D) : Prop where
  pe : PE X e (tO E W f)
structure EV (X : Cx) (E : En) (W : WX) (e : Expr) (f : Env → R D) : Prop where
  pe : PE X e (tV E W f)
structure ET (X : Cx) (E : En) (W : WX) (e : Expr) (f : Env → R Bool) : Prop where
  pt : PT X e (tT E W f)
structure EW (X : Cx) (E : En) (W : WX) (e : Expr) (f : Env → R Bool) : Prop where
  pw : PW X e (tT E W f)
structure EA (X : Cx) (E : En) (W : WX) (es : List Expr) (f : Env → R (List D)) : Prop where
  pa : PA X es (tA E W f)
structure SS (X : Cx) (E : En) (W : WX) (st : Stmt) (f : Env → SR) : Prop where
  ps : PS X st (tSS E W f)
structure SB (X : Cx) (E : En) (W : WX) (st : List Stmt) (f : Env → SR) : Prop where
  ps : PSs X st (tSS E W f)

theorem pe_mono {X : Cx} {e : Expr} {t t' : TE} (h : PE X e t) (i : ∀ σ H Q, t' σ H Q → t σ H Q) : PE X e t' := ⟨fun pins s σ H Q I q => h.run pins s σ H Q I (i σ H Q q)⟩
theorem pt_mono {X : Cx} {e : Expr} {t t' : TT} (h : PT X e t) (i : ∀ σ H Q, t' σ H Q → t σ H Q) : PT X e t' := ⟨fun pins s σ H Q I q => h.run pins s σ H Q I (i σ H Q q)⟩
theorem pw_mono {X : Cx} {e : Expr} {t t' : TT} (h : PW X e t) (i : ∀ σ H Q, t' σ H Q → t σ H Q) : PW X e t' := ⟨fun wh pins s σ H Q I q => h.run wh pins s σ H Q I (i σ H Q q)⟩
theorem pa_mono {X : Cx} {e : List Expr} {t t' : TA} (h : PA X e t) (i : ∀ σ H Q, t' σ H Q → t σ H Q) : PA X e t' := ⟨fun p pins s σ H Q I q => h.run p pins s σ H Q I (i σ H Q q)⟩
theorem ps_mono {X : Cx} {e : Stmt} {t t' : TS} (h : PS X e t) (i : ∀ Z σ H, t' Z σ H → t Z σ H) : PS X e t' := ⟨fun pins s σ H Z I q => h.run pins s σ H Z I (i Z σ H q)⟩
theorem pss_mono {X : Cx} {e : List Stmt} {t t' : TS} (h : PSs X e t) (i : ∀ Z σ H, t' Z σ H → t Z σ H) : PSs X e t' := ⟨fun pins s σ H Z I q => h.run pins s σ H Z I (i Z σ H q)⟩

section
variable {X : Cx} {E : En} {W : WX}
/-- own values may be looked at -/
theorem EO.v {e : Expr} {f : Env → R D} (h : EO X E W e f) : EV X E W e f := ⟨pe_mono h.pe fun σ H Q ⟨F, ρ, s, q⟩ => ⟨F, ρ, s, q.mono (fun d _ p F' H' v A t r _ _ => p F' H' v A t r) fun _ _ z => z⟩⟩
/-- what is pure may be kept -/
def asOwn (f : Env → R D) : Env → R D := fun ρ => (f ρ).bind fun d => if d.pure then .ok d else .no
theorem EV.o {e : Expr} {f : Env → R D} (h : EV X E W e f) : EO X E W e (asOwn f) := by
  refine ⟨pe_mono h.pe fun σ H Q ⟨F, ρ, s, q⟩ => ⟨F, ρ, s, ?_⟩⟩
  refine Res.mono q.bind (fun d _ p F' H' v A t r => ?_) fun _ _ z => z
  by_cases c : d.pure = true
  · rw [if_pos c] at p
    have e := Rp.own_nil d v A c r
    subst e
    exact p F' H' v [] t r .nil fun _ z => nomatch z
  · rw [if_neg c] at p
    exact p.elim
/-- a result that is made on the way -/
def GOk (E : En) (F H : Hp) (Q : VK) (d : D) : Prop := ∀ F' H' v A, Tr F H F' H' → Rp E.k F' H' d v A → A.Nodup → (∀ a ∈ A, H a = none) → Q v H'
theorem GOk.back {E : En} {F H F1 H1 : Hp} {Q : VK} {d : D} (g : GOk E F H Q d) (t : Tr F H F1 H1) : GOk E F1 H1 Q d := fun F' H' v A t' r n u => g F' H' v A (t.trans t') r n fun a ha => by
  cases q : H a with
  | none => rfl
  | some o => rw [← u a ha, t.hh a o q]
theorem GOk.scal {E : En} {F H : Hp} {Q : VK} {d : D} {v : V} (fh : Ex F H) (g : GOk E F H Q d) (r : ∀ F H, Rp E.k F H d v []) : Q v H := g F H v [] (Tr.refl fh) (r F H) .nil fun _ z => nomatch z
theorem tr_new {F H : Hp} {p : Addr} {o : HO} (fh : Ex F H) (h : H p = none) : Tr F H F (upd H p o) := ⟨.refl _, .new h, fh.trans (.new h), fun _ e _ => e⟩
/-- a new frozen object -/
theorem tr_newF {F H : Hp} {p : Addr} {o : HO} (fh : Ex F H) (h : H p = none) : Tr F H (upd F p o) (upd H p o) := by
  have hf : F p = none := by
    cases q : F p with
    | none => rfl
    | some u => rw [fh p u q] at h; cases h
  refine ⟨.new hf, .new h, fun a u e => ?_, fun a e n => ?_⟩
  · by_cases q : a = p
    · subst q; rw [upd_same] at e ⊢; exact e
    · rw [upd_ne q] at e ⊢; exact fh a u e
  · rw [upd_ne fun z => n (by rw [z]; exact h)]; exact e
/-- a new list whose items are frozen -/
theorem GOk.lst {E : En} {F H : Hp} {Q : VK} {ds : List D} {xs : List V} {p : Addr} (fh : Ex F H) (g : GOk E F H Q (.lst true ds)) (hp : H p = none) (r : RpL E.k F H ds xs []) : Q (.ref p) (upd H p (.lst xs)) := by
  have hf : F p = none := by
    cases q : F p with
    | none => rfl
    | some u => rw [fh p u q] at hp; cases hp
  refine g F _ (.ref p) [p] (tr_new fh hp) ⟨p, xs, [], rfl, r.tr (tr_new fh hp), (fun z => nomatch z), fun _ => ⟨rfl, hf, upd_same⟩⟩ (by simp) fun a ha => ?_
  rw [List.mem_singleton.mp ha]; exact hp
theorem GOk.tup {E : En} {F H : Hp} {Q : VK} {ds : List D} {xs : List V} {p : Addr} (fh : Ex F H) (g : GOk E F H Q (.tup ds)) (hp : H p = none) (r : RpL E.k F H ds xs []) : Q (.ref p) (upd H p (.tup xs)) := by
  refine g _ _ (.ref p) [] (tr_newF fh hp) ⟨p, xs, rfl, .inl (.inl upd_same), r.tr (tr_newF fh hp)⟩ .nil fun _ z => nomatch z

/-! two operands -/
/-- what may be left unsaid -/
def R.opt {α : Type} : Option α → R α
  | some a => .ok a
  | none => .no
@[simp] theorem R.opt_some {α : Type} (a : α) : R.opt (some a) = .ok a := rfl
@[simp] theorem R.opt_none {α : Type} : (R.opt none : R α) = .no := rfl
def e2 (g : D → D → Option D) (fa fb : Env → R D) : Env → R D := fun ρ => (fa ρ).bind fun x => (fb ρ).bind fun y => R.opt (g x y)
@[simp] theorem e2_eq (g : D → D → Option D) (fa fb : Env → R D) (ρ : Env) : e2 g fa fb ρ = (fa ρ).bind fun x => (fb ρ).bind fun y => R.opt (g x y) := rfl
theorem Res.opt {α : Type} {o : Option α} {P : α → Prop} {E : Nat → Prop} (h : Res (R.opt o) P E) : ∃ a, o = some a ∧ P a := by
  cases o with
  | none => exact h.elim
  | some a => exact ⟨a, rfl, h⟩
/-- g says what the operation r does -/
def Says2 (E : En) (r : R2) (g : D → D → Option D) : Prop := ∀ F H x y v w A B Q d, Ex F H → Rp E.k F H x v A → Rp E.k F H y w B → g x y = some d → GOk E F H Q d → r v w H Q
theorem says2 {r : R2} {g : D → D → Option D} (hg : Says2 E r g) {fa fb : Env → R D} {σ : L2.St} {H : Hp} {Q : VK} (h : tO E W (e2 g fa fb) σ H Q) : tOp r (tV E W fa) (tV E W fb) σ H Q := by
  obtain ⟨F, ρ, s, q⟩ := h
  refine ⟨F, ρ, s, Res.mono q.bind (fun x _ q F1 H1 v A t1 r1 => ?_) fun c _ z F' H' t => z F' H' t⟩
  refine ⟨F1, ρ, s.tr t1, Res.mono q.bind (fun y _ q F2 H2 w B t2 r2 => ?_) fun c _ z F' H' t => z F' H' (t1.trans t)⟩
  obtain ⟨d, e, p⟩ := q.opt
  exact hg F2 H2 x y v w A B Q d t2.fh (r1.tr t2) r2 e (GOk.back (F := F) (H := H) (F1 := F2) (H1 := H2) p (t1.trans t2))
theorem eo_op {a b : Expr} {op : Operator} {r : R2} {g : D → D → Option D} {fa fb : Env → R D} {pos : Pos} (ho : OpR X (binaryOp op) r) (hg : Says2 E r g) (ha : EV X E W a fa) (hb : EV X E W b fb) : EO X E W (.BinOp a op b pos) (e2 g fa fb) :=
  ⟨pe_mono (pe_op ho ha.pe hb.pe) fun _ _ _ h => says2 hg h⟩
end
end Dv
end
section
set_option maxRecDepth 100000
set_option maxHeartbeats 1000000
namespace Dv
open PySem PySem.Spec PyProof.Rows L2

section
variable {X : Cx} {E : En} {W : WX}
/-! ### constants and names -/
def eC (d : D) : Env → R D := fun _ => .ok d
@[simp] theorem eC_eq (d : D) (ρ : Env) : eC d ρ = .ok d := rfl
theorem eo_c {e : Expr} {v : V} {d : D} (h : PE X e (tC v)) (r : ∀ F H, Rp E.k F H d v []) : EO X E W e (eC d) :=
  ⟨pe_mono h fun σ H Q ⟨F, ρ, s, q⟩ => GOk.scal (E := E) s.fh (show GOk E F H Q d from q) r⟩
theorem eo_int {i : Int} {j : Nat} {pos : Pos} : EO X E W (.Constant (.int i) j pos) (eC (.int i)) := eo_c pe_int fun _ _ => ⟨rfl, rfl⟩
theorem eo_bl {i : Bool} {j : Nat} {pos : Pos} : EO X E W (.Constant (.bool i) j pos) (eC (.bl i)) := eo_c pe_bl fun _ _ => ⟨rfl, rfl⟩
theorem eo_non {j : Nat} {pos : Pos} : EO X E W (.Constant .none j pos) (eC .non) := eo_c pe_non fun _ _ => ⟨rfl, rfl⟩
theorem eo_str {i : Str} {j : Nat} {pos : Pos} : EO X E W (.Constant (.str i) j pos) (eC (.str i)) := eo_c pe_str fun _ _ => ⟨rfl, rfl⟩
/-- a module's constant -/
theorem eo_glob {x : Str} {v : V} {u : Value} {d : D} {pos : Pos} (hg : Gl X x) (hm : X.mg x = some u) (r : RelV v u) (rp : ∀ F H, Rp E.k F H d v []) (hd : (x == ("__debug__" : Str)) = false := by decide) : EO X E W (.Name x pos) (eC d) := eo_c (pe_glob hg hm r hd) rp
def eVar (i : Nat) : Env → R D := fun ρ => R.opt (ρ[i]?.getD none)
@[simp] theorem eVar_eq (i : Nat) (ρ : Env) : eVar i ρ = R.opt (ρ[i]?.getD none) := rfl
theorem ev_var {e : Expr} {i : Nat} (h : PE X e (tVar i)) : EV X E W e (eVar i) := by
  refine ⟨pe_mono h fun σ H Q ⟨F, ρ, s, q⟩ => ?_⟩
  obtain ⟨d, e, q⟩ := Res.opt q
  obtain ⟨fp, sl⟩ := s.sl
  obtain ⟨v, ev, r⟩ := sl.rp i d (some_some e)
  exact ⟨v, ev, q F H v _ (Tr.refl s.fh) r⟩

/-! ### one operand -/
def e1 (g : D → Option D) (fa : Env → R D) : Env → R D := fun ρ => (fa ρ).bind fun x => R.opt (g x)
@[simp] theorem e1_eq (g : D → Option D) (fa : Env → R D) (ρ : Env) : e1 g fa ρ = (fa ρ).bind fun x => R.opt (g x) := rfl
def Says1 (E : En) (r : V → Hp → VK → Prop) (g : D → Option D) : Prop := ∀ F H x v A Q d, Ex F H → Rp E.k F H x v A → g x = some d → GOk E F H Q d → r v H Q
theorem says1 {r : V → Hp → VK → Prop} {g : D → Option D} (hg : Says1 E r g) {fa : Env → R D} {σ : L2.St} {H : Hp} {Q : VK} (h : tO E W (e1 g fa) σ H Q) : tUn r (tV E W fa) σ H Q := by
  obtain ⟨F, ρ, s, q⟩ := h
  refine ⟨F, ρ, s, Res.mono q.bind (fun x _ q F1 H1 v A t1 r1 => ?_) fun c _ z F' H' t => z F' H' t⟩
  obtain ⟨d, e, p⟩ := q.opt
  exact hg F1 H1 x v A Q d t1.fh r1 e (GOk.back (F := F) (H := H) (F1 := F1) (H1 := H1) p t1)
theorem eo_un {a : Expr} {op : UnaryOp} {r : V → Hp → VK → Prop} {g : D → Option D} {fa : Env → R D} {pos : Pos} (ho : UnR X (unaryOp op) r) (hg : Says1 E r g) (ha : EV X E W a fa) : EO X E W (.UnaryOp op a pos) (e1 g fa) :=
  ⟨pe_mono (pe_un ho ha.pe) fun _ _ _ h => says1 hg h⟩
def gNeg : D → Option D
  | .int i => some (.int (-i))
  | _ => none
@[simp] theorem gNeg_int (i : Int) : gNeg (.int i) = some (.int (-i)) := rfl
theorem says_neg : Says1 E (rU fun i => .int (-i)) gNeg := by
  intro F H x v A Q d fh rx e g
  cases x with
  | int i =>
    cases e
    exact ⟨i, rx.1, g.scal fh fun _ _ => ⟨rfl, rfl⟩⟩
  | _ => cases e
theorem eo_neg {a : Expr} {fa : Env → R D} {pos : Pos} (ha : EV X E W a fa) : EO X E W (.UnaryOp .USub a pos) (e1 gNeg fa) := eo_un un_neg says_neg ha

/-! ### arithmetic -/
/-- two ints under a condition -/
def gI (c : Int → Int → Bool) (f : Int → Int → Int) : D → D → Option D
  | .int i, .int j => if c i j = true then some (.int (f i j)) else none
  | _, _ => none
@[simp] theorem gI_int (c : Int → Int → Bool) (f : Int → Int → Int) (i j : Int) : gI c f (.int i) (.int j) = if c i j = true then some (.int (f i j)) else none := rfl
theorem says_I {C : Int → Int → Prop} {c : Int → Int → Bool} {f : Int → Int → Int} (hc : ∀ i j, c i j = true → C i j) : Says2 E (rI C fun i j => .int (f i j)) (gI c f) := by
  intro F H x y v w A B Q d fh rx ry e g
  cases x with
  | int i =>
    cases y with
    | int j =>
      by_cases z : c i j = true
      · have e' : (if c i j = true then some (D.int (f i j)) else none) = some d := e
        rw [if_pos z] at e'
        cases e'
        exact ⟨i, j, rx.1, ry.1, hc i j z, g.scal fh fun _ _ => ⟨rfl, rfl⟩⟩
      · have e' : (if c i j = true then some (D.int (f i j)) else none) = some d := e
        rw [if_neg z] at e'
        cases e'
    | _ => cases e
  | _ => cases e
def gI0 (f : Int → Int → Int) : D → D → Option D
  | .int i, .int j => some (.int (f i j))
  | _, _ => none
@[simp] theorem gI0_int (f : Int → Int → Int) (i j : Int) : gI0 f (.int i) (.int j) = some (.int (f i j)) := rfl
theorem says_I0 {f : Int → Int → Int} : Says2 E (rI0 fun i j => .int (f i j)) (gI0 f) := by
  intro F H x y v w A B Q d fh rx ry e g
  cases x with
  | int i =>
    cases y with
    | int j =>
      cases e
      exact ⟨i, j, rx.1, ry.1, g.scal fh fun _ _ => ⟨rfl, rfl⟩⟩
    | _ => cases e
  | _ => cases e
abbrev gSub := gI0 fun i j => i - j
abbrev gAndB := gI0 fun i j => Builtin.bitAnd i j
abbrev gOrB := gI0 fun i j => Builtin.bitOr i j
abbrev gXorB := gI0 fun i j => Builtin.bitXor i j
/-! bounds, said by name: no great literal meets a name of a number -/
/-- below 2^64 -/
def W64 (i : Int) : Prop := -18446744073709551616 < i ∧ i < 18446744073709551616
noncomputable instance (i : Int) : Decidable (W64 i) := Classical.propDecidable _
theorem w64 {i : Int} (h1 : -18446744073709551616 < i) (h2 : i < 18446744073709551616) : W64 i := ⟨h1, h2⟩
@[simp] theorem w64_lit (n : Nat) (h : n < 18446744073709551616) : W64 (no_index (OfNat.ofNat n)) := by
  show -18446744073709551616 < (n : Int) ∧ (n : Int) < 18446744073709551616
  omega
@[simp] theorem w64_neg (n : Nat) (h : n < 18446744073709551616) : W64 (-(no_index (OfNat.ofNat n))) := by
  show -18446744073709551616 < -(n : Int) ∧ -(n : Int) < 18446744073709551616
  omega
/-- below 2^62 -/
def W62 (i : Int) : Prop := -4611686018427387904 ≤ i ∧ i < 4611686018427387904
noncomputable instance (i : Int) : Decidable (W62 i) := Classical.propDecidable _
theorem w62 {i : Int} (h1 : -4611686018427387904 ≤ i) (h2 : i < 4611686018427387904) : W62 i := ⟨h1, h2⟩
@[simp] theorem w62_lit (n : Nat) (h : n < 4611686018427387904) : W62 (no_index (OfNat.ofNat n)) := by
  show -4611686018427387904 ≤ (n : Int) ∧ (n : Int) < 4611686018427387904
  omega
@[simp] theorem w62_neg (n : Nat) (h : n < 4611686018427387904) : W62 (-(no_index (OfNat.ofNat n))) := by
  show -4611686018427387904 ≤ -(n : Int) ∧ -(n : Int) < 4611686018427387904
  omega
/-- a divisor for // -/
def DvOk (j : Int) : Prop := 0 < j ∧ j < 1073741824
noncomputable instance (i : Int) : Decidable (DvOk i) := Classical.propDecidable _
theorem dvOk {i : Int} (h1 : 0 < i) (h2 : i < 1073741824) : DvOk i := ⟨h1, h2⟩
@[simp] theorem dvOk_lit (n : Nat) (h : n < 1073741824) (h0 : 0 < n) : DvOk (no_index (OfNat.ofNat n)) := by
  show 0 < (n : Int) ∧ (n : Int) < 1073741824
  omega
/-- i ** j, i << j -/
def PwOk (i j : Int) : Prop := 0 ≤ j ∧ j ≤ 1000000 ∧ i.natAbs < 18446744073709551616
noncomputable instance (i j : Int) : Decidable (PwOk i j) := Classical.propDecidable _
theorem pwOk {i j : Int} (h1 : 0 ≤ j) (h2 : j ≤ 1000000) (h3 : -18446744073709551616 < i) (h4 : i < 18446744073709551616) : PwOk i j := ⟨h1, h2, by omega⟩
@[simp] theorem pwOk_lit (n m : Nat) (h : n < 18446744073709551616) (h0 : m ≤ 1000000) : PwOk (no_index (OfNat.ofNat n)) (no_index (OfNat.ofNat m)) := by
  show 0 ≤ (m : Int) ∧ (m : Int) ≤ 1000000 ∧ (n : Int).natAbs < 18446744073709551616
  omega
/-- a list of n things j times -/
def RpOk (n : Nat) (j : Int) : Prop := -16777216 ≤ j ∧ j ≤ 16777216 ∧ n * j.toNat ≤ 16777216
noncomputable instance (n : Nat) (j : Int) : Decidable (RpOk n j) := Classical.propDecidable _
theorem rpOk {n : Nat} {j : Int} (h1 : -16777216 ≤ j) (h2 : j ≤ 16777216) (h3 : n * j.toNat ≤ 16777216) : RpOk n j := ⟨h1, h2, h3⟩
@[simp] theorem rpOk_lit (n m : Nat) (h : n * m ≤ 16777216) (h2 : m ≤ 16777216) : RpOk n (no_index (OfNat.ofNat m)) := by
  show -16777216 ≤ (m : Int) ∧ (m : Int) ≤ 16777216 ∧ n * m ≤ 16777216
  omega
/-- a factor below 2^64 -/
noncomputable def cMul (i j : Int) : Bool := decide (W64 i ∨ W64 j)
noncomputable def cDiv (_ j : Int) : Bool := decide (DvOk j)
def cMod (_ j : Int) : Bool := decide (0 < j)
noncomputable def cPow (i j : Int) : Bool := decide (PwOk i j)
def cShr (_ j : Int) : Bool := decide (0 ≤ j)
@[simp] theorem cMul_eq (i j : Int) : (cMul i j = true) = (W64 i ∨ W64 j) := by simp [cMul]
@[simp] theorem cDiv_eq (i j : Int) : (cDiv i j = true) = DvOk j := by simp [cDiv]
@[simp] theorem cMod_eq (i j : Int) : (cMod i j = true) = (0 < j) := by simp [cMod]
@[simp] theorem cPow_eq (i j : Int) : (cPow i j = true) = PwOk i j := by simp [cPow]
@[simp] theorem cShr_eq (i j : Int) : (cShr i j = true) = (0 ≤ j) := by simp [cShr]
noncomputable abbrev gMulI := gI cMul fun i j => i * j
noncomputable abbrev gDiv := gI cDiv fun i j => i / j
abbrev gMod := gI cMod fun i j => i % j
noncomputable abbrev gPow := gI cPow fun i j => i ^ j.toNat
noncomputable abbrev gShl := gI cPow fun i j => i * 2 ^ j.toNat
abbrev gShr := gI cShr fun i j => i / 2 ^ j.toNat
section
variable {a b : Expr} {fa fb : Env → R D} {pos : Pos}
theorem eo_sub (ha : EV X E W a fa) (hb : EV X E W b fb) : EO X E W (.BinOp a .Sub b pos) (e2 gSub fa fb) := eo_op op_sub says_I0 ha hb
theorem eo_band (ha : EV X E W a fa) (hb : EV X E W b fb) : EO X E W (.BinOp a .BitAnd b pos) (e2 gAndB fa fb) := eo_op op_and says_I0 ha hb
theorem eo_bor (ha : EV X E W a fa) (hb : EV X E W b fb) : EO X E W (.BinOp a .BitOr b pos) (e2 gOrB fa fb) := eo_op op_or says_I0 ha hb
theorem eo_bxor (ha : EV X E W a fa) (hb : EV X E W b fb) : EO X E W (.BinOp a .BitXor b pos) (e2 gXorB fa fb) := eo_op op_xor says_I0 ha hb
theorem eo_mulI (ha : EV X E W a fa) (hb : EV X E W b fb) : EO X E W (.BinOp a .Mult b pos) (e2 gMulI fa fb) := eo_op op_mul (says_I fun i j h => by
  rw [cMul_eq] at h
  exact h) ha hb
theorem eo_div (ha : EV X E W a fa) (hb : EV X E W b fb) : EO X E W (.BinOp a .FloorDiv b pos) (e2 gDiv fa fb) := eo_op op_fdiv (says_I fun i j h => by
  rw [cDiv_eq] at h
  exact h) ha hb
theorem eo_mod (ha : EV X E W a fa) (hb : EV X E W b fb) : EO X E W (.BinOp a .Mod b pos) (e2 gMod fa fb) := eo_op op_mod (says_I fun i j h => by
  rw [cMod_eq] at h
  exact h) ha hb
theorem eo_pow (ha : EV X E W a fa) (hb : EV X E W b fb) : EO X E W (.BinOp a .Pow b pos) (e2 gPow fa fb) := eo_op op_pow (says_I fun i j h => by
  rw [cPow_eq] at h
  exact h) ha hb
theorem eo_shl (ha : EV X E W a fa) (hb : EV X E W b fb) : EO X E W (.BinOp a .LShift b pos) (e2 gShl fa fb) := eo_op op_shl (says_I fun i j h => by
  rw [cPow_eq] at h
  exact h) ha hb
theorem eo_shr (ha : EV X E W a fa) (hb : EV X E W b fb) : EO X E W (.BinOp a .RShift b pos) (e2 gShr fa fb) := eo_op op_shr (says_I fun i j h => by
  rw [cShr_eq] at h
  exact h) ha hb
end

/-! ### + of ints, texts, lists -/
/-- the items of a list, whether it is owned or not, if they are pure -/
theorem Rp.lstR {k : Kx} {F H : Hp} {o : Bool} {xs : List D} {v : V} {A : List Addr} (fh : Ex F H) (p : D.pureL xs = true) (h : Rp k F H (.lst o xs) v A) : ∃ a vs, v = .ref a ∧ H a = some (.lst vs) ∧ RpL k F H xs vs [] := by
  obtain ⟨a, vs, B, e, r, h1, h2⟩ := h
  refine ⟨a, vs, e, ?_, RpL.pure p (.refl _) r⟩
  cases o with
  | false => exact fh _ _ (h1 rfl).1
  | true => exact (h2 rfl).2.2
theorem Rp.lstW {k : Kx} {F H : Hp} {o : Bool} {xs : List D} {v : V} {A : List Addr} (fh : Ex F H) (h : Rp k F H (.lst o xs) v A) : ∃ a vs B, v = .ref a ∧ H a = some (.lst vs) ∧ RpL k F H xs vs B := by
  obtain ⟨a, vs, B, e, r, h1, h2⟩ := h
  refine ⟨a, vs, B, e, ?_, r⟩
  cases o with
  | false => exact fh _ _ (h1 rfl).1
  | true => exact (h2 rfl).2.2
def big : Nat := 16777216
theorem big_le {n : Nat} (h : n ≤ 16777216) : n ≤ sizeLine := by rw [sizeLine_eq]; exact h
def gAdd : D → D → Option D
  | .int i, .int j => some (.int (i + j))
  | .int i, .bl j => some (.int (i + b2i j))
  | .str x, .str y => if x.length + y.length ≤ 16777216 then some (.str (x ++ y)) else none
  | .lst _ xs, .lst _ ys => if D.pureL xs = true ∧ D.pureL ys = true ∧ xs.length + ys.length ≤ 16777216 then some (.lst true (xs ++ ys)) else none
  | .tup xs, .tup ys => if D.pureL xs = true ∧ D.pureL ys = true ∧ xs.length + ys.length ≤ 16777216 then some (.tup (xs ++ ys)) else none
  | _, _ => none
@[simp] theorem gAdd_tup (xs ys : List D) : gAdd (.tup xs) (.tup ys) = if D.pureL xs = true ∧ D.pureL ys = true ∧ xs.length + ys.length ≤ 16777216 then some (.tup (xs ++ ys)) else none := rfl
@[simp] theorem gAdd_int (i j : Int) : gAdd (.int i) (.int j) = some (.int (i + j)) := rfl
@[simp] theorem gAdd_bl (i : Int) (j : Bool) : gAdd (.int i) (.bl j) = some (.int (i + b2i j)) := rfl
@[simp] theorem gAdd_str (x y : Str) : gAdd (.str x) (.str y) = if x.length + y.length ≤ 16777216 then some (.str (x ++ y)) else none := rfl
@[simp] theorem gAdd_lst (o p : Bool) (xs ys : List D) : gAdd (.lst o xs) (.lst p ys) = if D.pureL xs = true ∧ D.pureL ys = true ∧ xs.length + ys.length ≤ 16777216 then some (.lst true (xs ++ ys)) else none := rfl
def rAddA (K : PySem.W.Frag) : R2 := fun x y H Q => ((rI0 (fun i j => .int (i + j)) x y H Q ∨ (∃ i k, x = .int i ∧ y = .bl k ∧ Q (.int (i + b2i k)) H)) ∨ (∃ i j, x = .str i ∧ y = .str j ∧ i.length + j.length ≤ sizeLine ∧ Q (.str (i ++ j)) H) ∨ rCat x y H Q) ∨ rCatA K x y H Q
theorem op_addA : OpR X (binaryOp .Add) (rAddA X.K) := ((op_add.or op_add_ib).or (op_add_str.or op_cat)).or op_catA
theorem if_some {α : Type} {c : Prop} [Decidable c] {a b : α} (h : (if c then some a else none) = some b) : c ∧ a = b := by
  by_cases z : c
  · rw [if_pos z] at h
    exact ⟨z, Option.some.inj h⟩
  · rw [if_neg z] at h
    cases h
theorem says_add : Says2 E (rAddA E.k.K) gAdd := by
  intro F H x y v w A B Q d fh rx ry e g
  cases x with
  | int i =>
    cases y with
    | int j => cases e; exact .inl (.inl (.inl ⟨i, j, rx.1, ry.1, g.scal fh fun _ _ => ⟨rfl, rfl⟩⟩))
    | bl j => cases e; exact .inl (.inl (.inr ⟨i, j, rx.1, ry.1, g.scal fh fun _ _ => ⟨rfl, rfl⟩⟩))
    | _ => cases e
  | str i =>
    cases y with
    | str j =>
      obtain ⟨z, e⟩ := if_some e
      cases e
      exact .inl (.inr (.inl ⟨i, j, rx.1, ry.1, big_le z, g.scal fh fun _ _ => ⟨rfl, rfl⟩⟩))
    | _ => cases e
  | lst o xs =>
    cases y with
    | lst o' ys =>
      obtain ⟨z, e⟩ := if_some e
      cases e
      obtain ⟨a, vs, rfl, h1, r1⟩ := Rp.lstR fh z.1 rx
      obtain ⟨b, ws, rfl, h2, r2⟩ := Rp.lstR fh z.2.1 ry
      refine .inl (.inr (.inr ⟨a, b, vs, ws, rfl, rfl, h1, h2, big_le (by rw [← r1.len, ← r2.len]; exact z.2.2), fun p hp => ?_⟩))
      exact g.lst fh hp (RpL.append r1 r2)
    | _ => cases e
  | tup xs =>
    cases y with
    | tup ys =>
      obtain ⟨z, e⟩ := if_some e
      cases e
      obtain ⟨a, vs, rfl, h1, r1⟩ := rx
      obtain ⟨b, ws, rfl, h2, r2⟩ := ry
      have r1' : RpL E.k F H xs vs [] := RpL.pure z.1 (.refl _) r1
      have r2' : RpL E.k F H ys ws [] := RpL.pure z.2.1 (.refl _) r2
      refine .inr ⟨a, b, vs, ws, rfl, rfl, ex_t fh h1, ex_t fh h2, big_le (by rw [← r1.len, ← r2.len]; exact z.2.2), fun e1 => ?_, fun _ e2 => ?_, fun _ _ p hp => ?_⟩
      · have l : xs = [] := List.length_eq_zero_iff.mp (by rw [r1.len, e1]; rfl)
        rw [l, List.nil_append] at g
        exact g F H _ [] (Tr.refl fh) ⟨b, ws, rfl, h2, r2'⟩ .nil fun _ z => nomatch z
      · have l : ys = [] := List.length_eq_zero_iff.mp (by rw [r2.len, e2]; rfl)
        rw [l, List.append_nil] at g
        exact g F H _ [] (Tr.refl fh) ⟨a, vs, rfl, h1, r1'⟩ .nil fun _ z => nomatch z
      · exact g.tup fh hp (RpL.append r1' r2')
    | _ => cases e
  | _ => cases e
theorem eo_add {a b : Expr} {fa fb : Env → R D} {pos : Pos} (ha : EV X E W a fa) (hb : EV X E W b fb) (hK : E.k.K = X.K := by rfl) : EO X E W (.BinOp a .Add b pos) (e2 gAdd fa fb) := eo_op op_addA (by rw [← hK]; exact says_add) ha hb

/-! ### list * int -/
theorem RpL.rep {k : Kx} {F H : Hp} {ds : List D} {vs : List V} (h : RpL k F H ds vs []) : ∀ n : Nat, RpL k F H (List.replicate n ds).flatten (List.replicate n vs).flatten []
  | 0 => ⟨rfl, rfl⟩
  | n + 1 => by
    rw [List.replicate_succ, List.replicate_succ, List.flatten_cons, List.flatten_cons]
    exact RpL.append h (RpL.rep h n)
noncomputable def gMul : D → D → Option D
  | .int i, .int j => if W64 i ∨ W64 j then some (.int (i * j)) else none
  | .lst _ xs, .int j => if D.pureL xs = true ∧ RpOk xs.length j then some (.lst true (List.replicate j.toNat xs).flatten) else none
  | _, _ => none
@[simp] theorem gMul_int (i j : Int) : gMul (.int i) (.int j) = if W64 i ∨ W64 j then some (.int (i * j)) else none := rfl
@[simp] theorem gMul_lst (o : Bool) (xs : List D) (j : Int) : gMul (.lst o xs) (.int j) = if D.pureL xs = true ∧ RpOk xs.length j then some (.lst true (List.replicate j.toNat xs).flatten) else none := rfl
def rMulA : R2 := fun x y H Q => rI CMul (fun i j => .int (i * j)) x y H Q ∨ rRep x y H Q
theorem op_mulA : OpR X (binaryOp .Mult) rMulA := op_mul.or op_rep
theorem says_mul : Says2 E rMulA gMul := by
  intro F H x y v w A B Q d fh rx ry e g
  cases x with
  | int i =>
    cases y with
    | int j =>
      obtain ⟨z, e⟩ := if_some e
      cases e
      exact .inl ⟨i, j, rx.1, ry.1, z, g.scal fh fun _ _ => ⟨rfl, rfl⟩⟩
    | _ => cases e
  | lst o xs =>
    cases y with
    | int j =>
      obtain ⟨z, e⟩ := if_some e
      cases e
      obtain ⟨a, vs, rfl, h1, r1⟩ := Rp.lstR fh z.1 rx
      refine .inr ⟨a, j, vs, rfl, ry.1, h1, by have := z.2.1; omega, by have := z.2.2.1; omega, big_le (by rw [← r1.len]; exact z.2.2.2), fun p hp => ?_⟩
      exact g.lst fh hp (RpL.rep r1 _)
    | _ => cases e
  | _ => cases e
theorem eo_mul {a b : Expr} {fa fb : Env → R D} {pos : Pos} (ha : EV X E W a fa) (hb : EV X E W b fb) : EO X E W (.BinOp a .Mult b pos) (e2 gMul fa fb) := eo_op op_mulA says_mul ha hb
end
end Dv
end
section
set_option maxRecDepth 100000
set_option maxHeartbeats 1000000
namespace Dv
open PySem PySem.Spec PyProof.Rows L2

/-! ### data as the library compares it -/
mutual
def D.toP : D → PyData
  | .non => .none | .bl b => .bool b | .int i => .int i | .str x => .str x | .fn _ => .none
  | .tup xs => .tuple (D.toPL xs)
  | .lst _ xs => .list (D.toPL xs)
  | .scr _ => .none
  | .dic _ _ _ => .none
  | .dit _ _ _ => .none
  | .ins _ _ _ => .none
def D.toPL : List D → List PyData
  | [] => []
  | x :: xs => x.toP :: D.toPL xs
end
mutual
/-- may be compared as a whole: no dict, no instance, nested at most n deep -/
def D.lay : Nat → D → Bool
  | _, .non => true | _, .bl _ => true | _, .int _ => true | _, .str x => PyData.strOk x
  | n + 1, .tup xs => D.layL n xs
  | n + 1, .lst _ xs => D.layL n xs
  | 0, .tup _ => false
  | 0, .lst _ _ => false
  | _, .scr _ => false
  | _, .dic _ _ _ => false
  | _, .dit _ _ _ => false
  | _, .ins _ _ _ => false
  | _, .fn _ => false
def D.layL : Nat → List D → Bool
  | _, [] => true
  | n, x :: xs => x.lay n && D.layL n xs
end
mutual
theorem D.lay_can : ∀ (n : Nat) (d : D), d.lay n = true → d.toP.canLay0 = true ∧ d.toP.depth ≤ n
  | _, .non, _ => by simp [D.toP, PyData.canLay0, PyData.depth]
  | _, .bl _, _ => by simp [D.toP, PyData.canLay0, PyData.depth]
  | _, .int _, _ => by simp [D.toP, PyData.canLay0, PyData.depth]
  | _, .str x, h => by simpa [D.toP, PyData.canLay0, PyData.depth, D.lay] using h
  | n + 1, .tup xs, h => by
    have q := D.layL_can n xs (by simpa [D.lay] using h)
    simp only [D.toP, PyData.canLay0, PyData.depth]
    exact ⟨q.1, by omega⟩
  | n + 1, .lst _ xs, h => by
    have q := D.layL_can n xs (by simpa [D.lay] using h)
    simp only [D.toP, PyData.canLay0, PyData.depth]
    exact ⟨q.1, by omega⟩
  | 0, .tup _, h => absurd h (by simp [D.lay])
  | 0, .lst _ _, h => absurd h (by simp [D.lay])
  | _, .scr _, h => absurd h (by simp [D.lay])
  | _, .dic _ _ _, h => absurd h (by simp [D.lay])
  | _, .dit _ _ _, h => absurd h (by simp [D.lay])
  | _, .ins _ _ _, h => absurd h (by simp [D.lay])
  | _, .fn _, h => absurd h (by simp [D.lay])
theorem D.layL_can : ∀ (n : Nat) (ds : List D), D.layL n ds = true → PyData.canLayAll0 (D.toPL ds) = true ∧ PyData.depthAll (D.toPL ds) ≤ n
  | _, [], _ => by simp [D.toPL, PyData.canLayAll0, PyData.depthAll]
  | n, d :: ds, h => by
    have h' : d.lay n = true ∧ D.layL n ds = true := by simpa [D.layL] using h
    have q1 := D.lay_can n d h'.1
    have q2 := D.layL_can n ds h'.2
    simp only [D.toPL, PyData.canLayAll0, PyData.depthAll, q1.1, q2.1, Bool.and_self]
    exact ⟨trivial, by omega⟩
end
theorem D.lay_shaped {d : D} (h : d.lay 60 = true) : SeqAt.shaped d.toP = true := by
  obtain ⟨h1, h2⟩ := D.lay_can 60 d h
  unfold SeqAt.shaped
  rw [h1, decide_eq_true (show d.toP.depth ≤ 64 by omega)]
  rfl
section
variable {k : Kx} {F H : Hp}
mutual
theorem Rp.dp (fh : Ex F H) : ∀ (n : Nat) (d : D) (v : V) (A : List Addr), d.lay n = true → Rp k F H d v A → Dp k.K H v d.toP
  | _, .non, _, _, _, h => by rw [h.1]; exact .non
  | _, .bl _, _, _, _, h => by rw [h.1]; exact .bl _
  | _, .int _, _, _, _, h => by rw [h.1]; exact .int _
  | _, .str _, _, _, _, h => by rw [h.1]; exact .str _
  | n + 1, .tup ds, v, A, l, h => by
    obtain ⟨a, xs, rfl, s, r⟩ := h
    exact .tup (ex_t fh s) (RpL.dp fh n ds xs A (by simpa [D.lay] using l) r)
  | n + 1, .lst o ds, v, A, l, h => by
    obtain ⟨a, xs, B, rfl, s, r⟩ := Rp.lstW fh h
    exact .lst (.inl (.inl s)) (RpL.dp fh n ds xs B (by simpa [D.lay] using l) r)
  | 0, .tup _, _, _, h, _ => absurd h (by simp [D.lay])
  | 0, .lst _ _, _, _, h, _ => absurd h (by simp [D.lay])
  | _, .scr _, _, _, h, _ => absurd h (by simp [D.lay])
  | _, .dic _ _ _, _, _, h, _ => absurd h (by simp [D.lay])
  | _, .dit _ _ _, _, _, h, _ => absurd h (by simp [D.lay])
  | _, .ins _ _ _, _, _, h, _ => absurd h (by simp [D.lay])
  | _, .fn _, _, _, h, _ => absurd h (by simp [D.lay])
theorem RpL.dp (fh : Ex F H) : ∀ (n : Nat) (ds : List D) (vs : List V) (A : List Addr), D.layL n ds = true → RpL k F H ds vs A → DpAll k.K H vs (D.toPL ds)
  | _, [], _, _, _, h => by rw [h.1]; exact .nil
  | n, d :: ds, xs, A, l, h => by
    obtain ⟨v, vs, B, C, e1, e2, h1, h2⟩ := h
    have l' : d.lay n = true ∧ D.layL n ds = true := by simpa [D.layL] using l
    rw [e1]
    exact .cons (Rp.dp fh n d v B l'.1 h1) (RpL.dp fh n ds vs C l'.2 h2)
end
end

/-- data is equal as Python says -/
def D.eqv (x y : D) : Bool := PyData.eqv x.toP y.toP
def gEq : D → D → Option D
  | .str x, .str y => some (.bl (x == y))
  | .str _, .non => some (.bl false)
  | .non, .str _ => some (.bl false)
  | x, y => if x.lay 60 = true ∧ y.lay 60 = true then some (.bl (x.eqv y)) else none
def gNe : D → D → Option D
  | .str x, .str y => some (.bl (!(x == y)))
  | x, y => if x.lay 60 = true ∧ y.lay 60 = true then some (.bl (!(x.eqv y))) else none
@[simp] theorem gEq_str (x y : Str) : gEq (.str x) (.str y) = some (.bl (x == y)) := rfl
@[simp] theorem gNe_str (x y : Str) : gNe (.str x) (.str y) = some (.bl (!(x == y))) := rfl
@[simp] theorem gEq_int (i j : Int) : gEq (.int i) (.int j) = some (.bl (i == j)) := by simp [gEq, D.lay, D.eqv, D.toP, PyData.eqv]
@[simp] theorem gNe_int (i j : Int) : gNe (.int i) (.int j) = some (.bl (!(i == j))) := by simp [gNe, D.lay, D.eqv, D.toP, PyData.eqv]
@[simp] theorem gEq_bl (i j : Bool) : gEq (.bl i) (.bl j) = some (.bl (i == j)) := by simp [gEq, D.lay, D.eqv, D.toP, PyData.eqv]
@[simp] theorem gNe_bl (i j : Bool) : gNe (.bl i) (.bl j) = some (.bl (!(i == j))) := by simp [gNe, D.lay, D.eqv, D.toP, PyData.eqv]
section
variable {X : Cx} {E : En} {W : WX}
def rEqA (K : PySem.W.Frag) : R2 := fun x y H Q => rEq x y H Q ∨ rEqD K x y H Q
def rNeA (K : PySem.W.Frag) : R2 := fun x y H Q => rNe x y H Q ∨ rNeD K x y H Q
theorem says_eqD {x y : D} {F H : Hp} {v w : V} {A B : List Addr} {Q : VK} {b : D} (fh : Ex F H) (rx : Rp E.k F H x v A) (ry : Rp E.k F H y w B) (e : (if x.lay 60 = true ∧ y.lay 60 = true then some (D.bl (x.eqv y)) else none) = some b) (g : GOk E F H Q b) : rEqA E.k.K v w H Q := by
  obtain ⟨z, e⟩ := if_some e
  cases e
  exact .inr ⟨x.toP, y.toP, Rp.dp fh 60 x v A z.1 rx, Rp.dp fh 60 y w B z.2 ry, D.lay_shaped z.1, D.lay_shaped z.2, g.scal fh fun _ _ => ⟨rfl, rfl⟩⟩
theorem says_neD {x y : D} {F H : Hp} {v w : V} {A B : List Addr} {Q : VK} {b : D} (fh : Ex F H) (rx : Rp E.k F H x v A) (ry : Rp E.k F H y w B) (e : (if x.lay 60 = true ∧ y.lay 60 = true then some (D.bl (!(x.eqv y))) else none) = some b) (g : GOk E F H Q b) : rNeA E.k.K v w H Q := by
  obtain ⟨z, e⟩ := if_some e
  cases e
  exact .inr ⟨x.toP, y.toP, Rp.dp fh 60 x v A z.1 rx, Rp.dp fh 60 y w B z.2 ry, D.lay_shaped z.1, D.lay_shaped z.2, g.scal fh fun _ _ => ⟨rfl, rfl⟩⟩
theorem says_eq : Says2 E (rEqA E.k.K) gEq := by
  intro F H x y v w A B Q b fh rx ry e g
  unfold gEq at e
  split at e
  · cases e
    rw [rx.1, ry.1]
    exact .inl ⟨rfl, by rw [dec_str]; exact g.scal fh fun _ _ => ⟨rfl, rfl⟩⟩
  · cases e
    rw [rx.1, ry.1]
    exact .inl ⟨rfl, g.scal (d := .bl false) fh fun _ _ => ⟨by simp, rfl⟩⟩
  · cases e
    rw [rx.1, ry.1]
    exact .inl ⟨rfl, g.scal (d := .bl false) fh fun _ _ => ⟨by simp, rfl⟩⟩
  · exact says_eqD fh rx ry e g
theorem says_ne : Says2 E (rNeA E.k.K) gNe := by
  intro F H x y v w A B Q b fh rx ry e g
  unfold gNe at e
  split at e
  · cases e
    rw [rx.1, ry.1]
    exact .inl ⟨rfl, by rw [dec_str]; exact g.scal fh fun _ _ => ⟨rfl, rfl⟩⟩
  · exact says_neD fh rx ry e g
theorem op_eqA (hu : X.A.units + 64 < cLine) : OpR X (compareOp .Eq) (rEqA X.K) := op_eq.or (op_eqD hu)
theorem op_neA (hu : X.A.units + 64 < cLine) : OpR X (compareOp .NotEq) (rNeA X.K) := op_ne.or (op_neD hu)

/-! ### comparisons as values -/
theorem eo_cmp {a b : Expr} {op : CmpOp} {r : R2} {g : D → D → Option D} {fa fb : Env → R D} {pos : Pos} (ho : OpR X (compareOp op) r) (hg : Says2 E r g) (hm : behindInMarks op b = false) (ha : EV X E W a fa) (hb : EV X E W b fb) : EO X E W (.Compare a [op] [b] pos) (e2 g fa fb) :=
  ⟨pe_mono (pe_cmpR ho ha.pe hb.pe hm) fun _ _ _ h => says2 hg h⟩
/-- an order of two ints -/
def gCmp (c : Int → Int → Bool) : D → D → Option D
  | .int i, .int j => some (.bl (c i j))
  | _, _ => none
@[simp] theorem gCmp_int (c : Int → Int → Bool) (i j : Int) : gCmp c (.int i) (.int j) = some (.bl (c i j)) := rfl
theorem says_cmp {c : Int → Int → Bool} : Says2 E (rI0 fun i j => .bl (c i j)) (gCmp c) := by
  intro F H x y v w A B Q d fh rx ry e g
  cases x with
  | int i =>
    cases y with
    | int j =>
      cases e
      exact ⟨i, j, rx.1, ry.1, g.scal fh fun _ _ => ⟨rfl, rfl⟩⟩
    | _ => cases e
  | _ => cases e
abbrev gLt := gCmp fun i j => decide (i < j)
abbrev gLe := gCmp fun i j => decide (i ≤ j)
abbrev gGt := gCmp fun i j => decide (j < i)
abbrev gGe := gCmp fun i j => decide (j ≤ i)
section
variable {a b c : Expr} {fa fb fc : Env → R D} {pos : Pos}
theorem eo_lt (ha : EV X E W a fa) (hb : EV X E W b fb) : EO X E W (.Compare a [.Lt] [b] pos) (e2 gLt fa fb) := eo_cmp op_lt says_cmp (nomark b) ha hb
theorem eo_le (ha : EV X E W a fa) (hb : EV X E W b fb) : EO X E W (.Compare a [.LtE] [b] pos) (e2 gLe fa fb) := eo_cmp op_le says_cmp (nomark b) ha hb
theorem eo_gt (ha : EV X E W a fa) (hb : EV X E W b fb) : EO X E W (.Compare a [.Gt] [b] pos) (e2 gGt fa fb) := eo_cmp op_gt says_cmp (nomark b) ha hb
theorem eo_ge (ha : EV X E W a fa) (hb : EV X E W b fb) : EO X E W (.Compare a [.GtE] [b] pos) (e2 gGe fa fb) := eo_cmp op_ge says_cmp (nomark b) ha hb
theorem eo_eq (hK : E.k.K = X.K) (hu : X.A.units + 64 < cLine) (ha : EV X E W a fa) (hb : EV X E W b fb) : EO X E W (.Compare a [.Eq] [b] pos) (e2 gEq fa fb) := eo_cmp (op_eqA hu) (by rw [← hK]; exact says_eq) (nomark b) ha hb
theorem eo_ne (hK : E.k.K = X.K) (hu : X.A.units + 64 < cLine) (ha : EV X E W a fa) (hb : EV X E W b fb) : EO X E W (.Compare a [.NotEq] [b] pos) (e2 gNe fa fb) := eo_cmp (op_neA hu) (by rw [← hK]; exact says_ne) (nomark b) ha hb
def isNon : D → Bool
  | .non => true
  | _ => false
@[simp] theorem isNon_non : isNon .non = true := rfl
@[simp] theorem isNon_int (i : Int) : isNon (.int i) = false := rfl
@[simp] theorem isNon_bl (i : Bool) : isNon (.bl i) = false := rfl
@[simp] theorem isNon_str (i : Str) : isNon (.str i) = false := rfl
@[simp] theorem isNon_tup (i : List D) : isNon (.tup i) = false := rfl
@[simp] theorem isNon_lst (o : Bool) (i : List D) : isNon (.lst o i) = false := rfl
theorem Rp.non_iff {k : Kx} {F H : Hp} : ∀ {d : D} {v : V} {A : List Addr}, Rp k F H d v A → decide (v = .non) = isNon d
  | .non, _, _, h => by rw [h.1]; rfl
  | .bl _, _, _, h => by rw [h.1]; rfl
  | .int _, _, _, h => by rw [h.1]; rfl
  | .str _, _, _, h => by rw [h.1]; rfl
  | .fn _, _, _, h => by rw [h.1]; rfl
  | .tup _, _, _, h => by obtain ⟨a, _, e, _⟩ := h; rw [e]; rfl
  | .lst _ _, _, _, h => by obtain ⟨a, _, _, e, _⟩ := h; rw [e]; rfl
  | .scr _, _, _, h => by obtain ⟨a, _, e, _⟩ := h; rw [e]; rfl
  | .dic _ _ _, _, _, h => by obtain ⟨a, _, _, e, _⟩ := h; rw [e]; rfl
  | .dit _ _ _, _, _, h => by obtain ⟨a, _, _, e, _⟩ := h; rw [e]; rfl
  | .ins _ _ _, _, _, h => by obtain ⟨a, _, _, _, e, _⟩ := h; rw [e]; rfl
def gIs : D → D → Option D
  | x, .non => some (.bl (isNon x))
  | .bl a, .bl b => some (.bl (decide (a = b)))
  | _, _ => none
def gIsNot : D → D → Option D
  | x, .non => some (.bl (!isNon x))
  | .bl a, .bl b => some (.bl (!decide (a = b)))
  | _, _ => none
@[simp] theorem gIs_bl (a b : Bool) : gIs (.bl a) (.bl b) = some (.bl (decide (a = b))) := rfl
@[simp] theorem gIsNot_bl (a b : Bool) : gIsNot (.bl a) (.bl b) = some (.bl (!decide (a = b))) := rfl
@[simp] theorem gIs_eq (x : D) : gIs x .non = some (.bl (isNon x)) := rfl
@[simp] theorem gIsNot_eq (x : D) : gIsNot x .non = some (.bl (!isNon x)) := rfl
theorem eo_is (ha : EV X E W a fa) (hb : EV X E W b fb) : EO X E W (.Compare a [.Is] [b] pos) (e2 gIs fa fb) := by
  refine eo_cmp (op_isN.or op_is_bl) ?_ (nomark b) ha hb
  intro F H x y v w A B Q d fh rx ry e g
  cases y with
  | non =>
    cases e
    exact .inl ⟨ry.1, by rw [rx.non_iff]; exact g.scal fh fun _ _ => ⟨rfl, rfl⟩⟩
  | bl j =>
    cases x with
    | bl i =>
      cases e
      exact .inr ⟨i, j, rx.1, ry.1, g.scal fh fun _ _ => ⟨rfl, rfl⟩⟩
    | _ => cases e
  | _ => cases x <;> cases e
theorem eo_isNot (ha : EV X E W a fa) (hb : EV X E W b fb) : EO X E W (.Compare a [.IsNot] [b] pos) (e2 gIsNot fa fb) := by
  refine eo_cmp (op_notN.or op_isnot_bl) ?_ (nomark b) ha hb
  intro F H x y v w A B Q d fh rx ry e g
  cases y with
  | non =>
    cases e
    exact .inl ⟨ry.1, by rw [rx.non_iff]; exact g.scal fh fun _ _ => ⟨rfl, rfl⟩⟩
  | bl j =>
    cases x with
    | bl i =>
      cases e
      exact .inr ⟨i, j, rx.1, ry.1, g.scal fh fun _ _ => ⟨rfl, rfl⟩⟩
    | _ => cases e
  | _ => cases x <;> cases e
/-- a op1 b op2 c -/
def e3 (g g' : D → D → Option D) (fa fb fc : Env → R D) : Env → R D := fun ρ => (fa ρ).bind fun x => (fb ρ).bind fun y => (R.opt (g x y)).bind fun z =>
  match z with
  | .bl true => (fc ρ).bind fun w => R.opt (g' y w)
  | .bl false => .ok (.bl false)
  | _ => .no
theorem eo_chain {op op' : CmpOp} {r r' : R2} {g g' : D → D → Option D} (ho : OpR X (compareOp op) r) (hg : Says2 E r g) (ho' : OpR X (compareOp op') r') (hg' : Says2 E r' g') (hm : lastMarks [op, op'] [b, c] = false) (ha : EV X E W a fa) (hb : EV X E W b fb) (hc : EV X E W c fc) :
    EO X E W (.Compare a [op, op'] [b, c] pos) (e3 g g' fa fb fc) := by
  refine ⟨pe_mono (pe_chain ho ho' ha.pe hb.pe hc.pe hm) fun σ H Q h => ?_⟩
  obtain ⟨F, ρ, s, q⟩ := h
  refine ⟨F, ρ, s, Res.mono q.bind (fun x _ q F1 H1 v A t1 r1 => ?_) fun c _ z F' H' t => z F' H' t⟩
  refine ⟨F1, ρ, s.tr t1, Res.mono q.bind (fun y _ q F2 H2 w B t2 r2 => ?_) fun c _ z F' H' t => z F' H' (t1.trans t)⟩
  obtain ⟨d, e, p⟩ := Res.opt q.bind
  have t12 := t1.trans t2
  refine hg F2 H2 x y v w A B _ d t2.fh (r1.tr t2) r2 e fun F3 H3 v3 A3 t3 r3 n3 u3 => ?_
  cases d with
  | bl k =>
    refine ⟨k, r3.1, ?_⟩
    cases k with
    | true =>
      rw [if_pos rfl]
      refine ⟨F3, ρ, (s.tr t12).tr t3, Res.mono (Res.bind p) (fun z _ q F4 H4 v4 A4 t4 r4 => ?_) fun c _ z F' H' t => z F' H' ((t12.trans t3).trans t)⟩
      obtain ⟨d', e', p'⟩ := Res.opt q
      have t34 := t3.trans t4
      exact hg' F4 H4 y z w v4 B A4 Q d' t4.fh (r2.tr t34) r4 e' (GOk.back (F := F) (H := H) (F1 := F4) (H1 := H4) p' (t12.trans t34))
    | false =>
      rw [if_neg Bool.false_ne_true]
      exact p F3 H3 (.bl false) [] (t12.trans t3) ⟨rfl, rfl⟩ .nil fun _ z => nomatch z
  | _ => exact (show False from p).elim
end

/-! ### tests -/
def asT : D → Option Bool
  | .non => some false
  | .bl b => some b
  | .int i => some (i != 0)
  | .str x => if x.length ≤ 16777216 then some ((x.length : Int) != 0) else none
  | .lst _ xs => some (!xs.isEmpty)
  | .tup xs => some (!xs.isEmpty)
  | _ => none
def eT (f : Env → R D) : Env → R Bool := fun ρ => (f ρ).bind fun d => R.opt (asT d)
@[simp] theorem eT_eq (f : Env → R D) (ρ : Env) : eT f ρ = (f ρ).bind fun d => R.opt (asT d) := rfl
@[simp] theorem asT_bl (b : Bool) : asT (.bl b) = some b := rfl
@[simp] theorem asT_int (b : Int) : asT (.int b) = some (b != 0) := rfl
@[simp] theorem asT_non : asT .non = some false := rfl
@[simp] theorem asT_lst (o : Bool) (xs : List D) : asT (.lst o xs) = some (!xs.isEmpty) := rfl
@[simp] theorem asT_tup (xs : List D) : asT (.tup xs) = some (!xs.isEmpty) := rfl
theorem isEmpty_len {α β : Type} {xs : List α} {ys : List β} (h : xs.length = ys.length) : xs.isEmpty = ys.isEmpty := by
  cases xs with
  | nil => cases ys with
    | nil => rfl
    | cons _ _ => cases h
  | cons _ _ => cases ys with
    | nil => cases h
    | cons _ _ => rfl
theorem Rp.tru {k : Kx} {F H : Hp} (fh : Ex F H) {d : D} {v : V} {A : List Addr} {b : Bool} (h : Rp k F H d v A) (e : asT d = some b) : TruV k.K v H b := by
  cases d with
  | non => cases e; rw [h.1]; exact rfl
  | bl _ => cases e; rw [h.1]; exact rfl
  | int _ => cases e; rw [h.1]; exact rfl
  | str x =>
    obtain ⟨z, e⟩ := if_some e
    cases e
    rw [h.1]
    exact ⟨big_le z, rfl⟩
  | lst o xs =>
    cases e
    obtain ⟨a, vs, B, rfl, s, r⟩ := Rp.lstW fh h
    exact .inl ⟨vs, .inl (.inl s), by rw [isEmpty_len r.len]⟩
  | tup xs =>
    cases e
    obtain ⟨a, vs, rfl, s, r⟩ := h
    exact .inr (.inl ⟨vs, ex_t fh s, by rw [isEmpty_len r.len]⟩)
  | _ => cases e
theorem et_tru (hK : E.k.K = X.K) {a : Expr} {fa : Env → R D} (ha : EV X E W a fa) (he : ∀ whole, isTrue a X.env whole = (do let v ← whole; standAt a.pos; holding [v] (truthy v)) := by intro _; rfl) : ET X E W a (eT fa) := by
  refine ⟨pt_mono (pt_truth ha.pe he) fun σ H Q h => ?_⟩
  obtain ⟨F, ρ, s, q⟩ := h
  refine ⟨F, ρ, s, Res.mono q.bind (fun x _ q F1 H1 v A t1 r1 => ?_) fun c _ z F' H' t => z F' H' t⟩
  obtain ⟨b, e, p⟩ := Res.opt q
  exact ⟨b, by rw [← hK]; exact r1.tru t1.fh e, p F1 H1 t1⟩
/-- a comparison as a test -/
theorem tT_of {fa : Env → R D} {t : TE} (hb : ∀ ρ d, fa ρ = .ok d → ∃ b, d = .bl b) (h : ∀ σ H Q, tO E W fa σ H Q → t σ H Q) {σ : L2.St} {H : Hp} {Q : Bool → Hp → Prop} (q : tT E W (eT fa) σ H Q) : t σ H fun x H' => ∃ k, x = .bl k ∧ Q k H' := by
  obtain ⟨F, ρ, s, q⟩ := q
  refine h σ H _ ⟨F, ρ, s, Res.mono q.bind (fun x e q F1 H1 v A t1 r1 _ _ => ?_) fun c _ z F' H' t => z F' H' t⟩
  obtain ⟨b, rfl⟩ := hb ρ x e
  exact ⟨b, r1.1, q F1 H1 t1⟩
theorem e2_bl {g : D → D → Option D} (hg : ∀ x y d, g x y = some d → ∃ b, d = .bl b) {fa fb : Env → R D} (ρ : Env) (d : D) (e : e2 g fa fb ρ = .ok d) : ∃ b, d = .bl b := by
  rw [e2_eq] at e
  cases ea : fa ρ with
  | ok x =>
    rw [ea, R.bind_ok] at e
    cases eb : fb ρ with
    | ok y =>
      rw [eb, R.bind_ok] at e
      cases eg : g x y with
      | some z =>
        rw [eg] at e
        cases e
        exact hg x y d eg
      | none => rw [eg] at e; cases e
    | _ => rw [eb] at e; cases e
  | _ => rw [ea] at e; cases e
theorem et_cmp {a b : Expr} {op : CmpOp} {r : R2} {g : D → D → Option D} {fa fb : Env → R D} {pos : Pos} (ho : OpR X (compareOp op) r) (hg : Says2 E r g) (hbl : ∀ x y d, g x y = some d → ∃ b, d = .bl b) (hm : behindInMarks op b = false) (ha : EV X E W a fa) (hb : EV X E W b fb) :
    ET X E W (.Compare a [op] [b] pos) (eT (e2 g fa fb)) :=
  ⟨pt_mono (pt_cmpR ho ha.pe hb.pe hm) fun _ _ _ h => tT_of (e2_bl hbl) (fun _ _ _ q => says2 hg q) h⟩
theorem gCmp_bl {c : Int → Int → Bool} (x y d : D) (e : gCmp c x y = some d) : ∃ b, d = .bl b := by
  cases x with
  | int i =>
    cases y with
    | int j => cases e; exact ⟨_, rfl⟩
    | _ => cases e
  | _ => cases e
theorem gEq_isbl (x y d : D) (e : gEq x y = some d) : ∃ b, d = .bl b := by
  unfold gEq at e
  split at e <;> first | (cases e; exact ⟨_, rfl⟩) | (obtain ⟨_, e⟩ := if_some e; cases e; exact ⟨_, rfl⟩)
theorem gNe_isbl (x y d : D) (e : gNe x y = some d) : ∃ b, d = .bl b := by
  unfold gNe at e
  split at e <;> first | (cases e; exact ⟨_, rfl⟩) | (obtain ⟨_, e⟩ := if_some e; cases e; exact ⟨_, rfl⟩)
theorem gIs_isbl (x y d : D) (e : gIs x y = some d) : ∃ b, d = .bl b := by
  unfold gIs at e
  split at e <;> first | (cases e; exact ⟨_, rfl⟩) | cases e
theorem gIsNot_isbl (x y d : D) (e : gIsNot x y = some d) : ∃ b, d = .bl b := by
  unfold gIsNot at e
  split at e <;> first | (cases e; exact ⟨_, rfl⟩) | cases e
section
variable {a b c : Expr} {fa fb fc : Env → R D} {pos : Pos}
theorem et_lt (ha : EV X E W a fa) (hb : EV X E W b fb) : ET X E W (.Compare a [.Lt] [b] pos) (eT (e2 gLt fa fb)) := et_cmp op_lt says_cmp gCmp_bl (nomark b) ha hb
theorem et_le (ha : EV X E W a fa) (hb : EV X E W b fb) : ET X E W (.Compare a [.LtE] [b] pos) (eT (e2 gLe fa fb)) := et_cmp op_le says_cmp gCmp_bl (nomark b) ha hb
theorem et_gt (ha : EV X E W a fa) (hb : EV X E W b fb) : ET X E W (.Compare a [.Gt] [b] pos) (eT (e2 gGt fa fb)) := et_cmp op_gt says_cmp gCmp_bl (nomark b) ha hb
theorem et_ge (ha : EV X E W a fa) (hb : EV X E W b fb) : ET X E W (.Compare a [.GtE] [b] pos) (eT (e2 gGe fa fb)) := et_cmp op_ge says_cmp gCmp_bl (nomark b) ha hb
theorem et_eq (hK : E.k.K = X.K) (hu : X.A.units + 64 < cLine) (ha : EV X E W a fa) (hb : EV X E W b fb) : ET X E W (.Compare a [.Eq] [b] pos) (eT (e2 gEq fa fb)) := et_cmp (op_eqA hu) (by rw [← hK]; exact says_eq) gEq_isbl (nomark b) ha hb
theorem et_ne (hK : E.k.K = X.K) (hu : X.A.units + 64 < cLine) (ha : EV X E W a fa) (hb : EV X E W b fb) : ET X E W (.Compare a [.NotEq] [b] pos) (eT (e2 gNe fa fb)) := et_cmp (op_neA hu) (by rw [← hK]; exact says_ne) gNe_isbl (nomark b) ha hb
theorem et_is (ha : EV X E W a fa) (hb : EV X E W b fb) : ET X E W (.Compare a [.Is] [b] pos) (eT (e2 gIs fa fb)) := by
  refine et_cmp (op_isN.or op_is_bl) ?_ gIs_isbl (nomark b) ha hb
  intro F H x y v w A B Q d fh rx ry e g
  cases y with
  | non =>
    cases e
    exact .inl ⟨ry.1, by rw [rx.non_iff]; exact g.scal fh fun _ _ => ⟨rfl, rfl⟩⟩
  | bl j =>
    cases x with
    | bl i =>
      cases e
      exact .inr ⟨i, j, rx.1, ry.1, g.scal fh fun _ _ => ⟨rfl, rfl⟩⟩
    | _ => cases e
  | _ => cases x <;> cases e
theorem et_isNot (ha : EV X E W a fa) (hb : EV X E W b fb) : ET X E W (.Compare a [.IsNot] [b] pos) (eT (e2 gIsNot fa fb)) := by
  refine et_cmp (op_notN.or op_isnot_bl) ?_ gIsNot_isbl (nomark b) ha hb
  intro F H x y v w A B Q d fh rx ry e g
  cases y with
  | non =>
    cases e
    exact .inl ⟨ry.1, by rw [rx.non_iff]; exact g.scal fh fun _ _ => ⟨rfl, rfl⟩⟩
  | bl j =>
    cases x with
    | bl i =>
      cases e
      exact .inr ⟨i, j, rx.1, ry.1, g.scal fh fun _ _ => ⟨rfl, rfl⟩⟩
    | _ => cases e
  | _ => cases x <;> cases e
theorem et_chain {op op' : CmpOp} {r r' : R2} {g g' : D → D → Option D} (ho : OpR X (compareOp op) r) (hg : Says2 E r g) (ho' : OpR X (compareOp op') r') (hg' : Says2 E r' g') (hm : lastMarks [op, op'] [b, c] = false) (hbl : ∀ x y d, g' x y = some d → ∃ b, d = .bl b) (ha : EV X E W a fa) (hb : EV X E W b fb) (hc : EV X E W c fc) :
    ET X E W (.Compare a [op, op'] [b, c] pos) (eT (e3 g g' fa fb fc)) := by
  refine ⟨pt_mono (pt_chain ho ho' ha.pe hb.pe hc.pe hm) fun σ H Q h => tT_of (fa := e3 g g' fa fb fc) (fun ρ d e => ?_) (fun σ H Q h => ?_) h⟩
  · unfold e3 at e
    cases ea : fa ρ with
    | ok x =>
      rw [ea, R.bind_ok] at e
      cases eb : fb ρ with
      | ok y =>
        rw [eb, R.bind_ok] at e
        cases eg : g x y with
        | some z =>
          rw [eg, R.opt_some, R.bind_ok] at e
          split at e
          · cases ec : fc ρ with
            | ok w =>
              rw [ec, R.bind_ok] at e
              cases eg' : g' y w with
              | some z' =>
                rw [eg'] at e
                cases e
                exact hbl _ _ _ eg'
              | none => rw [eg'] at e; cases e
            | _ => rw [ec] at e; cases e
          · cases e; exact ⟨_, rfl⟩
          · cases e
        | none => rw [eg] at e; cases e
      | _ => rw [eb] at e; cases e
    | _ => rw [ea] at e; cases e
  · obtain ⟨F, ρ, s, q⟩ := h
    refine ⟨F, ρ, s, Res.mono q.bind (fun x _ q F1 H1 v A t1 r1 => ?_) fun c _ z F' H' t => z F' H' t⟩
    refine ⟨F1, ρ, s.tr t1, Res.mono q.bind (fun y _ q F2 H2 w B t2 r2 => ?_) fun c _ z F' H' t => z F' H' (t1.trans t)⟩
    obtain ⟨d, e, p⟩ := Res.opt q.bind
    have t12 := t1.trans t2
    refine hg F2 H2 x y v w A B _ d t2.fh (r1.tr t2) r2 e fun F3 H3 v3 A3 t3 r3 n3 u3 => ?_
    cases d with
    | bl k =>
      refine ⟨k, r3.1, ?_⟩
      cases k with
      | true =>
        rw [if_pos rfl]
        refine ⟨F3, ρ, (s.tr t12).tr t3, Res.mono (Res.bind p) (fun z _ q F4 H4 v4 A4 t4 r4 => ?_) fun c _ z F' H' t => z F' H' ((t12.trans t3).trans t)⟩
        obtain ⟨d', e', p'⟩ := Res.opt q
        have t34 := t3.trans t4
        exact hg' F4 H4 y z w v4 B A4 Q d' t4.fh (r2.tr t34) r4 e' (GOk.back (F := F) (H := H) (F1 := F4) (H1 := H4) p' (t12.trans t34))
      | false =>
        rw [if_neg Bool.false_ne_true]
        exact p F3 H3 (.bl false) [] (t12.trans t3) ⟨rfl, rfl⟩ .nil fun _ z => nomatch z
    | _ => exact (show False from p).elim
end
/-! and, or, not -/
def tNotF (f : Env → R Bool) : Env → R Bool := fun ρ => (f ρ).bind fun b => .ok (!b)
def tAndF (f g : Env → R Bool) : Env → R Bool := fun ρ => (f ρ).bind fun b => if b = true then g ρ else .ok false
def tOrF (f g : Env → R Bool) : Env → R Bool := fun ρ => (f ρ).bind fun b => if b = true then .ok true else g ρ
@[simp] theorem tNotF_eq (f : Env → R Bool) (ρ : Env) : tNotF f ρ = (f ρ).bind fun b => .ok (!b) := rfl
@[simp] theorem tAndF_eq (f g : Env → R Bool) (ρ : Env) : tAndF f g ρ = (f ρ).bind fun b => if b = true then g ρ else .ok false := rfl
@[simp] theorem tOrF_eq (f g : Env → R Bool) (ρ : Env) : tOrF f g ρ = (f ρ).bind fun b => if b = true then .ok true else g ρ := rfl
section
variable {a b : Expr} {rest : List Expr} {f g : Env → R Bool} {pos : Pos}
theorem et_not (h : ET X E W a f) : ET X E W (.UnaryOp .Not a pos) (tNotF f) := by
  refine ⟨pt_mono (pt_not h.pt) fun σ H Q h => ?_⟩
  obtain ⟨F, ρ, s, q⟩ := h
  exact ⟨F, ρ, s, Res.mono q.bind (fun x _ q => q) fun c _ z F' H' t => z F' H' t⟩
theorem tAnd_of {t u : TT} (h1 : ∀ σ H Q, tT E W f σ H Q → t σ H Q) (h2 : ∀ σ H Q, tT E W g σ H Q → u σ H Q) {σ : L2.St} {H : Hp} {Q : Bool → Hp → Prop} (h : tT E W (tAndF f g) σ H Q) : tAnd t u σ H Q := by
  obtain ⟨F, ρ, s, q⟩ := h
  refine h1 σ H _ ⟨F, ρ, s, Res.mono q.bind (fun x _ q F1 H1 t1 => ?_) fun c _ z F' H' t => z F' H' t⟩
  cases x with
  | true => exact h2 σ H1 _ ⟨F1, ρ, s.tr t1, Res.mono q (fun y _ q F2 H2 t2 => q F2 H2 (t1.trans t2)) fun c _ z F' H' t => z F' H' (t1.trans t)⟩
  | false => exact q F1 H1 t1
theorem tOr_of {t u : TT} (h1 : ∀ σ H Q, tT E W f σ H Q → t σ H Q) (h2 : ∀ σ H Q, tT E W g σ H Q → u σ H Q) {σ : L2.St} {H : Hp} {Q : Bool → Hp → Prop} (h : tT E W (tOrF f g) σ H Q) : tOr t u σ H Q := by
  obtain ⟨F, ρ, s, q⟩ := h
  refine h1 σ H _ ⟨F, ρ, s, Res.mono q.bind (fun x _ q F1 H1 t1 => ?_) fun c _ z F' H' t => z F' H' t⟩
  cases x with
  | false => exact h2 σ H1 _ ⟨F1, ρ, s.tr t1, Res.mono q (fun y _ q F2 H2 t2 => q F2 H2 (t1.trans t2)) fun c _ z F' H' t => z F' H' (t1.trans t)⟩
  | true => exact q F1 H1 t1
theorem ew_and1 (h : ET X E W a f) : EW X E W (.BoolOp .And [a] pos) f := ⟨pw_and1 h.pt⟩
theorem ew_or1 (h : ET X E W a f) : EW X E W (.BoolOp .Or [a] pos) f := ⟨pw_or1 h.pt⟩
theorem ew_and (ha : ET X E W a f) (hb : EW X E W (.BoolOp .And (b :: rest) pos) g) : EW X E W (.BoolOp .And (a :: b :: rest) pos) (tAndF f g) :=
  ⟨pw_mono (pw_and ha.pt hb.pw) fun _ _ _ h => tAnd_of (fun _ _ _ z => z) (fun _ _ _ z => z) h⟩
theorem ew_or (ha : ET X E W a f) (hb : EW X E W (.BoolOp .Or (b :: rest) pos) g) : EW X E W (.BoolOp .Or (a :: b :: rest) pos) (tOrF f g) :=
  ⟨pw_mono (pw_or ha.pt hb.pw) fun _ _ _ h => tOr_of (fun _ _ _ z => z) (fun _ _ _ z => z) h⟩
theorem EW.t {e : Expr} (h : EW X E W e f) : ET X E W e f := ⟨h.pw.pt⟩
end
/-! .. as values, by truth -/
def eNot (f : Env → R D) : Env → R D := fun ρ => (f ρ).bind fun d => (R.opt (asT d)).bind fun b => .ok (.bl (!b))
def eAnd (f g : Env → R D) : Env → R D := fun ρ => (f ρ).bind fun d => (R.opt (asT d)).bind fun b => if b = true then g ρ else .ok d
def eOr (f g : Env → R D) : Env → R D := fun ρ => (f ρ).bind fun d => (R.opt (asT d)).bind fun b => if b = true then .ok d else g ρ
@[simp] theorem eNot_eq (f : Env → R D) (ρ : Env) : eNot f ρ = (f ρ).bind fun d => (R.opt (asT d)).bind fun b => .ok (.bl (!b)) := rfl
@[simp] theorem eAnd_eq (f g : Env → R D) (ρ : Env) : eAnd f g ρ = (f ρ).bind fun d => (R.opt (asT d)).bind fun b => if b = true then g ρ else .ok d := rfl
@[simp] theorem eOr_eq (f g : Env → R D) (ρ : Env) : eOr f g ρ = (f ρ).bind fun d => (R.opt (asT d)).bind fun b => if b = true then .ok d else g ρ := rfl
section
variable {a b : Expr} {rest : List Expr} {f g : Env → R D} {pos : Pos}
theorem eo_not (hK : E.k.K = X.K) (h : EV X E W a f) : EO X E W (.UnaryOp .Not a pos) (eNot f) := by
  refine ⟨pe_mono (pe_notT h.pe) fun σ H Q h => ?_⟩
  obtain ⟨F, ρ, s, q⟩ := h
  refine ⟨F, ρ, s, Res.mono q.bind (fun x _ q F1 H1 v A t1 r1 => ?_) fun c _ z F' H' t => z F' H' t⟩
  obtain ⟨b, e, p⟩ := Res.opt q.bind
  exact ⟨b, by rw [← hK]; exact r1.tru t1.fh e, p F1 H1 (.bl (!b)) [] t1 ⟨rfl, rfl⟩ .nil fun _ z => nomatch z⟩
theorem ev_one {op : BoolOp} (h : EV X E W a f) : EV X E W (.BoolOp op [a] pos) f := ⟨pe_one h.pe⟩
theorem ev_and (hK : E.k.K = X.K) (h : EV X E W a f) (hb : EV X E W (.BoolOp .And (b :: rest) pos) g) : EV X E W (.BoolOp .And (a :: b :: rest) pos) (eAnd f g) := by
  refine ⟨pe_mono (pe_andT h.pe hb.pe) fun σ H Q h => ?_⟩
  obtain ⟨F, ρ, s, q⟩ := h
  refine ⟨F, ρ, s, Res.mono q.bind (fun x _ q F1 H1 v A t1 r1 => ?_) fun c _ z F' H' t => z F' H' t⟩
  obtain ⟨b, e, p⟩ := Res.opt q.bind
  refine ⟨b, by rw [← hK]; exact r1.tru t1.fh e, ?_⟩
  cases b with
  | true => exact ⟨F1, ρ, s.tr t1, Res.mono p (fun y _ q F2 H2 v A t2 r => q F2 H2 v A (t1.trans t2) r) fun c _ z F' H' t => z F' H' (t1.trans t)⟩
  | false => exact p F1 H1 v A t1 r1
theorem ev_or (hK : E.k.K = X.K) (h : EV X E W a f) (hb : EV X E W (.BoolOp .Or (b :: rest) pos) g) : EV X E W (.BoolOp .Or (a :: b :: rest) pos) (eOr f g) := by
  refine ⟨pe_mono (pe_orT h.pe hb.pe) fun σ H Q h => ?_⟩
  obtain ⟨F, ρ, s, q⟩ := h
  refine ⟨F, ρ, s, Res.mono q.bind (fun x _ q F1 H1 v A t1 r1 => ?_) fun c _ z F' H' t => z F' H' t⟩
  obtain ⟨b, e, p⟩ := Res.opt q.bind
  refine ⟨b, by rw [← hK]; exact r1.tru t1.fh e, ?_⟩
  cases b with
  | false => exact ⟨F1, ρ, s.tr t1, Res.mono p (fun y _ q F2 H2 v A t2 r => q F2 H2 v A (t1.trans t2) r) fun c _ z F' H' t => z F' H' (t1.trans t)⟩
  | true => exact p F1 H1 v A t1 r1
end
def eIf (t : Env → R Bool) (f g : Env → R D) : Env → R D := fun ρ => (t ρ).bind fun b => if b = true then f ρ else g ρ
@[simp] theorem eIf_eq (t : Env → R Bool) (f g : Env → R D) (ρ : Env) : eIf t f g ρ = (t ρ).bind fun b => if b = true then f ρ else g ρ := rfl
section
variable {a b c : Expr} {t : Env → R Bool} {f g : Env → R D} {pos : Pos}
theorem ev_if (hc : ET X E W c t) (ha : EV X E W a f) (hb : EV X E W b g) : EV X E W (.IfExp c a b pos) (eIf t f g) := by
  refine ⟨pe_mono (pe_ifExp hc.pt ha.pe hb.pe) fun σ H Q h => ?_⟩
  obtain ⟨F, ρ, s, q⟩ := h
  refine ⟨F, ρ, s, Res.mono q.bind (fun x _ q F1 H1 t1 => ?_) fun c _ z F' H' t => z F' H' t⟩
  cases x with
  | true => exact ⟨F1, ρ, s.tr t1, Res.mono q (fun y _ q F2 H2 v A t2 r => q F2 H2 v A (t1.trans t2) r) fun c _ z F' H' t => z F' H' (t1.trans t)⟩
  | false => exact ⟨F1, ρ, s.tr t1, Res.mono q (fun y _ q F2 H2 v A t2 r => q F2 H2 v A (t1.trans t2) r) fun c _ z F' H' t => z F' H' (t1.trans t)⟩
theorem none_back {H H' : Hp} (e : Ex H H') {a : Addr} (h : H' a = none) : H a = none := by
  cases q : H a with
  | none => rfl
  | some o => rw [e a o q] at h; cases h
theorem eo_if (hc : ET X E W c t) (ha : EO X E W a f) (hb : EO X E W b g) : EO X E W (.IfExp c a b pos) (eIf t f g) := by
  refine ⟨pe_mono (pe_ifExp hc.pt ha.pe hb.pe) fun σ H Q h => ?_⟩
  obtain ⟨F, ρ, s, q⟩ := h
  refine ⟨F, ρ, s, Res.mono q.bind (fun x _ q F1 H1 t1 => ?_) fun c _ z F' H' t => z F' H' t⟩
  cases x with
  | true => exact ⟨F1, ρ, s.tr t1, Res.mono q (fun y _ q F2 H2 v A t2 r n u => q F2 H2 v A (t1.trans t2) r n fun a ha => none_back t1.hh (u a ha)) fun c _ z F' H' t => z F' H' (t1.trans t)⟩
  | false => exact ⟨F1, ρ, s.tr t1, Res.mono q (fun y _ q F2 H2 v A t2 r n u => q F2 H2 v A (t1.trans t2) r n fun a ha => none_back t1.hh (u a ha)) fun c _ z F' H' t => z F' H' (t1.trans t)⟩
end
end
end Dv
end
section
set_option maxRecDepth 100000
set_option maxHeartbeats 1000000
namespace Dv
open PySem PySem.Spec PyProof.Rows L2

section
variable {k : Kx} {F H F' H' : Hp}
/-- values that are looked at -/
abbrev Vw (k : Kx) (F H : Hp) : List V → List D → Prop := Paired fun v d => ∃ A, Rp k F H d v A
theorem Vw.tr (t : Tr F H F' H') : ∀ {vs : List V} {ds : List D}, Vw k F H vs ds → Vw k F' H' vs ds
  | _, _, .nil => .nil
  | _, _, .cons ⟨A, r⟩ s => .cons ⟨A, r.tr t⟩ (Vw.tr t s)
theorem Vw.rpl : ∀ {vs : List V} {ds : List D}, Vw k F H vs ds → ∃ A, RpL k F H ds vs A
  | _, _, .nil => ⟨[], rfl, rfl⟩
  | _, _, .cons ⟨A, r⟩ s => by
    obtain ⟨B, q⟩ := Vw.rpl s
    exact ⟨A ++ B, _, _, A, B, rfl, rfl, r, q⟩
theorem RpL.vw : ∀ {ds : List D} {vs : List V} {A : List Addr}, RpL k F H ds vs A → Vw k F H vs ds
  | [], _, _, h => by rw [h.1]; exact .nil
  | d :: ds, xs, A, h => by
    obtain ⟨v, vs, B, C, e1, e2, h1, h2⟩ := h
    rw [e1]
    exact .cons ⟨B, h1⟩ (RpL.vw h2)
theorem Vw.app : ∀ {vs ws : List V} {ds es : List D}, Vw k F H vs ds → Vw k F H ws es → Vw k F H (vs ++ ws) (ds ++ es)
  | _, _, _, _, .nil, s => s
  | _, _, _, _, .cons r t, s => .cons r (Vw.app t s)
end
section
variable {X : Cx} {E : En} {W : WX}
/-! ### argument lists -/
def aNil : Env → R (List D) := fun _ => .ok []
def aV (f : Env → R D) (g : Env → R (List D)) : Env → R (List D) := fun ρ => (f ρ).bind fun x => (g ρ).bind fun xs => .ok (x :: xs)
/-- an own value: frozen -/
def aO (f : Env → R D) (g : Env → R (List D)) : Env → R (List D) := fun ρ => (f ρ).bind fun x => if x.cold = true then (g ρ).bind fun xs => .ok (x.frz :: xs) else .no
def items : D → Option (List D)
  | .lst _ xs => some xs
  | .tup xs => some xs
  | _ => none
@[simp] theorem items_lst (o : Bool) (xs : List D) : items (.lst o xs) = some xs := rfl
@[simp] theorem items_tup (xs : List D) : items (.tup xs) = some xs := rfl
def aS (f : Env → R D) (g : Env → R (List D)) : Env → R (List D) := fun ρ => (f ρ).bind fun x => (R.opt (items x)).bind fun ys => (g ρ).bind fun xs => .ok (ys ++ xs)
@[simp] theorem aNil_eq (ρ : Env) : aNil ρ = .ok [] := rfl
@[simp] theorem aV_eq (f : Env → R D) (g : Env → R (List D)) (ρ : Env) : aV f g ρ = (f ρ).bind fun x => (g ρ).bind fun xs => .ok (x :: xs) := rfl
@[simp] theorem aO_eq (f : Env → R D) (g : Env → R (List D)) (ρ : Env) : aO f g ρ = (f ρ).bind fun x => if x.cold = true then (g ρ).bind fun xs => .ok (x.frz :: xs) else .no := rfl
@[simp] theorem aS_eq (f : Env → R D) (g : Env → R (List D)) (ρ : Env) : aS f g ρ = (f ρ).bind fun x => (R.opt (items x)).bind fun ys => (g ρ).bind fun xs => .ok (ys ++ xs) := rfl
theorem tr_fz {F H F1 H1 : Hp} {A : List Addr} (t : Tr F H F1 H1) (n : ∀ a ∈ A, F1 a = none) (u : ∀ a ∈ A, H a = none) : Tr F H (fz F1 H1 A) H1 :=
  ⟨t.ff.trans (fz_ex n), t.hh, fz_exH t.fh, fun a e z => by
    by_cases q : a ∈ A
    · exact absurd (u a q) z
    · rw [fz_out q]; exact t.no a e z⟩
section
variable {e : Expr} {es : List Expr} {f : Env → R D} {g : Env → R (List D)} {p : Pos}
theorem ea_nil : EA X E W [] aNil := ⟨pa_mono pa_nil fun σ H Q ⟨F, ρ, s, q⟩ => q F H [] (Tr.refl s.fh) .nil⟩
theorem ea_v (h : EV X E W e f) (hr : EA X E W es g) (hs : starEach (e :: es) X.env = (false, eval e X.env) :: starEach es X.env := by rfl) : EA X E W (e :: es) (aV f g) := by
  refine ⟨pa_mono (pa_cons h.pe hr.pa hs) fun σ H Q h => ?_⟩
  obtain ⟨F, ρ, s, q⟩ := h
  refine ⟨F, ρ, s, Res.mono q.bind (fun x _ q F1 H1 v A t1 r1 => ?_) fun c _ z F' H' t => z F' H' t⟩
  exact ⟨F1, ρ, s.tr t1, Res.mono q.bind (fun xs _ q F2 H2 vs t2 r2 => q F2 H2 (v :: vs) (t1.trans t2) (.cons ⟨A, r1.tr t2⟩ r2)) fun c _ z F' H' t => z F' H' (t1.trans t)⟩
theorem ea_o (h : EO X E W e f) (hr : EA X E W es g) (hs : starEach (e :: es) X.env = (false, eval e X.env) :: starEach es X.env := by rfl) : EA X E W (e :: es) (aO f g) := by
  refine ⟨pa_mono (pa_cons h.pe hr.pa hs) fun σ H Q h => ?_⟩
  obtain ⟨F, ρ, s, q⟩ := h
  refine ⟨F, ρ, s, Res.mono q.bind (fun x _ q F1 H1 v A t1 r1 n1 u1 => ?_) fun c _ z F' H' t => z F' H' t⟩
  by_cases c : x.cold = true
  · rw [if_pos c] at q
    have n := fun a ha => (Rp.dom x v A r1 a ha).1
    have t1' := tr_fz t1 n u1
    have r1' : Rp E.k (fz F1 H1 A) H1 x.frz v [] := Rp.frz n x v A c (fun _ z => z) r1
    exact ⟨_, ρ, s.tr t1', Res.mono q.bind (fun xs _ q F2 H2 vs t2 r2 => q F2 H2 (v :: vs) (t1'.trans t2) (.cons ⟨[], r1'.tr t2⟩ r2)) fun c _ z F' H' t => z F' H' (t1'.trans t)⟩
  · rw [if_neg c] at q
    exact q.elim
theorem Rp.items (fh : Ex F H) {k : Kx} {d : D} {v : V} {A : List Addr} {ys : List D} (h : Rp k F H d v A) (e : items d = some ys) : ∃ a vs B, v = .ref a ∧ (SqT k.K H a vs ∨ SqL k.K H a vs) ∧ RpL k F H ys vs B := by
  cases d with
  | lst o xs =>
    cases e
    obtain ⟨a, vs, B, e, s, r⟩ := Rp.lstW fh h
    exact ⟨a, vs, B, e, .inr (.inl (.inl s)), r⟩
  | tup xs =>
    cases e
    obtain ⟨a, vs, e, s, r⟩ := h
    exact ⟨a, vs, A, e, .inl (ex_t fh s), r⟩
  | _ => cases e
theorem ea_s (hK : E.k.K = X.K) (h : EV X E W e f) (hr : EA X E W es g) (hs : starEach (.Starred e p :: es) X.env = (true, eval e X.env) :: starEach es X.env := by rfl) : EA X E W (.Starred e p :: es) (aS f g) := by
  refine ⟨pa_mono (StX.pa_star h.pe hr.pa hs) fun σ H Q h => ?_⟩
  obtain ⟨F, ρ, s, q⟩ := h
  refine ⟨F, ρ, s, Res.mono q.bind (fun x _ q F1 H1 v A t1 r1 => ?_) fun c _ z F' H' t => z F' H' t⟩
  obtain ⟨ys, ey, q⟩ := Res.opt q.bind
  obtain ⟨a, vs, B, e, s1, r⟩ := r1.items t1.fh ey
  refine ⟨a, vs, e, by rw [← hK]; exact s1, ?_⟩
  exact ⟨F1, ρ, s.tr t1, Res.mono q.bind (fun xs _ q F2 H2 ws t2 r2 => q F2 H2 (vs ++ ws) (t1.trans t2) (Vw.app (RpL.vw (r.tr t2)) r2)) fun c _ z F' H' t => z F' H' (t1.trans t)⟩

/-! ### displays -/
def eTup (g : Env → R (List D)) : Env → R D := fun ρ => (g ρ).bind fun ds => if D.pureL ds = true ∧ ds.length ≤ 16777216 then .ok (.tup ds) else .no
def eLst (g : Env → R (List D)) : Env → R D := fun ρ => (g ρ).bind fun ds => if D.pureL ds = true ∧ ds.length ≤ 16777216 then .ok (.lst true ds) else .no
@[simp] theorem eTup_eq (g : Env → R (List D)) (ρ : Env) : eTup g ρ = (g ρ).bind fun ds => if D.pureL ds = true ∧ ds.length ≤ 16777216 then .ok (.tup ds) else .no := rfl
@[simp] theorem eLst_eq (g : Env → R (List D)) (ρ : Env) : eLst g ρ = (g ρ).bind fun ds => if D.pureL ds = true ∧ ds.length ≤ 16777216 then .ok (.lst true ds) else .no := rfl
theorem eo_tup {x1 : Nat} (h : EA X E W es g) : EO X E W (.Tuple es x1 p) (eTup g) := by
  refine ⟨pe_mono (pe_tup h.pa) fun σ H Q h => ?_⟩
  obtain ⟨F, ρ, s, q⟩ := h
  refine ⟨F, ρ, s, Res.mono q.bind (fun ds _ q F1 H1 vs t1 r1 => ?_) fun c _ z F' H' t => z F' H' t⟩
  by_cases c : D.pureL ds = true ∧ ds.length ≤ 16777216
  · rw [if_pos c] at q
    obtain ⟨A, r⟩ := Vw.rpl r1
    have r' : RpL E.k F1 H1 ds vs [] := RpL.pure c.1 (.refl _) r
    exact ⟨big_le (by rw [← r.len]; exact c.2), fun p hp => GOk.tup (E := E) t1.fh (GOk.back (E := E) (F := F) (H := H) q t1) hp r'⟩
  · rw [if_neg c] at q
    exact q.elim
theorem eo_lst (h : EA X E W es g) : EO X E W (.List es p) (eLst g) := by
  refine ⟨pe_mono (pe_lst h.pa) fun σ H Q h => ?_⟩
  obtain ⟨F, ρ, s, q⟩ := h
  refine ⟨F, ρ, s, Res.mono q.bind (fun ds _ q F1 H1 vs t1 r1 => ?_) fun c _ z F' H' t => z F' H' t⟩
  by_cases c : D.pureL ds = true ∧ ds.length ≤ 16777216
  · rw [if_pos c] at q
    obtain ⟨A, r⟩ := Vw.rpl r1
    have r' : RpL E.k F1 H1 ds vs [] := RpL.pure c.1 (.refl _) r
    exact ⟨big_le (by rw [← r.len]; exact c.2), fun p hp => GOk.lst (E := E) t1.fh (GOk.back (E := E) (F := F) (H := H) q t1) hp r'⟩
  · rw [if_neg c] at q
    exact q.elim
end

/-! ### subscripts -/
def ixD {α : Type} (xs : List α) (i : Int) : Option α := if 0 ≤ i then xs[i.toNat]? else if -(xs.length : Int) ≤ i then xs[(i + xs.length).toNat]? else none
theorem ixD_atI {α : Type} (xs : List α) (i : Int) : atI xs i = ixD xs i := by
  unfold atI ixN ixD
  by_cases h : 0 ≤ i
  · rw [if_pos h, if_pos h]
    by_cases h2 : i < (xs.length : Int)
    · rw [if_pos h2]; rfl
    · rw [if_neg h2]
      exact (List.getElem?_eq_none (by omega)).symm
  · rw [if_neg h, if_neg h]
    by_cases h2 : -(xs.length : Int) ≤ i
    · rw [if_pos h2, if_pos h2]; rfl
    · rw [if_neg h2, if_neg h2]; rfl
theorem ixD_nat {α : Type} (xs : List α) (j : Nat) : ixD xs (j : Int) = xs[j]? := by
  unfold ixD
  rw [if_pos (by omega), Int.toNat_natCast]
theorem ixD_pos {α : Type} (xs : List α) {i : Int} (h : 0 ≤ i) : ixD xs i = xs[i.toNat]? := by
  unfold ixD
  rw [if_pos h]
theorem RpL.ix {k : Kx} {F H : Hp} {ds : List D} {vs : List V} {A : List Addr} {i : Int} {d : D} (h : RpL k F H ds vs A) (e : ixD ds i = some d) : ∃ v B, atI vs i = some v ∧ Rp k F H d v B := by
  rw [ixD_atI]
  unfold ixD at e ⊢
  have hl := h.len
  by_cases z : 0 ≤ i
  · rw [if_pos z] at e ⊢
    obtain ⟨v, B, h1, h2, _⟩ := h.get e
    exact ⟨v, B, h1, h2⟩
  · rw [if_neg z] at e ⊢
    rw [← hl]
    by_cases z2 : -(ds.length : Int) ≤ i
    · rw [if_pos z2] at e ⊢
      obtain ⟨v, B, h1, h2, _⟩ := h.get e
      exact ⟨v, B, h1, h2⟩
    · rw [if_neg z2] at e
      cases e
def gIx : D → D → Option D
  | .lst _ xs, .int i => ixD xs i
  | .tup xs, .int i => ixD xs i
  | .scr xs, .int i => ixD xs i
  | .str x, .int i => if x.length ≤ 16777216 then (ixD x.cps.toList i).map fun c => .str ⟨#[c]⟩ else none
  | _, _ => none
@[simp] theorem gIx_lst (o : Bool) (xs : List D) (i : Int) : gIx (.lst o xs) (.int i) = ixD xs i := rfl
@[simp] theorem gIx_scr (xs : List D) (i : Int) : gIx (.scr xs) (.int i) = ixD xs i := rfl
@[simp] theorem gIx_tup (xs : List D) (i : Int) : gIx (.tup xs) (.int i) = ixD xs i := rfl
def PlainIxX (b : Expr) : Prop := ∀ o i, subscripted b false o i = operate [o, i] (getItem o i)
theorem ev_ix {a b : Expr} {fa fb : Env → R D} {pos : Pos} (hK : E.k.K = X.K) (ha : EV X E W a fa) (hb : EV X E W b fb) (hs : PlainIx b := by exact fun _ _ => rfl) : EV X E W (.Subscript a b pos) (e2 gIx fa fb) := by
  refine ⟨pe_mono (pe_ix ix_seq ha.pe hb.pe hs) fun σ H Q h => ?_⟩
  obtain ⟨F, ρ, s, q⟩ := h
  refine ⟨F, ρ, s, Res.mono q.bind (fun x _ q F1 H1 v A t1 r1 => ?_) fun c _ z F' H' t => z F' H' t⟩
  refine ⟨F1, ρ, s.tr t1, Res.mono q.bind (fun y _ q F2 H2 w B t2 r2 => ?_) fun c _ z F' H' t => z F' H' (t1.trans t)⟩
  obtain ⟨d, e, p⟩ := Res.opt q
  have t12 := t1.trans t2
  have r1' := r1.tr t2
  rw [← hK]
  cases y with
  | int i =>
    have ew : w = .int i := r2.1
    cases x with
    | lst o xs =>
      obtain ⟨a, vs, B, rfl, s1, r⟩ := Rp.lstW t2.fh r1'
      obtain ⟨z, C, h1, h2⟩ := r.ix e
      exact .inl ⟨a, vs, i, z, rfl, ew, .inl (.inl s1), h1, p F2 H2 z C t12 h2⟩
    | scr xs =>
      obtain ⟨a, vs, rfl, _, s1, r⟩ := r1'
      obtain ⟨z, C, h1, h2⟩ := r.ix e
      exact .inl ⟨a, vs, i, z, rfl, ew, ex_l t2.fh s1, h1, p F2 H2 z C t12 h2⟩
    | tup xs =>
      obtain ⟨a, vs, rfl, s1, r⟩ := r1'
      obtain ⟨z, C, h1, h2⟩ := r.ix e
      exact .inr (.inl ⟨a, vs, i, z, rfl, ew, ex_t t2.fh s1, h1, p F2 H2 z C t12 h2⟩)
    | str z =>
      by_cases hz : z.length ≤ 16777216
      · have e' : (if z.length ≤ 16777216 then (ixD z.cps.toList i).map fun c => D.str ⟨#[c]⟩ else none) = some d := e
        rw [if_pos hz] at e'
        cases ec : ixD z.cps.toList i with
        | none => rw [ec] at e'; cases e'
        | some c =>
          rw [ec] at e'
          cases e'
          exact .inr (.inr ⟨z, i, c, r1'.1, ew, big_le hz, by rw [ixD_atI]; exact ec, p F2 H2 _ [] t12 ⟨rfl, rfl⟩⟩)
      · have e' : (if z.length ≤ 16777216 then (ixD z.cps.toList i).map fun c => D.str ⟨#[c]⟩ else none) = some d := e
        rw [if_neg hz] at e'
        cases e'
    | _ => cases e
  | _ => cases x <;> cases e

/-! ### slices -/
def cutD {α : Type} (xs : List α) (lo hi : Option Int) : List α := (xs.drop (HT.sIx xs.length 0 lo)).take (HT.sIx xs.length xs.length hi - HT.sIx xs.length 0 lo)
def gSl (x : D) (lo hi : Option Int) : Option D :=
  match x with
  | .lst _ xs => if D.pureL xs = true then some (.lst true (cutD xs lo hi)) else none
  | .tup xs => if D.pureL xs = true then some (.tup (cutD xs lo hi)) else none
  | .str z => if z.length ≤ 16777216 then some (.str (cutS z lo hi)) else none
  | _ => none
@[simp] theorem gSl_lst (o : Bool) (xs : List D) (lo hi : Option Int) : gSl (.lst o xs) lo hi = if D.pureL xs = true then some (.lst true (cutD xs lo hi)) else none := rfl
@[simp] theorem gSl_tup (xs : List D) (lo hi : Option Int) : gSl (.tup xs) lo hi = if D.pureL xs = true then some (.tup (cutD xs lo hi)) else none := rfl
def oI : D → Option (Option Int)
  | .int i => some (some i)
  | _ => none
@[simp] theorem oI_int (i : Int) : oI (.int i) = some (some i) := rfl
def oNo : Env → R (Option Int) := fun _ => .ok none
def oPt (f : Env → R D) : Env → R (Option Int) := fun ρ => (f ρ).bind fun d => R.opt (oI d)
@[simp] theorem oNo_eq (ρ : Env) : oNo ρ = .ok none := rfl
@[simp] theorem oPt_eq (f : Env → R D) (ρ : Env) : oPt f ρ = (f ρ).bind fun d => R.opt (oI d) := rfl
def tOF (E : En) (W : WX) (f : Env → R (Option Int)) : TO := fun σ H Q => ∃ F ρ, Stt E F H σ ρ ∧
  Res (f ρ) (fun o => ∀ F' H', Tr F H F' H' → Q o H') (fun c => ∀ F' H', Tr F H F' H' → W (E.ec c) none σ H')
structure EP2 (X : Cx) (E : En) (W : WX) (e : Option Expr) (f : Env → R (Option Int)) : Prop where
  po : PO X e (tOF E W f)
theorem ep_no : EP2 X E W none oNo := ⟨⟨fun pins s σ H Q I ⟨F, ρ, st, q⟩ => po_none.run pins s σ H Q I (q F H (Tr.refl st.fh))⟩⟩
theorem ep_pt {e : Expr} {f : Env → R D} (h : EV X E W e f) : EP2 X E W (some e) (oPt f) := by
  refine ⟨⟨fun pins s σ H Q I h' => (po_some h.pe).run pins s σ H Q I ?_⟩⟩
  obtain ⟨F, ρ, st, q⟩ := h'
  refine ⟨F, ρ, st, Res.mono q.bind (fun x _ q F1 H1 v A t1 r1 => ?_) fun c _ z F' H' t => z F' H' t⟩
  obtain ⟨o, e, p⟩ := Res.opt q
  cases x with
  | int i => cases e; exact ⟨i, r1.1, p F1 H1 t1⟩
  | _ => cases e
def eSl (f : Env → R D) (lo hi : Env → R (Option Int)) : Env → R D := fun ρ => (f ρ).bind fun d => (lo ρ).bind fun a => (hi ρ).bind fun b => R.opt (gSl d a b)
@[simp] theorem eSl_eq (f : Env → R D) (lo hi : Env → R (Option Int)) (ρ : Env) : eSl f lo hi ρ = (f ρ).bind fun d => (lo ρ).bind fun a => (hi ρ).bind fun b => R.opt (gSl d a b) := rfl
theorem RpL.cut {k : Kx} {F H : Hp} {ds : List D} {vs : List V} (h : RpL k F H ds vs []) (lo hi : Option Int) : RpL k F H (cutD ds lo hi) (cutV vs lo hi) [] := by
  unfold cutD cutV
  rw [h.len]
  exact (h.drop _).take _
theorem cutV_whole {vs : List V} {lo hi : Option Int} (h : HT.sIx vs.length 0 lo = 0 ∧ HT.sIx vs.length vs.length hi = vs.length) : cutV vs lo hi = vs := by
  unfold cutV
  rw [h.1, h.2]
  simp
theorem eo_sl {a : Expr} {lo hi : Option Expr} {fa : Env → R D} {fl fh : Env → R (Option Int)} {pos p2 : Pos} (hK : E.k.K = X.K) (ha : EV X E W a fa) (hl : EP2 X E W lo fl) (hh : EP2 X E W hi fh) : EO X E W (.Subscript a (.Slice lo hi none p2) pos) (eSl fa fl fh) := by
  refine ⟨pe_mono (pe_slice (sl_list.or (sl_tupA.or sl_str)) ha.pe hl.po hh.po) fun σ H Q h => ?_⟩
  obtain ⟨F, ρ, s, q⟩ := h
  refine ⟨F, ρ, s, Res.mono q.bind (fun x _ q F1 H1 v A t1 r1 => ?_) fun c _ z F' H' t => z F' H' t⟩
  refine ⟨F1, ρ, s.tr t1, Res.mono q.bind (fun a _ q F2 H2 t2 => ?_) fun c _ z F' H' t => z F' H' (t1.trans t)⟩
  have t12 := t1.trans t2
  refine ⟨F2, ρ, s.tr t12, Res.mono q.bind (fun b _ q F3 H3 t3 => ?_) fun c _ z F' H' t => z F' H' (t12.trans t)⟩
  have t := t12.trans t3
  obtain ⟨d, e, p⟩ := Res.opt q
  have g : GOk E F3 H3 Q d := GOk.back (E := E) (F := F) (H := H) p t
  have r1' := (r1.tr t2).tr t3
  rw [← hK]
  cases x with
  | lst o xs =>
    obtain ⟨z, e⟩ := if_some e
    cases e
    obtain ⟨ad, vs, rfl, s1, r⟩ := Rp.lstR t3.fh z r1'
    exact .inl ⟨ad, vs, rfl, .inl (.inl s1), fun p hp => g.lst t3.fh hp (r.cut a b)⟩
  | tup xs =>
    obtain ⟨z, e⟩ := if_some e
    cases e
    obtain ⟨ad, vs, rfl, s1, r⟩ := r1'
    have r' : RpL E.k F3 H3 xs vs [] := RpL.pure z (.refl _) r
    refine .inr (.inl ⟨ad, vs, rfl, ex_t t3.fh s1, fun hw => ?_, fun _ p hp => g.tup t3.fh hp (r'.cut a b)⟩)
    refine g F3 H3 (.ref ad) [] (Tr.refl t3.fh) ⟨ad, vs, rfl, s1, ?_⟩ .nil fun _ z => nomatch z
    have := r'.cut a b
    rw [cutV_whole hw] at this
    exact this
  | str z =>
    obtain ⟨hz, e⟩ := if_some e
    cases e
    exact .inr (.inr ⟨z, r1'.1, big_le hz, g.scal t3.fh fun _ _ => ⟨rfl, rfl⟩⟩)
  | _ => cases e

/-! ### calls of built-ins -/
def eB (g : List D → Option D) (fs : Env → R (List D)) : Env → R D := fun ρ => (fs ρ).bind fun ds => R.opt (g ds)
@[simp] theorem eB_eq (g : List D → Option D) (fs : Env → R (List D)) (ρ : Env) : eB g fs ρ = (fs ρ).bind fun ds => R.opt (g ds) := rfl
def SaysC (E : En) (r : List V → Hp → VK → Prop) (g : List D → Option D) : Prop := ∀ F H ds vs Q d, Ex F H → Vw E.k F H vs ds → g ds = some d → GOk E F H Q d → r vs H Q
theorem saysC {r : List V → Hp → VK → Prop} {g : List D → Option D} (hg : SaysC E r g) {fs : Env → R (List D)} {σ : L2.St} {H : Hp} {Q : VK} (h : tO E W (eB g fs) σ H Q) : tCB r (tA E W fs) σ H Q := by
  obtain ⟨F, ρ, s, q⟩ := h
  refine ⟨F, ρ, s, Res.mono q.bind (fun ds _ q F1 H1 vs t1 r1 => ?_) fun c _ z F' H' t => z F' H' t⟩
  obtain ⟨d, e, p⟩ := Res.opt q
  exact hg F1 H1 ds vs Q d t1.fh r1 e (GOk.back (E := E) (F := F) (H := H) p t1)
section
variable {x : Str} {p pos : Pos} {e : Expr} {es : List Expr} {fs : Env → R (List D)} {id T : String} {r : List V → Hp → VK → Prop} {g : List D → Option D}
theorem eo_B (hc : CallR X (.builtin id) r) (hg : SaysC E r g) (gl : Gl X x) (hm : X.mg x = none) (hv : bootBuiltins x = some (.builtin id)) (ha : EA X E W (e :: es) fs) (hn : x ≠ "__name__" := by decide) (hdb : (x == ("__debug__" : Str)) = false := by decide)
    (he : starEach (e :: es) X.env = (false, eval e X.env) :: starEach es X.env := by rfl) (hpl : (backTo pos (starEach es X.env)).any (·.1) = false := by rfl) : EO X E W (.Call (.Name x p) (e :: es) [] pos) (eB g fs) :=
  ⟨pe_mono (pe_callB hc gl hm hv ha.pa hn hdb he hpl) fun _ _ _ h => saysC hg h⟩
theorem eo_T (hc : CallR X (.type T) r) (hg : SaysC E r g) (gl : Gl X x) (hm : X.mg x = none) (hv : bootBuiltins x = some (.type T)) (ha : EA X E W (e :: es) fs) (hn : x ≠ "__name__" := by decide) (hdb : (x == ("__debug__" : Str)) = false := by decide)
    (he : starEach (e :: es) X.env = (false, eval e X.env) :: starEach es X.env := by rfl) (hpl : (backTo pos (starEach es X.env)).any (·.1) = false := by rfl) : EO X E W (.Call (.Name x p) (e :: es) [] pos) (eB g fs) :=
  ⟨pe_mono (pe_callTy hc gl hm hv ha.pa hn hdb he hpl) fun _ _ _ h => saysC hg h⟩
end
theorem Vw.one {k : Kx} {F H : Hp} {vs : List V} {d : D} (h : Vw k F H vs [d]) : ∃ v A, vs = [v] ∧ Rp k F H d v A := by
  cases h with
  | cons r t =>
    cases t
    obtain ⟨A, r⟩ := r
    exact ⟨_, A, rfl, r⟩
theorem Vw.two {k : Kx} {F H : Hp} {vs : List V} {d e : D} (h : Vw k F H vs [d, e]) : ∃ v w A B, vs = [v, w] ∧ Rp k F H d v A ∧ Rp k F H e w B := by
  cases h with
  | cons r t =>
    cases t with
    | cons r2 t =>
      cases t
      obtain ⟨A, r⟩ := r
      obtain ⟨B, r2⟩ := r2
      exact ⟨_, _, A, B, rfl, r, r2⟩
def gLen : List D → Option D
  | [.lst _ xs] => some (.int xs.length)
  | [.scr xs] => some (.int xs.length)
  | [.tup xs] => some (.int xs.length)
  | [.str x] => if x.length ≤ 16777216 then some (.int x.length) else none
  | _ => none
@[simp] theorem gLen_lst (o : Bool) (xs : List D) : gLen [.lst o xs] = some (.int xs.length) := rfl
@[simp] theorem gLen_scr (xs : List D) : gLen [.scr xs] = some (.int xs.length) := rfl
@[simp] theorem gLen_tup (xs : List D) : gLen [.tup xs] = some (.int xs.length) := rfl
@[simp] theorem gLen_str (x : Str) : gLen [.str x] = if x.length ≤ 16777216 then some (.int x.length) else none := rfl
theorem says_len : SaysC E (fun xs H Q => ∃ x n, xs = [x] ∧ LenV E.k.K x H n ∧ Q (.int n) H) gLen := by
  intro F H ds vs Q d fh r e g
  unfold gLen at e
  split at e
  · cases e
    obtain ⟨v, A, rfl, rr⟩ := r.one
    obtain ⟨a, ws, B, rfl, s, r⟩ := Rp.lstW fh rr
    exact ⟨_, ws.length, rfl, .inl ⟨ws, .inl (.inl s), rfl⟩, by rw [← r.len]; exact g.scal fh fun _ _ => ⟨rfl, rfl⟩⟩
  · cases e
    obtain ⟨v, A, rfl, rr⟩ := r.one
    obtain ⟨a, ws, rfl, _, s, r⟩ := rr
    exact ⟨_, ws.length, rfl, .inl ⟨ws, ex_l fh s, rfl⟩, by rw [← r.len]; exact g.scal fh fun _ _ => ⟨rfl, rfl⟩⟩
  · cases e
    obtain ⟨v, A, rfl, rr⟩ := r.one
    obtain ⟨a, ws, rfl, s, r⟩ := rr
    exact ⟨_, ws.length, rfl, .inr ⟨ws, ex_t fh s, rfl⟩, by rw [← r.len]; exact g.scal fh fun _ _ => ⟨rfl, rfl⟩⟩
  · obtain ⟨z, e⟩ := if_some e
    cases e
    obtain ⟨v, A, rfl, rr⟩ := r.one
    exact ⟨v, _, rfl, by rw [rr.1]; exact ⟨big_le z, rfl⟩, g.scal fh fun _ _ => ⟨rfl, rfl⟩⟩
  · cases e
def gAbs : List D → Option D
  | [.int i] => some (.int (if i < 0 then -i else i))
  | _ => none
@[simp] theorem gAbs_int (i : Int) : gAbs [.int i] = some (.int (if i < 0 then -i else i)) := rfl
theorem says_abs : SaysC E (fun xs H Q => ∃ i, xs = [.int i] ∧ Q (.int (if i < 0 then -i else i)) H) gAbs := by
  intro F H ds vs Q d fh r e g
  unfold gAbs at e
  split at e
  · cases e
    obtain ⟨v, A, rfl, rr⟩ := r.one
    rw [rr.1]
    exact ⟨_, rfl, g.scal fh fun _ _ => ⟨rfl, rfl⟩⟩
  · cases e
def gMax2 : List D → Option D
  | [.int i, .int j] => some (.int (if j > i then j else i))
  | _ => none
def gMin2 : List D → Option D
  | [.int i, .int j] => some (.int (if j < i then j else i))
  | _ => none
@[simp] theorem gMax2_int (i j : Int) : gMax2 [.int i, .int j] = some (.int (if j > i then j else i)) := rfl
@[simp] theorem gMin2_int (i j : Int) : gMin2 [.int i, .int j] = some (.int (if j < i then j else i)) := rfl
theorem says_max2 : SaysC E (fun xs H Q => ∃ i j, xs = [.int i, .int j] ∧ Q (.int (if j > i then j else i)) H) gMax2 := by
  intro F H ds vs Q d fh r e g
  unfold gMax2 at e
  split at e
  · cases e
    obtain ⟨v, w, A, B, rfl, rr, r2⟩ := r.two
    rw [rr.1, r2.1]
    exact ⟨_, _, rfl, g.scal fh fun _ _ => ⟨rfl, rfl⟩⟩
  · cases e
theorem says_min2 : SaysC E (fun xs H Q => ∃ i j, xs = [.int i, .int j] ∧ Q (.int (if j < i then j else i)) H) gMin2 := by
  intro F H ds vs Q d fh r e g
  unfold gMin2 at e
  split at e
  · cases e
    obtain ⟨v, w, A, B, rfl, rr, r2⟩ := r.two
    rw [rr.1, r2.1]
    exact ⟨_, _, rfl, g.scal fh fun _ _ => ⟨rfl, rfl⟩⟩
  · cases e
def gInt : List D → Option D
  | [.int i] => some (.int i)
  | [.bl b] => some (.int (if b then 1 else 0))
  | _ => none
@[simp] theorem gInt_int (i : Int) : gInt [.int i] = some (.int i) := rfl
@[simp] theorem gInt_bl (b : Bool) : gInt [.bl b] = some (.int (if b then 1 else 0)) := rfl
theorem says_int : SaysC E (fun xs H Q => (∃ i, xs = [.int i] ∧ Q (.int i) H) ∨ ∃ k, xs = [.bl k] ∧ Q (.int (if k then 1 else 0)) H) gInt := by
  intro F H ds vs Q d fh r e g
  unfold gInt at e
  split at e
  · cases e
    obtain ⟨v, A, rfl, rr⟩ := r.one
    rw [rr.1]
    exact .inl ⟨_, rfl, g.scal fh fun _ _ => ⟨rfl, rfl⟩⟩
  · cases e
    obtain ⟨v, A, rfl, rr⟩ := r.one
    rw [rr.1]
    exact .inr ⟨_, rfl, g.scal fh fun _ _ => ⟨rfl, rfl⟩⟩
  · cases e
def gList : List D → Option D
  | [x] => (items x).bind fun xs => if D.pureL xs = true then some (.lst true xs) else none
  | _ => none
@[simp] theorem gList_one (x : D) : gList [x] = (items x).bind fun xs => if D.pureL xs = true then some (.lst true xs) else none := rfl
theorem says_list : SaysC E (fun xs H Q => ∃ p ys, xs = [.ref p] ∧ (SqL E.k.K H p ys ∨ SqT E.k.K H p ys) ∧ ∀ l, H l = none → Q (.ref l) (upd H l (.lst ys))) gList := by
  intro F H ds vs Q d fh r e g
  unfold gList at e
  split at e
  · rename_i x
    obtain ⟨v, A, rfl, rr⟩ := r.one
    cases ei : items x with
    | none => rw [ei] at e; cases e
    | some xs =>
      rw [ei] at e
      obtain ⟨z, e⟩ := if_some (show (if D.pureL xs = true then some (D.lst true xs) else none) = some d from e)
      cases e
      obtain ⟨a, ws, B, rfl, s, r⟩ := rr.items fh ei
      exact ⟨a, ws, rfl, s.symm, fun l hl => g.lst fh hl (RpL.pure z (.refl _) r)⟩
  · cases e
def gTuple : List D → Option D
  | [x] => (items x).bind fun xs => if D.pureL xs = true then some (.tup xs) else none
  | _ => none
@[simp] theorem gTuple_one (x : D) : gTuple [x] = (items x).bind fun xs => if D.pureL xs = true then some (.tup xs) else none := rfl
theorem says_tuple : SaysC E (fun xs H Q => ∃ p ys, xs = [.ref p] ∧ ((SqL E.k.K H p ys ∧ ∀ l, H l = none → Q (.ref l) (upd H l (.tup ys))) ∨ (SqT E.k.K H p ys ∧ Q (.ref p) H))) gTuple := by
  intro F H ds vs Q d fh r e g
  unfold gTuple at e
  split at e
  · rename_i x
    obtain ⟨v, A, rfl, rr⟩ := r.one
    cases x with
    | lst o xs =>
      obtain ⟨z, e⟩ := if_some (show (if D.pureL xs = true then some (D.tup xs) else none) = some d from e)
      cases e
      obtain ⟨a, ws, rfl, s, r⟩ := Rp.lstR fh z rr
      exact ⟨a, ws, rfl, .inl ⟨.inl (.inl s), fun l hl => g.tup fh hl r⟩⟩
    | tup xs =>
      obtain ⟨z, e⟩ := if_some (show (if D.pureL xs = true then some (D.tup xs) else none) = some d from e)
      cases e
      obtain ⟨a, ws, rfl, s, r⟩ := rr
      exact ⟨a, ws, rfl, .inr ⟨ex_t fh s, g F H (.ref a) [] (Tr.refl fh) ⟨a, ws, rfl, s, RpL.pure z (.refl _) r⟩ .nil fun _ z => nomatch z⟩⟩
    | _ => cases e
  · cases e
def gOrd : List D → Option D
  | [.str x] => if x.length = 1 then some (.int (x.cps.getD 0 0 : Nat)) else none
  | _ => none
@[simp] theorem gOrd_str (x : Str) : gOrd [.str x] = if x.length = 1 then some (.int (x.cps.getD 0 0 : Nat)) else none := rfl
theorem says_ord : SaysC E (fun xs H Q => ∃ x, xs = [.str x] ∧ x.length = 1 ∧ Q (.int (x.cps.getD 0 0 : Nat)) H) gOrd := by
  intro F H ds vs Q d fh r e g
  unfold gOrd at e
  split at e
  · obtain ⟨z, e⟩ := if_some e
    cases e
    obtain ⟨v, A, rfl, rr⟩ := r.one
    rw [rr.1]
    exact ⟨_, rfl, z, g.scal fh fun _ _ => ⟨rfl, rfl⟩⟩
  · cases e
/-- the type of data, by its name -/
def tyD : D → String
  | .non => "NoneType" | .bl _ => "bool" | .int _ => "int" | .str _ => "str" | .tup _ => "tuple" | .lst _ _ => "list" | .scr _ => "list" | .dic _ _ _ => "dict" | .dit _ _ _ => "dict" | .ins _ _ _ => "object" | .fn _ => "function"
def gIsi (T : String) : List D → Option D
  | [x, .non] => match x with
    | .ins _ _ _ => none
    | .fn _ => none
    | _ => (kitB (tyD x) T).map .bl
  | _ => none
end
end Dv
end
section
set_option maxRecDepth 100000
set_option maxHeartbeats 1000000
namespace Dv
open PySem PySem.Spec PyProof.Rows L2

/-! ### isinstance -/
section
variable {X : Cx} {E : En} {W : WX}
theorem Rp.ty {k : Kx} {F H : Hp} (fh : Ex F H) {d : D} {v : V} {A : List Addr} (hn : ∀ c fs xs, d ≠ .ins c fs xs) (hf : ∀ i, d ≠ .fn i) (h : Rp k F H d v A) : TyX k.K H v (.type (tyD d)) := by
  cases d with
  | non => rw [h.1]; exact .base .non
  | bl b => rw [h.1]; exact .base (.bl b)
  | int i => rw [h.1]; exact .base (.int i)
  | str x => rw [h.1]; exact .base (.str x)
  | tup xs =>
    obtain ⟨a, vs, rfl, s, r⟩ := h
    rcases ex_t fh s with (s | ⟨o, s⟩) | ⟨o, its, n, hl, hc, _⟩
    · exact .base (.tup s)
    · exact .fTuple s
    · exact .kTuple hl hc
  | lst o xs =>
    obtain ⟨a, vs, B, rfl, s, r⟩ := Rp.lstW fh h
    exact .base (.lst s)
  | scr xs =>
    obtain ⟨a, vs, rfl, _, s, r⟩ := h
    rcases ex_l fh s with (s | ⟨o, s⟩) | ⟨o, its, n, hl, hc, _⟩
    · exact .base (.lst s)
    · exact .base (.frz s)
    · exact .kList hl hc
  | dic o ks xs =>
    obtain ⟨a, vs, B, rfl, l, r, h1, h2⟩ := h
    cases o with
    | false => exact .base (.dK (fh _ _ (h1 rfl).1))
    | true => exact .base (.dK (h2 rfl).2.2)
  | dit o ks xs =>
    obtain ⟨a, vs, B, rfl, l, r, h1, h2⟩ := h
    cases o with
    | false => exact .base (.dT (fh _ _ (h1 rfl).1))
    | true => exact .base (.dT (h2 rfl).2.2)
  | ins c fs xs => exact absurd rfl (hn c fs xs)
  | fn i => exact absurd rfl (hf i)
/-- isinstance(x, T) -/
def isiD (T : String) (d : D) : R D := match d with
  | .ins _ _ _ => .no
  | .fn _ => .no
  | _ => R.opt ((kitB (tyD d) T).map D.bl)
def eIsi (T : String) (f : Env → R D) : Env → R D := fun ρ => (f ρ).bind (isiD T)
@[simp] theorem eIsi_eq (T : String) (f : Env → R D) (ρ : Env) : eIsi T f ρ = (f ρ).bind (isiD T) := rfl
theorem isiD_of {T : String} {d : D} {b : Bool} (hn : ∀ c fs xs, d ≠ .ins c fs xs) (h : kitB (tyD d) T = some b) (hf : ∀ i, d ≠ .fn i := by intro _ z; nomatch z) : isiD T d = .ok (.bl b) := by
  unfold isiD
  cases d with
  | ins c fs xs => exact absurd rfl (hn c fs xs)
  | fn i => exact absurd rfl (hf i)
  | _ => simp only [h]; rfl
theorem eo_isi {T : String} {a : Expr} {fa : Env → R D} {x y : Str} {p p2 pos : Pos} (hK : E.k.K = X.K) (gl : Gl X x) (hm : X.mg x = none) (hv : bootBuiltins x = some (.builtin "isinstance")) (gl2 : Gl X y) (hm2 : X.mg y = none) (hv2 : bootBuiltins y = some (.type T)) (ha : EV X E W a fa)
    (hn : x ≠ "__name__" := by decide) (hdb : (x == ("__debug__" : Str)) = false := by decide) (hn2 : y ≠ "__name__" := by decide) (hdb2 : (y == ("__debug__" : Str)) = false := by decide)
    (he : starEach [a, .Name y p2] X.env = (false, eval a X.env) :: starEach [.Name y p2] X.env := by rfl) (he2 : starEach [.Name y p2] X.env = (false, eval (.Name y p2) X.env) :: starEach [] X.env := by rfl) (hpl : (backTo pos (starEach [.Name y p2] X.env)).any (·.1) = false := by rfl) :
    EO X E W (.Call (.Name x p) [a, .Name y p2] [] pos) (eIsi T fa) := by
  refine ⟨pe_mono (pe_callB call_isi gl hm hv (pa_cons ha.pe (pa_cons (pe_bltn (v := .ty T) gl2 hm2 hv2 rfl hn2 hdb2) pa_nil he2) he) hn hdb he hpl) fun σ H Q h => ?_⟩
  obtain ⟨F, ρ, s, q⟩ := h
  refine ⟨F, ρ, s, Res.mono q.bind (fun d _ q F1 H1 v A t1 r1 => ?_) fun c _ z F' H' t => z F' H' t⟩
  have go : (∀ c fs xs, d ≠ .ins c fs xs) → (∀ i, d ≠ .fn i) → Res (R.opt ((kitB (tyD d) T).map D.bl)) (fun d => ∀ F' H' v A, Tr F H F' H' → Rp E.k F' H' d v A → A.Nodup → (∀ a ∈ A, H a = none) → Q v H') (fun c => ∀ F' H', Tr F H F' H' → W (E.ec c) none σ H') →
      rIsi X.K [v, .ty T] H1 Q := fun hi hf q => by
    obtain ⟨d', e, p⟩ := Res.opt q
    cases ek : kitB (tyD d) T with
    | none => rw [ek] at e; cases e
    | some b =>
      rw [ek] at e
      cases e
      exact ⟨v, .ty T, _, _, b, rfl, .ty T, by rw [← hK]; exact r1.ty t1.fh hi hf, kit_ty ek, p F1 H1 (.bl b) [] t1 ⟨rfl, rfl⟩ .nil fun _ z => nomatch z⟩
  cases d with
  | ins _ _ _ => exact q.elim
  | fn _ => exact q.elim
  | _ => exact go (fun _ _ _ z => nomatch z) (fun _ z => nomatch z) q
theorem kitB_ty (a b : String) (r : Bool) (h : kitB a b = some r) : (kitB a b).map D.bl = some (.bl r) := by rw [h]; rfl

/-! ### a def's promise, its call -/
/-- what is promised of a def whose meaning is f: n arguments, all pure -/
def spD (k : Kx) (ec : Nat → Value) (n : Nat) (f : List D → R D) : Sp := fun vs H Q Ew => ∃ F ds, Ex F H ∧ RpL k F H ds vs [] ∧ D.pureL ds = true ∧ ds.length = n ∧
  Res (f ds) (fun d => ∀ F' H' v A, Tr F H F' H' → Rp k F' H' d v A → A.Nodup → (∀ a ∈ A, H a = none) → Q v H') (fun c => ∀ F' H', Tr F H F' H' → Ew (ec c) none H')
theorem spD_len {k : Kx} {ec : Nat → Value} {n : Nat} {f : List D → R D} {vs : List V} {H : Hp} {Q : VK} {Ew : XK} (h : spD k ec n f vs H Q Ew) : vs.length = n := by
  obtain ⟨F, ds, _, r, _, l, _⟩ := h
  rw [← r.len, l]
def callF (n : Nat) (f : List D → R D) (ds : List D) : R D :=
  if ds.length = n then
    if D.pureL ds = true then f ds
    else if D.coldL ds = true then (f (D.frzL ds)).bind fun r => if r.noFz = true then .ok r else .no
    else .no
  else .no
def eCall (n : Nat) (f : List D → R D) (fs : Env → R (List D)) : Env → R D := fun ρ => (fs ρ).bind (callF n f)
@[simp] theorem eCall_eq (n : Nat) (f : List D → R D) (fs : Env → R (List D)) (ρ : Env) : eCall n f fs ρ = (fs ρ).bind (callF n f) := rfl
theorem frzL_len : ∀ ds : List D, (D.frzL ds).length = ds.length
  | [] => rfl
  | d :: ds => by rw [D.frzL, List.length_cons, List.length_cons, frzL_len ds]
/-- the caller's side of a call -/
theorem call_of {n : Nat} {f : List D → R D} {F H F1 H1 : Hp} {ds : List D} {vs : List V} {Q : VK} {Ew : XK} (t1 : Tr F H F1 H1) (r : Vw E.k F1 H1 vs ds)
    (h : Res (callF n f ds) (fun d => ∀ F' H' v A, Tr F H F' H' → Rp E.k F' H' d v A → A.Nodup → (∀ a ∈ A, H a = none) → Q v H') (fun c => ∀ F' H', Tr F H F' H' → Ew (E.ec c) none H')) : spD E.k E.ec n f vs H1 Q Ew := by
  unfold callF at h
  by_cases hl : ds.length = n
  · rw [if_pos hl] at h
    obtain ⟨A, ra⟩ := Vw.rpl r
    by_cases hp : D.pureL ds = true
    · rw [if_pos hp] at h
      exact ⟨F1, ds, t1.fh, RpL.pure hp (.refl _) ra, hp, hl, Res.mono h (fun d _ p F' H' v A t r n u => p F' H' v A (t1.trans t) r n fun a ha => none_back t1.hh (u a ha)) fun c _ z F' H' t => z F' H' (t1.trans t)⟩
    · rw [if_neg hp] at h
      by_cases hc : D.coldL ds = true
      · rw [if_pos hc] at h
        have dm := RpL.dom ds vs A ra
        have n1 : ∀ a ∈ A, F1 a = none := fun a ha => (dm a ha).1
        refine ⟨fz F1 H1 A, D.frzL ds, fz_exH t1.fh, RpL.frz n1 ds vs A hc (fun _ z => z) ra, D.frzL_pure ds hc, by rw [frzL_len]; exact hl, ?_⟩
        have back : ∀ {F' H' : Hp}, Tr (fz F1 H1 A) H1 F' H' → Tr F1 H1 (fun a => if a ∈ A then none else F' a) H' := fun {F' H'} t => by
          refine ⟨fun a o e => ?_, t.hh, fun a o e => ?_, fun a e z => ?_⟩
          · have : a ∉ A := fun z => by rw [n1 a z] at e; cases e
            show (if a ∈ A then none else F' a) = some o
            rw [if_neg this]
            exact t.ff a o (by rw [fz_out this]; exact e)
          · have e' : (if a ∈ A then none else F' a) = some o := e
            by_cases q : a ∈ A
            · rw [if_pos q] at e'; cases e'
            · rw [if_neg q] at e'; exact t.fh a o e'
          · show (if a ∈ A then none else F' a) = none
            by_cases q : a ∈ A
            · rw [if_pos q]
            · rw [if_neg q]; exact t.no a (by rw [fz_out q]; exact e) z
        refine Res.mono h.bind (fun d _ p F' H' v B t rv nd u => ?_) fun c _ z F' H' t => z _ H' (t1.trans (back t))
        by_cases hz : d.noFz = true
        · rw [if_pos hz] at p
          refine p _ H' v B (t1.trans (back t)) (Rp.thin A (fun a ha o e => ?_) d v B hz rv) nd fun a ha => none_back t1.hh (u a ha)
          obtain ⟨_, o1, e1, x1, x2⟩ := dm a ha
          have e2 : F' a = some o1 := t.ff a o1 (by rw [fz_in ha]; exact e1)
          rw [e2] at e
          cases e
          exact ⟨x1, x2⟩
        · rw [if_neg hz] at p
          exact p.elim
      · rw [if_neg hc] at h
        exact h.elim
  · rw [if_neg hl] at h
    exact h.elim
theorem eo_call {k n : Nat} {fa : Addr} {fd : FuncData} {ps : List Str} {f : List D → R D} {fs : Env → R (List D)} {x : Str} {p pos : Pos} {e : Expr} {es : List Expr} (G : FnOk X.prog X.w X.K X.mg X.base (L2.CX X.prog X.w) k fa fd ps (spD E.k E.ec n f)) (tk : Takes X W) (hr : Room k X.A) (hg : Gl X x) (hm : X.mg x = some (.ref fa)) (hk : PySem.W.keepIn X.K (.ref fa) = true) (hb : Binds X.K fd ps [])
    (ha : EA X E W (e :: es) fs) (hdb : (x == ("__debug__" : Str)) = false := by decide) (he : starEach (e :: es) X.env = (false, eval e X.env) :: starEach es X.env := by rfl) (hpl : (backTo pos (starEach es X.env)).any (·.1) = false := by rfl) : EO X E W (.Call (.Name x p) (e :: es) [] pos) (eCall n f fs) := by
  refine ⟨pe_mono (pe_callS (E := WE W) G hr hg hm hk hb (fun σ => passAt tk σ) ha.pa hdb he hpl) fun σ H Q h => ?_⟩
  obtain ⟨F, ρ, s, q⟩ := h
  exact ⟨F, ρ, s, Res.mono q.bind (fun ds _ q F1 H1 vs t1 r1 => call_of (Ew := WE W σ) t1 r1 q) fun c _ z F' H' t => z F' H' t⟩

/-! ### blocks -/
def sThen (f g : Env → SR) : Env → SR := fun ρ => match f ρ with
  | .nx ρ' => g ρ'
  | r => r
def SR.andThen (r : SR) (g : Env → SR) : SR := match r with
  | .nx ρ' => g ρ'
  | r => r
@[simp] theorem SR.at_nx (ρ : Env) (g : Env → SR) : (SR.nx ρ).andThen g = g ρ := rfl
@[simp] theorem SR.at_no (g : Env → SR) : SR.no.andThen g = .no := rfl
@[simp] theorem SR.at_bk (ρ : Env) (g : Env → SR) : (SR.bk ρ).andThen g = .bk ρ := rfl
@[simp] theorem SR.at_ct (ρ : Env) (g : Env → SR) : (SR.ct ρ).andThen g = .ct ρ := rfl
@[simp] theorem SR.at_rt (d : D) (ρ : Env) (g : Env → SR) : (SR.rt d ρ).andThen g = .rt d ρ := rfl
@[simp] theorem SR.at_ex (c : Nat) (ρ : Env) (g : Env → SR) : (SR.ex c ρ).andThen g = .ex c ρ := rfl
def sq (f g : Env → SR) : Env → SR := fun ρ => (f ρ).andThen g
@[simp] theorem sq_eq (f g : Env → SR) (ρ : Env) : sq f g ρ = (f ρ).andThen g := rfl
def sNil : Env → SR := fun ρ => .nx ρ
@[simp] theorem sNil_eq (ρ : Env) : sNil ρ = .nx ρ := rfl
section
variable {st : Stmt} {rest : List Stmt} {f g : Env → SR} {pos : Pos}
theorem sb_nil : SB X E W [] sNil := ⟨pss_mono pss_nil fun Z σ H ⟨F, ρ, s, q⟩ => q F H σ (.refl _) s⟩
theorem SRes.mono {F F' : Hp} {Z Z' : Ends} {r : SR} (h : SRes E W F Z r) (hF : Ex F F') (hz : ∀ σ H, Z.nx σ H → Z'.nx σ H) (hr : ∀ v H, Z.rt v H → Z'.rt v H) (hb : ∀ σ H, Z.bk σ H → Z'.bk σ H) (hc : ∀ σ H, Z.ct σ H → Z'.ct σ H) : SRes E W F' Z' r := by
  cases r with
  | no => exact h
  | nx ρ => exact fun F2 H2 σ x s => hz _ _ (h F2 H2 σ (hF.trans x) s)
  | bk ρ => exact fun F2 H2 σ x s => hb _ _ (h F2 H2 σ (hF.trans x) s)
  | ct ρ => exact fun F2 H2 σ x s => hc _ _ (h F2 H2 σ (hF.trans x) s)
  | rt d ρ => exact fun F2 H2 σ v s x y => hr _ _ (h F2 H2 σ v s x y)
  | ex c ρ => exact fun F2 H2 σ x s => h F2 H2 σ (hF.trans x) s
theorem SRes.then {F : Hp} {Z : Ends} {r : SR} (h : SRes E W F Z (r.andThen g)) : SRes E W F { Z with nx := tSS E W g Z } r := by
  cases r with
  | nx ρ => exact fun F2 H2 σ x s => ⟨F2, ρ, s, SRes.mono h x (fun _ _ z => z) (fun _ _ z => z) (fun _ _ z => z) fun _ _ z => z⟩
  | _ => exact h
theorem sb_cons (h1 : SS X E W st f) (h2 : SB X E W rest g) : SB X E W (st :: rest) (sq f g) :=
  ⟨pss_mono (pss_cons h1.ps h2.ps) fun Z σ H ⟨F, ρ, s, q⟩ => ⟨F, ρ, s, SRes.then q⟩⟩
theorem sb_one (h1 : SS X E W st f) : SB X E W [st] f := ⟨pss_one h1.ps⟩
/-! small statements -/
def sPass : Env → SR := fun ρ => .nx ρ
def sBrk : Env → SR := fun ρ => .bk ρ
def sCnt : Env → SR := fun ρ => .ct ρ
@[simp] theorem sPass_eq (ρ : Env) : sPass ρ = .nx ρ := rfl
@[simp] theorem sBrk_eq (ρ : Env) : sBrk ρ = .bk ρ := rfl
@[simp] theorem sCnt_eq (ρ : Env) : sCnt ρ = .ct ρ := rfl
theorem ss_pass : SS X E W (.Pass pos) sPass := ⟨ps_mono ps_pass fun Z σ H ⟨F, ρ, s, q⟩ => q F H σ (.refl _) s⟩
theorem ss_brk : SS X E W (.Break pos) sBrk := ⟨ps_mono ps_break fun Z σ H ⟨F, ρ, s, q⟩ => q F H σ (.refl _) s⟩
theorem ss_cnt : SS X E W (.Continue pos) sCnt := ⟨ps_mono ps_continue fun Z σ H ⟨F, ρ, s, q⟩ => q F H σ (.refl _) s⟩
end
/-- an expression's end carried on -/
def R.st {α : Type} (r : R α) (ρ : Env) (k : α → SR) : SR := match r with
  | .no => .no
  | .ok a => k a
  | .ex c => .ex c ρ
@[simp] theorem R.st_no {α : Type} (ρ : Env) (k : α → SR) : (R.no).st ρ k = .no := rfl
@[simp] theorem R.st_ok {α : Type} (a : α) (ρ : Env) (k : α → SR) : (R.ok a).st ρ k = k a := rfl
@[simp] theorem R.st_ex {α : Type} (c : Nat) (ρ : Env) (k : α → SR) : (R.ex c : R α).st ρ k = .ex c ρ := rfl
theorem SRes.st {α : Type} {F : Hp} {Z : Ends} {r : R α} {ρ : Env} {k : α → SR} (h : SRes E W F Z (r.st ρ k)) : Res r (fun a => SRes E W F Z (k a)) (fun c => SRes E W F Z (.ex c ρ)) := by
  cases r with
  | no => exact h
  | ok a => exact h
  | ex c => exact h
/-- the exceptional end, from a state -/
theorem SRes.exc {F H : Hp} {Z : Ends} {c : Nat} {ρ : Env} {σ : L2.St} (s : Stt E F H σ ρ) (h : SRes E W F Z (.ex c ρ)) : ∀ F' H', Tr F H F' H' → W (E.ec c) none σ H' := fun F' H' t => h F' H' σ t.ff (s.tr t)
/-- a slot gets what was made -/
theorem Stt.set {F H F' H' : Hp} {σ : L2.St} {ρ : Env} {i : Nat} {d : D} {v : V} {A : List Addr} (s : Stt E F H σ ρ) (t : Tr F H F' H') (r : Rp E.k F' H' d v A) (nd : A.Nodup) (u : ∀ a ∈ A, H a = none) (hb : i ∉ E.bs) : Stt E F' H' (σ.set i (some v)) (ρ.set i (some d)) := by
  have s' := s.tr t
  obtain ⟨fp, sl⟩ := s.sl
  by_cases hi : i < ρ.length
  · refine ⟨s'.e0, s'.fh, s'.fr, s'.st, s'.bt, by rw [List.length_set, List.length_set]; exact s'.len, fun j hj => ?_, fun j => if j = i then A else fp j, fun j d' e => ?_, fun j e => ?_, fun j => ?_, fun j j' a ha ha' => ?_, fun j a ha => ?_⟩
    · rw [List.getElem?_set_ne (fun z => hb (by rw [z]; exact hj)), List.length_set]
      exact s'.bv j hj
    · by_cases q : j = i
      · subst q
        rw [List.getElem?_set_self hi] at e
        cases e
        refine ⟨v, by rw [List.getElem?_set_self (by rw [← s'.len]; exact hi)], ?_⟩
        show Rp E.k F' H' d v (if j = j then A else fp j)
        rw [if_pos rfl]; exact r
      · rw [List.getElem?_set_ne (Ne.symm q)] at e
        obtain ⟨v', e', r'⟩ := sl.rp j d' e
        refine ⟨v', by rw [List.getElem?_set_ne (Ne.symm q)]; exact e', ?_⟩
        show Rp E.k F' H' d' v' (if j = i then A else fp j)
        rw [if_neg q]
        exact r'.tr t
    · show (if j = i then A else fp j) = []
      by_cases q : j = i
      · subst q
        rw [List.getElem?_set_self hi] at e
        cases e
      · rw [List.getElem?_set_ne (Ne.symm q)] at e
        rw [if_neg q]
        exact sl.em j e
    · show (if j = i then A else fp j).Nodup
      by_cases q : j = i
      · rw [if_pos q]; exact nd
      · rw [if_neg q]; exact sl.nd j
    · have ha : a ∈ (if j = i then A else fp j) := ha
      have ha' : a ∈ (if j' = i then A else fp j') := ha'
      by_cases q : j = i
      · by_cases q' : j' = i
        · rw [q, q']
        · rw [if_pos q] at ha
          rw [if_neg q'] at ha'
          exact absurd (u a ha) (sl.there ha').2
      · rw [if_neg q] at ha
        by_cases q' : j' = i
        · rw [if_pos q'] at ha'
          exact absurd (u a ha') (sl.there ha).2
        · rw [if_neg q'] at ha'
          exact sl.dj j j' a ha ha'
    · have ha : a ∈ (if j = i then A else fp j) := ha
      by_cases q : j = i
      · rw [if_pos q] at ha
        exact .inl (s.new (u a ha))
      · rw [if_neg q] at ha
        exact sl.nw j a ha
  · have e1 : ρ.set i (some d) = ρ := List.set_eq_of_length_le (by omega)
    have e2 : σ.set i (some v) = σ := List.set_eq_of_length_le (by have := s.len; omega)
    rw [e1, e2]
    exact s'
/-- something more is held -/
theorem Stt.push' {F H : Hp} {σ : L2.St} {ρ : Env} {fp : Nat → List Addr} {d : D} {v : V} {A : List Addr} (s : Stt E F H σ ρ) (sl : Sl E F H σ ρ fp) (r : Rp E.k F H d v A) (nd : A.Nodup) (u : ∀ a ∈ A, E.He a = none ∧ ∀ j, a ∉ fp j) : Stt E F H (σ ++ [some v]) (ρ ++ [some d]) := by
  have hl := s.len
  have lt : ∀ j d', (ρ ++ [some d])[j]? = some (some d') → j ≠ ρ.length → ρ[j]? = some (some d') := fun j d' e n => by
    by_cases q : j < ρ.length
    · rw [List.getElem?_append_left q] at e; exact e
    · rw [List.getElem?_append_right (by omega), List.getElem?_singleton, if_neg (by omega)] at e; cases e
  refine ⟨s.e0, s.fh, s.fr, s.st, s.bt, by rw [List.length_append, List.length_append, hl]; rfl, fun j hj => ?_, fun j => if j = ρ.length then A else fp j, fun j d' e => ?_, fun j e => ?_, fun j => ?_, fun j j' a ha ha' => ?_, fun j a ha => ?_⟩
  · obtain ⟨h1, h2⟩ := s.bv j hj
    rw [List.getElem?_append_left h1, List.length_append]
    exact ⟨by omega, h2⟩
  · show ∃ w, _ ∧ Rp E.k F H d' w (if j = ρ.length then A else fp j)
    by_cases q : j = ρ.length
    · subst q
      rw [List.getElem?_append_right (Nat.le_refl _), Nat.sub_self] at e
      cases e
      rw [if_pos rfl]
      exact ⟨v, by rw [hl, List.getElem?_append_right (Nat.le_refl _), Nat.sub_self]; rfl, r⟩
    · have e' := lt j d' e q
      obtain ⟨w, h1, h2⟩ := sl.rp j d' e'
      rw [if_neg q]
      exact ⟨w, by rw [List.getElem?_append_left (List.getElem?_eq_some_iff.mp h1).1]; exact h1, h2⟩
  · show (if j = ρ.length then A else fp j) = []
    by_cases q : j = ρ.length
    · subst q
      rw [List.getElem?_append_right (Nat.le_refl _), Nat.sub_self] at e
      cases e
    · rw [if_neg q]
      by_cases z : j < ρ.length
      · rw [List.getElem?_append_left z] at e; exact sl.em j e
      · exact sl.em j (by rw [List.getElem?_eq_none (by omega)]; rfl)
  · show (if j = ρ.length then A else fp j).Nodup
    by_cases q : j = ρ.length
    · rw [if_pos q]; exact nd
    · rw [if_neg q]; exact sl.nd j
  · have ha : a ∈ (if j = ρ.length then A else fp j) := ha
    have ha' : a ∈ (if j' = ρ.length then A else fp j') := ha'
    by_cases q : j = ρ.length
    · by_cases q' : j' = ρ.length
      · rw [q, q']
      · rw [if_pos q] at ha
        rw [if_neg q'] at ha'
        exact absurd ha' ((u a ha).2 j')
    · rw [if_neg q] at ha
      by_cases q' : j' = ρ.length
      · rw [if_pos q'] at ha'
        exact absurd ha ((u a ha').2 j)
      · rw [if_neg q'] at ha'
        exact sl.dj j j' a ha ha'
  · have ha : a ∈ (if j = ρ.length then A else fp j) := ha
    by_cases q : j = ρ.length
    · rw [if_pos q] at ha
      exact .inl (u a ha).1
    · rw [if_neg q] at ha
      exact sl.nw j a ha
theorem Stt.push {F H F' H' : Hp} {σ : L2.St} {ρ : Env} {d : D} {v : V} {A : List Addr} (s : Stt E F H σ ρ) (t : Tr F H F' H') (r : Rp E.k F' H' d v A) (nd : A.Nodup) (u : ∀ a ∈ A, H a = none) : Stt E F' H' (σ ++ [some v]) (ρ ++ [some d]) := by
  obtain ⟨fp, sl⟩ := s.sl
  exact (s.tr t).push' ⟨fun j d e => let ⟨v, ev, r⟩ := sl.rp j d e; ⟨v, ev, r.tr t⟩, sl.em, sl.nd, sl.dj, sl.nw⟩ r nd fun a ha => ⟨s.new (u a ha), fun j hj => (sl.there hj).2 (u a ha)⟩
/-- a slot's object is written at l: the new data own what they owned, or what is new -/
theorem Stt.write {F H : Hp} {σ : L2.St} {ρ : Env} {fp : Nat → List Addr} {i : Nat} {d' : D} {v : V} {A' : List Addr} {l : Addr} {o : HO} (s : Stt E F H σ ρ) (sl : Sl E F H σ ρ fp) (hl : l ∈ fp i) (hv : σ[i]? = some (some v)) (r : Rp E.k F (upd H l o) d' v A') (nd : A'.Nodup)
    (hA : ∀ a ∈ A', a ∈ fp i ∨ (E.He a = none ∧ ∀ j, a ∉ fp j)) : Stt E F (upd H l o) σ (ρ.set i (some d')) := by
  have fl := (sl.there hl).1
  have hi : i < ρ.length := by rw [s.len]; exact (List.getElem?_eq_some_iff.mp hv).1
  refine ⟨s.e0, fun a o' e => ?_, s.fr, fun a o' e b => ?_, fun a b => ?_, by rw [List.length_set]; exact s.len, s.bv, fun j => if j = i then A' else fp j, fun j d2 e => ?_, fun j e => ?_, fun j => ?_, fun j j' a ha ha' => ?_, fun j a ha => ?_⟩
  · rw [upd_ne fun z => by rw [z, fl] at e; cases e]
    exact s.fh a o' e
  · rw [upd_ne fun z => by
      rcases sl.nw i l hl with h | h
      · rw [z, h] at e; cases e
      · exact b (z ▸ h.1)]
    exact s.st a o' e b
  · by_cases q : a = l
    · rw [q, upd_same]; exact fun z => nomatch z
    · rw [upd_ne q]; exact s.bt a b
  · by_cases q : j = i
    · subst q
      rw [List.getElem?_set_self hi] at e
      cases e
      refine ⟨v, hv, ?_⟩
      show Rp E.k F (upd H l o) d' v (if j = j then A' else fp j)
      rw [if_pos rfl]; exact r
    · rw [List.getElem?_set_ne (Ne.symm q)] at e
      obtain ⟨v', e', r'⟩ := sl.rp j d2 e
      refine ⟨v', e', ?_⟩
      show Rp E.k F (upd H l o) d2 v' (if j = i then A' else fp j)
      rw [if_neg q]
      refine Rp.mono (.refl _) d2 v' _ (fun a ha o2 e2 n => ⟨?_, n⟩) r'
      rw [upd_ne fun z => q (sl.dj j i l (by rw [← z]; exact ha) hl)]
      exact e2
  · show (if j = i then A' else fp j) = []
    by_cases q : j = i
    · subst q
      rw [List.getElem?_set_self hi] at e
      cases e
    · rw [List.getElem?_set_ne (Ne.symm q)] at e
      rw [if_neg q]
      exact sl.em j e
  · show (if j = i then A' else fp j).Nodup
    by_cases q : j = i
    · rw [if_pos q]; exact nd
    · rw [if_neg q]; exact sl.nd j
  · have ha : a ∈ (if j = i then A' else fp j) := ha
    have ha' : a ∈ (if j' = i then A' else fp j') := ha'
    by_cases q : j = i
    · by_cases q' : j' = i
      · rw [q, q']
      · rw [if_pos q] at ha
        rw [if_neg q'] at ha'
        rcases hA a ha with h | h
        · exact absurd (sl.dj i j' a h ha').symm q'
        · exact absurd ha' (h.2 j')
    · rw [if_neg q] at ha
      by_cases q' : j' = i
      · rw [if_pos q'] at ha'
        rcases hA a ha' with h | h
        · exact absurd (sl.dj j i a ha h) q
        · exact absurd ha (h.2 j)
      · rw [if_neg q'] at ha'
        exact sl.dj j j' a ha ha'
  · have ha : a ∈ (if j = i then A' else fp j) := ha
    by_cases q : j = i
    · rw [if_pos q] at ha
      rcases hA a ha with h | h
      · rw [q]; exact sl.nw i a h
      · exact .inl h.1
    · rw [if_neg q] at ha
      exact sl.nw j a ha
/-- a slot is frozen -/
def frzAt (i : Nat) (ρ : Env) : Env := match ρ[i]?.getD none with
  | some d => if d.cold = true then ρ.set i (some d.frz) else ρ
  | none => ρ
theorem Stt.frz {F H : Hp} {σ : L2.St} {ρ : Env} (i : Nat) (hb : i ∉ E.bs) (s : Stt E F H σ ρ) : ∃ F', Ex F F' ∧ Stt E F' H σ (frzAt i ρ) := by
  unfold frzAt
  cases e : ρ[i]?.getD none with
  | none => exact ⟨F, .refl _, s⟩
  | some d =>
    by_cases c : d.cold = true
    · show ∃ F', Ex F F' ∧ Stt E F' H σ (if d.cold = true then ρ.set i (some d.frz) else ρ)
      rw [if_pos c]
      obtain ⟨fp, sl⟩ := s.sl
      have e' := some_some e
      obtain ⟨v, ev, r⟩ := sl.rp i d e'
      have hi : i < ρ.length := (List.getElem?_eq_some_iff.mp e').1
      have n : ∀ a ∈ fp i, F a = none := fun a ha => (sl.there ha).1
      have he : ∀ a ∈ fp i, E.He a = none := fun a ha => (sl.nw i a ha).elim (fun z => z) fun z => absurd z.2 hb
      refine ⟨fz F H (fp i), fz_ex n, s.e0.trans (fz_ex n), fz_exH s.fh, fun a z w => ?_, s.st, s.bt, by rw [List.length_set]; exact s.len, s.bv, fun j => if j = i then [] else fp j, fun j d2 e2 => ?_, fun j e2 => ?_, fun j => ?_, fun j j' a ha ha' => ?_, fun j a ha => ?_⟩
      · by_cases q : a ∈ fp i
        · exact absurd (he a q) w
        · rw [fz_out q]; exact s.fr a z w
      · show ∃ v, σ[j]? = some (some v) ∧ Rp E.k (fz F H (fp i)) H d2 v (if j = i then [] else fp j)
        by_cases q : j = i
        · subst q
          rw [List.getElem?_set_self hi] at e2
          cases e2
          rw [if_pos rfl]
          exact ⟨v, ev, Rp.frz n d v _ c (fun _ z => z) r⟩
        · rw [List.getElem?_set_ne (Ne.symm q)] at e2
          obtain ⟨v', ev', r'⟩ := sl.rp j d2 e2
          rw [if_neg q]
          refine ⟨v', ev', Rp.mono (fz_ex n) d2 v' _ (fun a ha o e3 n3 => ⟨e3, ?_⟩) r'⟩
          rw [fz_out fun z => q (sl.dj j i a ha z)]
          exact n3
      · show (if j = i then [] else fp j) = []
        by_cases q : j = i
        · rw [if_pos q]
        · rw [if_neg q]
          rw [List.getElem?_set_ne (Ne.symm q)] at e2
          exact sl.em j e2
      · show (if j = i then [] else fp j).Nodup
        by_cases q : j = i
        · rw [if_pos q]; exact .nil
        · rw [if_neg q]; exact sl.nd j
      · have ha : a ∈ (if j = i then [] else fp j) := ha
        have ha' : a ∈ (if j' = i then [] else fp j') := ha'
        by_cases q : j = i
        · rw [if_pos q] at ha; cases ha
        · by_cases q' : j' = i
          · rw [if_pos q'] at ha'; cases ha'
          · rw [if_neg q] at ha
            rw [if_neg q'] at ha'
            exact sl.dj j j' a ha ha'
      · have ha : a ∈ (if j = i then [] else fp j) := ha
        by_cases q : j = i
        · rw [if_pos q] at ha; cases ha
        · rw [if_neg q] at ha
          exact sl.nw j a ha
    · show ∃ F', Ex F F' ∧ Stt E F' H σ (if d.cold = true then ρ.set i (some d.frz) else ρ)
      rw [if_neg c]
      exact ⟨F, .refl _, s⟩
end
end Dv
end
section
set_option maxRecDepth 100000
set_option maxHeartbeats 1000000
namespace Dv
open PySem PySem.Spec PyProof.Rows L2

section
variable {X : Cx} {E : En} {W : WX}
/-! ### name = e -/
def sAsg (i : Nat) (f : Env → R D) : Env → SR := fun ρ => (f ρ).st ρ fun d => .nx (ρ.set i (some d))
@[simp] theorem sAsg_eq (i : Nat) (f : Env → R D) (ρ : Env) : sAsg i f ρ = (f ρ).st ρ fun d => .nx (ρ.set i (some d)) := rfl
theorem ss_asg {i : Nat} {x : Str} {e : Expr} {f : Env → R D} {pos pos' : Pos} (hN : X.N.Nodup) (hi : X.N[i]? = some x) (hx : Loc X.env.scope x) (hb : i ∉ E.bs) (h : EO X E W e f) (hs : swapsWith e (some (.Name x pos')) pos.line X.env = pure false := by rfl) (hf : X.fn x = true ∨ X.env.scope.names.lookup x = some .local := by first | exact .inl rfl | exact .inr rfl | assumption) :
    SS X E W (.Assign [.Name x pos'] e pos) (sAsg i f) := by
  refine ⟨ps_mono (ps_set hN hi hx h.pe hs hf) fun Z σ H h => ?_⟩
  obtain ⟨F, ρ, s, q⟩ := h
  refine ⟨F, ρ, s, Res.mono q.st (fun d _ q F1 H1 v A t1 r1 nd u => ?_) fun c _ z => SRes.exc s z⟩
  exact q F1 H1 _ t1.ff (s.set t1 r1 nd u hb)
/-- name op= e, by the operator's in-place rule -/
def IpR (X : Cx) (op : Operator) (r : R2) : Prop := PIp X op r
theorem ss_aug {i : Nat} {x : Str} {e : Expr} {op : Operator} {r : R2} {g : D → D → Option D} {f : Env → R D} {pos pos' : Pos} (hN : X.N.Nodup) (hi : X.N[i]? = some x) (hx : Loc X.env.scope x) (hb : i ∉ E.bs) (ho : PIp X op r) (hg : Says2 E r g) (h : EV X E W e f) (hf : X.fn x = true ∨ X.env.scope.names.lookup x = some .local := by first | exact .inl rfl | exact .inr rfl | assumption) :
    SS X E W (.AugAssign (.Name x pos') op e pos) (sAsg i (e2 g (eVar i) f)) := by
  refine ⟨ps_mono (ps_aug hN hi hx h.pe ho hf) fun Z σ H h => ?_⟩
  obtain ⟨F, ρ, s, q⟩ := h
  have q := q.st
  rw [e2_eq] at q
  obtain ⟨d0, e0, q⟩ := Res.opt q.bind
  obtain ⟨fp, sl⟩ := s.sl
  obtain ⟨v0, ev0, r0⟩ := sl.rp i d0 (some_some e0)
  refine ⟨v0, ev0, F, ρ, s, Res.mono (Res.bind q) (fun y _ q F1 H1 w B t1 r1 => ?_) fun c _ z => SRes.exc s z⟩
  obtain ⟨d, e, p⟩ := Res.opt q
  exact hg F1 H1 d0 y v0 w _ B _ d t1.fh (r0.tr t1) r1 e fun F2 H2 v A t2 r nd u => p F2 H2 _ (t1.trans t2).ff (s.set (t1.trans t2) r nd (fun a ha => none_back t1.hh (u a ha)) hb)
theorem ip_addA : PIp X .Add (ipI fun i j => i + j) := ip_add
theorem says_ipI {f : Int → Int → Int} : Says2 E (ipI f) (gI0 f) := says_I0
/-- int += int -/
theorem ss_augAdd {i : Nat} {x : Str} {e : Expr} {f : Env → R D} {pos pos' : Pos} (hN : X.N.Nodup) (hi : X.N[i]? = some x) (hx : Loc X.env.scope x) (hb : i ∉ E.bs) (h : EV X E W e f) (hf : X.fn x = true ∨ X.env.scope.names.lookup x = some .local := by first | exact .inl rfl | exact .inr rfl | assumption) :
    SS X E W (.AugAssign (.Name x pos') .Add e pos) (sAsg i (e2 (gI0 fun i j => i + j) (eVar i) f)) := ss_aug hN hi hx hb ip_add says_ipI h hf
theorem ss_augSub {i : Nat} {x : Str} {e : Expr} {f : Env → R D} {pos pos' : Pos} (hN : X.N.Nodup) (hi : X.N[i]? = some x) (hx : Loc X.env.scope x) (hb : i ∉ E.bs) (h : EV X E W e f) (hf : X.fn x = true ∨ X.env.scope.names.lookup x = some .local := by first | exact .inl rfl | exact .inr rfl | assumption) :
    SS X E W (.AugAssign (.Name x pos') .Sub e pos) (sAsg i (e2 gSub (eVar i) f)) := ss_aug hN hi hx hb ip_sub says_ipI h hf

/-! ### targets -/
def tG (E : En) (g : D → Env → Option Env) : TG := fun v σ H Q => ∃ F ρ d, Stt E F H σ ρ ∧ d.pure = true ∧ Rp E.k F H d v [] ∧ ∃ ρ', g d ρ = some ρ' ∧ ∀ σ', Stt E F H σ' ρ' → Q σ' H
def tGs (E : En) (g : List D → Env → Option Env) : TGs := fun vs σ H Q => ∃ F ρ ds, Stt E F H σ ρ ∧ D.pureL ds = true ∧ RpL E.k F H ds vs [] ∧ ∃ ρ', g ds ρ = some ρ' ∧ ∀ σ', Stt E F H σ' ρ' → Q σ' H
structure EG (X : Cx) (E : En) (e : Expr) (g : D → Env → Option Env) : Prop where
  pg : PG X e (tG E g)
structure EGs (X : Cx) (E : En) (es : List Expr) (g : List D → Env → Option Env) : Prop where
  pg : PGs X es (tGs E g)
theorem pg_mono {e : Expr} {t t' : TG} (h : PG X e t) (i : ∀ v σ H Q, t' v σ H Q → t v σ H Q) : PG X e t' := ⟨fun pins s σ H v u Q I r q => h.run pins s σ H v u Q I r (i v σ H Q q)⟩
theorem pgs_mono {e : List Expr} {t t' : TGs} (h : PGs X e t) (i : ∀ v σ H Q, t' v σ H Q → t v σ H Q) : PGs X e t' := ⟨fun pins s σ H v u Q I r q => h.run pins s σ H v u Q I r (i v σ H Q q)⟩
def gNm (i : Nat) : D → Env → Option Env := fun d ρ => some (ρ.set i (some d))
@[simp] theorem gNm_eq (i : Nat) (d : D) (ρ : Env) : gNm i d ρ = some (ρ.set i (some d)) := rfl
theorem eg_name {i : Nat} {x : Str} {pos : Pos} (hN : X.N.Nodup) (hi : X.N[i]? = some x) (hx : Loc X.env.scope x) (hb : i ∉ E.bs) (hf : X.fn x = true ∨ X.env.scope.names.lookup x = some .local := by first | exact .inl rfl | exact .inr rfl | assumption) : EG X E (.Name x pos) (gNm i) := by
  refine ⟨pg_mono (pg_name hN hi hx hf) fun v σ H Q h => ?_⟩
  obtain ⟨F, ρ, d, s, p, r, ρ', e, q⟩ := h
  cases e
  exact q _ (s.set (Tr.refl s.fh) r .nil (fun _ z => nomatch z) hb)
def gsNil : List D → Env → Option Env
  | [], ρ => some ρ
  | _, _ => none
def gsCons (g : D → Env → Option Env) (gs : List D → Env → Option Env) : List D → Env → Option Env
  | d :: ds, ρ => (g d ρ).bind fun ρ' => gs ds ρ'
  | [], _ => none
@[simp] theorem gsNil_nil (ρ : Env) : gsNil [] ρ = some ρ := rfl
@[simp] theorem gsCons_cons (g : D → Env → Option Env) (gs : List D → Env → Option Env) (d : D) (ds : List D) (ρ : Env) : gsCons g gs (d :: ds) ρ = (g d ρ).bind fun ρ' => gs ds ρ' := rfl
@[simp] theorem gsCons_nil (g : D → Env → Option Env) (gs : List D → Env → Option Env) (ρ : Env) : gsCons g gs [] ρ = none := rfl
theorem egs_nil : EGs X E [] gsNil := by
  refine ⟨pgs_mono pgs_nil fun vs σ H Q h => ?_⟩
  obtain ⟨F, ρ, ds, s, p, r, ρ', e, q⟩ := h
  cases ds with
  | nil => cases e; exact ⟨r.1, q σ s⟩
  | cons d ds => cases e
theorem egs_cons {e : Expr} {es : List Expr} {g : D → Env → Option Env} {gs : List D → Env → Option Env} (h1 : EG X E e g) (h2 : EGs X E es gs)
    (hs : (assignEach (e :: es) X.env).map (·.2) = assign e X.env :: (assignEach es X.env).map (·.2) := by rfl) : EGs X E (e :: es) (gsCons g gs) := by
  refine ⟨pgs_mono (pgs_cons h1.pg h2.pg hs) fun vs σ H Q h => ?_⟩
  obtain ⟨F, ρ, ds, s, p, r, ρ', e, q⟩ := h
  cases ds with
  | nil => cases e
  | cons d ds =>
    obtain ⟨v, ws, B, C, e1, e2, r1, r2⟩ := r
    obtain ⟨rfl, rfl⟩ := List.append_eq_nil_iff.mp e2.symm
    have p' : d.pure = true ∧ D.pureL ds = true := by simpa [D.pureL] using p
    rw [gsCons_cons] at e
    cases eg : g d ρ with
    | none => rw [eg] at e; cases e
    | some ρ1 =>
      rw [eg] at e
      exact ⟨v, ws, e1, F, ρ, d, s, p'.1, r1, ρ1, eg, fun σ' s' => ⟨F, ρ1, ds, s', p'.2, r2, ρ', e, q⟩⟩
def gTp (gs : List D → Env → Option Env) : D → Env → Option Env
  | .tup ds, ρ => gs ds ρ
  | _, _ => none
@[simp] theorem gTp_tup (gs : List D → Env → Option Env) (ds : List D) (ρ : Env) : gTp gs (.tup ds) ρ = gs ds ρ := rfl
theorem gs_len {X : Cx} : ∀ {es : List Expr} {gs : List D → Env → Option Env}, True → True := fun _ => trivial
theorem eg_tup {es : List Expr} {k : Nat} {gs : List D → Env → Option Env} {pos : Pos} (hK : E.k.K = X.K) (hc : X.calm = true) (h : EGs X E es gs) (n : Nat) (hlen : ∀ ds ρ ρ', gs ds ρ = some ρ' → ds.length = n)
    (hn : (assignEach es X.env).length = n := by rfl) (hst : (assignEach es X.env).findIdx? (·.1) = none := by rfl) : EG X E (.Tuple es k pos) (gTp gs) := by
  refine ⟨pg_mono (pg_tup hc h.pg hn hst) fun v σ H Q h => ?_⟩
  obtain ⟨F, ρ, d, s, p, r, ρ', e, q⟩ := h
  cases d with
  | tup ds =>
    obtain ⟨a, vs, rfl, s1, r⟩ := r
    exact ⟨a, vs, rfl, by rw [← hK]; exact ex_t s.fh s1, by rw [← r.len]; exact hlen ds ρ ρ' e, F, ρ, ds, s, p, r, ρ', e, q⟩
  | _ => cases e
theorem gsNil_len (ds : List D) (ρ ρ' : Env) (h : gsNil ds ρ = some ρ') : ds.length = 0 := by
  cases ds with
  | nil => rfl
  | cons d ds => cases h
theorem gsCons_len {g : D → Env → Option Env} {gs : List D → Env → Option Env} {n : Nat} (hg : ∀ ds ρ ρ', gs ds ρ = some ρ' → ds.length = n) (ds : List D) (ρ ρ' : Env) (h : gsCons g gs ds ρ = some ρ') : ds.length = n + 1 := by
  cases ds with
  | nil => cases h
  | cons d ds =>
    rw [gsCons_cons] at h
    cases eg : g d ρ with
    | none => rw [eg] at h; cases h
    | some ρ1 =>
      rw [eg] at h
      rw [List.length_cons, hg ds ρ1 ρ' h]
/-- a, b = e -/
def sUn (g : D → Env → Option Env) (f : Env → R D) : Env → SR := fun ρ => (f ρ).st ρ fun d => if d.pure = true then (match g d ρ with
  | some ρ' => .nx ρ'
  | none => .no) else .no
@[simp] theorem sUn_eq (g : D → Env → Option Env) (f : Env → R D) (ρ : Env) : sUn g f ρ = (f ρ).st ρ fun d => if d.pure = true then (match g d ρ with
  | some ρ' => .nx ρ'
  | none => .no) else .no := rfl
theorem ss_un {tg e : Expr} {f : Env → R D} {g : D → Env → Option Env} {pos : Pos} (h : EV X E W e f) (hg : EG X E tg g) (hs : swapsWithSole [tg] e pos.line X.env = pure false := by rfl) (hw : swappedStores [tg] e X.env = pure none := by rfl)
    (h1 : (assignEach [tg] X.env).map (·.2) = [assign tg X.env] := by rfl) : SS X E W (.Assign [tg] e pos) (sUn g f) := by
  refine ⟨ps_mono (ps_asg h.pe hg.pg hs hw h1) fun Z σ H h => ?_⟩
  obtain ⟨F, ρ, s, q⟩ := h
  refine ⟨F, ρ, s, Res.mono q.st (fun d _ q F1 H1 v A t1 r1 => ?_) fun c _ z => SRes.exc s z⟩
  by_cases c : d.pure = true
  · rw [if_pos c] at q
    cases eg : g d ρ with
    | none => rw [eg] at q; exact q.elim
    | some ρ' =>
      rw [eg] at q
      exact ⟨F1, ρ, d, s.tr t1, c, Rp.pure c (.refl _) r1, ρ', eg, fun σ' s' => q F1 H1 σ' t1.ff s'⟩
  · rw [if_neg c] at q
    exact q.elim
/-- a, b = x, y -/
def sPar (i j : Nat) (fs : Env → R (List D)) : Env → SR := fun ρ => (fs ρ).st ρ fun ds => match ds with
  | [x, y] => if x.pure = true ∧ y.pure = true then .nx ((ρ.set i (some x)).set j (some y)) else .no
  | _ => .no
@[simp] theorem sPar_eq (i j : Nat) (fs : Env → R (List D)) (ρ : Env) : sPar i j fs ρ = (fs ρ).st ρ fun ds => match ds with
  | [x, y] => if x.pure = true ∧ y.pure = true then .nx ((ρ.set i (some x)).set j (some y)) else .no
  | _ => .no := rfl
theorem ss_par {i j : Nat} {x y : Str} {a b : Expr} {fs : Env → R (List D)} {px py pt pos : Pos} {kt k2 : Nat} {pt2 : Pos} (hc : X.calm = true) (hN : X.N.Nodup) (hi : X.N[i]? = some x) (hj : X.N[j]? = some y) (hij : i ≠ j)
    (hx : X.env.scope.names.lookup x = some .local) (hy : X.env.scope.names.lookup y = some .local) (hbi : i ∉ E.bs) (hbj : j ∉ E.bs) (ha : EA X E W [a, b] fs)
    (hw : swappedStores [.Tuple [.Name x px, .Name y py] kt pt] (.Tuple [a, b] k2 pt2) X.env = pure (some [x, y]))
    (hs : swapsWithSole [.Tuple [.Name x px, .Name y py] kt pt] (.Tuple [a, b] k2 pt2) pos.line X.env = pure false := by rfl) :
    SS X E W (.Assign [.Tuple [.Name x px, .Name y py] kt pt] (.Tuple [a, b] k2 pt2) pos) (sPar i j fs) := by
  refine ⟨ps_mono (ps_par hc hN hi hj hij hx hy ha.pa hw hs) fun Z σ H h => ?_⟩
  obtain ⟨F, ρ, s, q⟩ := h
  refine ⟨F, ρ, s, Res.mono q.st (fun ds he q F1 H1 vs t1 r1 => ?_) fun c _ z => SRes.exc s z⟩
  clear he
  split at q
  · rename_i x y
    by_cases c : x.pure = true ∧ y.pure = true
    · rw [if_pos c] at q
      obtain ⟨v, w, A, B, rfl, rx, ry⟩ := Vw.two r1
      refine ⟨v, w, rfl, q F1 H1 _ t1.ff ?_⟩
      have s1 := s.set t1 (Rp.pure c.1 (.refl _) rx) .nil (fun _ z => nomatch z) hbi
      exact s1.set (Tr.refl t1.fh) (Rp.pure c.2 (.refl _) ry) .nil (fun _ z => nomatch z) hbj
    · rw [if_neg c] at q
      exact q.elim
  · exact q.elim

/-! ### return, if, an expression alone -/
def sRet (f : Env → R D) : Env → SR := fun ρ => (f ρ).st ρ fun d => .rt d ρ
@[simp] theorem sRet_eq (f : Env → R D) (ρ : Env) : sRet f ρ = (f ρ).st ρ fun d => .rt d ρ := rfl
theorem Stt.fin {F H F' H' : Hp} {σ : L2.St} {ρ : Env} {d : D} {v : V} {A : List Addr} (s : Stt E F H σ ρ) (t : Tr F H F' H') (r : Rp E.k F' H' d v A) (nd : A.Nodup) (u : ∀ a ∈ A, H a = none) : Fin E F' H' d v := by
  have s' := s.tr t
  exact ⟨s'.e0, s'.fh, s'.fr, s'.st, s'.bt, A, r, nd, fun a ha => s.new (u a ha)⟩
theorem ss_ret {e : Expr} {f : Env → R D} {pos : Pos} (h : EO X E W e f) : SS X E W (.Return (some e) pos) (sRet f) := by
  refine ⟨ps_mono (ps_ret h.pe) fun Z σ H h => ?_⟩
  obtain ⟨F, ρ, s, q⟩ := h
  refine ⟨F, ρ, s, Res.mono q.st (fun d _ q F1 H1 v A t1 r1 nd u => ?_) fun c _ z => SRes.exc s z⟩
  exact q F1 H1 σ v (s.tr t1) (s.fin t1 r1 nd u) (.inr (s.push t1 r1 nd u))
/-- return of a name, with what it owns -/
theorem ss_retV {i : Nat} {e : Expr} {pos : Pos} (hb : i ∉ E.bs) (h : PE X e (tVar i)) (hE : E.bs = [] := by rfl) : SS X E W (.Return (some e) pos) (sRet (eVar i)) := by
  refine ⟨ps_mono (ps_ret h) fun Z σ H h => ?_⟩
  obtain ⟨F, ρ, s, q⟩ := h
  obtain ⟨d, e, q⟩ := Res.opt q.st
  obtain ⟨fp, sl⟩ := s.sl
  obtain ⟨v, ev, r⟩ := sl.rp i d (some_some e)
  refine ⟨v, ev, q F H σ v s ⟨s.e0, s.fh, s.fr, s.st, s.bt, fp i, r, sl.nd i, fun a ha => (sl.nw i a ha).elim (fun z => z) fun z => absurd z.2 hb⟩ (.inl hE)⟩
def sRetN : Env → SR := fun ρ => .rt .non ρ
@[simp] theorem sRetN_eq (ρ : Env) : sRetN ρ = .rt .non ρ := rfl
theorem ss_retN {pos : Pos} : SS X E W (.Return none pos) sRetN := by
  refine ⟨ps_mono ps_retN fun Z σ H h => ?_⟩
  obtain ⟨F, ρ, s, q⟩ := h
  exact q F H σ .non s (s.fin (Tr.refl s.fh) ⟨rfl, rfl⟩ .nil fun _ z => nomatch z) (.inr (s.push (Tr.refl s.fh) ⟨rfl, rfl⟩ .nil fun _ z => nomatch z))
def sIf (t : Env → R Bool) (f g : Env → SR) : Env → SR := fun ρ => (t ρ).st ρ fun b => if b = true then f ρ else g ρ
@[simp] theorem sIf_eq (t : Env → R Bool) (f g : Env → SR) (ρ : Env) : sIf t f g ρ = (t ρ).st ρ fun b => if b = true then f ρ else g ρ := rfl
theorem SRes.at {F F' : Hp} {Z : Ends} {r : SR} (h : SRes E W F Z r) (x : Ex F F') : SRes E W F' Z r := SRes.mono h x (fun _ _ z => z) (fun _ _ z => z) (fun _ _ z => z) fun _ _ z => z
theorem ss_if {c : Expr} {a b : List Stmt} {t : Env → R Bool} {f g : Env → SR} {pos : Pos} (hc : ET X E W c t) (ha : SB X E W a f) (hb : SB X E W b g) : SS X E W (.If c a b pos) (sIf t f g) := by
  refine ⟨ps_mono (ps_if hc.pt ha.ps hb.ps) fun Z σ H h => ?_⟩
  obtain ⟨F, ρ, s, q⟩ := h
  refine ⟨F, ρ, s, Res.mono q.st (fun b _ q F1 H1 t1 => ?_) fun c _ z => SRes.exc s z⟩
  cases b with
  | true => exact ⟨F1, ρ, s.tr t1, SRes.at q t1.ff⟩
  | false => exact ⟨F1, ρ, s.tr t1, SRes.at q t1.ff⟩
def sDrop (f : Env → R D) : Env → SR := fun ρ => (f ρ).st ρ fun _ => .nx ρ
@[simp] theorem sDrop_eq (f : Env → R D) (ρ : Env) : sDrop f ρ = (f ρ).st ρ fun _ => .nx ρ := rfl
theorem ss_drop {e : Expr} {f : Env → R D} {pos : Pos} (h : EV X E W e f) (hs : swapsWith e none pos.line X.env = pure false := by rfl) : SS X E W (.Expr e pos) (sDrop f) := by
  refine ⟨ps_mono (ps_expr h.pe hs) fun Z σ H h => ?_⟩
  obtain ⟨F, ρ, s, q⟩ := h
  exact ⟨F, ρ, s, Res.mono q.st (fun d _ q F1 H1 v A t1 r1 => q F1 H1 σ t1.ff (s.tr t1)) fun c _ z => SRes.exc s z⟩
/-- a name's list is frozen ahead of a statement (nothing in the program) -/
def sFz (i : Nat) (f : Env → SR) : Env → SR := fun ρ => f (frzAt i ρ)
@[simp] theorem sFz_eq (i : Nat) (f : Env → SR) (ρ : Env) : sFz i f ρ = f (frzAt i ρ) := rfl
theorem ss_fz {st : Stmt} {f : Env → SR} (i : Nat) (hb : i ∉ E.bs) (h : SS X E W st f) : SS X E W st (sFz i f) := by
  refine ⟨ps_mono h.ps fun Z σ H h => ?_⟩
  obtain ⟨F, ρ, s, q⟩ := h
  obtain ⟨F', x, s'⟩ := s.frz i hb
  exact ⟨F', _, s', SRes.at q x⟩
end
end Dv
end
section
set_option maxRecDepth 100000
set_option maxHeartbeats 1000000
namespace Dv
open PySem PySem.Spec PyProof.Rows L2

/-! ### what a for walks -/
/-- J yields the data ds, whatever is added to F -/
structure Wk (k : Kx) (J : It) (F : Hp) (ds : List D) : Prop where
  go : ∀ i, i < ds.length → ∀ F' H, Ex F F' → Ex F' H → J.go i H
  stop : ∀ F' H, Ex F F' → Ex F' H → J.stop ds.length H
  yld : ∀ i d, ds[i]? = some d → ∀ F' H x H', Ex F F' → Ex F' H → J.yld i H x H' → d.pure = true ∧ ∃ F'', Tr F' H F'' H' ∧ Rp k F'' H' d x []
def tI (E : En) (W : WX) (f : Env → R (List D)) : TI := fun σ H P => ∃ F ρ, Stt E F H σ ρ ∧
  Res (f ρ) (fun ds => ∀ F' H' J, Tr F H F' H' → Wk E.k J F' ds → P J H') (fun c => ∀ F' H', Tr F H F' H' → W (E.ec c) none σ H')
structure EI (X : Cx) (E : En) (W : WX) (tg e : Expr) (f : Env → R (List D)) : Prop where
  pi : PI X tg e (tI E W f)
theorem pi_mono {X : Cx} {tg e : Expr} {t t' : TI} (h : PI X tg e t) (i : ∀ σ H Q, t' σ H Q → t σ H Q) : PI X tg e t' := ⟨fun pins s σ H Q I q => h.run pins s σ H Q I (i σ H Q q)⟩
theorem pureL_get {ds : List D} {i : Nat} {d : D} (p : D.pureL ds = true) (e : ds[i]? = some d) : d.pure = true := by
  induction ds generalizing i with
  | nil => simp at e
  | cons x xs ih =>
    have p' : x.pure = true ∧ D.pureL xs = true := by simpa [D.pureL] using p
    cases i with
    | zero => have e' : x = d := by simpa using e
              rw [← e']; exact p'.1
    | succ i => exact ih p'.2 (by simpa using e)
section
variable {X : Cx} {E : En} {W : WX}
theorem RpL.get0 {k : Kx} {F H : Hp} {ds : List D} {vs : List V} {i : Nat} {d : D} (h : RpL k F H ds vs []) (e : ds[i]? = some d) : ∃ v, vs[i]? = some v ∧ Rp k F H d v [] := by
  obtain ⟨v, B, h1, h2, h3⟩ := RpL.get h e
  have : B = [] := List.eq_nil_iff_forall_not_mem.mpr fun a ha => nomatch h3 a ha
  subst this
  exact ⟨v, h1, h2⟩
theorem wk_list {k : Kx} {F H : Hp} {a : Addr} {vs : List V} {ds : List D} (s : SqL k.K F a vs) (p : D.pureL ds = true) (r : RpL k F H ds vs []) : Wk k (Itl k.K a) F ds where
  go := fun i hi F' H' x y => ⟨vs, vs[i]'(by rw [← r.len]; exact hi), ex_l (x.trans y) s, List.getElem?_eq_getElem _⟩
  stop := fun F' H' x y => ⟨vs, ex_l (x.trans y) s, by rw [r.len]; exact Nat.le_refl _⟩
  yld := fun i d e F' H' v H'' x y h => by
    obtain ⟨rfl, h⟩ := h
    obtain ⟨w, e1, r1⟩ := r.get0 e
    have e2 := h vs (ex_l (x.trans y) s)
    rw [e1] at e2
    cases e2
    have pd := pureL_get p e
    exact ⟨pd, F', Tr.refl y, Rp.pure pd x r1⟩
theorem wk_tup {k : Kx} {F H : Hp} {a : Addr} {vs : List V} {ds : List D} (s : SqT k.K F a vs) (p : D.pureL ds = true) (r : RpL k F H ds vs []) : Wk k (Itt k.K a) F ds where
  go := fun i hi F' H' x y => ⟨vs, vs[i]'(by rw [← r.len]; exact hi), ex_t (x.trans y) s, List.getElem?_eq_getElem _⟩
  stop := fun F' H' x y => ⟨vs, ex_t (x.trans y) s, by rw [r.len]; exact Nat.le_refl _⟩
  yld := fun i d e F' H' v H'' x y h => by
    obtain ⟨rfl, h⟩ := h
    obtain ⟨w, e1, r1⟩ := r.get0 e
    have e2 := h vs (ex_t (x.trans y) s)
    rw [e1] at e2
    cases e2
    have pd := pureL_get p e
    exact ⟨pd, F', Tr.refl y, Rp.pure pd x r1⟩
theorem wk_str {k : Kx} {F : Hp} {x : Str} : Wk k (Its x) F (x.cps.toList.map fun c => .str ⟨#[c]⟩) where
  go := fun i hi F' H' _ _ => by
    rw [List.length_map] at hi
    exact hi
  stop := fun F' H' _ _ => by
    rw [List.length_map]
    exact Nat.le_refl _
  yld := fun i d e F' H' v H'' _ y h => by
    obtain ⟨rfl, c, e1, rfl⟩ := h
    rw [List.getElem?_map, Array.getElem?_toList, e1] at e
    cases e
    exact ⟨rfl, F', Tr.refl y, rfl, rfl⟩
/-- a list or a tuple is walked -/
def iSeq (K : PySem.W.Frag) (tl : TE) : TI := fun σ H P => tl σ H fun x H1 => (∃ a xs, x = .ref a ∧ SqL K H1 a xs ∧ P (Itl K a) H1) ∨ ∃ a xs, x = .ref a ∧ SqT K H1 a xs ∧ P (Itt K a) H1
theorem pi_seq {tg l : Expr} {tl : TE} (hl : PE X l tl) : PI X tg l (iSeq X.K tl) := by
  refine ⟨fun pins s σ H P I h => thn (hl.run pins s σ H _ I h) ?_⟩
  rintro v s1 ⟨x, H1, I1, r1, ⟨a, xs, rfl, hq, q⟩ | ⟨a, xs, rfl, hq, q⟩⟩
  · cases r1
    obtain ⟨its, _, pl, _⟩ := I1.list hq
    exact wpAny_pyIter_list pl.isList (pi_one I1 _ (turn_list a _) ⟨_, Heap.get?_push_size _ rfl, rfl, rfl⟩ q)
  · cases r1
    obtain ⟨its, _, pl, _⟩ := I1.tuple hq
    exact wpAny_pyIter_tuple (show s1.heap.IsTuple a its.toArray from pl) (pi_one I1 _ (turn_tuple a _) ⟨_, Heap.get?_push_size _ rfl, rfl, rfl⟩ q)
def walkD : D → Option (List D)
  | .lst false xs => if D.pureL xs = true then some xs else none
  | .tup xs => if D.pureL xs = true then some xs else none
  | .scr xs => if D.pureL xs = true then some xs else none
  | _ => none
@[simp] theorem walkD_lst (xs : List D) : walkD (.lst false xs) = if D.pureL xs = true then some xs else none := rfl
@[simp] theorem walkD_tup (xs : List D) : walkD (.tup xs) = if D.pureL xs = true then some xs else none := rfl
theorem walk_seq {F H F1 H1 : Hp} {d : D} {v : V} {A : List Addr} {ds : List D} {P : It → Hp → Prop} (t1 : Tr F H F1 H1) (r1 : Rp E.k F1 H1 d v A) (e : walkD d = some ds) (p : ∀ F' H' J, Tr F H F' H' → Wk E.k J F' ds → P J H') :
    (∃ a xs, v = .ref a ∧ SqL E.k.K H1 a xs ∧ P (Itl E.k.K a) H1) ∨ ∃ a xs, v = .ref a ∧ SqT E.k.K H1 a xs ∧ P (Itt E.k.K a) H1 := by
  cases d with
  | lst o xs =>
    cases o with
    | false =>
      obtain ⟨z, e⟩ := if_some (show (if D.pureL xs = true then some xs else none) = some ds from e)
      subst e
      obtain ⟨a, vs, B, rfl, r, h1, h2⟩ := r1
      have sF : SqL E.k.K F1 a vs := .inl (.inl (h1 rfl).1)
      exact .inl ⟨a, vs, rfl, ex_l t1.fh sF, p F1 H1 _ t1 (wk_list sF z (RpL.pure (H' := H1) z (.refl _) r))⟩
    | true => cases e
  | tup xs =>
    obtain ⟨z, e⟩ := if_some (show (if D.pureL xs = true then some xs else none) = some ds from e)
    subst e
    obtain ⟨a, vs, rfl, s, r⟩ := r1
    exact .inr ⟨a, vs, rfl, ex_t t1.fh s, p F1 H1 _ t1 (wk_tup s z (RpL.pure (H' := H1) z (.refl _) r))⟩
  | scr xs =>
    obtain ⟨z, e⟩ := if_some (show (if D.pureL xs = true then some xs else none) = some ds from e)
    subst e
    obtain ⟨a, vs, rfl, _, s, r⟩ := r1
    exact .inl ⟨a, vs, rfl, ex_l t1.fh s, p F1 H1 _ t1 (wk_list s z (RpL.pure (H' := H1) z (.refl _) r))⟩
  | _ => cases e
/-- looked at: a frozen list, a tuple -/
def iV (f : Env → R D) : Env → R (List D) := fun ρ => (f ρ).bind fun d => R.opt (walkD d)
/-- an own list: frozen for the walk -/
def iO (f : Env → R D) : Env → R (List D) := fun ρ => (f ρ).bind fun d => if d.cold = true then R.opt (walkD d.frz) else .no
@[simp] theorem iV_eq (f : Env → R D) (ρ : Env) : iV f ρ = (f ρ).bind fun d => R.opt (walkD d) := rfl
@[simp] theorem iO_eq (f : Env → R D) (ρ : Env) : iO f ρ = (f ρ).bind fun d => if d.cold = true then R.opt (walkD d.frz) else .no := rfl
theorem ei_v {tg e : Expr} {f : Env → R D} (hK : E.k.K = X.K) (h : EV X E W e f) : EI X E W tg e (iV f) := by
  refine ⟨pi_mono (pi_seq h.pe) fun σ H P q => ?_⟩
  obtain ⟨F, ρ, s, q⟩ := q
  refine ⟨F, ρ, s, Res.mono q.bind (fun d _ q F1 H1 v A t1 r1 => ?_) fun c _ z F' H' t => z F' H' t⟩
  obtain ⟨ds, e, p⟩ := Res.opt q
  rw [← hK]
  exact walk_seq t1 r1 e p
theorem ei_o {tg e : Expr} {f : Env → R D} (hK : E.k.K = X.K) (h : EO X E W e f) : EI X E W tg e (iO f) := by
  refine ⟨pi_mono (pi_seq h.pe) fun σ H P q => ?_⟩
  obtain ⟨F, ρ, s, q⟩ := q
  refine ⟨F, ρ, s, Res.mono q.bind (fun d _ q F1 H1 v A t1 r1 nd u => ?_) fun c _ z F' H' t => z F' H' t⟩
  by_cases c : d.cold = true
  · rw [if_pos c] at q
    obtain ⟨ds, e, p⟩ := Res.opt q
    rw [← hK]
    have n := fun a ha => (Rp.dom d v A r1 a ha).1
    exact walk_seq (tr_fz t1 n u) (Rp.frz (H' := H1) n d v A c (fun _ z => z) r1) e p
  · rw [if_neg c] at q
    exact q.elim
/-- the signs of a text -/
def strD : D → Option (List D)
  | .str x => some (x.cps.toList.map fun c => .str ⟨#[c]⟩)
  | _ => none
@[simp] theorem strD_str (x : Str) : strD (.str x) = some (x.cps.toList.map fun c => .str ⟨#[c]⟩) := rfl
def iS (f : Env → R D) : Env → R (List D) := fun ρ => (f ρ).bind fun d => R.opt (strD d)
@[simp] theorem iS_eq (f : Env → R D) (ρ : Env) : iS f ρ = (f ρ).bind fun d => R.opt (strD d) := rfl
theorem ei_s {tg e : Expr} {f : Env → R D} (h : EV X E W e f) : EI X E W tg e (iS f) := by
  refine ⟨pi_mono (pi_str h.pe) fun σ H P q => ?_⟩
  obtain ⟨F, ρ, s, q⟩ := q
  refine ⟨F, ρ, s, Res.mono q.bind (fun d _ q F1 H1 v A t1 r1 => ?_) fun c _ z F' H' t => z F' H' t⟩
  obtain ⟨ds, e, p⟩ := Res.opt q
  cases d with
  | str x => cases e; exact ⟨x, r1.1, p F1 H1 _ t1 wk_str⟩
  | _ => cases e
/-! range -/
def rngL (lo : Int) (n : Nat) : List D := (List.range n).map fun i : Nat => .int (lo + (i : Int))
theorem rngL_len (lo : Int) (n : Nat) : (rngL lo n).length = n := by simp [rngL]
theorem wk_rng {k : Kx} {F : Hp} {lo : Int} {n : Nat} : Wk k (Itr lo n) F (rngL lo n) where
  go := fun i hi F' H' _ _ => by
    rw [rngL_len] at hi
    exact hi
  stop := fun F' H' _ _ => by
    rw [rngL_len]
    exact Nat.le_refl _
  yld := fun i d e F' H' v H'' _ y h => by
    obtain ⟨rfl, rfl⟩ := h
    have hi : i < n := by
      have := (List.getElem?_eq_some_iff.mp e).1
      rw [rngL_len] at this
      exact this
    have e' : d = .int (lo + (i : Int)) := by
      unfold rngL at e
      rw [List.getElem?_map, List.getElem?_range hi] at e
      exact (Option.some.inj e).symm
    subst e'
    exact ⟨rfl, F', Tr.refl y, rfl, rfl⟩
noncomputable def rng1 : List D → Option (List D)
  | [.int j] => if W62 j then some (rngL 0 j.toNat) else none
  | _ => none
noncomputable def rng2 : List D → Option (List D)
  | [.int i, .int j] => if W62 i ∧ W62 j then some (rngL i (j - i).toNat) else none
  | _ => none
@[simp] theorem rng1_int (j : Int) : rng1 [.int j] = if W62 j then some (rngL 0 j.toNat) else none := rfl
@[simp] theorem rng2_int (i j : Int) : rng2 [.int i, .int j] = if W62 i ∧ W62 j then some (rngL i (j - i).toNat) else none := rfl
def iA (g : List D → Option (List D)) (fs : Env → R (List D)) : Env → R (List D) := fun ρ => (fs ρ).bind fun ds => R.opt (g ds)
@[simp] theorem iA_eq (g : List D → Option (List D)) (fs : Env → R (List D)) (ρ : Env) : iA g fs ρ = (fs ρ).bind fun ds => R.opt (g ds) := rfl
theorem ei_rng1 {tg a : Expr} {fs : Env → R (List D)} {p pos : Pos} (hg : Gl X "range") (hm : X.mg "range" = none) (ha : EA X E W [a] fs) (hs : starEach [a] X.env = [(false, eval a X.env)] := by rfl) : EI X E W tg (.Call (.Name "range" p) [a] [] pos) (iA rng1 fs) := by
  refine ⟨pi_mono (pi_range1 hg hm ha.pa hs) fun σ H P q => ?_⟩
  obtain ⟨F, ρ, s, q⟩ := q
  refine ⟨F, ρ, s, Res.mono q.bind (fun ds he q F1 H1 vs t1 r1 => ?_) fun c _ z F' H' t => z F' H' t⟩
  obtain ⟨es, e, p⟩ := Res.opt q
  clear he
  unfold rng1 at e
  split at e
  · obtain ⟨z, e⟩ := if_some e
    cases e
    obtain ⟨v, A, rfl, r⟩ := Vw.one r1
    rw [r.1]
    exact ⟨_, rfl, by have := z.1; omega, by have := z.2; omega, p F1 H1 _ t1 wk_rng⟩
  · cases e
theorem ei_rng2 {tg a b : Expr} {fs : Env → R (List D)} {p pos : Pos} (hg : Gl X "range") (hm : X.mg "range" = none) (ha : EA X E W [a, b] fs) (hs : starEach [a, b] X.env = [(false, eval a X.env), (false, eval b X.env)] := by rfl) (hs2 : starEach [b] X.env = [(false, eval b X.env)] := by rfl) : EI X E W tg (.Call (.Name "range" p) [a, b] [] pos) (iA rng2 fs) := by
  refine ⟨pi_mono (pi_range2 hg hm ha.pa hs hs2) fun σ H P q => ?_⟩
  obtain ⟨F, ρ, s, q⟩ := q
  refine ⟨F, ρ, s, Res.mono q.bind (fun ds he q F1 H1 vs t1 r1 => ?_) fun c _ z F' H' t => z F' H' t⟩
  obtain ⟨es, e, p⟩ := Res.opt q
  clear he
  unfold rng2 at e
  split at e
  · obtain ⟨z, e⟩ := if_some e
    cases e
    obtain ⟨v, w, A, B, rfl, r, r2⟩ := Vw.two r1
    rw [r.1, r2.1]
    obtain ⟨⟨z1, z2⟩, z3, z4⟩ := z
    exact ⟨_, _, rfl, ⟨by omega, by omega, by omega, by omega⟩, p F1 H1 _ t1 wk_rng⟩
  · cases e

/-! ### for -/
def forL (g : D → Env → Option Env) (b : Env → SR) : List D → Env → SR
  | [], ρ => .nx ρ
  | d :: ds, ρ => match g d ρ with
    | none => .no
    | some ρ1 => match b ρ1 with
      | .nx ρ2 => forL g b ds ρ2
      | .ct ρ2 => forL g b ds ρ2
      | .bk ρ2 => .nx ρ2
      | r => r
def sFor (it : Env → R (List D)) (g : D → Env → Option Env) (b : Env → SR) : Env → SR := fun ρ => (it ρ).st ρ fun ds => forL g b ds ρ
@[simp] theorem sFor_eq (it : Env → R (List D)) (g : D → Env → Option Env) (b : Env → SR) (ρ : Env) : sFor it g b ρ = (it ρ).st ρ fun ds => forL g b ds ρ := rfl
@[simp] theorem forL_nil (g : D → Env → Option Env) (b : Env → SR) (ρ : Env) : forL g b [] ρ = .nx ρ := rfl
theorem forL_cons (g : D → Env → Option Env) (b : Env → SR) (d : D) (ds : List D) (ρ : Env) : forL g b (d :: ds) ρ = match g d ρ with
    | none => .no
    | some ρ1 => match b ρ1 with
      | .nx ρ2 => forL g b ds ρ2
      | .ct ρ2 => forL g b ds ρ2
      | .bk ρ2 => .nx ρ2
      | r => r := rfl
theorem ss_for {tg iter : Expr} {body : List Stmt} {it : Env → R (List D)} {g : D → Env → Option Env} {b : Env → SR} {pos : Pos} (hp : PassesOwn (model X.prog X.w) X.A X.env X.xe) (hc : X.calm = true) (hi : EI X E W tg iter it) (hg : EG X E tg g) (hb : SB X E W body b)
    (hs : ∀ x, foldedSetIterable iter X.env x = pure x := by intro _; rfl) : SS X E W (.For tg iter body [] pos) (sFor it g b) := by
  refine ⟨ps_mono (ps_for hp hc hi.pi hg.pg hb.ps hs) fun Z σ H h => ?_⟩
  obtain ⟨F, ρ, s, q⟩ := h
  refine ⟨F, ρ, s, Res.mono q.st (fun ds _ q F1 H1 J t1 wk => ?_) fun c _ z => SRes.exc s z⟩
  refine ⟨fun i m σ' H' => ∃ F' ρ', Ex F1 F' ∧ Stt E F' H' σ' ρ' ∧ i ≤ ds.length ∧ m = ds.length - i ∧ SRes E W F' Z (forL g b (ds.drop i) ρ'), ⟨_, F1, ρ, .refl _, s.tr t1, Nat.zero_le _, rfl, SRes.at q t1.ff⟩, ?_⟩
  rintro i m σ' H' ⟨F', ρ', x, s', hi, rfl, q'⟩
  by_cases hlt : i < ds.length
  · have ed : ds.drop i = ds[i] :: ds.drop (i + 1) := List.drop_eq_getElem_cons hlt
    rw [ed, forL_cons] at q'
    refine .inr ⟨wk.go i hlt F' H' x s'.fh, fun σ2 H2 => ∃ F2 ρ2, Ex F1 F2 ∧ Stt E F2 H2 σ2 ρ2 ∧ SRes E W F2 Z (forL g b (ds.drop (i + 1)) ρ2), ?_, fun v H2 y => ?_⟩
    · rintro σ2 H2 ⟨F2, ρ2, x2, s2, q2⟩
      exact ⟨_, by omega, F2, ρ2, x2, s2, hlt, rfl, q2⟩
    · obtain ⟨pd, F2, t2, r2⟩ := wk.yld i ds[i] (List.getElem?_eq_getElem hlt) F' H' v H2 x s'.fh y
      cases eg : g ds[i] ρ' with
      | none => rw [eg] at q'; exact q'.elim
      | some ρ1 =>
        rw [eg] at q'
        refine ⟨F2, ρ', ds[i], s'.tr t2, pd, r2, ρ1, eg, fun σ3 s3 => ⟨F2, ρ1, s3, ?_⟩⟩
        have x12 := x.trans t2.ff
        have q' : SRes E W F' Z (match b ρ1 with
          | .nx ρ2 => forL g b (ds.drop (i + 1)) ρ2
          | .ct ρ2 => forL g b (ds.drop (i + 1)) ρ2
          | .bk ρ2 => .nx ρ2
          | r => r) := q'
        cases eb : b ρ1 with
        | no => rw [eb] at q'; exact q'
        | nx ρ2 => rw [eb] at q'; exact fun F4 H4 σ4 x4 s4 => ⟨F4, ρ2, x12.trans x4, s4, SRes.at q' (t2.ff.trans x4)⟩
        | ct ρ2 => rw [eb] at q'; exact fun F4 H4 σ4 x4 s4 => ⟨F4, ρ2, x12.trans x4, s4, SRes.at q' (t2.ff.trans x4)⟩
        | bk ρ2 => rw [eb] at q'; exact fun F4 H4 σ4 x4 s4 => q' F4 H4 σ4 (t2.ff.trans x4) s4
        | rt d ρ2 => rw [eb] at q'; exact q'
        | ex c ρ2 => rw [eb] at q'; exact fun F4 H4 σ4 x4 s4 => q' F4 H4 σ4 (t2.ff.trans x4) s4
  · have e : i = ds.length := by omega
    subst e
    rw [List.drop_length, forL_nil] at q'
    exact .inl ⟨wk.stop F' H' x s'.fh, q' F' H' σ' (.refl _) s'⟩

/-! ### while -/
def whN (t : Env → R Bool) (b : Env → SR) : Nat → Env → SR
  | 0, _ => .no
  | n + 1, ρ => (t ρ).st ρ fun c => if c = true then (match b ρ with
      | .nx ρ2 => whN t b n ρ2
      | .ct ρ2 => whN t b n ρ2
      | .bk ρ2 => .nx ρ2
      | r => r) else .nx ρ
open Classical in
noncomputable def sWhile (t : Env → R Bool) (b : Env → SR) : Env → SR := fun ρ => if h : ∃ n, whN t b n ρ ≠ .no then whN t b h.choose ρ else .no
theorem whN_succ (t : Env → R Bool) (b : Env → SR) (n : Nat) (ρ : Env) : whN t b (n + 1) ρ = (t ρ).st ρ fun c => if c = true then (match b ρ with
      | .nx ρ2 => whN t b n ρ2
      | .ct ρ2 => whN t b n ρ2
      | .bk ρ2 => .nx ρ2
      | r => r) else .nx ρ := rfl
theorem whN_more (t : Env → R Bool) (b : Env → SR) : ∀ (n : Nat) (ρ : Env), whN t b n ρ ≠ .no → whN t b (n + 1) ρ = whN t b n ρ
  | 0, _, h => absurd rfl h
  | n + 1, ρ, h => by
    rw [whN_succ] at h
    rw [whN_succ t b (n + 1), whN_succ t b n]
    cases et : t ρ with
    | no => rfl
    | ex c => rfl
    | ok c =>
      rw [et] at h
      cases c with
      | false => rfl
      | true =>
        simp only [R.st_ok, if_true] at h ⊢
        cases eb : b ρ with
        | nx ρ2 => rw [eb] at h; exact whN_more t b n ρ2 h
        | ct ρ2 => rw [eb] at h; exact whN_more t b n ρ2 h
        | _ => rfl
theorem whN_le (t : Env → R Bool) (b : Env → SR) {n m : Nat} {ρ : Env} (h : whN t b n ρ ≠ .no) (l : n ≤ m) : whN t b m ρ = whN t b n ρ := by
  induction l with
  | refl => rfl
  | step l ih => rw [whN_more t b _ ρ (by rw [ih]; exact h), ih]
theorem sWhile_of (t : Env → R Bool) (b : Env → SR) {n : Nat} {ρ : Env} (h : whN t b n ρ ≠ .no) : sWhile t b ρ = whN t b n ρ := by
  have ex : ∃ n, whN t b n ρ ≠ .no := ⟨n, h⟩
  unfold sWhile
  rw [dif_pos ex]
  rcases Nat.le_total n ex.choose with l | l
  · exact whN_le t b h l
  · exact (whN_le t b ex.choose_spec l).symm
/-- one turn -/
theorem sWhile_eq (t : Env → R Bool) (b : Env → SR) (ρ : Env) : sWhile t b ρ = (t ρ).st ρ fun c => if c = true then (match b ρ with
      | .nx ρ2 => sWhile t b ρ2
      | .ct ρ2 => sWhile t b ρ2
      | .bk ρ2 => .nx ρ2
      | r => r) else .nx ρ := by
  have go : ∀ ρ2, (∀ n, whN t b n ρ2 = .no) → sWhile t b ρ2 = .no := fun ρ2 h => by
    unfold sWhile
    rw [dif_neg fun ⟨n, z⟩ => z (h n)]
  have key : ∀ (f : Nat → SR) (r : SR), (∀ n, whN t b (n + 1) ρ = f n) → (∀ n, f n ≠ .no → f n = r) → ((∀ n, f n = .no) → r = .no) → sWhile t b ρ = r := fun f r h1 h2 h3 => by
    by_cases hx : ∃ n, f n ≠ .no
    · obtain ⟨n, hn⟩ := hx
      rw [← h2 n hn, ← h1 n]
      exact sWhile_of t b (by rw [h1 n]; exact hn)
    · have all : ∀ n, f n = .no := fun n => Classical.byContradiction fun z => hx ⟨n, z⟩
      rw [h3 all]
      refine go ρ fun n => ?_
      cases n with
      | zero => rfl
      | succ n => rw [h1 n, all n]
  cases et : t ρ with
  | no => exact key (fun _ => .no) _ (fun n => by rw [whN_succ, et]; rfl) (fun n h => absurd rfl h) fun _ => rfl
  | ex c => exact key (fun _ => .ex c ρ) _ (fun n => by rw [whN_succ, et]; rfl) (fun n _ => rfl) fun h => h 0
  | ok c =>
    cases c with
    | false => exact key (fun _ => .nx ρ) _ (fun n => by rw [whN_succ, et]; rfl) (fun n _ => rfl) fun h => h 0
    | true =>
      simp only [R.st_ok, if_true]
      cases eb : b ρ with
      | nx ρ2 => exact key (fun n => whN t b n ρ2) _ (fun n => by rw [whN_succ, et, eb]; rfl) (fun n h => (sWhile_of t b h).symm) fun h => go ρ2 h
      | ct ρ2 => exact key (fun n => whN t b n ρ2) _ (fun n => by rw [whN_succ, et, eb]; rfl) (fun n h => (sWhile_of t b h).symm) fun h => go ρ2 h
      | no => exact key (fun n => .no) _ (fun n => by rw [whN_succ, et, eb]; rfl) (fun n h => absurd rfl h) fun _ => rfl
      | bk ρ2 => exact key (fun n => .nx ρ2) _ (fun n => by rw [whN_succ, et, eb]; rfl) (fun n _ => rfl) fun h => h 0
      | rt d ρ2 => exact key (fun n => .rt d ρ2) _ (fun n => by rw [whN_succ, et, eb]; rfl) (fun n _ => rfl) fun h => h 0
      | ex c ρ2 => exact key (fun n => .ex c ρ2) _ (fun n => by rw [whN_succ, et, eb]; rfl) (fun n _ => rfl) fun h => h 0
theorem ss_while {c : Expr} {body : List Stmt} {t : Env → R Bool} {b : Env → SR} {pos : Pos} (hp : PassesOwn (model X.prog X.w) X.A X.env X.xe) (hc : ET X E W c t) (hb : SB X E W body b) : SS X E W (.While c body [] pos) (sWhile t b) := by
  refine ⟨ps_mono (ps_while hp hc.pt hb.ps) fun Z σ H h => ?_⟩
  obtain ⟨F, ρ, s, q⟩ := h
  have ex : ∃ n, sWhile t b ρ = whN t b n ρ := by
    by_cases h : ∃ n, whN t b n ρ ≠ .no
    · obtain ⟨n, h⟩ := h
      exact ⟨n, sWhile_of t b h⟩
    · refine ⟨0, ?_⟩
      unfold sWhile
      rw [dif_neg h]
      rfl
  obtain ⟨n, en⟩ := ex
  rw [en] at q
  refine ⟨fun m σ' H' => ∃ F' ρ', Stt E F' H' σ' ρ' ∧ SRes E W F' Z (whN t b m ρ'), ⟨n, F, ρ, s, q⟩, ?_⟩
  rintro m σ' H' ⟨F', ρ', s', q'⟩
  cases m with
  | zero => exact q'.elim
  | succ m =>
    rw [whN_succ] at q'
    refine ⟨F', ρ', s', Res.mono q'.st (fun k _ q F1 H1 t1 => ?_) fun c _ z => SRes.exc s' z⟩
    cases k with
    | false => exact q F1 H1 σ' t1.ff (s'.tr t1)
    | true =>
      rw [if_pos rfl]
      refine ⟨fun σ2 H2 => ∃ F2 ρ2, Stt E F2 H2 σ2 ρ2 ∧ SRes E W F2 Z (whN t b m ρ2), fun σ2 H2 h => ⟨m, by omega, h⟩, F1, ρ', s'.tr t1, ?_⟩
      have q : SRes E W F' Z (match b ρ' with
          | .nx ρ2 => whN t b m ρ2
          | .ct ρ2 => whN t b m ρ2
          | .bk ρ2 => .nx ρ2
          | r => r) := q
      cases eb : b ρ' with
      | no => rw [eb] at q; exact q
      | nx ρ2 => rw [eb] at q; exact fun F4 H4 σ4 x4 s4 => ⟨F4, ρ2, s4, SRes.at q (t1.ff.trans x4)⟩
      | ct ρ2 => rw [eb] at q; exact fun F4 H4 σ4 x4 s4 => ⟨F4, ρ2, s4, SRes.at q (t1.ff.trans x4)⟩
      | bk ρ2 => rw [eb] at q; exact fun F4 H4 σ4 x4 s4 => q F4 H4 σ4 (t1.ff.trans x4) s4
      | rt d ρ2 => rw [eb] at q; exact q
      | ex c ρ2 => rw [eb] at q; exact fun F4 H4 σ4 x4 s4 => q F4 H4 σ4 (t1.ff.trans x4) s4
end
end Dv
end
section
set_option maxRecDepth 100000
set_option maxHeartbeats 1000000
namespace Dv
open PySem PySem.Spec PyProof.Rows L2

/-! ### a def -/
def SR.out : SR → R D
  | .rt d _ => .ok d
  | .nx _ => .ok .non
  | .ex c _ => .ex c
  | _ => .no
@[simp] theorem SR.out_rt (d : D) (ρ : Env) : (SR.rt d ρ).out = .ok d := rfl
@[simp] theorem SR.out_nx (ρ : Env) : (SR.nx ρ).out = .ok .non := rfl
@[simp] theorem SR.out_ex (c : Nat) (ρ : Env) : (SR.ex c ρ).out = .ex c := rfl
@[simp] theorem SR.out_no : SR.no.out = .no := rfl
/-- the meaning of a def: n parameters, m slots -/
def fnD (n m : Nat) (b : Env → SR) : List D → R D := fun ds => if ds.length = n then (b (ds.map some ++ List.replicate (m - n) none)).out else .no
theorem rp_start {k : Kx} {F H : Hp} {ds : List D} {vs : List V} (r : RpL k F H ds vs []) (m : Nat) (i : Nat) (d : D) (e : (ds.map some ++ List.replicate m none)[i]? = some (some d)) : ∃ v, (vs.map some ++ List.replicate m (none : Option V))[i]? = some (some v) ∧ Rp k F H d v [] := by
  have hl := r.len
  by_cases hi : i < ds.length
  · rw [List.getElem?_append_left (by rw [List.length_map]; exact hi), List.getElem?_map] at e
    cases q : ds[i]? with
    | none => rw [q] at e; cases e
    | some d' =>
      rw [q] at e
      cases e
      obtain ⟨v, h1, h2⟩ := r.get0 q
      exact ⟨v, by rw [List.getElem?_append_left (by rw [List.length_map, ← hl]; exact hi), List.getElem?_map, h1]; rfl, h2⟩
  · rw [List.getElem?_append_right (by rw [List.length_map]; omega)] at e
    have := List.mem_of_getElem? e
    rw [List.mem_replicate] at this
    cases this.2
section
variable {P : Program} {w : World} {K : PySem.W.Frag} {mg : Str → Option Value} {base : Heap}
theorem Stt.toTr {E : En} {F H : Hp} {σ : L2.St} {ρ : Env} (hB : E.B = []) (s : Stt E F H σ ρ) : Tr E.F0 E.He F H :=
  ⟨s.e0, fun a o e => s.st a o e (by rw [hB]; exact fun z => nomatch z), s.fh, s.fr⟩
theorem Fin.toTr {E : En} {F H : Hp} {d : D} {v : V} (hB : E.B = []) (s : Fin E F H d v) : Tr E.F0 E.He F H :=
  ⟨s.e0, fun a o e => s.st a o e (by rw [hB]; exact fun z => nomatch z), s.fh, s.fr⟩
/-- a def without borrowed arguments, at its entry -/
abbrev En0 (kx : Kx) (ec : Nat → Value) (He F0 : Hp) (v0 : L2.St) : En := ⟨kx, ec, He, F0, [], [], v0⟩
theorem fn_ok {x qual : Str} {st : Stmt} {f : Addr} {fd : FuncData} {N ps : List Str} (k n m : Nat) (kx : Kx) (ec : Nat → Value) {b : Env → SR} (hn : ps.length = n) (hm : N.length = m) (G : Fun K x qual st f fd) (S : FnScope N ps (defScope st))
    (hbody : ∀ (cdv : Value) (A : Around) (outer : List PySem.Env) (s : Shared) (H : Hp) (Ew : XK) (He F0 : Hp) (v0 : L2.St) (W : WX), Room k (A.deeper (envOfC qual (defScope st) s.heap.objs.size f cdv)) →
      Takes (cxOf (L2.CX P w) P w K mg base N qual (defScope st) f cdv A outer s H Ew) W → PassesOwn (model P w) (cxOf (L2.CX P w) P w K mg base N qual (defScope st) f cdv A outer s H Ew).A (cxOf (L2.CX P w) P w K mg base N qual (defScope st) f cdv A outer s H Ew).env (cxOf (L2.CX P w) P w K mg base N qual (defScope st) f cdv A outer s H Ew).xe →
      SB (cxOf (L2.CX P w) P w K mg base N qual (defScope st) f cdv A outer s H Ew) (En0 kx ec He F0 v0) W (defBody st) b) :
    FnOk P w K mg base (L2.CX P w) (k + 1) f fd ps (spD kx ec n (fnD n m b)) := by
  subst hn hm
  refine G.okX S (fun vs H Q E h => spD_len h) fun cdv A outer s H vs Q Ew hr h => ?_
  obtain ⟨F, ds, x, r, p, l, h⟩ := h
  have sb := hbody cdv A outer s H Ew H F (L2.start N vs) (fun cls d _ H => Ew cls d H) hr (takes_of rfl rfl rfl rfl) (passes_of rfl)
  refine ⟨_, sb.ps, F, ds.map some ++ List.replicate (N.length - ps.length) none, ?_, ?_⟩
  · have hl := r.len
    refine ⟨.refl _, x, fun a e _ => e, fun a o e _ => e, (fun a z => nomatch z), ?_, (fun i z => nomatch z), fun _ => [], fun i d e => ?_, fun _ _ => rfl, fun _ => .nil, (fun _ _ _ z => nomatch z), (fun _ _ z => nomatch z)⟩
    · unfold L2.start
      rw [List.length_append, List.length_append, List.length_map, List.length_map, List.length_replicate, List.length_replicate, ← hl, l]
    · unfold L2.start
      rw [← hl, l]
      exact rp_start r _ i d e
  · unfold fnD at h
    rw [if_pos l] at h
    cases eb : b (ds.map some ++ List.replicate (N.length - ps.length) none) with
    | no => rw [eb] at h; exact h.elim
    | bk ρ => rw [eb] at h; exact h.elim
    | ct ρ => rw [eb] at h; exact h.elim
    | nx ρ => rw [eb] at h; exact fun F' H' σ _ s' => h F' H' .non [] (s'.toTr rfl) ⟨rfl, rfl⟩ .nil fun _ z => nomatch z
    | rt d ρ =>
      rw [eb] at h
      intro F' H' σ v s' fn _
      obtain ⟨A', r', nd, u⟩ := fn.rp
      exact h F' H' v A' (fn.toTr rfl) r' nd u
    | ex c ρ => rw [eb] at h; exact fun F' H' σ _ s' => h F' H' (s'.toTr rfl)
/-- a module's constant as data -/
def Glob (kx : Kx) (mg : Str → Option Value) (x : Str) (d : D) : Prop := ∃ u v, mg x = some u ∧ RelV v u ∧ ∀ F H, Rp kx F H d v []
theorem glob_int {kx : Kx} {mg : Str → Option Value} {x : Str} {i : Int} {t : Tok} (h : mg x = some (.int i t)) : Glob kx mg x (.int i) := ⟨_, .int i, h, ⟨_, rfl⟩, fun _ _ => ⟨rfl, rfl⟩⟩
theorem glob_str {kx : Kx} {mg : Str → Option Value} {x : Str} {i : Str} {t : Tok} (h : mg x = some (.str i t)) : Glob kx mg x (.str i) := ⟨_, .str i, h, ⟨_, rfl⟩, fun _ _ => ⟨rfl, rfl⟩⟩
theorem eo_g {X : Cx} {E : En} {W : WX} {x : Str} {d : D} {pos : Pos} (hg : Gl X x) (h : Glob E.k X.mg x d) (hd : (x == ("__debug__" : Str)) = false := by decide) : EO X E W (.Name x pos) (eC d) :=
  let ⟨_, _, hm, r, rp⟩ := h
  eo_glob hg hm r rp hd
/-- a weaker meaning -/
theorem FnOk.den {kx : Kx} {ec : Nat → Value} {n k : Nat} {f : Addr} {fd : FuncData} {ps : List Str} {g g' : List D → R D} (G : FnOk P w K mg base (L2.CX P w) k f fd ps (spD kx ec n g)) (h : ∀ ds, g' ds ≠ .no → g ds = g' ds) : FnOk P w K mg base (L2.CX P w) k f fd ps (spD kx ec n g') :=
  G.imp fun vs H Q E ⟨F, ds, x, r, p, l, q⟩ => ⟨F, ds, x, r, p, l, by
    have : g' ds ≠ .no := fun z => by rw [z] at q; exact q.elim
    rw [h ds this]; exact q⟩
end

section
variable {X : Cx} {E : En} {W : WX}
/-! ### raise -/
/-- an own exception class without an __init__ -/
structure ExF (K : PySem.W.Frag) (mg : Str → Option Value) (x : Str) (C : Addr) : Prop where
  g : mg x = some (.ref C)
  k : PySem.W.keepIn K (.ref C) = true
  x : PySem.W.excIn K C [.type "ValueError", .type "Exception", .type "BaseException", .type "object"] "ValueError.__new__" = true
  b : PySem.W.subIn K (.ref C) (.type "BaseException") = some true
  t : PySem.W.typeIn K (.ref C) = some (.type "type")
def sRaise (c : Nat) : Env → SR := fun ρ => .ex c ρ
@[simp] theorem sRaise_eq (c : Nat) (ρ : Env) : sRaise c ρ = .ex c ρ := rfl
theorem ss_raise {c : Nat} {C : Addr} {x m : Str} {j : Nat} {p p2 pos pos2 : Pos} (T : ExF X.K X.mg x C) (hE : E.ec c = .ref C) (hc : X.calm = true) (tk : Takes X W) (hg : Gl X x) (hdb : (x == ("__debug__" : Str)) = false := by decide) :
    SS X E W (.Raise (some (.Call (.Name x p) [.Constant (.str m) j p2] [] pos)) none pos2) (sRaise c) := by
  refine ⟨ps_mono (ps_raise hc tk (pmk_own PySem.F.excBase_ValueError T.x T.g T.k (raises_own T.b T.t) hg hdb)) fun Z σ H h => ?_⟩
  obtain ⟨F, ρ, s, q⟩ := h
  show W (.ref C) none σ H
  rw [← hE]
  exact q F H σ (.refl _) s

/-! ### lists that change -/
theorem lstO {F H : Hp} {xs : List D} {v : V} {A : List Addr} (h : Rp E.k F H (.lst true xs) v A) : ∃ l vs B, v = .ref l ∧ A = l :: B ∧ F l = none ∧ H l = some (.lst vs) ∧ RpL E.k F H xs vs B := by
  obtain ⟨a, vs, B, e, r, _, h2⟩ := h
  exact ⟨a, vs, B, e, (h2 rfl).1, (h2 rfl).2.1, (h2 rfl).2.2, r⟩
theorem RpL.upd {k : Kx} {F H : Hp} {ds : List D} {vs : List V} {A : List Addr} {l : Addr} {o : HO} (r : RpL k F H ds vs A) (n : l ∉ A) : RpL k F (upd H l o) ds vs A :=
  RpL.mono (.refl _) ds vs A (fun a ha o2 e2 m => ⟨by rw [upd_ne fun z => n (by rw [← z]; exact ha)]; exact e2, m⟩) r
theorem Rp.upd {k : Kx} {F H : Hp} {d : D} {v : V} {A : List Addr} {l : Addr} {o : HO} (r : Rp k F H d v A) (n : l ∉ A) : Rp k F (upd H l o) d v A :=
  Rp.mono (.refl _) d v A (fun a ha o2 e2 m => ⟨by rw [upd_ne fun z => n (by rw [← z]; exact ha)]; exact e2, m⟩) r
/-- the list in slot i becomes another one -/
def onL (i : Nat) (ρ : Env) (k : List D → SR) : SR := match ρ[i]?.getD none with
  | some (.lst true xs) => k xs
  | _ => .no
theorem onL_eq (i : Nat) (ρ : Env) (k : List D → SR) : onL i ρ k = match ρ[i]?.getD none with
  | some (.lst true xs) => k xs
  | _ => .no := rfl
theorem onL_of {F : Hp} {Z : Ends} {i : Nat} {ρ : Env} {k : List D → SR} (h : SRes E W F Z (onL i ρ k)) : ∃ xs, ρ[i]? = some (some (.lst true xs)) ∧ SRes E W F Z (k xs) := by
  unfold onL at h
  split at h
  · rename_i xs e
    exact ⟨xs, some_some e, h⟩
  · exact h.elim
theorem SRes.onL {F H : Hp} {Z : Ends} {i : Nat} {ρ : Env} {k : List D → SR} (h : SRes E W F Z (onL i ρ k)) : ∃ xs, ρ[i]? = some (some (.lst true xs)) ∧ SRes E W F Z (k xs) := onL_of h
/-- name.append(e) -/
def sApp (i : Nat) (f : Env → R D) : Env → SR := fun ρ => onL i ρ fun xs => (f ρ).st ρ fun d => if xs.length < 16777216 then .nx (ρ.set i (some (.lst true (xs ++ [d])))) else .no
@[simp] theorem sApp_eq (i : Nat) (f : Env → R D) (ρ : Env) : sApp i f ρ = onL i ρ fun xs => (f ρ).st ρ fun d => if xs.length < 16777216 then .nx (ρ.set i (some (.lst true (xs ++ [d])))) else .no := rfl
theorem res_ok {α : Type} {r : R α} {P : α → Prop} {Ew : Nat → Prop} (h : Res r P Ew) : (∃ a, r = .ok a ∧ P a) ∨ ∃ c, r = .ex c ∧ Ew c := by
  cases r with
  | no => exact h.elim
  | ok a => exact .inl ⟨a, rfl, h⟩
  | ex c => exact .inr ⟨c, rfl, h⟩
theorem ty_lst {k : Kx} {K : PySem.W.Frag} {F H : Hp} {o : Bool} {xs : List D} {v : V} {A : List Addr} (fh : Ex F H) (r : Rp k F H (.lst o xs) v A) : tyV K "list" v H := by
  obtain ⟨a, vs, B, rfl, e, _⟩ := Rp.lstW fh r
  exact .inl ⟨rfl, vs, .inl (.inl e)⟩
theorem ss_app {i : Nat} {o e : Expr} {f : Env → R D} {apos cpos pos : Pos} (ho : PE X o (tVar i)) (h : EO X E W e f) (hs : swapsWith (.Call (.Attribute o "append" apos) [e] [] cpos) none pos.line X.env = pure false := by rfl)
    (hbase : attributeBase o "append" X.env (eval o X.env) = eval o X.env := by rfl)
    (hfew : ((backTo cpos (starEach [e] X.env)).all (fun x => !x.1) && (backToKw cpos (keywordEach [] X.env)).all (fun x => x.1.isSome)
      && decide ([e].length + ([] : List Keyword).length + (if ([] : List Keyword).isEmpty then 0 else 1) < 30)) = true := by rfl)
    (hline : (apos.endLine == cpos.line) = true := by rfl) (hst : starEach [e] X.env = (false, eval e X.env) :: starEach [] X.env := by rfl) (hplain : (backTo cpos (starEach [] X.env)).any (·.1) = false := by rfl) :
    SS X E W (.Expr (.Call (.Attribute o "append" apos) [e] [] cpos) pos) (sApp i f) := by
  refine ⟨ps_mono (ps_expr (pe_bm PySem.F.plainAttrs_list PySem.F.slot_list_append PySem.F.type_list_append mt_append ho (pa_cons h.pe pa_nil hst) hbase hfew hline hst hplain) hs) fun Z σ H h => ?_⟩
  obtain ⟨F, ρ, s, q⟩ := h
  obtain ⟨xs, e, q⟩ := onL_of q
  obtain ⟨fp, sl⟩ := s.sl
  obtain ⟨v, ev, r⟩ := sl.rp i _ e
  refine ⟨v, ev, ty_lst s.fh r, F, ρ, s, Res.mono q.st (fun d _ q F1 H1 w A t1 r1 nd u => ?_) fun c _ z => SRes.exc s z⟩
  by_cases hz : xs.length < 16777216
  · rw [if_pos hz] at q
    have s1 := s.tr t1
    have sl1 : Sl E F1 H1 σ ρ fp := ⟨fun j d e => let ⟨v, ev, r⟩ := sl.rp j d e; ⟨v, ev, r.tr t1⟩, sl.em, sl.nd, sl.dj, sl.nw⟩
    obtain ⟨l, vs, B, rfl, eA, fl, hl, rl⟩ := lstO (r.tr t1)
    have lfp : l ∈ fp i := by rw [eA]; exact List.mem_cons_self
    have new : ∀ a ∈ A, E.He a = none ∧ ∀ j, a ∉ fp j := fun a ha => ⟨s.new (u a ha), fun j hj => (sl.there hj).2 (u a ha)⟩
    have lA : l ∉ A := fun z => (new l z).2 i lfp
    have ndi := sl.nd i
    rw [eA] at ndi
    have lB : l ∉ B := (List.nodup_cons.mp ndi).1
    refine ⟨l, vs, w, rfl, rfl, hl, Nat.lt_of_lt_of_eq (by rw [← rl.len]; exact hz) sizeLine_eq.symm, q F1 _ σ t1.ff ?_⟩
    refine s1.write sl1 (v := .ref l) (A' := l :: (B ++ A)) lfp ev ⟨l, vs ++ [w], B ++ A, rfl, (rl.upd lB).append (RpL.one (r1.upd lA)), (fun z => nomatch z), fun _ => ⟨rfl, fl, upd_same⟩⟩ ?_ fun a ha => ?_
    · refine List.nodup_cons.mpr ⟨fun z => (List.mem_append.mp z).elim lB lA, List.nodup_append.mpr ⟨(List.nodup_cons.mp ndi).2, nd, fun a ha b hb z => ?_⟩⟩
      subst z
      exact (new a hb).2 i (by rw [eA]; exact List.mem_cons_of_mem _ ha)
    · rcases List.mem_cons.mp ha with rfl | ha
      · exact .inl lfp
      · rcases List.mem_append.mp ha with ha | ha
        · exact .inl (by rw [eA]; exact List.mem_cons_of_mem _ ha)
        · exact .inr (new a ha)
  · rw [if_neg hz] at q
    exact q.elim
end
end Dv
end
section
set_option maxRecDepth 100000
set_option maxHeartbeats 1000000
namespace Dv
open PySem PySem.Spec PyProof.Rows L2
/-! ### facts for simp -/
@[simp] theorem isi_int_non  : isiD "int" .non = .ok (.bl false) := isiD_of (fun _ _ _ z => nomatch z) (by show kitB "NoneType" "int" = some false; decide +kernel)
@[simp] theorem isi_int_bl (b : Bool) : isiD "int" (.bl b) = .ok (.bl true) := isiD_of (fun _ _ _ z => nomatch z) (by show kitB "bool" "int" = some true; decide +kernel)
@[simp] theorem isi_int_int (i : Int) : isiD "int" (.int i) = .ok (.bl true) := isiD_of (fun _ _ _ z => nomatch z) (by show kitB "int" "int" = some true; decide +kernel)
@[simp] theorem isi_int_str (x : Str) : isiD "int" (.str x) = .ok (.bl false) := isiD_of (fun _ _ _ z => nomatch z) (by show kitB "str" "int" = some false; decide +kernel)
@[simp] theorem isi_int_tup (xs : List D) : isiD "int" (.tup xs) = .ok (.bl false) := isiD_of (fun _ _ _ z => nomatch z) (by show kitB "tuple" "int" = some false; decide +kernel)
@[simp] theorem isi_int_lst (o : Bool) (xs : List D) : isiD "int" (.lst o xs) = .ok (.bl false) := isiD_of (fun _ _ _ z => nomatch z) (by show kitB "list" "int" = some false; decide +kernel)
@[simp] theorem isi_bool_non  : isiD "bool" .non = .ok (.bl false) := isiD_of (fun _ _ _ z => nomatch z) (by show kitB "NoneType" "bool" = some false; decide +kernel)
@[simp] theorem isi_bool_bl (b : Bool) : isiD "bool" (.bl b) = .ok (.bl true) := isiD_of (fun _ _ _ z => nomatch z) (by show kitB "bool" "bool" = some true; decide +kernel)
@[simp] theorem isi_bool_int (i : Int) : isiD "bool" (.int i) = .ok (.bl false) := isiD_of (fun _ _ _ z => nomatch z) (by show kitB "int" "bool" = some false; decide +kernel)
@[simp] theorem isi_bool_str (x : Str) : isiD "bool" (.str x) = .ok (.bl false) := isiD_of (fun _ _ _ z => nomatch z) (by show kitB "str" "bool" = some false; decide +kernel)
@[simp] theorem isi_bool_tup (xs : List D) : isiD "bool" (.tup xs) = .ok (.bl false) := isiD_of (fun _ _ _ z => nomatch z) (by show kitB "tuple" "bool" = some false; decide +kernel)
@[simp] theorem isi_bool_lst (o : Bool) (xs : List D) : isiD "bool" (.lst o xs) = .ok (.bl false) := isiD_of (fun _ _ _ z => nomatch z) (by show kitB "list" "bool" = some false; decide +kernel)
@[simp] theorem isi_str_non  : isiD "str" .non = .ok (.bl false) := isiD_of (fun _ _ _ z => nomatch z) (by show kitB "NoneType" "str" = some false; decide +kernel)
@[simp] theorem isi_str_bl (b : Bool) : isiD "str" (.bl b) = .ok (.bl false) := isiD_of (fun _ _ _ z => nomatch z) (by show kitB "bool" "str" = some false; decide +kernel)
@[simp] theorem isi_str_int (i : Int) : isiD "str" (.int i) = .ok (.bl false) := isiD_of (fun _ _ _ z => nomatch z) (by show kitB "int" "str" = some false; decide +kernel)
@[simp] theorem isi_str_str (x : Str) : isiD "str" (.str x) = .ok (.bl true) := isiD_of (fun _ _ _ z => nomatch z) (by show kitB "str" "str" = some true; decide +kernel)
@[simp] theorem isi_str_tup (xs : List D) : isiD "str" (.tup xs) = .ok (.bl false) := isiD_of (fun _ _ _ z => nomatch z) (by show kitB "tuple" "str" = some false; decide +kernel)
@[simp] theorem isi_str_lst (o : Bool) (xs : List D) : isiD "str" (.lst o xs) = .ok (.bl false) := isiD_of (fun _ _ _ z => nomatch z) (by show kitB "list" "str" = some false; decide +kernel)
@[simp] theorem isi_tuple_non  : isiD "tuple" .non = .ok (.bl false) := isiD_of (fun _ _ _ z => nomatch z) (by show kitB "NoneType" "tuple" = some false; decide +kernel)
@[simp] theorem isi_tuple_bl (b : Bool) : isiD "tuple" (.bl b) = .ok (.bl false) := isiD_of (fun _ _ _ z => nomatch z) (by show kitB "bool" "tuple" = some false; decide +kernel)
@[simp] theorem isi_tuple_int (i : Int) : isiD "tuple" (.int i) = .ok (.bl false) := isiD_of (fun _ _ _ z => nomatch z) (by show kitB "int" "tuple" = some false; decide +kernel)
@[simp] theorem isi_tuple_str (x : Str) : isiD "tuple" (.str x) = .ok (.bl false) := isiD_of (fun _ _ _ z => nomatch z) (by show kitB "str" "tuple" = some false; decide +kernel)
@[simp] theorem isi_tuple_tup (xs : List D) : isiD "tuple" (.tup xs) = .ok (.bl true) := isiD_of (fun _ _ _ z => nomatch z) (by show kitB "tuple" "tuple" = some true; decide +kernel)
@[simp] theorem isi_tuple_lst (o : Bool) (xs : List D) : isiD "tuple" (.lst o xs) = .ok (.bl false) := isiD_of (fun _ _ _ z => nomatch z) (by show kitB "list" "tuple" = some false; decide +kernel)
@[simp] theorem isi_list_non  : isiD "list" .non = .ok (.bl false) := isiD_of (fun _ _ _ z => nomatch z) (by show kitB "NoneType" "list" = some false; decide +kernel)
@[simp] theorem isi_list_bl (b : Bool) : isiD "list" (.bl b) = .ok (.bl false) := isiD_of (fun _ _ _ z => nomatch z) (by show kitB "bool" "list" = some false; decide +kernel)
@[simp] theorem isi_list_int (i : Int) : isiD "list" (.int i) = .ok (.bl false) := isiD_of (fun _ _ _ z => nomatch z) (by show kitB "int" "list" = some false; decide +kernel)
@[simp] theorem isi_list_str (x : Str) : isiD "list" (.str x) = .ok (.bl false) := isiD_of (fun _ _ _ z => nomatch z) (by show kitB "str" "list" = some false; decide +kernel)
@[simp] theorem isi_list_tup (xs : List D) : isiD "list" (.tup xs) = .ok (.bl false) := isiD_of (fun _ _ _ z => nomatch z) (by show kitB "tuple" "list" = some false; decide +kernel)
@[simp] theorem isi_list_lst (o : Bool) (xs : List D) : isiD "list" (.lst o xs) = .ok (.bl true) := isiD_of (fun _ _ _ z => nomatch z) (by show kitB "list" "list" = some true; decide +kernel)
@[simp] theorem pure_non  : D.pure .non = true := rfl
@[simp] theorem cold_non  : D.cold .non = true := rfl
@[simp] theorem noFz_non  : D.noFz .non = true := rfl
@[simp] theorem frz_non  : D.frz .non = .non := rfl
@[simp] theorem lay_non (n : Nat)  : D.lay n .non = true := by cases n <;> rfl
@[simp] theorem pure_bl (b : Bool) : D.pure (.bl b) = true := rfl
@[simp] theorem cold_bl (b : Bool) : D.cold (.bl b) = true := rfl
@[simp] theorem noFz_bl (b : Bool) : D.noFz (.bl b) = true := rfl
@[simp] theorem frz_bl (b : Bool) : D.frz (.bl b) = (.bl b) := rfl
@[simp] theorem lay_bl (n : Nat) (b : Bool) : D.lay n (.bl b) = true := by cases n <;> rfl
@[simp] theorem pure_int (i : Int) : D.pure (.int i) = true := rfl
@[simp] theorem cold_int (i : Int) : D.cold (.int i) = true := rfl
@[simp] theorem noFz_int (i : Int) : D.noFz (.int i) = true := rfl
@[simp] theorem frz_int (i : Int) : D.frz (.int i) = (.int i) := rfl
@[simp] theorem lay_int (n : Nat) (i : Int) : D.lay n (.int i) = true := by cases n <;> rfl
@[simp] theorem pure_str (x : Str) : D.pure (.str x) = true := rfl
@[simp] theorem cold_str (x : Str) : D.cold (.str x) = true := rfl
@[simp] theorem noFz_str (x : Str) : D.noFz (.str x) = true := rfl
@[simp] theorem frz_str (x : Str) : D.frz (.str x) = (.str x) := rfl
@[simp] theorem lay_str (n : Nat) (x : Str) : D.lay n (.str x) = PyData.strOk x := by cases n <;> rfl
@[simp] theorem pure_tup (xs : List D) : D.pure (.tup xs) = D.pureL xs := rfl
@[simp] theorem pure_lst (o : Bool) (xs : List D) : D.pure (.lst o xs) = (!o && D.pureL xs) := rfl
@[simp] theorem pure_scr (xs : List D) : D.pure (.scr xs) = D.pureL xs := rfl
@[simp] theorem cold_tup (xs : List D) : D.cold (.tup xs) = D.coldL xs := rfl
@[simp] theorem cold_lst (o : Bool) (xs : List D) : D.cold (.lst o xs) = D.coldL xs := rfl
@[simp] theorem cold_scr (xs : List D) : D.cold (.scr xs) = D.coldL xs := rfl
@[simp] theorem frz_tup (xs : List D) : D.frz (.tup xs) = .tup (D.frzL xs) := rfl
@[simp] theorem frz_lst (o : Bool) (xs : List D) : D.frz (.lst o xs) = .lst false (D.frzL xs) := rfl
@[simp] theorem frz_scr (xs : List D) : D.frz (.scr xs) = .scr (D.frzL xs) := rfl
@[simp] theorem noFz_tup (xs : List D) : D.noFz (.tup xs) = D.noFzL xs := rfl
@[simp] theorem noFz_lst (o : Bool) (xs : List D) : D.noFz (.lst o xs) = (o && D.noFzL xs) := rfl
@[simp] theorem lay_tup (n : Nat) (xs : List D) : D.lay (n + 1) (.tup xs) = D.layL n xs := rfl
@[simp] theorem lay_lst (n : Nat) (o : Bool) (xs : List D) : D.lay (n + 1) (.lst o xs) = D.layL n xs := rfl
@[simp] theorem pureL_nil : D.pureL [] = true := rfl
@[simp] theorem pureL_cons (x : D) (xs : List D) : D.pureL (x :: xs) = (x.pure && D.pureL xs) := rfl
@[simp] theorem coldL_nil : D.coldL [] = true := rfl
@[simp] theorem coldL_cons (x : D) (xs : List D) : D.coldL (x :: xs) = (x.cold && D.coldL xs) := rfl
@[simp] theorem frzL_nil : D.frzL [] = [] := rfl
@[simp] theorem frzL_cons (x : D) (xs : List D) : D.frzL (x :: xs) = x.frz :: D.frzL xs := rfl
@[simp] theorem noFzL_nil : D.noFzL [] = true := rfl
@[simp] theorem noFzL_cons (x : D) (xs : List D) : D.noFzL (x :: xs) = (x.noFz && D.noFzL xs) := rfl
@[simp] theorem layL_nil (n : Nat) : D.layL n [] = true := rfl
@[simp] theorem layL_cons (n : Nat) (x : D) (xs : List D) : D.layL n (x :: xs) = (x.lay n && D.layL n xs) := rfl
@[simp] theorem asOwn_eq (f : Env → R D) (ρ : Env) : asOwn f ρ = (f ρ).bind fun d => if d.pure then .ok d else .no := rfl
/-! ints in a list -/
def dInts (ns : List Int) : List D := ns.map D.int
@[simp] theorem dInts_nil : dInts [] = [] := rfl
@[simp] theorem dInts_cons (n : Int) (ns : List Int) : dInts (n :: ns) = .int n :: dInts ns := rfl
@[simp] theorem dInts_len (ns : List Int) : (dInts ns).length = ns.length := List.length_map _
@[simp] theorem dInts_app (ns ms : List Int) : dInts ns ++ dInts ms = dInts (ns ++ ms) := (List.map_append ..).symm
@[simp] theorem dInts_app1 (ns : List Int) (m : Int) : dInts ns ++ [.int m] = dInts (ns ++ [m]) := dInts_app ns [m]
@[simp] theorem dInts_pure : ∀ ns : List Int, D.pureL (dInts ns) = true
  | [] => rfl
  | n :: ns => by rw [dInts_cons, pureL_cons, dInts_pure ns]; rfl
@[simp] theorem dInts_cold (ns : List Int) : D.coldL (dInts ns) = true := D.pureL_cold _ (dInts_pure ns)
@[simp] theorem dInts_frz (ns : List Int) : D.frzL (dInts ns) = dInts ns := D.pureL_frzL _ (dInts_pure ns)
@[simp] theorem dInts_noFz : ∀ ns : List Int, D.noFzL (dInts ns) = true
  | [] => rfl
  | n :: ns => by rw [dInts_cons, noFzL_cons, dInts_noFz ns]; rfl
@[simp] theorem dInts_lay (k : Nat) : ∀ ns : List Int, D.layL k (dInts ns) = true
  | [] => rfl
  | n :: ns => by rw [dInts_cons, layL_cons, dInts_lay k ns, lay_int]; rfl
@[simp] theorem dInts_get (ns : List Int) (i : Nat) : (dInts ns)[i]? = (ns[i]?).map D.int := List.getElem?_map ..
@[simp] theorem dInts_at (ns : List Int) (i : Nat) (h : i < (dInts ns).length) : (dInts ns)[i] = .int (ns[i]'(by rw [dInts_len] at h; exact h)) := List.getElem_map ..
theorem dInts_drop (ns : List Int) (i : Nat) : (dInts ns).drop i = dInts (ns.drop i) := (List.map_drop ..).symm
theorem dInts_take (ns : List Int) (i : Nat) : (dInts ns).take i = dInts (ns.take i) := (List.map_take ..).symm
@[simp] theorem dInts_cut (ns : List Int) (lo hi : Option Int) : cutD (dInts ns) lo hi = dInts (cutD ns lo hi) := by
  unfold cutD
  rw [dInts_len, dInts_drop, dInts_take]
@[simp] theorem dInts_isEmpty (ns : List Int) : (dInts ns).isEmpty = ns.isEmpty := by cases ns <;> rfl
theorem dInts_eqvAll : ∀ ns ms : List Int, PyData.eqvAll (D.toPL (dInts ns)) (D.toPL (dInts ms)) = (ns == ms)
  | [], [] => rfl
  | [], m :: ms => rfl
  | n :: ns, [] => rfl
  | n :: ns, m :: ms => by
    show (PyData.eqv (.int n) (.int m) && PyData.eqvAll (D.toPL (dInts ns)) (D.toPL (dInts ms))) = _
    rw [dInts_eqvAll ns ms]
    rfl
@[simp] theorem gEq_ints (o p : Bool) (ns ms : List Int) : gEq (.lst o (dInts ns)) (.lst p (dInts ms)) = some (.bl (ns == ms)) := by
  have h : ∀ (o : Bool) (ns : List Int), D.lay 60 (.lst o (dInts ns)) = true := fun o ns => dInts_lay 59 ns
  simp only [gEq, h, and_self, if_true]
  show some (D.bl (PyData.eqvAll (D.toPL (dInts ns)) (D.toPL (dInts ms)))) = _
  rw [dInts_eqvAll]
@[simp] theorem gNe_ints (o p : Bool) (ns ms : List Int) : gNe (.lst o (dInts ns)) (.lst p (dInts ms)) = some (.bl (!(ns == ms))) := by
  have h : ∀ (o : Bool) (ns : List Int), D.lay 60 (.lst o (dInts ns)) = true := fun o ns => dInts_lay 59 ns
  simp only [gNe, h, and_self, if_true]
  show some (D.bl (!(PyData.eqvAll (D.toPL (dInts ns)) (D.toPL (dInts ms))))) = _
  rw [dInts_eqvAll]
@[simp] theorem gEq_tints (ns ms : List Int) : gEq (.tup (dInts ns)) (.tup (dInts ms)) = some (.bl (ns == ms)) := by
  have h : ∀ (ns : List Int), D.lay 60 (.tup (dInts ns)) = true := fun ns => dInts_lay 59 ns
  simp only [gEq, h, and_self, if_true]
  show some (D.bl (PyData.eqvAll (D.toPL (dInts ns)) (D.toPL (dInts ms)))) = _
  rw [dInts_eqvAll]
/-- a loop by an invariant -/
theorem forL_inv {g : D → Env → Option Env} {b : Env → SR} (I : Nat → Env → Prop) : ∀ (ds : List D) (i : Nat) (ρ : Env),
    (∀ j d ρ, ds[j]? = some d → I (i + j) ρ → ∃ ρ1 ρ2, g d ρ = some ρ1 ∧ (b ρ1 = .nx ρ2 ∨ b ρ1 = .ct ρ2) ∧ I (i + j + 1) ρ2) → I i ρ → ∃ ρ', forL g b ds ρ = .nx ρ' ∧ I (i + ds.length) ρ'
  | [], i, ρ, _, h => ⟨ρ, rfl, h⟩
  | d :: ds, i, ρ, hs, h => by
    obtain ⟨ρ1, ρ2, e1, e2, h2⟩ := hs 0 d ρ rfl h
    obtain ⟨ρ', e3, h3⟩ := forL_inv I ds (i + 1) ρ2 (fun j d' ρ' e h' => by
      have := hs (j + 1) d' ρ' (by simpa using e) (by rw [show i + (j + 1) = i + 1 + j by omega]; exact h')
      rw [show i + (j + 1) + 1 = i + 1 + j + 1 by omega] at this
      exact this) h2
    refine ⟨ρ', ?_, by rw [List.length_cons, show i + (ds.length + 1) = i + 1 + ds.length by omega]; exact h3⟩
    rw [forL_cons, e1]
    rcases e2 with e2 | e2 <;> (simp only [e2]; exact e3)
/-- ifs carried out -/
theorem R.bind_ite {α β : Type} (c : Prop) [Decidable c] (a b : R α) (f : α → R β) : (if c then a else b).bind f = if c then a.bind f else b.bind f := by split <;> rfl
theorem R.st_ite {α : Type} (c : Prop) [Decidable c] (a b : R α) (ρ : Env) (f : α → SR) : (if c then a else b).st ρ f = if c then a.st ρ f else b.st ρ f := by split <;> rfl
theorem SR.at_ite (c : Prop) [Decidable c] (a b : SR) (f : Env → SR) : (if c then a else b).andThen f = if c then a.andThen f else b.andThen f := by split <;> rfl
theorem SR.out_ite (c : Prop) [Decidable c] (a b : SR) : (if c then a else b).out = if c then a.out else b.out := by split <;> rfl
end Dv
end
section
set_option maxRecDepth 100000
set_option maxHeartbeats 1000000
namespace Dv
open PySem PySem.Spec PyProof.Rows L2

/-! ### the built-ins' names -/
theorem bb_len : bootBuiltins "len" = some (.builtin "len") := by decide +kernel
theorem bb_abs : bootBuiltins "abs" = some (.builtin "abs") := by decide +kernel
theorem bb_max : bootBuiltins "max" = some (.builtin "max") := by decide +kernel
theorem bb_min : bootBuiltins "min" = some (.builtin "min") := by decide +kernel
theorem bb_ord : bootBuiltins "ord" = some (.builtin "ord") := by decide +kernel
theorem bb_sum : bootBuiltins "sum" = some (.builtin "sum") := by decide +kernel
theorem bb_sorted : bootBuiltins "sorted" = some (.builtin "sorted") := by decide +kernel
theorem bb_all : bootBuiltins "all" = some (.builtin "all") := by decide +kernel
theorem bb_any : bootBuiltins "any" = some (.builtin "any") := by decide +kernel
theorem bb_isinstance : bootBuiltins "isinstance" = some (.builtin "isinstance") := by decide +kernel
theorem bb_int : bootBuiltins "int" = some (.type "int") := by decide +kernel
theorem bb_bool : bootBuiltins "bool" = some (.type "bool") := by decide +kernel
theorem bb_str : bootBuiltins "str" = some (.type "str") := by decide +kernel
theorem bb_list : bootBuiltins "list" = some (.type "list") := by decide +kernel
theorem bb_tuple : bootBuiltins "tuple" = some (.type "tuple") := by decide +kernel

/-! ### the law's end -/
def spLaw (K : PySem.W.Frag) : Sp := fun vs H Q _ => ∃ (a : Addr) (ns : List Int), vs = [.ref a] ∧ SqL K H a (ns.map V.int) ∧ ns.length ≤ 63 ∧ ∀ H', Q (.bl true) H'
theorem rp_dInts {k : Kx} {F H : Hp} : ∀ ns : List Int, RpL k F H (dInts ns) (ns.map V.int) []
  | [] => ⟨rfl, rfl⟩
  | n :: ns => ⟨.int n, ns.map V.int, [], [], rfl, rfl, ⟨rfl, rfl⟩, rp_dInts ns⟩
theorem end_of {P : Program} {w : World} {K : PySem.W.Frag} {mg : Str → Option Value} {base : Heap} {kx : Kx} {ec : Nat → Value} {k : Nat} {f : Addr} {fd : FuncData} {ps : List Str} {g : List D → R D} (G : FnOk P w K mg base (L2.CX P w) k f fd ps (spD kx ec 1 g)) (hK : kx.K = K)
    (h : ∀ ns : List Int, ns.length ≤ 63 → g [.scr (dInts ns)] = .ok (.bl true)) : FnOk P w K mg base (L2.CX P w) k f fd ps (spLaw K) := by
  refine G.imp fun vs H Q Ew ⟨a, ns, e, s, hl, q⟩ => ?_
  subst e
  refine ⟨H, [.scr (dInts ns)], .refl _, ⟨.ref a, [], [], [], rfl, rfl, ⟨a, _, rfl, rfl, by rw [hK]; exact s, rp_dInts ns⟩, rfl, rfl⟩, ?_, rfl, ?_⟩
  · simp
  · rw [h ns hl]
    intro F' H' v A t r _ _
    rw [r.1]
    exact q H'
theorem callF_pure {n : Nat} {f : List D → R D} {ds : List D} (hl : ds.length = n) (hp : D.pureL ds = true) : callF n f ds = f ds := by
  unfold callF
  rw [if_pos hl, if_pos hp]
theorem cx_no {P : Program} {w : World} {outer : List PySem.Env} {H : Hp} {s : Shared} {e : Value} {s' : Shared} (h : L2.CX P w outer H s (fun _ _ _ => False) e s') : False := by
  obtain ⟨_, _, _, _, _, _, _, _, _, _, _, _, z⟩ := h
  exact z
end Dv
end
section
set_option maxRecDepth 100000
set_option maxHeartbeats 1000000
namespace Dv
open PySem PySem.Spec PyProof.Rows L2

/-! ### comprehensions -/
def wipeE (ρ : Env) : List Nat → Env
  | [] => ρ
  | v :: vs => (wipeE ρ vs).set v none
@[simp] theorem wipeE_nil (ρ : Env) : wipeE ρ [] = ρ := rfl
@[simp] theorem wipeE_cons (ρ : Env) (v : Nat) (vs : List Nat) : wipeE ρ (v :: vs) = (wipeE ρ vs).set v none := rfl
theorem wipe_ext {σ σ' : L2.St} (hl : σ.length = σ'.length) : ∀ {vs : List Nat}, (∀ j, j ∉ vs → σ[j]? = σ'[j]?) → wipe σ vs = wipe σ' vs := fun {vs} h => by
  refine List.ext_getElem? fun j => ?_
  by_cases hj : j ∈ vs
  · have go : ∀ (τ : L2.St) (vs : List Nat), j ∈ vs → j < τ.length → (wipe τ vs)[j]? = some none := fun τ vs => by
      induction vs with
      | nil => intro h; cases h
      | cons v vs ih =>
        intro h hlt
        show ((wipe τ vs).set v none)[j]? = some none
        by_cases q : v = j
        · rw [q, List.getElem?_set_self (by rw [wipe_length]; exact hlt)]
        · rw [List.getElem?_set_ne q]
          exact ih ((List.mem_cons.mp h).resolve_left fun z => q z.symm) hlt
    by_cases hlt : j < σ.length
    · rw [go σ vs hj hlt, go σ' vs hj (by omega)]
    · rw [List.getElem?_eq_none (by rw [wipe_length]; omega), List.getElem?_eq_none (by rw [wipe_length]; omega)]
  · rw [wipe_out hj, wipe_out hj, h j hj]
theorem wipe_set {σ : L2.St} {i : Nat} {x : Option V} {vs : List Nat} (h : i ∈ vs) : wipe (σ.set i x) vs = wipe σ vs :=
  wipe_ext (by rw [List.length_set]) fun j hj => List.getElem?_set_ne fun z => hj (by rw [← z]; exact h)
theorem wipe_wipe {σ : L2.St} {vs : List Nat} : wipe (wipe σ vs) vs = wipe σ vs := wipe_ext (by rw [wipe_length]) fun j hj => wipe_out hj
section
variable {E : En}
theorem Stt.unset {F H : Hp} {σ : L2.St} {ρ : Env} {i : Nat} (s : Stt E F H σ ρ) (hb : i ∉ E.bs) : Stt E F H (σ.set i none) (ρ.set i none) := by
  obtain ⟨fp, sl⟩ := s.sl
  refine ⟨s.e0, s.fh, s.fr, s.st, s.bt, by rw [List.length_set, List.length_set]; exact s.len, fun j hj => ?_, fun j => if j = i then [] else fp j, fun j d' e => ?_, fun j e => ?_, fun j => ?_, fun j j' a ha ha' => ?_, fun j a ha => ?_⟩
  · rw [List.getElem?_set_ne (fun z => hb (by rw [z]; exact hj)), List.length_set]
    exact s.bv j hj
  · by_cases q : j = i
    · subst q
      by_cases hi : j < ρ.length
      · rw [List.getElem?_set_self hi] at e; cases e
      · rw [List.getElem?_eq_none (by rw [List.length_set]; omega)] at e; cases e
    · rw [List.getElem?_set_ne (Ne.symm q)] at e
      obtain ⟨v', e', r'⟩ := sl.rp j d' e
      refine ⟨v', by rw [List.getElem?_set_ne (Ne.symm q)]; exact e', ?_⟩
      show Rp E.k F H d' v' (if j = i then [] else fp j)
      rw [if_neg q]
      exact r'
  · show (if j = i then [] else fp j) = []
    by_cases q : j = i
    · rw [if_pos q]
    · rw [List.getElem?_set_ne (Ne.symm q)] at e
      rw [if_neg q]
      exact sl.em j e
  · show (if j = i then [] else fp j).Nodup
    by_cases q : j = i
    · rw [if_pos q]; exact .nil
    · rw [if_neg q]; exact sl.nd j
  · have ha : a ∈ (if j = i then [] else fp j) := ha
    have ha' : a ∈ (if j' = i then [] else fp j') := ha'
    by_cases q : j = i
    · rw [if_pos q] at ha; cases ha
    · rw [if_neg q] at ha
      by_cases q' : j' = i
      · rw [if_pos q'] at ha'; cases ha'
      · rw [if_neg q'] at ha'
        exact sl.dj j j' a ha ha'
  · have ha : a ∈ (if j = i then [] else fp j) := ha
    by_cases q : j = i
    · rw [if_pos q] at ha; cases ha
    · rw [if_neg q] at ha
      exact sl.nw j a ha
theorem Stt.wipe {F H : Hp} {σ : L2.St} {ρ : Env} (s : Stt E F H σ ρ) : ∀ {vs : List Nat}, (∀ v ∈ vs, v ∉ E.bs) → Stt E F H (L2.wipe σ vs) (wipeE ρ vs)
  | [], _ => s
  | v :: vs, h => (Stt.wipe s fun v hv => h v (List.mem_cons_of_mem _ hv)).unset (h v List.mem_cons_self)
end
/-! targets of a block: only its own names are touched -/
def tGw (E : En) (g : D → Env → Option Env) (vs : List Nat) : TG := fun v σ H Q => ∃ F ρ d, Stt E F H σ ρ ∧ d.pure = true ∧ Rp E.k F H d v [] ∧ ∃ ρ', g d ρ = some ρ' ∧ ∀ σ', Stt E F H σ' ρ' → L2.wipe σ' vs = L2.wipe σ vs → Q σ' H
def tGsw (E : En) (g : List D → Env → Option Env) (vs : List Nat) : TGs := fun ws σ H Q => ∃ F ρ ds, Stt E F H σ ρ ∧ D.pureL ds = true ∧ RpL E.k F H ds ws [] ∧ ∃ ρ', g ds ρ = some ρ' ∧ ∀ σ', Stt E F H σ' ρ' → L2.wipe σ' vs = L2.wipe σ vs → Q σ' H
structure EGw (X : Cx) (E : En) (vs : List Nat) (e : Expr) (g : D → Env → Option Env) : Prop where
  pg : PG X e (tGw E g vs)
structure EGsw (X : Cx) (E : En) (vs : List Nat) (es : List Expr) (g : List D → Env → Option Env) : Prop where
  pg : PGs X es (tGsw E g vs)
section
variable {X : Cx} {E : En} {W : WX} {vs : List Nat}
theorem egw_name {i : Nat} {x : Str} {pos : Pos} (hv : i ∈ vs) (hN : X.N.Nodup) (hi : X.N[i]? = some x) (hx : Loc X.env.scope x) (hb : i ∉ E.bs) (hf : X.fn x = true ∨ X.env.scope.names.lookup x = some .local := by first | exact .inl rfl | exact .inr rfl | assumption) : EGw X E vs (.Name x pos) (gNm i) := by
  refine ⟨pg_mono (pg_name hN hi hx hf) fun v σ H Q h => ?_⟩
  obtain ⟨F, ρ, d, s, p, r, ρ', e, q⟩ := h
  cases e
  exact q _ (s.set (Tr.refl s.fh) r .nil (fun _ z => nomatch z) hb) (wipe_set hv)
theorem egsw_nil : EGsw X E vs [] gsNil := by
  refine ⟨pgs_mono pgs_nil fun vs σ H Q h => ?_⟩
  obtain ⟨F, ρ, ds, s, p, r, ρ', e, q⟩ := h
  cases ds with
  | nil => cases e; exact ⟨r.1, q σ s rfl⟩
  | cons d ds => cases e
theorem egsw_cons {e : Expr} {es : List Expr} {g : D → Env → Option Env} {gs : List D → Env → Option Env} (h1 : EGw X E vs e g) (h2 : EGsw X E vs es gs)
    (hs : (assignEach (e :: es) X.env).map (·.2) = assign e X.env :: (assignEach es X.env).map (·.2) := by rfl) : EGsw X E vs (e :: es) (gsCons g gs) := by
  refine ⟨pgs_mono (pgs_cons h1.pg h2.pg hs) fun ws σ H Q h => ?_⟩
  obtain ⟨F, ρ, ds, s, p, r, ρ', e, q⟩ := h
  cases ds with
  | nil => cases e
  | cons d ds =>
    obtain ⟨v, ws, B, C, e1, e2, r1, r2⟩ := r
    obtain ⟨rfl, rfl⟩ := List.append_eq_nil_iff.mp e2.symm
    have p' : d.pure = true ∧ D.pureL ds = true := by simpa [D.pureL] using p
    rw [gsCons_cons] at e
    cases eg : g d ρ with
    | none => rw [eg] at e; cases e
    | some ρ1 =>
      rw [eg] at e
      exact ⟨v, ws, e1, F, ρ, d, s, p'.1, r1, ρ1, eg, fun σ' s' w' => ⟨F, ρ1, ds, s', p'.2, r2, ρ', e, fun σ2 s2 w2 => q σ2 s2 (w2.trans w')⟩⟩
theorem egw_tup {es : List Expr} {k : Nat} {gs : List D → Env → Option Env} {pos : Pos} (hK : E.k.K = X.K) (hc : X.calm = true) (h : EGsw X E vs es gs) (n : Nat) (hlen : ∀ ds ρ ρ', gs ds ρ = some ρ' → ds.length = n)
    (hn : (assignEach es X.env).length = n := by rfl) (hst : (assignEach es X.env).findIdx? (·.1) = none := by rfl) : EGw X E vs (.Tuple es k pos) (gTp gs) := by
  refine ⟨pg_mono (pg_tup hc h.pg hn hst) fun v σ H Q h => ?_⟩
  obtain ⟨F, ρ, d, s, p, r, ρ', e, q⟩ := h
  cases d with
  | tup ds =>
    obtain ⟨a, vs, rfl, s1, r⟩ := r
    exact ⟨a, vs, rfl, by rw [← hK]; exact ex_t s.fh s1, by rw [← r.len]; exact hlen ds ρ ρ' e, F, ρ, ds, s, p, r, ρ', e, q⟩
  | _ => cases e
end
/-! tests of a clause -/
structure ETs (X : Cx) (E : En) (W : WX) (ifs : List Expr) (f : Env → R Bool) : Prop where
  pt : PTs X ifs (tT E W f)
def tYes : Env → R Bool := fun _ => .ok true
@[simp] theorem tYes_eq (ρ : Env) : tYes ρ = .ok true := rfl
section
variable {X : Cx} {E : En} {W : WX}
theorem pts_mono {es : List Expr} {t t' : TT} (h : PTs X es t) (i : ∀ σ H Q, t' σ H Q → t σ H Q) : PTs X es t' := ⟨fun pins s σ H Q I q => h.run pins s σ H Q I (i σ H Q q)⟩
theorem ets_nil : ETs X E W [] tYes := ⟨pts_mono pts_nil fun σ H Q ⟨F, ρ, s, q⟩ => q F H (Tr.refl s.fh)⟩
theorem ets_one {e : Expr} {f : Env → R Bool} (h : ET X E W e f) : ETs X E W [e] f := ⟨pts_one h.pt⟩
/-- exceptions are not let out of a block -/
def R.calm {α : Type} : R α → R α
  | .ok a => .ok a
  | _ => .no
@[simp] theorem R.calm_ok {α : Type} (a : α) : (R.ok a).calm = .ok a := rfl
@[simp] theorem R.calm_no {α : Type} : (R.no : R α).calm = .no := rfl
theorem R.calm_of {α β : Type} {r : R α} {f : α → R β} {P : β → Prop} {Ew : Nat → Prop} (h : Res (r.calm.bind f) P Ew) : ∃ a, r = .ok a ∧ Res (f a) P Ew := by
  cases r with
  | no => exact h.elim
  | ok a => exact ⟨a, rfl, h⟩
  | ex c => exact h.elim
def lcL (g : D → Env → Option Env) (t : Env → R Bool) (f : Env → R D) (ρ : Env) : List D → List D → R D
  | [], acc => .ok (.lst true acc)
  | d :: ds, acc => match g d ρ with
    | none => .no
    | some ρ1 => (t ρ1).calm.bind fun b => if b = true then (f ρ1).calm.bind fun y => if acc.length < 16777216 then lcL g t f ρ ds (acc ++ [y]) else .no else lcL g t f ρ ds acc
theorem lcL_nil (g : D → Env → Option Env) (t : Env → R Bool) (f : Env → R D) (ρ : Env) (acc : List D) : lcL g t f ρ [] acc = .ok (.lst true acc) := rfl
theorem lcL_cons (g : D → Env → Option Env) (t : Env → R Bool) (f : Env → R D) (ρ : Env) (d : D) (ds acc : List D) : lcL g t f ρ (d :: ds) acc = match g d ρ with
    | none => .no
    | some ρ1 => (t ρ1).calm.bind fun b => if b = true then (f ρ1).calm.bind fun y => if acc.length < 16777216 then lcL g t f ρ ds (acc ++ [y]) else .no else lcL g t f ρ ds acc := rfl
def eLc (it : Env → R (List D)) (g : D → Env → Option Env) (t : Env → R Bool) (f : Env → R D) (vs : List Nat) : Env → R D := fun ρ => (it ρ).bind fun ds => lcL g t f (wipeE ρ vs) ds []
@[simp] theorem eLc_eq (it : Env → R (List D)) (g : D → Env → Option Env) (t : Env → R Bool) (f : Env → R D) (vs : List Nat) (ρ : Env) : eLc it g t f vs ρ = (it ρ).bind fun ds => lcL g t f (wipeE ρ vs) ds [] := rfl
abbrev WN : WX := fun _ _ _ _ => False
theorem takes_no {X : Cx} : Takes X WN := fun u s' ⟨a, B, sI, pins, σ, H, cls, d, e, I, nb, up, sky, na, os, ag, w⟩ => w.elim
/-- a list under way: it is new, what it owns is new -/
structure Acc (k : Kx) (F1 H1 F H : Hp) (D0 : Addr) (acc : List D) : Prop where
  tr : Tr F1 H1 F H
  rp : ∃ vs A, H D0 = some (.lst vs) ∧ F D0 = none ∧ RpL k F H acc vs A ∧ (D0 :: A).Nodup ∧ ∀ a ∈ D0 :: A, H1 a = none
theorem Acc.start {k : Kx} {F H : Hp} {p : Addr} (fh : Ex F H) (h : H p = none) : Acc k F H F (upd H p (.lst [])) p [] := by
  have hf : F p = none := by
    cases q : F p with
    | none => rfl
    | some u => rw [fh p u q] at h; cases h
  exact ⟨tr_new fh h, [], [], upd_same, hf, ⟨rfl, rfl⟩, by simp, fun a ha => by rw [List.mem_singleton.mp ha]; exact h⟩
theorem Acc.next {k : Kx} {F1 H1 F H F' H' : Hp} {p : Addr} {acc : List D} (a : Acc k F1 H1 F H p acc) (t : Tr F H F' H') : Acc k F1 H1 F' H' p acc := by
  obtain ⟨vs, A, h1, h2, h3, h4, h5⟩ := a.rp
  exact ⟨a.tr.trans t, vs, A, t.hh _ _ h1, t.no _ h2 (by rw [h1]; exact fun z => nomatch z), h3.tr t, h4, h5⟩
theorem Acc.add {k : Kx} {F1 H1 F H F' H' : Hp} {p : Addr} {acc : List D} {d : D} {v : V} {A : List Addr} (a : Acc k F1 H1 F H p acc) (t : Tr F H F' H') (r : Rp k F' H' d v A) (nd : A.Nodup) (u : ∀ x ∈ A, H x = none) :
    ∃ vs, H' p = some (.lst vs) ∧ vs.length = acc.length ∧ Acc k F1 H1 F' (upd H' p (.lst (vs ++ [v]))) p (acc ++ [d]) := by
  obtain ⟨vs, B, g1, g2, g3, h4, h5⟩ := a.rp
  have pH : H p ≠ none := by rw [g1]; exact fun z => nomatch z
  have h1 := t.hh _ _ g1
  have h2 := t.no _ g2 pH
  have h3 := g3.tr t
  have pA : p ∉ A := fun z => pH (u p z)
  have pB : p ∉ B := (List.nodup_cons.mp h4).1
  have up : ∀ x, H1 x ≠ none → H x ≠ none := fun x hx => by
    cases q : H1 x with
    | none => exact absurd q hx
    | some o => rw [a.tr.hh x o q]; exact fun z => nomatch z
  have A1 : ∀ x ∈ A, H1 x = none := fun x hx => Classical.byContradiction fun z => up x z (u x hx)
  refine ⟨vs, h1, h3.len.symm, ⟨(a.next t).tr.ff, fun x o e => ?_, fun x o e => ?_, (a.next t).tr.no⟩, vs ++ [v], B ++ A, upd_same, h2, (h3.upd pB).append (RpL.one (r.upd pA)), ?_, fun x hx => ?_⟩
  · rw [upd_ne fun z => by rw [z, h5 p List.mem_cons_self] at e; cases e]
    exact (a.next t).tr.hh x o e
  · rw [upd_ne fun z => by rw [z, h2] at e; cases e]
    exact (a.next t).tr.fh x o e
  · refine List.nodup_cons.mpr ⟨fun z => (List.mem_append.mp z).elim pB pA, List.nodup_append.mpr ⟨(List.nodup_cons.mp h4).2, nd, fun x hx y hy z => ?_⟩⟩
    subst z
    obtain ⟨_, o, h6, _⟩ := RpL.dom _ _ _ g3 x hx
    rw [u x hy] at h6; cases h6
  · rcases List.mem_cons.mp hx with rfl | hx
    · exact h5 _ List.mem_cons_self
    · rcases List.mem_append.mp hx with hx | hx
      · exact h5 x (List.mem_cons_of_mem _ hx)
      · exact A1 x hx
/-- the block's context -/
theorem lc_imp {it : Env → R (List D)} {g : D → Env → Option Env} {t : Env → R Bool} {f : Env → R D} {vs : List Nat} (hb : ∀ v ∈ vs, v ∉ E.bs) {F H : Hp} {σ : L2.St} {ρ : Env} {Q : VK} (s : Stt E F H σ ρ)
    (q : Res (eLc it g t f vs ρ) (fun d => ∀ F' H' v A, Tr F H F' H' → Rp E.k F' H' d v A → A.Nodup → (∀ a ∈ A, H a = none) → Q v H') (fun c => ∀ F' H', Tr F H F' H' → W (E.ec c) none σ H')) :
    tLc (tI E W it) (tGw E g vs) (tT E WN t) (tO E WN f) vs σ H Q := by
  refine ⟨F, ρ, s, Res.mono q.bind (fun ds _ q F1 H1 J t1 wk p hp => ?_) fun c _ z F' H' t => z F' H' t⟩
  have s1 := s.tr t1
  refine ⟨fun i m H' => ∃ F' acc, Acc E.k F1 H1 F' H' p acc ∧ i ≤ ds.length ∧ m = ds.length - i ∧ Res (lcL g t f (wipeE ρ vs) (ds.drop i) acc) (fun d => ∀ F' H' v A, Tr F H F' H' → Rp E.k F' H' d v A → A.Nodup → (∀ a ∈ A, H a = none) → Q v H') (fun c => ∀ F' H', Tr F H F' H' → W (E.ec c) none σ H'), ⟨_, F1, [], Acc.start t1.fh hp, Nat.zero_le _, rfl, q⟩, ?_⟩
  rintro i m H' ⟨F', acc, ac, hi, rfl, q'⟩
  have fh' := ac.tr.fh
  by_cases hlt : i < ds.length
  · have ed : ds.drop i = ds[i] :: ds.drop (i + 1) := List.drop_eq_getElem_cons hlt
    rw [ed, lcL_cons] at q'
    refine .inr ⟨wk.go i hlt F' H' ac.tr.ff fh', fun H2 => ∃ F2 acc2, Acc E.k F1 H1 F2 H2 p acc2 ∧ Res (lcL g t f (wipeE ρ vs) (ds.drop (i + 1)) acc2) (fun d => ∀ F' H' v A, Tr F H F' H' → Rp E.k F' H' d v A → A.Nodup → (∀ a ∈ A, H a = none) → Q v H') (fun c => ∀ F' H', Tr F H F' H' → W (E.ec c) none σ H'), ?_, fun v H2 y => ?_⟩
    · rintro H2 ⟨F2, acc2, a2, q2⟩
      exact ⟨_, by omega, F2, acc2, a2, hlt, rfl, q2⟩
    · obtain ⟨pd, F2, t2, r2⟩ := wk.yld i ds[i] (List.getElem?_eq_getElem hlt) F' H' v H2 ac.tr.ff fh' y
      cases eg : g ds[i] (wipeE ρ vs) with
      | none => rw [eg] at q'; exact q'.elim
      | some ρ1 =>
        rw [eg] at q'
        have a2 := ac.next t2
        refine ⟨F2, wipeE ρ vs, ds[i], (s1.tr a2.tr).wipe hb, pd, r2, ρ1, eg, fun σ3 s3 w3 => ⟨w3.trans wipe_wipe, ?_⟩⟩
        obtain ⟨b, eb, q'⟩ := R.calm_of q'
        refine ⟨F2, ρ1, s3, ?_⟩
        rw [eb]
        show ∀ F' H', Tr F2 H2 F' H' → _
        intro F3 H3 t3
        have a3 := a2.next t3
        cases b with
        | false => exact ⟨F3, acc, a3, q'⟩
        | true =>
          obtain ⟨y, ey, q'⟩ := R.calm_of q'
          rw [if_pos rfl]
          refine ⟨F3, ρ1, s3.tr t3, ?_⟩
          rw [ey]
          show ∀ F' H' v A, Tr F3 H3 F' H' → _
          intro F4 H4 v4 A4 t4 r4 nd4 u4
          obtain ⟨ws, e1, e2, a4⟩ := a3.add t4 r4 nd4 u4
          by_cases hz : acc.length < 16777216
          · rw [if_pos hz] at q'
            exact ⟨ws, e1, Nat.lt_of_lt_of_eq (by rw [e2]; exact hz) sizeLine_eq.symm, F4, _, a4, q'⟩
          · rw [if_neg hz] at q'; exact q'.elim
  · have e : i = ds.length := by omega
    subst e
    rw [List.drop_length, lcL_nil] at q'
    obtain ⟨ws, A, h1, h2, h3, h4, h5⟩ := ac.rp
    refine .inl ⟨wk.stop F' H' ac.tr.ff fh', q' F' H' (.ref p) (p :: A) (t1.trans ac.tr) ⟨p, ws, A, rfl, h3, (fun z => nomatch z), fun _ => ⟨rfl, h2, h1⟩⟩ h4 fun a ha => none_back t1.hh (h5 a ha)⟩
theorem eo_lc {elt tg iter : Expr} {ifs : List Expr} {scope : Scope} {own : List (Str × Nat)} {pos : Pos} {it : Env → R (List D)} {g : D → Env → Option Env} {t : Env → R Bool} {f : Env → R D} (hc : X.calm = true) (hN : X.N.Nodup) (hi : EI X E W tg iter it) (ok : blkC X.N X.env.scope scope own = true)
    (hg : ∀ (s : Shared) (H : Hp) (C : Addr) (cl : List (Str × Addr)) (fp : List Addr), EGw (X.blk s H scope (compEnvC scope cl C X.env) fp) E (own.map (·.2)) tg g) (ht : ∀ (s : Shared) (H : Hp) (C : Addr) (cl : List (Str × Addr)) (fp : List Addr) (tk : Takes (X.blk s H scope (compEnvC scope cl C X.env) fp) WN), ETs (X.blk s H scope (compEnvC scope cl C X.env) fp) E WN ifs t)
    (he : ∀ (s : Shared) (H : Hp) (C : Addr) (cl : List (Str × Addr)) (fp : List Addr) (tk : Takes (X.blk s H scope (compEnvC scope cl C X.env) fp) WN), EO (X.blk s H scope (compEnvC scope cl C X.env) fp) E WN elt f) (hb : ∀ v ∈ own.map (·.2), v ∉ E.bs) (hs : ∀ x, foldedSetIterable iter X.env x = pure x := by intro _; rfl) :
    EO X E W (.ListComp elt [⟨tg, iter, ifs, 0⟩] scope pos) (eLc it g t f (own.map (·.2))) :=
  ⟨pe_mono (pe_lc hc hN hi.pi (blkOk_by ok) (fun s H C cl fp => (hg s H C cl fp).pg) (fun s H C cl fp => (ht s H C cl fp takes_no).pt) (fun s H C cl fp => (he s H C cl fp takes_no).pe) hs) fun σ H Q ⟨F, ρ, s, q⟩ => lc_imp hb s q⟩
theorem ss_setLc {i : Nat} {y : Str} {py : Pos} {elt tg iter : Expr} {ifs : List Expr} {scope : Scope} {own : List (Str × Nat)} {pos spos : Pos} {it : Env → R (List D)} {g : D → Env → Option Env} {t : Env → R Bool} {f : Env → R D} (hc : X.calm = true) (hN : X.N.Nodup) (hy : X.N[i]? = some y) (hyl : X.env.scope.names.lookup y = some .local) (hyb : i ∉ E.bs)
    (hk : X.env.scope.kind = .function) (hl : (py.line == pos.line) = true) (hsp : (pos.line == spos.line) = true) (ha : (scope.names.any fun (n, k) => n == y && (k == .local || k == .cell)) = false)
    (hi : EI X E W tg iter it) (ok : blkC X.N X.env.scope scope own = true)
    (hg : ∀ (s : Shared) (H : Hp) (C : Addr) (cl : List (Str × Addr)) (fp : List Addr), EGw (X.blk s H scope (compEnvC scope cl C X.env) fp) E (own.map (·.2)) tg g) (ht : ∀ (s : Shared) (H : Hp) (C : Addr) (cl : List (Str × Addr)) (fp : List Addr) (tk : Takes (X.blk s H scope (compEnvC scope cl C X.env) fp) WN), ETs (X.blk s H scope (compEnvC scope cl C X.env) fp) E WN ifs t)
    (he : ∀ (s : Shared) (H : Hp) (C : Addr) (cl : List (Str × Addr)) (fp : List Addr) (tk : Takes (X.blk s H scope (compEnvC scope cl C X.env) fp) WN), EO (X.blk s H scope (compEnvC scope cl C X.env) fp) E WN elt f) (hb : ∀ v ∈ own.map (·.2), v ∉ E.bs) (hs : ∀ x, foldedSetIterable iter X.env x = pure x := by intro _; rfl) :
    SS X E W (.Assign [.Name y py] (.ListComp elt [⟨tg, iter, ifs, 0⟩] scope pos) spos) (sAsg i (eLc it g t f (own.map (·.2)))) := by
  have hsw : swapsWith (.ListComp elt [⟨tg, iter, ifs, 0⟩] scope pos) (some (.Name y py)) spos.line X.env = pure true := by
    rw [← beq_iff_eq.mp hsp]
    exact sw_true hk hyl hl ha
  refine ⟨ps_mono (ps_setLc hc hN hy hyl hsw hi.pi (blkOk_by ok) (fun s H C cl fp => (hg s H C cl fp).pg) (fun s H C cl fp => (ht s H C cl fp takes_no).pt) (fun s H C cl fp => (he s H C cl fp takes_no).pe) hs) fun Z σ H h => ?_⟩
  obtain ⟨F, ρ, s, q⟩ := h
  refine lc_imp hb s (Res.mono q.st (fun d _ q F1 H1 v A t1 r1 nd u => ?_) fun c _ z => SRes.exc s z)
  exact q F1 H1 _ t1.ff (s.set t1 r1 nd u hyb)
end
end Dv
end
section
set_option maxRecDepth 100000
set_option maxHeartbeats 1000000
namespace Dv
open PySem PySem.Spec PyProof.Rows L2

section
variable {X : Cx} {E : En} {W : WX}
/-! ### lists that change, once more -/
theorem Sl.tr {F H F' H' : Hp} {σ : L2.St} {ρ : Env} {fp : Nat → List Addr} (sl : Sl E F H σ ρ fp) (t : Tr F H F' H') : Sl E F' H' σ ρ fp :=
  ⟨fun j d e => let ⟨v, ev, r⟩ := sl.rp j d e; ⟨v, ev, r.tr t⟩, sl.em, sl.nd, sl.dj, sl.nw⟩
/-- the list in a slot may get other items: what it owned, or what is new -/
theorem Stt.lst {F H : Hp} {σ : L2.St} {ρ : Env} {fp : Nat → List Addr} {i : Nat} {xs : List D} (s : Stt E F H σ ρ) (sl : Sl E F H σ ρ fp) (e : ρ[i]? = some (some (.lst true xs))) :
    ∃ l vs B, σ[i]? = some (some (.ref l)) ∧ H l = some (.lst vs) ∧ RpL E.k F H xs vs B ∧ (∀ a ∈ B, a ∈ fp i) ∧ B.Nodup ∧
      ∀ xs' vs' C, RpL E.k F H xs' vs' C → C.Nodup → (∀ a ∈ C, a ∈ B ∨ (E.He a = none ∧ ∀ j, a ∉ fp j)) → Stt E F (upd H l (.lst vs')) σ (ρ.set i (some (.lst true xs'))) := by
  obtain ⟨v, ev, r⟩ := sl.rp i _ e
  obtain ⟨l, vs, B, rfl, eA, fl, hl, rl⟩ := lstO r
  have lfp : l ∈ fp i := by rw [eA]; exact List.mem_cons_self
  have Bfp : ∀ a ∈ B, a ∈ fp i := fun a ha => by rw [eA]; exact List.mem_cons_of_mem _ ha
  have ndi := sl.nd i
  rw [eA] at ndi
  have lB : l ∉ B := (List.nodup_cons.mp ndi).1
  refine ⟨l, vs, B, ev, hl, rl, Bfp, (List.nodup_cons.mp ndi).2, fun xs' vs' C rC nC uC => ?_⟩
  have lC : l ∉ C := fun z => (uC l z).elim lB fun h => h.2 i lfp
  refine s.write sl (v := .ref l) (A' := l :: C) lfp ev ⟨l, vs', C, rfl, rC.upd lC, (fun z => nomatch z), fun _ => ⟨rfl, fl, upd_same⟩⟩ (List.nodup_cons.mpr ⟨lC, nC⟩) fun a ha => ?_
  rcases List.mem_cons.mp ha with rfl | ha
  · exact .inl lfp
  · exact (uC a ha).imp_left fun h => Bfp a h
/-- what is new stands in no slot -/
theorem Stt.fresh {F H : Hp} {σ : L2.St} {ρ : Env} {fp : Nat → List Addr} (s : Stt E F H σ ρ) (sl : Sl E F H σ ρ fp) {a : Addr} (u : H a = none) : E.He a = none ∧ ∀ j, a ∉ fp j :=
  ⟨s.new u, fun j hj => (sl.there hj).2 u⟩
def ixK (n : Nat) (i : Int) : Option Nat := L2.ixN n i
/-- name[i] = e -/
def sSet (i : Nat) (fi f : Env → R D) : Env → SR := fun ρ => (f ρ).st ρ fun d => onL i ρ fun xs => (fi ρ).st ρ fun j => match j with
  | .int j => match L2.ixN xs.length j with
    | some k => .nx (ρ.set i (some (.lst true (xs.set k d))))
    | none => .no
  | _ => .no
@[simp] theorem sSet_eq (i : Nat) (fi f : Env → R D) (ρ : Env) : sSet i fi f ρ = (f ρ).st ρ fun d => onL i ρ fun xs => (fi ρ).st ρ fun j => match j with
  | .int j => match L2.ixN xs.length j with
    | some k => .nx (ρ.set i (some (.lst true (xs.set k d))))
    | none => .no
  | _ => .no := rfl
theorem ss_setL {i : Nat} {o ix e : Expr} {fi f : Env → R D} {sp pos : Pos} (ho : PE X o (tVar i)) (h : EO X E W e f) (hx : EV X E W ix fi)
    (ha : ∀ v, assign (.Subscript o ix sp) X.env v = (do
      let ov ← holding [v] (eval o X.env)
      let iv ← holding [v, ov] (eval ix X.env)
      standAt sp
      holding [v, ov, iv] (setItem ov iv v)
      release [v, ov, iv] []) := by intro _; rfl)
    (hs : swapsWithSole [.Subscript o ix sp] e pos.line X.env = pure false := by rfl) (hw : swappedStores [.Subscript o ix sp] e X.env = pure none := by rfl)
    (h1 : (assignEach [.Subscript o ix sp] X.env).map (·.2) = [assign (.Subscript o ix sp) X.env] := by rfl) :
    SS X E W (.Assign [.Subscript o ix sp] e pos) (sSet i fi f) := by
  refine ⟨ps_mono (ps_asg h.pe (pg_sub ho hx.pe set_list ha) hs hw h1) fun Z σ H h => ?_⟩
  obtain ⟨F, ρ, s, q⟩ := h
  refine ⟨F, ρ, s, Res.mono q.st (fun d _ q F1 H1 w A t1 r1 nd u => ?_) fun c _ z => SRes.exc s z⟩
  obtain ⟨xs, e, q⟩ := onL_of q
  obtain ⟨fp, sl⟩ := s.sl
  obtain ⟨v, ev, r⟩ := sl.rp i _ e
  refine ⟨v, ev, F1, ρ, s.tr t1, Res.mono q.st (fun j _ q F2 H2 jv B t2 r2 => ?_) fun c _ z F' H' t => SRes.exc s z F' H' (t1.trans t)⟩
  cases j with
  | int j =>
    have q : SRes E W F Z (match L2.ixN xs.length j with
      | some k => .nx (ρ.set i (some (.lst true (xs.set k d))))
      | none => .no) := q
    have t12 := t1.trans t2
    obtain ⟨l, vs, B, ev', hl, rl, Bfp, nB, wr⟩ := (s.tr t12).lst (sl.tr t12) e
    rw [ev] at ev'
    cases ev'
    cases ek : L2.ixN xs.length j with
    | none => rw [ek] at q; exact q.elim
    | some k =>
      rw [ek] at q
      have hk := (L2.ixN_seq ek).2.1
      refine ⟨l, vs, j, k, rfl, r2.1, hl, by rw [← rl.len]; exact ek, q F2 _ σ t12.ff ?_⟩
      obtain ⟨A1, A2, A3, eB, rn⟩ := rl.set (r1.tr t2) hk
      have new : ∀ a ∈ A, E.He a = none ∧ ∀ j, a ∉ fp j := fun a ha => s.fresh sl (u a ha)
      rw [eB] at nB
      refine wr _ _ _ rn ?_ fun a ha => ?_
      · have n13 : (A1 ++ A3).Nodup := by
          have := List.nodup_append.mp nB
          have h12 := List.nodup_append.mp this.1
          exact List.nodup_append.mpr ⟨h12.1, this.2.1, fun a ha b hb => this.2.2 a (List.mem_append_left _ ha) b hb⟩
        have h13 := List.nodup_append.mp n13
        refine List.nodup_append.mpr ⟨List.nodup_append.mpr ⟨h13.1, nd, fun a ha b hb z => ?_⟩, h13.2.1, fun a ha b hb z => ?_⟩
        · subst z
          exact (new a hb).2 i (Bfp a (by rw [eB]; simp [ha]))
        · rcases List.mem_append.mp ha with ha | ha
          · exact h13.2.2 a ha b hb z
          · subst z
            exact (new a ha).2 i (Bfp a (by rw [eB]; simp [hb]))
      · rcases List.mem_append.mp ha with ha | ha
        · rcases List.mem_append.mp ha with ha | ha
          · exact .inl (by rw [eB]; simp [ha])
          · exact .inr (new a ha)
        · exact .inl (by rw [eB]; simp [ha])
  | _ => exact q.elim
/-- name.extend(e) -/
def lstD : D → Option (List D)
  | .lst _ ys => if D.pureL ys = true then some ys else none
  | _ => none
@[simp] theorem lstD_lst (o : Bool) (ys : List D) : lstD (.lst o ys) = if D.pureL ys = true then some ys else none := rfl
def sExt (i : Nat) (f : Env → R D) : Env → SR := fun ρ => onL i ρ fun xs => (f ρ).st ρ fun d => match lstD d with
  | some ys => if xs.length + ys.length ≤ 16777216 then .nx (ρ.set i (some (.lst true (xs ++ ys)))) else .no
  | none => .no
@[simp] theorem sExt_eq (i : Nat) (f : Env → R D) (ρ : Env) : sExt i f ρ = onL i ρ fun xs => (f ρ).st ρ fun d => match lstD d with
  | some ys => if xs.length + ys.length ≤ 16777216 then .nx (ρ.set i (some (.lst true (xs ++ ys)))) else .no
  | none => .no := rfl
theorem ss_ext {i : Nat} {o e : Expr} {f : Env → R D} {apos cpos pos : Pos} (ho : PE X o (tVar i)) (h : EV X E W e f) (hs : swapsWith (.Call (.Attribute o "extend" apos) [e] [] cpos) none pos.line X.env = pure false := by rfl)
    (hbase : attributeBase o "extend" X.env (eval o X.env) = eval o X.env := by rfl)
    (hfew : ((backTo cpos (starEach [e] X.env)).all (fun x => !x.1) && (backToKw cpos (keywordEach [] X.env)).all (fun x => x.1.isSome)
      && decide ([e].length + ([] : List Keyword).length + (if ([] : List Keyword).isEmpty then 0 else 1) < 30)) = true := by rfl)
    (hline : (apos.endLine == cpos.line) = true := by rfl) (hst : starEach [e] X.env = (false, eval e X.env) :: starEach [] X.env := by rfl) (hplain : (backTo cpos (starEach [] X.env)).any (·.1) = false := by rfl) :
    SS X E W (.Expr (.Call (.Attribute o "extend" apos) [e] [] cpos) pos) (sExt i f) := by
  refine ⟨ps_mono (ps_expr (pe_bm PySem.F.plainAttrs_list PySem.F.slot_list_extend PySem.F.type_list_extend mt_extend ho (pa_cons h.pe pa_nil hst) hbase hfew hline hst hplain) hs) fun Z σ H h => ?_⟩
  obtain ⟨F, ρ, s, q⟩ := h
  obtain ⟨xs, e, q⟩ := onL_of q
  obtain ⟨fp, sl⟩ := s.sl
  obtain ⟨v, ev, r⟩ := sl.rp i _ e
  refine ⟨v, ev, ty_lst s.fh r, F, ρ, s, Res.mono q.st (fun d _ q F1 H1 w A t1 r1 => ?_) fun c _ z => SRes.exc s z⟩
  cases ed : lstD d with
  | none => rw [ed] at q; exact q.elim
  | some ys =>
    rw [ed] at q
    have q : SRes E W F Z (if xs.length + ys.length ≤ 16777216 then .nx (ρ.set i (some (.lst true (xs ++ ys)))) else .no) := q
    by_cases hz : xs.length + ys.length ≤ 16777216
    · rw [if_pos hz] at q
      obtain ⟨l, vs, B, ev', hl, rl, Bfp, nB, wr⟩ := (s.tr t1).lst (sl.tr t1) e
      rw [ev] at ev'
      cases ev'
      cases d with
      | lst o zs =>
        obtain ⟨p, e2⟩ := if_some (show (if D.pureL zs = true then some zs else none) = some ys from ed)
        subst e2
        obtain ⟨b, ws, C, rfl, hb, rw1⟩ := Rp.lstW t1.fh r1
        have rw0 : RpL E.k F1 H1 zs ws [] := RpL.pure p (.refl _) rw1
        refine ⟨l, b, vs, ws, rfl, rfl, hl, hb, (by rw [sizeLine_eq, ← rl.len, ← rw0.len]; exact hz), q F1 _ σ t1.ff ?_⟩
        exact wr _ _ _ (rl.append rw0) (by rw [List.append_nil]; exact nB) fun a ha => .inl (by rw [List.append_nil] at ha; exact ha)
      | _ => cases ed
    · rw [if_neg hz] at q; exact q.elim
/-- name.clear() -/
def sClr (i : Nat) : Env → SR := fun ρ => onL i ρ fun _ => .nx (ρ.set i (some (.lst true [])))
@[simp] theorem sClr_eq (i : Nat) (ρ : Env) : sClr i ρ = onL i ρ fun _ => .nx (ρ.set i (some (.lst true []))) := rfl
theorem ss_clr {i : Nat} {o : Expr} {apos cpos pos : Pos} (ho : PE X o (tVar i)) (hs : swapsWith (.Call (.Attribute o "clear" apos) [] [] cpos) none pos.line X.env = pure false := by rfl)
    (hbase : attributeBase o "clear" X.env (eval o X.env) = eval o X.env := by rfl) (hline : (apos.endLine == cpos.line) = true := by rfl) :
    SS X E W (.Expr (.Call (.Attribute o "clear" apos) [] [] cpos) pos) (sClr i) := by
  refine ⟨ps_mono (ps_expr (pe_bm0 PySem.F.plainAttrs_list PySem.F.slot_list_clear PySem.F.type_list_clear mt_clear ho hbase hline) hs) fun Z σ H h => ?_⟩
  obtain ⟨F, ρ, s, q⟩ := h
  obtain ⟨xs, e, q⟩ := onL_of q
  obtain ⟨fp, sl⟩ := s.sl
  obtain ⟨v, ev, r⟩ := sl.rp i _ e
  obtain ⟨l, vs, B, ev', hl, rl, Bfp, nB, wr⟩ := s.lst sl e
  rw [ev] at ev'
  cases ev'
  exact ⟨_, ev, ty_lst s.fh r, l, vs, rfl, rfl, hl, q F _ σ (.refl _) (wr [] [] [] ⟨rfl, rfl⟩ .nil fun a z => nomatch z)⟩

/-! ### more to walk -/
/-- a list (true) or a tuple (false) that stands -/
def seqD : D → Option (Bool × List D)
  | .lst false xs => if D.pureL xs = true then some (true, xs) else none
  | .scr xs => if D.pureL xs = true then some (true, xs) else none
  | .tup xs => if D.pureL xs = true then some (false, xs) else none
  | _ => none
@[simp] theorem seqD_lst (xs : List D) : seqD (.lst false xs) = if D.pureL xs = true then some (true, xs) else none := rfl
@[simp] theorem seqD_tup (xs : List D) : seqD (.tup xs) = if D.pureL xs = true then some (false, xs) else none := rfl
@[simp] theorem seqD_scr (xs : List D) : seqD (.scr xs) = if D.pureL xs = true then some (true, xs) else none := rfl
def SqB (b : Bool) (K : PySem.W.Frag) (H : Hp) (a : Addr) (vs : List V) : Prop := match b with
  | true => SqL K H a vs
  | false => SqT K H a vs
theorem seq_of {F H : Hp} {d : D} {v : V} {A : List Addr} {b : Bool} {ds : List D} (r : Rp E.k F H d v A) (e : seqD d = some (b, ds)) : D.pureL ds = true ∧ ∃ a vs, v = .ref a ∧ SqB b E.k.K F a vs ∧ RpL E.k F H ds vs [] := by
  cases d with
  | lst o xs =>
    cases o with
    | false =>
      obtain ⟨z, e⟩ := if_some (show (if D.pureL xs = true then some (true, xs) else none) = some (b, ds) from e)
      cases e
      obtain ⟨a, vs, B, rfl, r, h1, h2⟩ := r
      exact ⟨z, a, vs, rfl, .inl (.inl (h1 rfl).1), RpL.pure z (.refl _) r⟩
    | true => cases e
  | tup xs =>
    obtain ⟨z, e⟩ := if_some (show (if D.pureL xs = true then some (false, xs) else none) = some (b, ds) from e)
    cases e
    obtain ⟨a, vs, rfl, s, r⟩ := r
    exact ⟨z, a, vs, rfl, s, RpL.pure z (.refl _) r⟩
  | scr xs =>
    obtain ⟨z, e⟩ := if_some (show (if D.pureL xs = true then some (true, xs) else none) = some (b, ds) from e)
    cases e
    obtain ⟨a, vs, rfl, _, s, r⟩ := r
    exact ⟨z, a, vs, rfl, s, RpL.pure z (.refl _) r⟩
  | _ => cases e
/-- pairs -/
def zipD : List D → List D → List D
  | x :: xs, y :: ys => .tup [x, y] :: zipD xs ys
  | _, _ => []
@[simp] theorem zipD_cons (x y : D) (xs ys : List D) : zipD (x :: xs) (y :: ys) = .tup [x, y] :: zipD xs ys := rfl
@[simp] theorem zipD_nil (ys : List D) : zipD [] ys = [] := by cases ys <;> rfl
@[simp] theorem zipD_nil' (xs : List D) : zipD xs [] = [] := by cases xs <;> rfl
theorem zipD_get : ∀ {xs ys : List D} {i : Nat} {d : D}, (zipD xs ys)[i]? = some d → ∃ x y, xs[i]? = some x ∧ ys[i]? = some y ∧ d = .tup [x, y]
  | x :: xs, y :: ys, 0, d, h => ⟨x, y, rfl, rfl, by simpa using h.symm⟩
  | x :: xs, y :: ys, i + 1, d, h => by simpa using zipD_get (xs := xs) (ys := ys) (i := i) (by simpa using h)
  | [], ys, i, d, h => by rw [zipD_nil] at h; simp at h
  | x :: xs, [], i, d, h => by rw [zipD_nil'] at h; simp at h
theorem zipD_len : ∀ {xs ys : List D}, (zipD xs ys).length = min xs.length ys.length
  | x :: xs, y :: ys => by rw [zipD_cons, List.length_cons, List.length_cons, List.length_cons, zipD_len]; omega
  | [], ys => by simp
  | x :: xs, [] => by simp
def ItzB (b : Bool) (K : PySem.W.Frag) (a c : Addr) : It := match b with
  | true => Itz K a c
  | false => RZ.ItzT K a c
theorem pure_tup2 {x y : D} (hx : x.pure = true) (hy : y.pure = true) : (D.tup [x, y]).pure = true := by simp [D.pure, D.pureL, hx, hy]
theorem rp_pair {k : Kx} {F H : Hp} {x y : D} {v w : V} {T : Addr} (fh : Ex F H) (hT : H T = none) (rx : Rp k F H x v []) (ry : Rp k F H y w []) : Tr F H (upd F T (.tup [v, w])) (upd H T (.tup [v, w])) ∧ Rp k (upd F T (.tup [v, w])) (upd H T (.tup [v, w])) (.tup [x, y]) (.ref T) [] := by
  have t := tr_newF (o := .tup [v, w]) fh hT
  exact ⟨t, T, [v, w], rfl, .inl (.inl upd_same), v, [w], [], [], rfl, rfl, rx.tr t, w, [], [], [], rfl, rfl, ry.tr t, rfl, rfl⟩
theorem wk_zip {k : Kx} {F H : Hp} {b : Bool} {a c : Addr} {vs ws : List V} {xs ys : List D} (sa : SqB b k.K F a vs) (sb : SqB b k.K F c ws) (px : D.pureL xs = true) (py : D.pureL ys = true) (rx : RpL k F H xs vs []) (ry : RpL k F H ys ws []) :
    Wk k (ItzB b k.K a c) F (zipD xs ys) := by
  have hx := rx.len
  have hy := ry.len
  cases b with
  | true =>
    refine ⟨fun i hi F' H' x y => ?_, fun F' H' x y => ?_, fun i d e F' H' v H'' x y h => ?_⟩
    · rw [zipD_len] at hi
      exact ⟨vs, ws, vs[i]'(by omega), ws[i]'(by omega), ex_l (x.trans y) sa, ex_l (x.trans y) sb, List.getElem?_eq_getElem _, List.getElem?_eq_getElem _⟩
    · refine ⟨vs, ws, ex_l (x.trans y) sa, ex_l (x.trans y) sb, ?_⟩
      rw [zipD_len]; omega
    · obtain ⟨T, v1, v2, rfl, hT, rfl, h1, h2⟩ := h
      obtain ⟨d1, d2, e1, e2, rfl⟩ := zipD_get e
      obtain ⟨w1, g1, r1⟩ := rx.get0 e1
      obtain ⟨w2, g2, r2⟩ := ry.get0 e2
      have := (h1 vs (ex_l (x.trans y) sa)).symm.trans g1
      cases this
      have := (h2 ws (ex_l (x.trans y) sb)).symm.trans g2
      cases this
      obtain ⟨t, r⟩ := rp_pair y hT (Rp.pure (H' := H') (pureL_get px e1) x r1) (Rp.pure (H' := H') (pureL_get py e2) x r2)
      exact ⟨pure_tup2 (pureL_get px e1) (pureL_get py e2), _, t, r⟩
  | false =>
    refine ⟨fun i hi F' H' x y => ?_, fun F' H' x y => ?_, fun i d e F' H' v H'' x y h => ?_⟩
    · rw [zipD_len] at hi
      exact ⟨vs, ws, vs[i]'(by omega), ws[i]'(by omega), ex_t (x.trans y) sa, ex_t (x.trans y) sb, List.getElem?_eq_getElem _, List.getElem?_eq_getElem _⟩
    · refine ⟨vs, ws, ex_t (x.trans y) sa, ex_t (x.trans y) sb, ?_⟩
      rw [zipD_len]; omega
    · obtain ⟨T, v1, v2, rfl, hT, rfl, h1, h2⟩ := h
      obtain ⟨d1, d2, e1, e2, rfl⟩ := zipD_get e
      obtain ⟨w1, g1, r1⟩ := rx.get0 e1
      obtain ⟨w2, g2, r2⟩ := ry.get0 e2
      have := (h1 vs (ex_t (x.trans y) sa)).symm.trans g1
      cases this
      have := (h2 ws (ex_t (x.trans y) sb)).symm.trans g2
      cases this
      obtain ⟨t, r⟩ := rp_pair y hT (Rp.pure (H' := H') (pureL_get px e1) x r1) (Rp.pure (H' := H') (pureL_get py e2) x r2)
      exact ⟨pure_tup2 (pureL_get px e1) (pureL_get py e2), _, t, r⟩
def zip2 : List D → Option (List D)
  | [x, y] => match seqD x, seqD y with
    | some (b, xs), some (c, ys) => if b = c then some (zipD xs ys) else none
    | _, _ => none
  | _ => none
@[simp] theorem zip2_eq (x y : D) : zip2 [x, y] = match seqD x, seqD y with
    | some (b, xs), some (c, ys) => if b = c then some (zipD xs ys) else none
    | _, _ => none := rfl
theorem ei_zip {e e2 : Expr} {fs : Env → R (List D)} {p pos tpos : Pos} {elts : List Expr} {kk : Nat} (hK : E.k.K = X.K) (hg : Gl X "zip") (hm : X.mg "zip" = none) (ha : EA X E W [e, e2] fs)
    (hs : starEach [e, e2] X.env = (false, eval e X.env) :: starEach [e2] X.env := by rfl) (hpl : (backTo pos (starEach [e2] X.env)).any (·.1) = false := by rfl) :
    EI X E W (.Tuple elts kk tpos) (.Call (.Name "zip" p) [e, e2] [] pos) (iA zip2 fs) := by
  refine ⟨pi_mono (RZ.pi_zipA hg hm ha.pa hs hpl) fun σ H P q => ?_⟩
  obtain ⟨F, ρ, s, q⟩ := q
  refine ⟨F, ρ, s, Res.mono q.bind (fun ds he q F1 H1 vs t1 r1 => ?_) fun c _ z F' H' t => z F' H' t⟩
  obtain ⟨es, e, p⟩ := Res.opt q
  clear he
  unfold zip2 at e
  split at e
  · rename_i x y
    split at e
    · rename_i b xs c ys ex ey
      obtain ⟨z, e⟩ := if_some e
      cases e
      cases z
      obtain ⟨v, w, A, B, rfl, rx, ry⟩ := Vw.two r1
      obtain ⟨px, a, ws, rfl, sa, q1⟩ := seq_of rx ex
      obtain ⟨py, a2, ws2, rfl, sb, q2⟩ := seq_of ry ey
      have wk := p F1 H1 _ t1 (wk_zip sa sb px py q1 q2)
      rw [← hK]
      refine ⟨a, a2, ws, ws2, rfl, ?_⟩
      cases b with
      | true => exact .inl ⟨ex_l t1.fh sa, ex_l t1.fh sb, wk⟩
      | false => exact .inr ⟨ex_t t1.fh sa, ex_t t1.fh sb, wk⟩
    · cases e
  · cases e
/-! enumerate -/
def enumD : Nat → List D → List D
  | _, [] => []
  | n, x :: xs => .tup [.int (n : Nat), x] :: enumD (n + 1) xs
@[simp] theorem enumD_nil (n : Nat) : enumD n [] = [] := rfl
@[simp] theorem enumD_cons (n : Nat) (x : D) (xs : List D) : enumD n (x :: xs) = .tup [.int (n : Nat), x] :: enumD (n + 1) xs := rfl
theorem enumD_len : ∀ {n : Nat} {xs : List D}, (enumD n xs).length = xs.length
  | _, [] => rfl
  | n, x :: xs => by rw [enumD_cons, List.length_cons, List.length_cons, enumD_len]
theorem enumD_get : ∀ {xs : List D} {n i : Nat}, (enumD n xs)[i]? = xs[i]?.map fun x => .tup [.int ((n + i : Nat) : Int), x]
  | [], n, i => by simp
  | x :: xs, n, 0 => by simp
  | x :: xs, n, i + 1 => by
    rw [enumD_cons, List.getElem?_cons_succ, enumD_get, List.getElem?_cons_succ]
    congr 1
    funext y
    rw [show n + 1 + i = n + (i + 1) by omega]
theorem wk_enum {k : Kx} {F H : Hp} {a : Addr} {vs : List V} {xs : List D} (sa : SqL k.K F a vs) (px : D.pureL xs = true) (rx : RpL k F H xs vs []) : Wk k (Ite k.K a) F (enumD 0 xs) := by
  have hx := rx.len
  refine ⟨fun i hi F' H' x y => ?_, fun F' H' x y => ?_, fun i d e F' H' v H'' x y h => ?_⟩
  · rw [enumD_len] at hi
    exact ⟨vs, vs[i]'(by omega), ex_l (x.trans y) sa, List.getElem?_eq_getElem _⟩
  · refine ⟨vs, ex_l (x.trans y) sa, ?_⟩
    rw [enumD_len]; omega
  · obtain ⟨T, v1, rfl, hT, rfl, h1⟩ := h
    rw [enumD_get] at e
    cases e1 : xs[i]? with
    | none => rw [e1] at e; cases e
    | some d1 =>
      rw [e1] at e
      cases e
      obtain ⟨w1, g1, r1⟩ := rx.get0 e1
      have := (h1 vs (ex_l (x.trans y) sa)).symm.trans g1
      cases this
      have ri : Rp k F' H' (.int ((0 + i : Nat) : Int)) (.int (i : Nat)) [] := by rw [Nat.zero_add]; exact ⟨rfl, rfl⟩
      obtain ⟨t, r⟩ := rp_pair y hT ri (Rp.pure (H' := H') (pureL_get px e1) x r1)
      exact ⟨pure_tup2 rfl (pureL_get px e1), _, t, r⟩
def enum1 : List D → Option (List D)
  | [x] => match seqD x with
    | some (true, xs) => some (enumD 0 xs)
    | _ => none
  | _ => none
@[simp] theorem enum1_eq (x : D) : enum1 [x] = match seqD x with
    | some (true, xs) => some (enumD 0 xs)
    | _ => none := rfl
theorem ei_enum {e : Expr} {fs : Env → R (List D)} {p pos tpos : Pos} {elts : List Expr} {kk : Nat} (hK : E.k.K = X.K) (hg : Gl X "enumerate") (hm : X.mg "enumerate" = none) (ha : EA X E W [e] fs) (hs : starEach [e] X.env = [(false, eval e X.env)] := by rfl) :
    EI X E W (.Tuple elts kk tpos) (.Call (.Name "enumerate" p) [e] [] pos) (iA enum1 fs) := by
  refine ⟨pi_mono (pi_enum hg hm ha.pa hs) fun σ H P q => ?_⟩
  obtain ⟨F, ρ, s, q⟩ := q
  refine ⟨F, ρ, s, Res.mono q.bind (fun ds he q F1 H1 vs t1 r1 => ?_) fun c _ z F' H' t => z F' H' t⟩
  obtain ⟨es, e, p⟩ := Res.opt q
  clear he
  unfold enum1 at e
  split at e
  · rename_i x
    split at e
    · rename_i xs ex
      cases e
      obtain ⟨v, A, rfl, rx⟩ := Vw.one r1
      obtain ⟨px, a, ws, rfl, sa, q1⟩ := seq_of rx ex
      have wk := p F1 H1 _ t1 (wk_enum sa px q1)
      rw [hK] at wk
      have sa : SqL E.k.K F1 a ws := sa
      rw [hK] at sa
      exact ⟨a, ws, rfl, ex_l t1.fh sa, wk⟩
    · cases e
  · cases e
/-! reversed -/
theorem wk_rev {k : Kx} {F H : Hp} {b : Bool} {a : Addr} {vs : List V} {xs : List D} (sa : SqB b k.K F a vs) (px : D.pureL xs = true) (rx : RpL k F H xs vs []) : Wk k (match b with | true => Itv k.K a vs.length | false => RT.ItvT k.K a vs.length) F xs.reverse := by
  have hx := rx.len
  cases b with
  | true =>
    refine ⟨fun i hi F' H' x y => ?_, fun F' H' x y => ?_, fun i d e F' H' v H'' x y h => ?_⟩
    · rw [List.length_reverse] at hi
      exact ⟨by omega, vs, vs[vs.length - 1 - i]'(by omega), ex_l (x.trans y) sa, List.getElem?_eq_getElem _⟩
    · show vs.length ≤ _
      rw [List.length_reverse]; omega
    · obtain ⟨rfl, h1⟩ := h
      have hi : i < xs.length := by
        have := (List.getElem?_eq_some_iff.mp e).1
        rw [List.length_reverse] at this; exact this
      rw [List.getElem?_reverse hi] at e
      obtain ⟨w1, g1, r1⟩ := rx.get0 e
      have := h1 vs (ex_l (x.trans y) sa)
      rw [← hx, g1] at this
      cases this
      exact ⟨pureL_get px e, F', Tr.refl y, Rp.pure (pureL_get px e) x r1⟩
  | false =>
    refine ⟨fun i hi F' H' x y => ?_, fun F' H' x y => ?_, fun i d e F' H' v H'' x y h => ?_⟩
    · rw [List.length_reverse] at hi
      exact ⟨by omega, vs, vs[vs.length - 1 - i]'(by omega), ex_t (x.trans y) sa, List.getElem?_eq_getElem _⟩
    · show vs.length ≤ _
      rw [List.length_reverse]; omega
    · obtain ⟨rfl, h1⟩ := h
      have hi : i < xs.length := by
        have := (List.getElem?_eq_some_iff.mp e).1
        rw [List.length_reverse] at this; exact this
      rw [List.getElem?_reverse hi] at e
      obtain ⟨w1, g1, r1⟩ := rx.get0 e
      have := h1 vs (ex_t (x.trans y) sa)
      rw [← hx, g1] at this
      cases this
      exact ⟨pureL_get px e, F', Tr.refl y, Rp.pure (pureL_get px e) x r1⟩
def revD (d : D) : Option (List D) := (seqD d).map fun x => x.2.reverse
@[simp] theorem revD_eq (d : D) : revD d = (seqD d).map fun x => x.2.reverse := rfl
/-- looked at; an own one is frozen for the walk -/
def iRev (f : Env → R D) : Env → R (List D) := fun ρ => (f ρ).bind fun d => R.opt (revD d)
@[simp] theorem iRev_eq (f : Env → R D) (ρ : Env) : iRev f ρ = (f ρ).bind fun d => R.opt (revD d) := rfl
def iRevO (f : Env → R D) : Env → R (List D) := fun ρ => (f ρ).bind fun d => if d.cold = true then R.opt (revD d.frz) else .no
@[simp] theorem iRevO_eq (f : Env → R D) (ρ : Env) : iRevO f ρ = (f ρ).bind fun d => if d.cold = true then R.opt (revD d.frz) else .no := rfl
theorem rev_seq {F H F1 H1 : Hp} {d : D} {v : V} {A : List Addr} {ds : List D} {P : It → Hp → Prop} (t1 : Tr F H F1 H1) (r1 : Rp E.k F1 H1 d v A) (e : revD d = some ds) (p : ∀ F' H' J, Tr F H F' H' → Wk E.k J F' ds → P J H') :
    ∃ (a : Addr) (xs : List V), v = .ref a ∧ ((SqL E.k.K H1 a xs ∧ P (Itv E.k.K a xs.length) H1) ∨ (SqT E.k.K H1 a xs ∧ P (RT.ItvT E.k.K a xs.length) H1)) := by
  cases ex : seqD d with
  | none => rw [revD_eq, ex] at e; cases e
  | some x =>
    obtain ⟨b, xs⟩ := x
    rw [revD_eq, ex] at e
    cases e
    obtain ⟨px, a, ws, rfl, sa, r1⟩ := seq_of r1 ex
    have wk := p F1 H1 _ t1 (wk_rev sa px r1)
    refine ⟨a, ws, rfl, ?_⟩
    cases b with
    | true => exact .inl ⟨ex_l t1.fh sa, wk⟩
    | false => exact .inr ⟨ex_t t1.fh sa, wk⟩
theorem ei_rev {tg e : Expr} {f : Env → R D} {p pos : Pos} (hK : E.k.K = X.K) (hg : Gl X "reversed") (hm : X.mg "reversed" = none) (h : EV X E W e f) (hs : starEach [e] X.env = (false, eval e X.env) :: starEach [] X.env := by rfl) :
    EI X E W tg (.Call (.Name "reversed" p) [e] [] pos) (iRev f) := by
  refine ⟨pi_mono (RT.pi_revA hg hm h.pe hs) fun σ H P q => ?_⟩
  obtain ⟨F, ρ, s, q⟩ := q
  refine ⟨F, ρ, s, Res.mono q.bind (fun d _ q F1 H1 v A t1 r1 => ?_) fun c _ z F' H' t => z F' H' t⟩
  obtain ⟨ds, e, p⟩ := Res.opt q
  rw [← hK]
  exact rev_seq t1 r1 e p
theorem ei_revO {tg e : Expr} {f : Env → R D} {p pos : Pos} (hK : E.k.K = X.K) (hg : Gl X "reversed") (hm : X.mg "reversed" = none) (h : EO X E W e f) (hs : starEach [e] X.env = (false, eval e X.env) :: starEach [] X.env := by rfl) :
    EI X E W tg (.Call (.Name "reversed" p) [e] [] pos) (iRevO f) := by
  refine ⟨pi_mono (RT.pi_revA hg hm h.pe hs) fun σ H P q => ?_⟩
  obtain ⟨F, ρ, s, q⟩ := q
  refine ⟨F, ρ, s, Res.mono q.bind (fun d _ q F1 H1 v A t1 r1 nd u => ?_) fun c _ z F' H' t => z F' H' t⟩
  by_cases c : d.cold = true
  · rw [if_pos c] at q
    obtain ⟨ds, e, p⟩ := Res.opt q
    rw [← hK]
    have n := fun a ha => (Rp.dom d v A r1 a ha).1
    exact rev_seq (tr_fz t1 n u) (Rp.frz (H' := H1) n d v A c (fun _ z => z) r1) e p
  · rw [if_neg c] at q
    exact q.elim
/-! range of three, reversed ranges -/
def rngC (lo c : Int) (n : Nat) : List D := (List.range n).map fun i : Nat => .int (lo + (i : Int) * c)
theorem rngC_len (lo c : Int) (n : Nat) : (rngC lo c n).length = n := by simp [rngC]
theorem wk_rngC {k : Kx} {F : Hp} {lo c : Int} {n : Nat} : Wk k (Itc lo c n) F (rngC lo c n) where
  go := fun i hi F' H' _ _ => by
    rw [rngC_len] at hi
    exact hi
  stop := fun F' H' _ _ => by
    rw [rngC_len]
    exact Nat.le_refl _
  yld := fun i d e F' H' v H'' _ y h => by
    obtain ⟨rfl, rfl⟩ := h
    have hi : i < n := by
      have := (List.getElem?_eq_some_iff.mp e).1
      rw [rngC_len] at this
      exact this
    have e' : d = .int (lo + (i : Int) * c) := by
      unfold rngC at e
      rw [List.getElem?_map, List.getElem?_range hi] at e
      exact (Option.some.inj e).symm
    subst e'
    exact ⟨rfl, F', Tr.refl y, rfl, rfl⟩
/-- what the library asks of a range of three -/
def R3Ok (i j c : Int) (n : Nat) : Prop := c ≠ 0 ∧ c.natAbs < 1073741824 ∧ Builtin.Range.small i j c = true ∧ Builtin.Range.rangeSize i j c = (n : Int)
noncomputable instance (i j c : Int) (n : Nat) : Decidable (R3Ok i j c n) := Classical.propDecidable _
/-- the number of turns -/
def cntC (i j c : Int) : Nat := (Builtin.Range.rangeSize i j c).toNat
noncomputable def rng3 : List D → Option (List D)
  | [.int i, .int j, .int c] => if R3Ok i j c (cntC i j c) then some (rngC i c (cntC i j c)) else none
  | _ => none
@[simp] theorem rng3_int (i j c : Int) : rng3 [.int i, .int j, .int c] = if R3Ok i j c (cntC i j c) then some (rngC i c (cntC i j c)) else none := rfl
theorem Vw.three {k : Kx} {F H : Hp} {vs : List V} {d e g : D} (h : Vw k F H vs [d, e, g]) : ∃ v w x A B C, vs = [v, w, x] ∧ Rp k F H d v A ∧ Rp k F H e w B ∧ Rp k F H g x C := by
  cases h with
  | cons r t =>
    obtain ⟨A, r⟩ := r
    obtain ⟨w, x, B, C, rfl, r2, r3⟩ := Vw.two t
    exact ⟨_, w, x, A, B, C, rfl, r, r2, r3⟩
theorem ei_rng3 {tg a b c : Expr} {fs : Env → R (List D)} {p pos : Pos} (hg : Gl X "range") (hm : X.mg "range" = none) (ha : EA X E W [a, b, c] fs)
    (hs : starEach [a, b, c] X.env = (false, eval a X.env) :: starEach [b, c] X.env := by rfl) (hpl : (backTo pos (starEach [b, c] X.env)).any (·.1) = false := by rfl) : EI X E W tg (.Call (.Name "range" p) [a, b, c] [] pos) (iA rng3 fs) := by
  refine ⟨pi_mono (pi_range3 hg hm ha.pa hs hpl) fun σ H P q => ?_⟩
  obtain ⟨F, ρ, s, q⟩ := q
  refine ⟨F, ρ, s, Res.mono q.bind (fun ds he q F1 H1 vs t1 r1 => ?_) fun c _ z F' H' t => z F' H' t⟩
  obtain ⟨es, e, p⟩ := Res.opt q
  clear he
  unfold rng3 at e
  split at e
  · obtain ⟨z, e⟩ := if_some e
    cases e
    obtain ⟨v, w, x, A, B, C, rfl, r, r2, r3⟩ := Vw.three r1
    rw [r.1, r2.1, r3.1]
    exact ⟨_, _, _, _, rfl, z, p F1 H1 _ t1 wk_rngC⟩
  · cases e
noncomputable def rvr1 : D → Option (List D)
  | .int n => if W62 n then some (rngC ((n.toNat : Int) - 1) (-1) n.toNat) else none
  | _ => none
@[simp] theorem rvr1_int (n : Int) : rvr1 (.int n) = if W62 n then some (rngC ((n.toNat : Int) - 1) (-1) n.toNat) else none := rfl
noncomputable def iRv1 (f : Env → R D) : Env → R (List D) := fun ρ => (f ρ).bind fun d => R.opt (rvr1 d)
@[simp] theorem iRv1_eq (f : Env → R D) (ρ : Env) : iRv1 f ρ = (f ρ).bind fun d => R.opt (rvr1 d) := rfl
theorem ei_revR1 {tg a : Expr} {f : Env → R D} {p2 pos2 p pos : Pos} (hg : Gl X "reversed") (hm : X.mg "reversed" = none) (hg2 : Gl X "range") (hm2 : X.mg "range" = none) (h : EV X E W a f) (na : starEach [a] X.env = (false, eval a X.env) :: starEach [] X.env := by rfl)
    (hs : starEach [.Call (.Name "range" p2) [a] [] pos2] X.env = (false, eval (.Call (.Name "range" p2) [a] [] pos2) X.env) :: starEach [] X.env := by rfl) :
    EI X E W tg (.Call (.Name "reversed" p) [.Call (.Name "range" p2) [a] [] pos2] [] pos) (iRv1 f) := by
  refine ⟨pi_mono (pi_revR hg hm (prg_1 hg2 hm2 h.pe na) hs) fun σ H P q => ?_⟩
  obtain ⟨F, ρ, s, q⟩ := q
  refine ⟨F, ρ, s, Res.mono q.bind (fun d _ q F1 H1 v A t1 r1 => ?_) fun c _ z F' H' t => z F' H' t⟩
  obtain ⟨ds, e, p⟩ := Res.opt q
  cases d with
  | int n =>
    obtain ⟨z, e⟩ := if_some (show (if W62 n then some (rngC ((n.toNat : Int) - 1) (-1) n.toNat) else none) = some ds from e)
    subst e
    obtain ⟨z1, z2⟩ := z
    refine ⟨n, r1.1, by omega, by omega, by omega, by omega, ?_⟩
    have e1 : (0 : Int) + (((n - 0).toNat : Nat) : Int) - 1 = (n.toNat : Int) - 1 := by rw [Int.sub_zero]; omega
    rw [e1, Int.sub_zero]
    exact p F1 H1 _ t1 wk_rngC
  | _ => cases e
end
end Dv
end
section
set_option maxRecDepth 100000
set_option maxHeartbeats 1000000
namespace Dv
open PySem PySem.Spec PyProof.Rows L2

section
variable {X : Cx} {E : En} {W : WX}
/-! ### in -/
def rInT (K : PySem.W.Frag) : R2 := fun x y H Q => ∃ d ds, Dp K H x d ∧ Dp K H y (.tuple ds) ∧ SeqAt.shaped d = true ∧ SeqAt.shaped (.tuple ds) = true ∧ Q (.bl (ds.any fun z => PyData.eqv z d)) H
def rNotInT (K : PySem.W.Frag) : R2 := fun x y H Q => ∃ d ds, Dp K H x d ∧ Dp K H y (.tuple ds) ∧ SeqAt.shaped d = true ∧ SeqAt.shaped (.tuple ds) = true ∧ Q (.bl (!ds.any fun z => PyData.eqv z d)) H
theorem op_inT (hu : X.A.units + 65 < cLine) : OpR X (compareOp .In) (rInT X.K) := by
  intro pins s σ H x y v u Q I rx ry h
  obtain ⟨d, ds, hd, he, sd, se, q⟩ := h
  obtain ⟨as, r1⟩ := Dp.reads I d x v hd rx
  obtain ⟨bs, r2⟩ := Dp.reads I (.tuple ds) y u he ry
  exact SeqAt.in_tuple_reads r2 r1 (SeqAt.canLay_of_shaped se) (SeqAt.canLay_of_shaped sd) (room_in_shaped sd hu) ⟨.bl _, H, I, rfl, q⟩
theorem op_notInT (hu : X.A.units + 65 < cLine) : OpR X (compareOp .NotIn) (rNotInT X.K) := by
  intro pins s σ H x y v u Q I rx ry h
  obtain ⟨d, ds, hd, he, sd, se, q⟩ := h
  obtain ⟨as, r1⟩ := Dp.reads I d x v hd rx
  obtain ⟨bs, r2⟩ := Dp.reads I (.tuple ds) y u he ry
  exact SeqAt.notIn_tuple_reads r2 r1 (SeqAt.canLay_of_shaped se) (SeqAt.canLay_of_shaped sd) (room_in_shaped sd hu) ⟨.bl _, H, I, rfl, q⟩
theorem D.any_eqv (d : D) : ∀ xs : List D, (D.toPL xs).any (fun z => PyData.eqv z d.toP) = xs.any fun y => y.eqv d
  | [] => rfl
  | x :: xs => by
    rw [D.toPL, List.any_cons, List.any_cons, D.any_eqv d xs]
    rfl
def txs : List D → Option (List Str)
  | [] => some []
  | .str x :: xs => (txs xs).map fun r => x :: r
  | _ :: _ => none
@[simp] theorem txs_nil : txs [] = some [] := rfl
@[simp] theorem txs_cons (x : Str) (xs : List D) : txs (.str x :: xs) = (txs xs).map fun r => x :: r := rfl
theorem txs_rp {k : Kx} {F H : Hp} : ∀ {xs : List D} {vs : List V} {A : List Addr} {ss : List Str}, RpL k F H xs vs A → txs xs = some ss → vs = ss.map V.str
  | [], vs, A, ss, h, e => by
    cases e
    rw [h.1]; rfl
  | .str x :: xs, vs, A, ss, h, e => by
    obtain ⟨v, ws, B, C, rfl, rfl, h1, h2⟩ := h
    rw [txs_cons] at e
    cases z : txs xs with
    | none => rw [z] at e; cases e
    | some r =>
      rw [z] at e
      cases e
      rw [txs_rp h2 z, h1.1]
      rfl
  | .non :: _, _, _, _, _, e => nomatch e
  | .bl _ :: _, _, _, _, _, e => nomatch e
  | .int _ :: _, _, _, _, _, e => nomatch e
  | .tup _ :: _, _, _, _, _, e => nomatch e
  | .lst _ _ :: _, _, _, _, _, e => nomatch e
  | .scr _ :: _, _, _, _, _, e => nomatch e
  | .dic _ _ _ :: _, _, _, _, _, e => nomatch e
  | .dit _ _ _ :: _, _, _, _, _, e => nomatch e
  | .ins _ _ _ :: _, _, _, _, _, e => nomatch e
  | .fn _ :: _, _, _, _, _, e => nomatch e
theorem inV_txs (x : Str) : ∀ ss : List Str, inV (.str x) (ss.map V.str) = ss.any (· == x)
  | [] => rfl
  | s :: ss => by
    have ih := inV_txs x ss
    unfold inV at ih ⊢
    rw [List.map_cons, List.any_cons, List.any_cons, ih]
    rfl
theorem flat_txs : ∀ ss : List Str, (ss.map V.str).all flatV = true
  | [] => rfl
  | s :: ss => by rw [List.map_cons, List.all_cons, flat_txs ss]; rfl
/-- x in a list, a tuple, a text -/
def inB : D → D → Option Bool
  | .str x, .str z => if x.length = 1 then some (decide (x.cps.getD 0 0 ∈ z.cps.toList)) else none
  | x, s => match items s with
    | some xs => match x, txs xs with
      | .str x, some ss => some (ss.any (· == x))
      | _, _ => if x.lay 60 = true ∧ s.lay 60 = true then some (xs.any fun y => y.eqv x) else none
    | none => none
def gIn (x s : D) : Option D := (inB x s).map fun b => .bl b
def gNotIn (x s : D) : Option D := (inB x s).map fun b => .bl (!b)
def rInA (K : PySem.W.Frag) : R2 := fun x y H Q => (rInD K x y H Q ∨ rInT K x y H Q) ∨ (rIn K false x y H Q ∨ ∃ (c : Nat) (z : Str), x = .str ⟨#[c]⟩ ∧ y = .str z ∧ Q (.bl (decide (c ∈ z.cps.toList))) H)
def rNotInA (K : PySem.W.Frag) : R2 := fun x y H Q => (rNotInD K x y H Q ∨ rNotInT K x y H Q) ∨ (rIn K true x y H Q ∨ ∃ (c : Nat) (z : Str), x = .str ⟨#[c]⟩ ∧ y = .str z ∧ Q (.bl (!decide (c ∈ z.cps.toList))) H)
theorem op_inA (hu : X.A.units + 65 < cLine) : OpR X (compareOp .In) (rInA X.K) := ((op_inD hu).or (op_inT hu)).or (op_in_seq.or op_in_sign)
theorem op_notInA (hu : X.A.units + 65 < cLine) : OpR X (compareOp .NotIn) (rNotInA X.K) := ((op_notInD hu).or (op_notInT hu)).or (op_notIn_seq.or op_notIn_sign)
theorem one_sign {x : Str} (h : x.length = 1) : x = ⟨#[x.cps.getD 0 0]⟩ := by
  obtain ⟨a⟩ := x
  have h : a.size = 1 := h
  congr 1
  refine Array.ext h fun i h1 h2 => ?_
  have : i = 0 := by omega
  subst this
  simp [Array.getD, h]
theorem inB_says {F H : Hp} {x s : D} {v w : V} {A B : List Addr} {b : Bool} (fh : Ex F H) (rx : Rp E.k F H x v A) (ry : Rp E.k F H s w B) (e : inB x s = some b) :
    ((∃ d ds, Dp E.k.K H v d ∧ Dp E.k.K H w (.list ds) ∧ SeqAt.shaped d = true ∧ SeqAt.shaped (.list ds) = true ∧ (ds.any fun z => PyData.eqv z d) = b) ∨ (∃ d ds, Dp E.k.K H v d ∧ Dp E.k.K H w (.tuple ds) ∧ SeqAt.shaped d = true ∧ SeqAt.shaped (.tuple ds) = true ∧ (ds.any fun z => PyData.eqv z d) = b)) ∨
    ((∃ p xs, w = .ref p ∧ (SqL E.k.K H p xs ∨ SqT E.k.K H p xs) ∧ flatV v = true ∧ xs.all flatV = true ∧ inV v xs = b) ∨ ∃ (c : Nat) (z : Str), v = .str ⟨#[c]⟩ ∧ w = .str z ∧ decide (c ∈ z.cps.toList) = b) := by
  have deep : ∀ xs, items s = some xs → (if x.lay 60 = true ∧ s.lay 60 = true then some (xs.any fun y => y.eqv x) else none) = some b → ((∃ d ds, Dp E.k.K H v d ∧ Dp E.k.K H w (.list ds) ∧ SeqAt.shaped d = true ∧ SeqAt.shaped (.list ds) = true ∧ (ds.any fun z => PyData.eqv z d) = b) ∨ (∃ d ds, Dp E.k.K H v d ∧ Dp E.k.K H w (.tuple ds) ∧ SeqAt.shaped d = true ∧ SeqAt.shaped (.tuple ds) = true ∧ (ds.any fun z => PyData.eqv z d) = b)) := fun xs es e => by
    obtain ⟨z, eb⟩ := if_some e
    cases s with
    | lst o ys =>
      cases es
      refine .inl ⟨x.toP, D.toPL xs, Rp.dp fh 60 x v A z.1 rx, Rp.dp fh 60 (.lst o xs) w B z.2 ry, D.lay_shaped z.1, D.lay_shaped (d := .lst o xs) z.2, ?_⟩
      rw [D.any_eqv, eb]
    | tup ys =>
      cases es
      refine .inr ⟨x.toP, D.toPL xs, Rp.dp fh 60 x v A z.1 rx, Rp.dp fh 60 (.tup xs) w B z.2 ry, D.lay_shaped z.1, D.lay_shaped (d := .tup xs) z.2, ?_⟩
      rw [D.any_eqv, eb]
    | _ => cases es
  unfold inB at e
  split at e
  · obtain ⟨z, e⟩ := if_some e
    rw [rx.1, ry.1]
    exact .inr (.inr ⟨_, _, congrArg V.str (one_sign z), rfl, e⟩)
  · split at e
    · rename_i xs es
      split at e
      · rename_i ess _
        obtain ⟨a, vs, B', rfl, sq, r⟩ := ry.items fh es
        have := txs_rp r ess
        subst this
        rw [rx.1]
        refine .inr (.inl ⟨a, _, rfl, sq.symm, rfl, flat_txs _, ?_⟩)
        rw [inV_txs]
        exact Option.some.inj e
      · exact .inl (deep xs es e)
    · cases e
theorem says_in : Says2 E (rInA E.k.K) gIn := by
  intro F H x y v w A B Q d fh rx ry e g
  unfold gIn at e
  cases eb : inB x y with
  | none => rw [eb] at e; cases e
  | some b =>
    rw [eb] at e
    cases e
    have qb : Q (.bl b) H := g.scal fh fun _ _ => ⟨rfl, rfl⟩
    rcases inB_says fh rx ry eb with (⟨d, ds, h1, h2, h3, h4, h5⟩ | ⟨d, ds, h1, h2, h3, h4, h5⟩) | (⟨p, xs, h1, h2, h3, h4, h5⟩ | ⟨c, z, h1, h2, h3⟩)
    · exact .inl (.inl ⟨d, ds, h1, h2, h3, h4, by rw [h5]; exact qb⟩)
    · exact .inl (.inr ⟨d, ds, h1, h2, h3, h4, by rw [h5]; exact qb⟩)
    · exact .inr (.inl ⟨p, xs, h1, h2, h3, h4, by rw [if_neg Bool.false_ne_true, h5]; exact qb⟩)
    · exact .inr (.inr ⟨c, z, h1, h2, by rw [h3]; exact qb⟩)
theorem says_notIn : Says2 E (rNotInA E.k.K) gNotIn := by
  intro F H x y v w A B Q d fh rx ry e g
  unfold gNotIn at e
  cases eb : inB x y with
  | none => rw [eb] at e; cases e
  | some b =>
    rw [eb] at e
    cases e
    have qb : Q (.bl (!b)) H := g.scal fh fun _ _ => ⟨rfl, rfl⟩
    rcases inB_says fh rx ry eb with (⟨d, ds, h1, h2, h3, h4, h5⟩ | ⟨d, ds, h1, h2, h3, h4, h5⟩) | (⟨p, xs, h1, h2, h3, h4, h5⟩ | ⟨c, z, h1, h2, h3⟩)
    · exact .inl (.inl ⟨d, ds, h1, h2, h3, h4, by rw [h5]; exact qb⟩)
    · exact .inl (.inr ⟨d, ds, h1, h2, h3, h4, by rw [h5]; exact qb⟩)
    · exact .inr (.inl ⟨p, xs, h1, h2, h3, h4, by rw [if_pos rfl, h5]; exact qb⟩)
    · exact .inr (.inr ⟨c, z, h1, h2, by rw [h3]; exact qb⟩)
section
variable {a b : Expr} {fa fb : Env → R D} {pos : Pos}
theorem room65 {k : Nat} {A : Around} (r : Room k A) : A.units + 65 < cLine := by have := r.un; omega
theorem eo_in (hK : E.k.K = X.K) (hu : X.A.units + 65 < cLine) (ha : EV X E W a fa) (hb : EV X E W b fb) (hm : behindInMarks .In b = false := by rfl) : EO X E W (.Compare a [.In] [b] pos) (e2 gIn fa fb) := eo_cmp (op_inA hu) (by rw [← hK]; exact says_in) hm ha hb
theorem eo_notIn (hK : E.k.K = X.K) (hu : X.A.units + 65 < cLine) (ha : EV X E W a fa) (hb : EV X E W b fb) (hm : behindInMarks .NotIn b = false := by rfl) : EO X E W (.Compare a [.NotIn] [b] pos) (e2 gNotIn fa fb) := eo_cmp (op_notInA hu) (by rw [← hK]; exact says_notIn) hm ha hb
end
/-! ### built-ins over a list of ints -/
def dInts? : List D → Option (List Int)
  | [] => some []
  | .int x :: xs => (dInts? xs).map fun r => x :: r
  | _ :: _ => none
@[simp] theorem dIntsO_nil : dInts? [] = some [] := rfl
@[simp] theorem dIntsO_cons (x : Int) (xs : List D) : dInts? (.int x :: xs) = (dInts? xs).map fun r => x :: r := rfl
@[simp] theorem dIntsO_dInts : ∀ ns : List Int, dInts? (dInts ns) = some ns
  | [] => rfl
  | n :: ns => by
    show (dInts? (dInts ns)).map (fun r => n :: r) = _
    rw [dIntsO_dInts ns]; rfl
theorem dIntsO_some : ∀ {xs : List D} {ns : List Int}, dInts? xs = some ns → xs = dInts ns
  | [], ns, e => by cases e; rfl
  | .int x :: xs, ns, e => by
    rw [dIntsO_cons] at e
    cases z : dInts? xs with
    | none => rw [z] at e; cases e
    | some r =>
      rw [z] at e
      cases e
      rw [dIntsO_some z]; rfl
  | .non :: _, _, e => nomatch e
  | .bl _ :: _, _, e => nomatch e
  | .str _ :: _, _, e => nomatch e
  | .tup _ :: _, _, e => nomatch e
  | .lst _ _ :: _, _, e => nomatch e
  | .scr _ :: _, _, e => nomatch e
  | .dic _ _ _ :: _, _, e => nomatch e
  | .dit _ _ _ :: _, _, e => nomatch e
  | .ins _ _ _ :: _, _, e => nomatch e
  | .fn _ :: _, _, e => nomatch e
theorem rp_ints {k : Kx} {F H : Hp} : ∀ {ns : List Int} {vs : List V} {A : List Addr}, RpL k F H (dInts ns) vs A → vs = ns.map V.int
  | [], vs, A, h => by rw [h.1]; rfl
  | n :: ns, vs, A, h => by
    obtain ⟨v, ws, B, C, rfl, rfl, h1, h2⟩ := h
    rw [rp_ints h2, h1.1]
    rfl
/-- a list of ints, looked at -/
def lInts : D → Option (List Int)
  | .lst _ xs => dInts? xs
  | .scr xs => dInts? xs
  | _ => none
@[simp] theorem lInts_lst (o : Bool) (xs : List D) : lInts (.lst o xs) = dInts? xs := rfl
@[simp] theorem lInts_scr (xs : List D) : lInts (.scr xs) = dInts? xs := rfl
theorem lInts_sq {F H : Hp} {d : D} {v : V} {A : List Addr} {ns : List Int} (fh : Ex F H) (r : Rp E.k F H d v A) (e : lInts d = some ns) : ∃ a, v = .ref a ∧ SqL E.k.K H a (ns.map V.int) := by
  cases d with
  | lst o xs =>
    obtain ⟨a, vs, B, rfl, s, r⟩ := Rp.lstW fh r
    have := dIntsO_some (show dInts? xs = some ns from e)
    subst this
    rw [rp_ints r] at s
    exact ⟨a, rfl, .inl (.inl s)⟩
  | scr xs =>
    obtain ⟨a, vs, rfl, _, s, r⟩ := r
    have := dIntsO_some (show dInts? xs = some ns from e)
    subst this
    rw [rp_ints r] at s
    exact ⟨a, rfl, ex_l fh s⟩
  | _ => cases e
def gSum : List D → Option D
  | [x] => (lInts x).map fun ns => .int ns.sum
  | _ => none
@[simp] theorem gSum_one (x : D) : gSum [x] = (lInts x).map fun ns => .int ns.sum := rfl
theorem says_sum : SaysC E (rSum E.k.K) gSum := by
  intro F H ds vs Q d fh r e g
  unfold gSum at e
  split at e
  · rename_i x
    cases ex : lInts x with
    | none => rw [ex] at e; cases e
    | some ns =>
      rw [ex] at e
      cases e
      obtain ⟨v, A, rfl, rr⟩ := r.one
      obtain ⟨a, rfl, s⟩ := lInts_sq fh rr ex
      exact ⟨a, ns, rfl, s, g.scal fh fun _ _ => ⟨rfl, rfl⟩⟩
  · cases e
/-- the greatest, the least -/
def maxL : List Int → Int
  | [] => 0
  | [x] => x
  | x :: xs => max x (maxL xs)
def minL : List Int → Int
  | [] => 0
  | [x] => x
  | x :: xs => min x (minL xs)
theorem maxL_cons (x y : Int) (xs : List Int) : maxL (x :: y :: xs) = max x (maxL (y :: xs)) := rfl
theorem minL_cons (x y : Int) (xs : List Int) : minL (x :: y :: xs) = min x (minL (y :: xs)) := rfl
theorem maxL_ge : ∀ (ns : List Int), ∀ y ∈ ns, y ≤ maxL ns
  | [], y, h => nomatch h
  | [x], y, h => by rw [List.mem_singleton.mp h]; exact Int.le_refl _
  | x :: z :: xs, y, h => by
    rw [maxL_cons]
    rcases List.mem_cons.mp h with rfl | h
    · exact Int.le_max_left _ _
    · exact Int.le_trans (maxL_ge (z :: xs) y h) (Int.le_max_right _ _)
theorem maxL_mem : ∀ (ns : List Int), ns ≠ [] → maxL ns ∈ ns
  | [], h => absurd rfl h
  | [x], _ => List.mem_singleton.mpr rfl
  | x :: z :: xs, _ => by
    rw [maxL_cons]
    rcases Int.le_total x (maxL (z :: xs)) with h | h
    · rw [Int.max_eq_right h]; exact List.mem_cons_of_mem _ (maxL_mem _ (by simp))
    · rw [Int.max_eq_left h]; exact List.mem_cons_self
theorem minL_le : ∀ (ns : List Int), ∀ y ∈ ns, minL ns ≤ y
  | [], y, h => nomatch h
  | [x], y, h => by rw [List.mem_singleton.mp h]; exact Int.le_refl _
  | x :: z :: xs, y, h => by
    rw [minL_cons]
    rcases List.mem_cons.mp h with rfl | h
    · exact Int.min_le_left _ _
    · exact Int.le_trans (Int.min_le_right _ _) (minL_le (z :: xs) y h)
theorem minL_mem : ∀ (ns : List Int), ns ≠ [] → minL ns ∈ ns
  | [], h => absurd rfl h
  | [x], _ => List.mem_singleton.mpr rfl
  | x :: z :: xs, _ => by
    rw [minL_cons]
    rcases Int.le_total x (minL (z :: xs)) with h | h
    · rw [Int.min_eq_left h]; exact List.mem_cons_self
    · rw [Int.min_eq_right h]; exact List.mem_cons_of_mem _ (minL_mem _ (by simp))
def gMax1 : List D → Option D
  | [x] => (lInts x).bind fun ns => if 0 < ns.length then some (.int (maxL ns)) else none
  | _ => none
def gMin1 : List D → Option D
  | [x] => (lInts x).bind fun ns => if 0 < ns.length then some (.int (minL ns)) else none
  | _ => none
@[simp] theorem gMax1_one (x : D) : gMax1 [x] = (lInts x).bind fun ns => if 0 < ns.length then some (.int (maxL ns)) else none := rfl
@[simp] theorem gMin1_one (x : D) : gMin1 [x] = (lInts x).bind fun ns => if 0 < ns.length then some (.int (minL ns)) else none := rfl
theorem says_max1 : SaysC E (rMax E.k.K) gMax1 := by
  intro F H ds vs Q d fh r e g
  unfold gMax1 at e
  split at e
  · rename_i x
    cases ex : lInts x with
    | none => rw [ex] at e; cases e
    | some ns =>
      rw [ex] at e
      obtain ⟨z, e⟩ := if_some (show (if 0 < ns.length then some (D.int (maxL ns)) else none) = some d from e)
      cases e
      obtain ⟨v, A, rfl, rr⟩ := r.one
      obtain ⟨a, rfl, s⟩ := lInts_sq fh rr ex
      refine ⟨a, ns, rfl, s, z, fun m h1 h2 => ?_⟩
      have : m = maxL ns := Int.le_antisymm (maxL_ge ns m h1) (h2 _ (maxL_mem ns (by intro q; subst q; cases h1)))
      rw [this]
      exact g.scal fh fun _ _ => ⟨rfl, rfl⟩
  · cases e
theorem says_min1 : SaysC E (rMin E.k.K) gMin1 := by
  intro F H ds vs Q d fh r e g
  unfold gMin1 at e
  split at e
  · rename_i x
    cases ex : lInts x with
    | none => rw [ex] at e; cases e
    | some ns =>
      rw [ex] at e
      obtain ⟨z, e⟩ := if_some (show (if 0 < ns.length then some (D.int (minL ns)) else none) = some d from e)
      cases e
      obtain ⟨v, A, rfl, rr⟩ := r.one
      obtain ⟨a, rfl, s⟩ := lInts_sq fh rr ex
      refine ⟨a, ns, rfl, s, z, fun m h1 h2 => ?_⟩
      have : m = minL ns := Int.le_antisymm (h2 _ (minL_mem ns (by intro q; subst q; cases h1))) (minL_le ns m h1)
      rw [this]
      exact g.scal fh fun _ _ => ⟨rfl, rfl⟩
  · cases e
/-- sorted -/
def sortI (ns : List Int) : List Int := ns.mergeSort (fun a b => decide (a ≤ b))
theorem sortI_perm (ns : List Int) : (sortI ns).Perm ns := List.mergeSort_perm _ _
theorem sortI_sorted (ns : List Int) : (sortI ns).Pairwise (· ≤ ·) := by
  have h := List.pairwise_mergeSort (le := fun a b : Int => decide (a ≤ b)) (fun a b c h1 h2 => by simp at *; omega) (fun a b => by simp; omega) ns
  exact h.imp fun h => by simpa using h
theorem sorted_unique {xs ys : List Int} (p : xs.Perm ys) (hx : xs.Pairwise (· ≤ ·)) (hy : ys.Pairwise (· ≤ ·)) : xs = ys := p.eq_of_pairwise (fun a b _ _ h1 h2 => Int.le_antisymm h1 h2) hx hy
def gSorted : List D → Option D
  | [x] => (lInts x).map fun ns => .lst true (dInts (sortI ns))
  | _ => none
@[simp] theorem gSorted_one (x : D) : gSorted [x] = (lInts x).map fun ns => .lst true (dInts (sortI ns)) := rfl
theorem says_sorted : SaysC E (rSortedI E.k.K) gSorted := by
  intro F H ds vs Q d fh r e g
  unfold gSorted at e
  split at e
  · rename_i x
    cases ex : lInts x with
    | none => rw [ex] at e; cases e
    | some ns =>
      rw [ex] at e
      cases e
      obtain ⟨v, A, rfl, rr⟩ := r.one
      obtain ⟨a, rfl, s⟩ := lInts_sq fh rr ex
      refine ⟨a, ns, rfl, s, fun ns' p h1 h2 hp => ?_⟩
      rw [sorted_unique (h1.trans (sortI_perm ns).symm) h2 (sortI_sorted ns)]
      exact GOk.lst fh g hp (rp_dInts _)
  · cases e
def gChr : List D → Option D
  | [.int i] => if 0 ≤ i ∧ i ≤ 1114111 then some (.str ⟨#[i.toNat]⟩) else none
  | _ => none
@[simp] theorem gChr_int (i : Int) : gChr [.int i] = if 0 ≤ i ∧ i ≤ 1114111 then some (.str ⟨#[i.toNat]⟩) else none := rfl
theorem says_chr : SaysC E (fun xs H Q => ∃ i, xs = [.int i] ∧ 0 ≤ i ∧ i ≤ 1114111 ∧ Q (.str ⟨#[i.toNat]⟩) H) gChr := by
  intro F H ds vs Q d fh r e g
  unfold gChr at e
  split at e
  · obtain ⟨z, e⟩ := if_some e
    cases e
    obtain ⟨v, A, rfl, rr⟩ := r.one
    rw [rr.1]
    exact ⟨_, rfl, z.1, z.2, g.scal fh fun _ _ => ⟨rfl, rfl⟩⟩
  · cases e
/-! ### methods of a text -/
def isStr : D → Bool
  | .str _ => true
  | _ => false
@[simp] theorem isStr_str (x : Str) : isStr (.str x) = true := rfl
def eM1 (g : D → D → Option D) (fo f : Env → R D) : Env → R D := fun ρ => (fo ρ).bind fun x => if isStr x = true then (f ρ).bind fun y => R.opt (g x y) else .no
@[simp] theorem eM1_eq (g : D → D → Option D) (fo f : Env → R D) (ρ : Env) : eM1 g fo f ρ = (fo ρ).bind fun x => if isStr x = true then (f ρ).bind fun y => R.opt (g x y) else .no := rfl
def eM0 (g : D → Option D) (fo : Env → R D) : Env → R D := fun ρ => (fo ρ).bind fun x => R.opt (g x)
@[simp] theorem eM0_eq (g : D → Option D) (fo : Env → R D) (ρ : Env) : eM0 g fo ρ = (fo ρ).bind fun x => R.opt (g x) := rfl
/-- g says what the method r does -/
def SaysM1 (E : En) (r : V → List V → Hp → VK → Prop) (g : D → D → Option D) : Prop := ∀ F H x y v w A B Q d, Ex F H → Rp E.k F H x v A → Rp E.k F H y w B → g x y = some d → GOk E F H Q d → r v [w] H Q
def SaysM0 (E : En) (r : V → List V → Hp → VK → Prop) (g : D → Option D) : Prop := ∀ F H x v A Q d, Ex F H → Rp E.k F H x v A → g x = some d → GOk E F H Q d → (∃ a, v = .str a) ∧ r v [] H Q
theorem eo_m1 {id : String} {name : Str} {o e : Expr} {fo f : Env → R D} {apos pos : Pos} {r : V → List V → Hp → VK → Prop} {g : D → D → Option D} (slot : Slot "str" name id) (ty : typeOf (.builtin id) = pure (.type "method_descriptor")) (rule : MtR X id r) (hg : SaysM1 E r g) (ho : EV X E W o fo) (he : EV X E W e f)
    (hs : starEach [e] X.env = [(false, eval e X.env)] := by rfl) (hbase : attributeBase o name X.env (eval o X.env) = eval o X.env := by rfl) (hline : (apos.endLine == pos.line) = true := by rfl) :
    EO X E W (.Call (.Attribute o name apos) [e] [] pos) (eM1 g fo f) := by
  refine ⟨pe_mono (pe_m1 slot ty rule ho.pe he.pe hs hbase hline) fun σ H Q h => ?_⟩
  obtain ⟨F, ρ, s, q⟩ := h
  refine ⟨F, ρ, s, Res.mono q.bind (fun x _ q F1 H1 v A t1 r1 => ?_) fun c _ z F' H' t => z F' H' t⟩
  by_cases hx : isStr x = true
  · rw [if_pos hx] at q
    refine ⟨?_, F1, ρ, s.tr t1, Res.mono q.bind (fun y _ q F2 H2 w B t2 r2 => ?_) fun c _ z F' H' t => z F' H' (t1.trans t)⟩
    · cases x with
      | str a => exact ⟨a, r1.1⟩
      | _ => cases hx
    · obtain ⟨d, e, p⟩ := Res.opt q
      exact hg F2 H2 x y v w A B Q d t2.fh (r1.tr t2) r2 e (GOk.back (E := E) (F := F) (H := H) p (t1.trans t2))
  · rw [if_neg hx] at q; exact q.elim
theorem eo_m0 {id : String} {name : Str} {o : Expr} {fo : Env → R D} {apos pos : Pos} {r : V → List V → Hp → VK → Prop} {g : D → Option D} (slot : Slot "str" name id) (ty : typeOf (.builtin id) = pure (.type "method_descriptor")) (rule : MtR X id r) (hg : SaysM0 E r g) (ho : EV X E W o fo)
    (hbase : attributeBase o name X.env (eval o X.env) = eval o X.env := by rfl) (hline : (apos.endLine == pos.line) = true := by rfl) : EO X E W (.Call (.Attribute o name apos) [] [] pos) (eM0 g fo) := by
  refine ⟨pe_mono (pe_m0 slot ty rule ho.pe hbase hline) fun σ H Q h => ?_⟩
  obtain ⟨F, ρ, s, q⟩ := h
  refine ⟨F, ρ, s, Res.mono q.bind (fun x _ q F1 H1 v A t1 r1 => ?_) fun c _ z F' H' t => z F' H' t⟩
  obtain ⟨d, e, p⟩ := Res.opt q
  exact hg F1 H1 x v A Q d t1.fh r1 e (GOk.back (E := E) (F := F) (H := H) p t1)
def gJoin : D → D → Option D
  | .str a, x => match items x with
    | some xs => match txs xs with
      | some ss => if (ss.map (·.length)).sum + ss.length * a.length ≤ 16777216 then some (.str (Txt.join a ss)) else none
      | none => none
    | none => none
  | _, _ => none
@[simp] theorem gJoin_eq (a : Str) (x : D) : gJoin (.str a) x = match items x with
    | some xs => match txs xs with
      | some ss => if (ss.map (·.length)).sum + ss.length * a.length ≤ 16777216 then some (.str (Txt.join a ss)) else none
      | none => none
    | none => none := by cases x <;> rfl
theorem says_join : SaysM1 E (fun x xs H Q => ∃ a p, ∃ ys : List Str, x = .str a ∧ xs = [.ref p] ∧ (SqL E.k.K H p (ys.map V.str) ∨ SqT E.k.K H p (ys.map V.str)) ∧
    (ys.map (·.length)).sum + ys.length * a.length ≤ 16777216 ∧ Q (.str (Txt.join a ys)) H) gJoin := by
  intro F H x y v w A B Q d fh rx ry e g
  cases x with
  | str a =>
    rw [gJoin_eq] at e
    split at e
    · rename_i xs es
      split at e
      · rename_i ss ess
        obtain ⟨z, e⟩ := if_some e
        cases e
        obtain ⟨p, vs, B', rfl, sq, r⟩ := ry.items fh es
        have := txs_rp r ess
        subst this
        exact ⟨a, p, ss, rx.1, rfl, sq.symm, z, g.scal fh fun _ _ => ⟨rfl, rfl⟩⟩
      · cases e
    · cases e
  | _ => cases e
theorem eo_join {o e : Expr} {fo f : Env → R D} {apos pos : Pos} (hK : E.k.K = X.K) (ho : EV X E W o fo) (he : EV X E W e f) (hs : starEach [e] X.env = [(false, eval e X.env)] := by rfl) (hbase : attributeBase o "join" X.env (eval o X.env) = eval o X.env := by rfl) (hline : (apos.endLine == pos.line) = true := by rfl) :
    EO X E W (.Call (.Attribute o "join" apos) [e] [] pos) (eM1 gJoin fo f) := eo_m1 PySem.F.slot_str_join PySem.F.type_str_join mt_join (by rw [← hK]; exact says_join) ho he hs hbase hline
end
end Dv
end
section
set_option maxRecDepth 100000
set_option maxHeartbeats 1000000
namespace Dv
open PySem PySem.Spec PyProof.Rows L2

/-! ### the module's tuples and lists -/
def Rv (k : Kx) (d : D) (u : Value) : Prop := ∃ v, RelV v u ∧ ∀ F H, Rp k F H d v []
def RvL (k : Kx) : List D → List Value → Prop
  | [], [] => True
  | d :: ds, u :: us => Rv k d u ∧ RvL k ds us
  | _, _ => False
theorem rv_int {k : Kx} {i : Int} {t : Tok} : Rv k (.int i) (.int i t) := ⟨.int i, ⟨_, rfl⟩, fun _ _ => ⟨rfl, rfl⟩⟩
theorem rv_str {k : Kx} {i : Str} {t : Tok} : Rv k (.str i) (.str i t) := ⟨.str i, ⟨_, rfl⟩, fun _ _ => ⟨rfl, rfl⟩⟩
theorem rv_bl {k : Kx} {b : Bool} : Rv k (.bl b) (.bool b) := ⟨.bl b, rfl, fun _ _ => ⟨rfl, rfl⟩⟩
theorem rv_non {k : Kx} : Rv k .non .none := ⟨.non, rfl, fun _ _ => ⟨rfl, rfl⟩⟩
theorem rvL_nil {k : Kx} : RvL k [] [] := trivial
theorem rvL_cons {k : Kx} {d : D} {u : Value} {ds : List D} {us : List Value} (h : Rv k d u) (t : RvL k ds us) : RvL k (d :: ds) (u :: us) := ⟨h, t⟩
theorem RvL.get {k : Kx} : ∀ {ds : List D} {us : List Value}, RvL k ds us → ∃ vs, Vals vs us ∧ ∀ F H, RpL k F H ds vs []
  | [], [], _ => ⟨[], .nil, fun _ _ => ⟨rfl, rfl⟩⟩
  | d :: ds, u :: us, ⟨⟨v, r, h⟩, t⟩ => by
    obtain ⟨vs, rs, hs⟩ := RvL.get t
    exact ⟨v :: vs, .cons r rs, fun F H => ⟨v, vs, [], [], rfl, rfl, h F H, hs F H⟩⟩
  | [], _ :: _, h => h.elim
  | _ :: _, [], h => h.elim
theorem rv_tup {k : Kx} {a : Addr} {od : Option Addr} {its : Array Value} {n : Nat} {sl : Array (Option Value)} {ds : List D} (l : k.K.lookup a = some ⟨.type "tuple", od, .seq its n, sl⟩) (hz : its.size ≤ 16777216) (h : RvL k ds its.toList) : Rv k (.tup ds) (.ref a) := by
  obtain ⟨vs, r, hs⟩ := h.get
  exact ⟨.ref a, rfl, fun F H => ⟨a, vs, rfl, .inr ⟨_, its, n, l, rfl, rfl, by rw [sizeLine_eq]; exact hz, r⟩, hs F H⟩⟩
theorem rv_lst {k : Kx} {a : Addr} {its : Array Value} {n : Nat} {sl : Array (Option Value)} {ds : List D} (l : k.K.lookup a = some ⟨.type "list", none, .seq its n, sl⟩) (hz : its.size ≤ 16777216) (h : RvL k ds its.toList) : Rv k (.scr ds) (.ref a) := by
  obtain ⟨vs, r, hs⟩ := h.get
  exact ⟨.ref a, rfl, fun F H => ⟨a, vs, rfl, rfl, .inr ⟨_, its, n, l, rfl, rfl, rfl, by rw [sizeLine_eq]; exact hz, r⟩, hs F H⟩⟩
theorem glob_rv {k : Kx} {mg : Str → Option Value} {x : Str} {d : D} {u : Value} (h : mg x = some u) (r : Rv k d u) : Glob k mg x d :=
  let ⟨v, r, h'⟩ := r
  ⟨u, v, h, r, h'⟩
/-! ### more about comprehensions, for the mathematics -/
/-- what is made of the items that stay -/
theorem lcL_of {g : D → Env → Option Env} {t : Env → R Bool} {f : Env → R D} {ρ : Env} (ty : D → Bool) (y : D → D) : ∀ (ds acc : List D), (∀ d ∈ ds, ∃ ρ1, g d ρ = some ρ1 ∧ t ρ1 = .ok (ty d) ∧ (ty d = true → f ρ1 = .ok (y d))) → acc.length + ds.length ≤ 16777216 →
    lcL g t f ρ ds acc = .ok (.lst true (acc ++ (ds.filter ty).map y))
  | [], acc, _, _ => by rw [lcL_nil]; simp
  | d :: ds, acc, h, hl => by
    obtain ⟨ρ1, e1, e2, e3⟩ := h d List.mem_cons_self
    rw [List.length_cons] at hl
    have ih := fun acc => lcL_of (g := g) (t := t) (f := f) (ρ := ρ) ty y ds acc fun d hd => h d (List.mem_cons_of_mem _ hd)
    rw [lcL_cons, e1]
    simp only [e2, R.calm_ok, R.bind_ok]
    cases q : ty d with
    | false => rw [if_neg Bool.false_ne_true, ih acc (by omega), List.filter_cons_of_neg (by rw [q]; exact Bool.false_ne_true)]
    | true =>
      rw [if_pos rfl, e3 q, R.calm_ok, R.bind_ok, if_pos (by omega), ih _ (by rw [List.length_append, List.length_singleton]; omega), List.filter_cons_of_pos q, List.map_cons, List.append_assoc]
      rfl
/-- without a test -/
theorem lcL_map {g : D → Env → Option Env} {t : Env → R Bool} {f : Env → R D} {ρ : Env} (y : D → D) (ds : List D) (h : ∀ d ∈ ds, ∃ ρ1, g d ρ = some ρ1 ∧ t ρ1 = .ok true ∧ f ρ1 = .ok (y d)) (hl : ds.length ≤ 16777216) :
    lcL g t f ρ ds [] = .ok (.lst true (ds.map y)) := by
  rw [lcL_of (fun _ => true) y ds [] (fun d hd => let ⟨ρ1, h1, h2, h3⟩ := h d hd; ⟨ρ1, h1, h2, fun _ => h3⟩) (by simpa using hl), List.nil_append, List.filter_eq_self.mpr fun _ _ => rfl]
end Dv
end
section
set_option maxRecDepth 100000
set_option maxHeartbeats 1000000
namespace Dv
open PySem PySem.Spec PyProof.Rows L2

section
variable {X : Cx} {E : En} {W : WX}
/-! ### a call without arguments -/
theorem pe_callS0 {CX : CXT} {k : Nat} {f : Addr} {fd : FuncData} {ps : List Str} {sp : Sp} {Ex : L2.St → XK} {x : Str} {p pos : Pos} (F : FnOk X.prog X.w X.K X.mg X.base CX k f fd ps sp) (hr : Room k X.A) (hg : Gl X x) (hm : X.mg x = some (.ref f)) (hk : PySem.W.keepIn X.K (.ref f) = true) (hb : Binds X.K fd ps []) (hx : ∀ σ, PassesAt CX X σ (Ex σ))
    (hdb : (x == ("__debug__" : Str)) = false := by decide) : PE X (.Call (.Name x p) [] [] pos) (fun σ H Q => sp [] H Q (Ex σ)) := by
  refine ⟨fun pins s σ H Q I h => ?_⟩
  refine wpAny_Call_Name_kw (ld_glob I hg hm ?_ hdb)
  exact PySem.W.callWith_K0 I.kIn hk (run_fnS F hr hb (hx σ) I .nil h)
theorem eo_call0 {k : Nat} {fa : Addr} {fd : FuncData} {ps : List Str} {f : List D → R D} {x : Str} {p pos : Pos} (G : FnOk X.prog X.w X.K X.mg X.base (L2.CX X.prog X.w) k fa fd ps (spD E.k E.ec 0 f)) (tk : Takes X W) (hr : Room k X.A) (hg : Gl X x) (hm : X.mg x = some (.ref fa)) (hk : PySem.W.keepIn X.K (.ref fa) = true) (hb : Binds X.K fd ps [])
    (hdb : (x == ("__debug__" : Str)) = false := by decide) : EO X E W (.Call (.Name x p) [] [] pos) (eCall 0 f aNil) := by
  refine ⟨pe_mono (pe_callS0 (Ex := WE W) G hr hg hm hk hb (fun σ => passAt tk σ) hdb) fun σ H Q h => ?_⟩
  obtain ⟨F, ρ, s, q⟩ := h
  refine call_of (E := E) (n := 0) (f := f) (ds := []) (Ew := WE W σ) (Tr.refl s.fh) .nil ?_
  exact q
/-! ### a list within a slot's list or tuple -/
theorem RpL.nth {k : Kx} {F H : Hp} : ∀ {ds : List D} {vs : List V} {A : List Addr} {i : Nat} {d : D}, RpL k F H ds vs A → ds[i]? = some d →
    ∃ v A1 B A3, vs[i]? = some v ∧ A = A1 ++ B ++ A3 ∧ Rp k F H d v B ∧ ∀ (F' H' : Hp) (d' : D) (B' : List Addr), Ex F F' → (∀ a, a ∈ A1 ∨ a ∈ A3 → ∀ o, H a = some o → F a = none → H' a = some o ∧ F' a = none) → Rp k F' H' d' v B' → RpL k F' H' (ds.set i d') vs (A1 ++ B' ++ A3)
  | [], _, _, _, _, _, e => by simp at e
  | d0 :: ds, _, _, 0, d, h, e => by
    obtain ⟨w, vs, A1, A2, rfl, rfl, h1, h2⟩ := h
    have e' : d0 = d := by simpa using e
    subst e'
    exact ⟨w, [], A1, A2, rfl, rfl, h1, fun F' H' d' B' x hp r => ⟨w, vs, B', A2, rfl, rfl, r, RpL.mono x ds vs A2 (fun a ha o e n => hp a (.inr ha) o e n) h2⟩⟩
  | d0 :: ds, _, _, i + 1, d, h, e => by
    obtain ⟨w, vs, A1, A2, rfl, rfl, h1, h2⟩ := h
    obtain ⟨v, C1, B, C3, e1, rfl, r, up⟩ := RpL.nth (i := i) h2 (by simpa using e)
    refine ⟨v, A1 ++ C1, B, C3, by simpa using e1, by simp, r, fun F' H' d' B' x hp r' => ?_⟩
    refine ⟨w, vs, A1, C1 ++ B' ++ C3, rfl, by simp, Rp.mono x d0 w A1 (fun a ha o e n => hp a (.inl (List.mem_append_left _ ha)) o e n) h1, up F' H' d' B' x (fun a ha o e n => hp a (ha.imp_left fun z => List.mem_append_right _ z) o e n) r'⟩
/-- the list at place n of slot i's list or tuple -/
def nstD (d : D) (n : Nat) : Option (List D × (List D → D)) := match d with
  | .tup xs => match xs[n]? with
    | some (.lst true ys) => some (ys, fun zs => .tup (xs.set n (.lst true zs)))
    | _ => none
  | .lst true xs => match xs[n]? with
    | some (.lst true ys) => some (ys, fun zs => .lst true (xs.set n (.lst true zs)))
    | _ => none
  | _ => none
def lenD (d : D) : Nat := match d with
  | .tup xs => xs.length
  | .lst _ xs => xs.length
  | _ => 0
theorem Stt.nst {F H : Hp} {σ : L2.St} {ρ : Env} {fp : Nat → List Addr} {i n : Nat} {d : D} {ys : List D} {up : List D → D} (s : Stt E F H σ ρ) (sl : Sl E F H σ ρ fp) (e : ρ[i]? = some (some d)) (en : nstD d n = some (ys, up)) :
    ∃ a vs l ws B, σ[i]? = some (some (.ref a)) ∧ (SqL E.k.K H a vs ∨ SqT E.k.K H a vs) ∧ vs.length = lenD d ∧ vs[n]? = some (.ref l) ∧ H l = some (.lst ws) ∧ RpL E.k F H ys ws B ∧ (∀ a ∈ B, a ∈ fp i) ∧ B.Nodup ∧
      ∀ F' H', Tr F H F' H' → ∀ ys' ws' C, RpL E.k F' H' ys' ws' C → C.Nodup → (∀ a ∈ C, a ∈ B ∨ (E.He a = none ∧ ∀ j, a ∉ fp j)) → Stt E F' (upd H' l (.lst ws')) σ (ρ.set i (some (up ys'))) := by
  obtain ⟨v, ev, r⟩ := sl.rp i _ e
  have ndi := sl.nd i
  -- the core, for what stands around
  have core : ∀ (xs : List D) (vs : List V) (A P : List Addr), fp i = P ++ A → RpL E.k F H xs vs A → xs[n]? = some (.lst true ys) →
      ∃ l ws B, vs[n]? = some (.ref l) ∧ H l = some (.lst ws) ∧ RpL E.k F H ys ws B ∧ (∀ a ∈ B, a ∈ fp i) ∧ B.Nodup ∧ l ∈ fp i ∧ l ∉ P ∧
        ∀ F' H', Tr F H F' H' → ∀ ys' ws' C, RpL E.k F' H' ys' ws' C → C.Nodup → (∀ a ∈ C, a ∈ B ∨ (E.He a = none ∧ ∀ j, a ∉ fp j)) →
          ∃ A', RpL E.k F' (upd H' l (.lst ws')) (xs.set n (.lst true ys')) vs A' ∧ (P ++ A').Nodup ∧ ∀ a ∈ P ++ A', a ∈ fp i ∨ (E.He a = none ∧ ∀ j, a ∉ fp j) := by
    intro xs vs A P eA rl ex
    obtain ⟨v, A1, B0, A3, g1, rfl, g3, g4⟩ := rl.nth ex
    obtain ⟨l, ws, B, rfl, rfl, fl, hl, rB⟩ := lstO g3
    rw [eA] at ndi
    have n1 := List.nodup_append.mp ndi
    have n2 := List.nodup_append.mp n1.2.1
    have n3 := List.nodup_append.mp n2.1
    have n4 := List.nodup_cons.mp n3.2.1
    have lfp : l ∈ fp i := by rw [eA]; simp
    have Bfp : ∀ a ∈ B, a ∈ fp i := fun a ha => by rw [eA]; simp [ha]
    refine ⟨l, ws, B, g1, hl, rB, Bfp, n4.2, lfp, fun z => n1.2.2 l z l (by simp) rfl, fun F' H' t ys' ws' C rC nC uC => ?_⟩
    have lC : l ∉ C := fun z => (uC l z).elim n4.1 fun h => h.2 i lfp
    have notC : ∀ a, a ∈ fp i → a ∉ B → a ∉ C := fun a ha hb z => (uC a z).elim hb fun h => h.2 i ha
    refine ⟨A1 ++ (l :: C) ++ A3, g4 F' (upd H' l (.lst ws')) (.lst true ys') (l :: C) t.ff (fun a ha o e n => ?_) ⟨l, ws', C, rfl, rC.upd lC, (fun z => nomatch z), fun _ => ⟨rfl, t.no l fl (by rw [hl]; exact fun z => nomatch z), upd_same⟩⟩, ?_, fun a ha => ?_⟩
    · rw [upd_ne fun z => ?_]
      · exact ⟨t.hh a o e, t.no a n (by rw [e]; exact fun z => nomatch z)⟩
      · subst z
        rcases ha with ha | ha
        · exact n3.2.2 a ha a List.mem_cons_self rfl
        · exact n2.2.2 a (by simp) a ha rfl
    · have fpm : ∀ a, a ∈ P ∨ a ∈ A1 ∨ a ∈ A3 → a ∈ fp i := fun a ha => by rw [eA]; rcases ha with h | h | h <;> simp [h]
      have nB : ∀ a, a ∈ P ∨ a ∈ A1 ∨ a ∈ A3 → a ∉ l :: B := fun a ha hb => by
        rcases ha with h | h | h
        · exact n1.2.2 a h a (by rcases List.mem_cons.mp hb with z | z <;> simp [z]) rfl
        · exact n3.2.2 a h a hb rfl
        · exact n2.2.2 a (List.mem_append_right _ hb) a h rfl
      have nlC : ∀ a, a ∈ P ∨ a ∈ A1 ∨ a ∈ A3 → a ∉ l :: C := fun a ha hb => by
        rcases List.mem_cons.mp hb with z | z
        · exact nB a ha (by rw [z]; exact List.mem_cons_self)
        · exact notC a (fpm a ha) (fun y => nB a ha (List.mem_cons_of_mem _ y)) z
      refine List.nodup_append.mpr ⟨n1.1, List.nodup_append.mpr ⟨List.nodup_append.mpr ⟨n3.1, List.nodup_cons.mpr ⟨lC, nC⟩, fun a ha b hb z => ?_⟩, n2.2.1, fun a ha b hb z => ?_⟩, fun a ha b hb z => ?_⟩
      · subst z; exact nlC a (.inr (.inl ha)) hb
      · subst z
        rcases List.mem_append.mp ha with ha | ha
        · exact n2.2.2 a (List.mem_append_left _ ha) a hb rfl
        · exact nlC a (.inr (.inr hb)) ha
      · subst z
        rcases List.mem_append.mp hb with hb | hb
        · rcases List.mem_append.mp hb with hb | hb
          · exact n1.2.2 a ha a (by simp [hb]) rfl
          · exact nlC a (.inl ha) hb
        · exact n1.2.2 a ha a (by simp [hb]) rfl
    · rcases List.mem_append.mp ha with ha | ha
      · exact .inl (by rw [eA]; simp [ha])
      · rcases List.mem_append.mp ha with ha | ha
        · rcases List.mem_append.mp ha with ha | ha
          · exact .inl (by rw [eA]; simp [ha])
          · rcases List.mem_cons.mp ha with rfl | ha
            · exact .inl lfp
            · exact (uC a ha).imp_left fun h => Bfp a h
        · exact .inl (by rw [eA]; simp [ha])
  cases d with
  | tup xs =>
    obtain ⟨a, vs, rfl, sq, rl⟩ := r
    have en : (match xs[n]? with
      | some (.lst true ys) => some (ys, fun zs => D.tup (xs.set n (.lst true zs)))
      | _ => none) = some (ys, up) := en
    split at en
    · rename_i ys0 ex
      cases en
      obtain ⟨l, ws, B, h1, h2, h3, h4, h5, h6, h7, h8⟩ := core xs vs (fp i) [] rfl rl ex
      refine ⟨a, vs, l, ws, B, ev, .inr (ex_t s.fh sq), rl.len.symm, h1, h2, h3, h4, h5, fun F' H' t ys' ws' C rC nC uC => ?_⟩
      obtain ⟨A', k1, k2, k3⟩ := h8 F' H' t ys' ws' C rC nC uC
      exact (s.tr t).write (sl.tr t) (v := .ref a) (A' := A') h6 ev ⟨a, vs, rfl, ex_t t.ff sq, k1⟩ k2 k3
    · cases en
  | lst o xs =>
    cases o with
    | false => cases en
    | true =>
      obtain ⟨a, vs, A, rfl, eA, fa, ha, rl⟩ := lstO r
      have en : (match xs[n]? with
        | some (.lst true ys) => some (ys, fun zs => D.lst true (xs.set n (.lst true zs)))
        | _ => none) = some (ys, up) := en
      split at en
      · rename_i ys0 ex
        cases en
        obtain ⟨l, ws, B, h1, h2, h3, h4, h5, h6, h7, h8⟩ := core xs vs A [a] eA rl ex
        refine ⟨a, vs, l, ws, B, ev, .inl (.inl (.inl ha)), rl.len.symm, h1, h2, h3, h4, h5, fun F' H' t ys' ws' C rC nC uC => ?_⟩
        obtain ⟨A', k1, k2, k3⟩ := h8 F' H' t ys' ws' C rC nC uC
        have na : a ≠ l := fun z => h7 (by rw [z]; exact List.mem_singleton_self _)
        exact (s.tr t).write (sl.tr t) (v := .ref a) (A' := a :: A') h6 ev ⟨a, vs, A', rfl, k1, (fun z => nomatch z), fun _ => ⟨rfl, t.no a fa (by rw [ha]; exact fun z => nomatch z), by rw [upd_ne na]; exact t.hh _ _ ha⟩⟩ k2 k3
      · cases en
  | _ => cases en
/-- slot i's element at j -/
def onN (i : Nat) (j : D) (ρ : Env) (k : List D → (List D → D) → SR) : SR := match ρ[i]?.getD none with
  | some d => match j with
    | .int j => match L2.ixN (lenD d) j with
      | some n => match nstD d n with
        | some (ys, up) => k ys up
        | none => .no
      | none => .no
    | _ => .no
  | _ => .no
theorem onN_of {F : Hp} {Z : Ends} {i : Nat} {j : D} {ρ : Env} {k : List D → (List D → D) → SR} (h : SRes E W F Z (onN i j ρ k)) : ∃ d j' n ys up, ρ[i]? = some (some d) ∧ j = .int j' ∧ L2.ixN (lenD d) j' = some n ∧ nstD d n = some (ys, up) ∧ SRes E W F Z (k ys up) := by
  unfold onN at h
  split at h
  · rename_i d e
    split at h
    · rename_i j'
      split at h
      · rename_i n en
        split at h
        · rename_i ys up eu
          exact ⟨d, j', n, ys, up, some_some e, rfl, en, eu, h⟩
        · exact h.elim
      · exact h.elim
    · exact h.elim
  · exact h.elim
theorem atI_of {vs : List V} {j : Int} {n m : Nat} {v : V} (hl : vs.length = m) (e : L2.ixN m j = some n) (h : vs[n]? = some v) : atI vs j = some v := by
  unfold atI
  rw [hl, e]
  exact h
/-- name[j].append(e) -/
def nApp (i : Nat) (fi f : Env → R D) : Env → SR := fun ρ => match ρ[i]?.getD none with
  | none => .no
  | some _ => (fi ρ).st ρ fun j => onN i j ρ fun ys up => (f ρ).st ρ fun d => if ys.length < 16777216 then .nx (ρ.set i (some (up (ys ++ [d])))) else .no
theorem nApp_eq (i : Nat) (fi f : Env → R D) (ρ : Env) : nApp i fi f ρ = match ρ[i]?.getD none with
  | none => .no
  | some _ => (fi ρ).st ρ fun j => onN i j ρ fun ys up => (f ρ).st ρ fun d => if ys.length < 16777216 then .nx (ρ.set i (some (up (ys ++ [d])))) else .no := rfl
theorem slot_of {F : Hp} {Z : Ends} {i : Nat} {ρ : Env} {k : SR} (h : SRes E W F Z (match ρ[i]?.getD none with
  | none => .no
  | some _ => k)) : ∃ d, ρ[i]? = some (some d) ∧ SRes E W F Z k := by
  split at h
  · exact h.elim
  · rename_i d e
    exact ⟨d, some_some e, h⟩
theorem ty_ref {k : Kx} {K : PySem.W.Frag} {H : Hp} {l : Addr} {ws : List V} (h : H l = some (.lst ws)) : tyV K "list" (.ref l) H := .inl ⟨rfl, ws, .inl (.inl h)⟩
theorem ss_nApp {i : Nat} {o ix e : Expr} {fi f : Env → R D} {sp apos cpos pos : Pos} (hK : E.k.K = X.K) (ho : PE X o (tVar i)) (hx : EV X E W ix fi) (h : EO X E W e f) (hpl : PlainIx ix := by exact fun _ _ => rfl) (hs : swapsWith (.Call (.Attribute (.Subscript o ix sp) "append" apos) [e] [] cpos) none pos.line X.env = pure false := by rfl)
    (hbase : attributeBase (.Subscript o ix sp) "append" X.env (eval (.Subscript o ix sp) X.env) = eval (.Subscript o ix sp) X.env := by rfl)
    (hfew : ((backTo cpos (starEach [e] X.env)).all (fun x => !x.1) && (backToKw cpos (keywordEach [] X.env)).all (fun x => x.1.isSome)
      && decide ([e].length + ([] : List Keyword).length + (if ([] : List Keyword).isEmpty then 0 else 1) < 30)) = true := by rfl)
    (hline : (apos.endLine == cpos.line) = true := by rfl) (hst : starEach [e] X.env = (false, eval e X.env) :: starEach [] X.env := by rfl) (hplain : (backTo cpos (starEach [] X.env)).any (·.1) = false := by rfl) :
    SS X E W (.Expr (.Call (.Attribute (.Subscript o ix sp) "append" apos) [e] [] cpos) pos) (nApp i fi f) := by
  refine ⟨ps_mono (ps_expr (pe_bm PySem.F.plainAttrs_list PySem.F.slot_list_append PySem.F.type_list_append mt_append (pe_ix ix_seq ho hx.pe hpl) (pa_cons h.pe pa_nil hst) hbase hfew hline hst hplain) hs) fun Z σ H h => ?_⟩
  obtain ⟨F, ρ, s, q⟩ := h
  obtain ⟨d0, e0, q⟩ := slot_of q
  obtain ⟨fp, sl⟩ := s.sl
  obtain ⟨v0, ev0, r0⟩ := sl.rp i _ e0
  refine ⟨v0, ev0, F, ρ, s, Res.mono q.st (fun j _ q F1 H1 w A t1 r1 => ?_) fun c _ z => SRes.exc s z⟩
  obtain ⟨d, j', n, ys, up, e1, rfl, en, eu, q⟩ := onN_of q
  rw [e0] at e1
  cases e1
  obtain ⟨a, vs, l, ws, B, h1, h2, h3, h4, h5, h6, h7, h8, h9⟩ := (s.tr t1).nst (sl.tr t1) e0 eu
  rw [ev0] at h1
  cases h1
  have core : tyV E.k.K "list" (.ref l) H1 ∧ tCons (tO E W f) tNil σ H1 fun xs H2 => rAppend (.ref l) xs H2 fun _ H3 => Z.nx σ H3 := by
    refine ⟨ty_ref (k := E.k) h5, F1, ρ, s.tr t1, Res.mono q.st (fun y _ q F2 H2 u C t2 r2 nd un => ?_) fun c _ z F' H' t => SRes.exc s z F' H' (t1.trans t)⟩
    by_cases hz : ys.length < 16777216
    · rw [if_pos hz] at q
      have t12 := t1.trans t2
      have new : ∀ a ∈ C, E.He a = none ∧ ∀ j, a ∉ fp j := fun a ha => (s.tr t1).fresh (sl.tr t1) (un a ha)
      have rl := h6.tr t2
      refine ⟨l, ws, u, rfl, rfl, t2.hh _ _ h5, Nat.lt_of_lt_of_eq (by rw [← rl.len]; exact hz) sizeLine_eq.symm, q F2 _ σ t12.ff (h9 F2 H2 t2 (ys ++ [y]) (ws ++ [u]) (B ++ C) (rl.append (RpL.one r2)) ?_ fun a ha => ?_)⟩
      · refine List.nodup_append.mpr ⟨h8, nd, fun a ha b hb z => ?_⟩
        subst z
        exact (new a hb).2 i (h7 a ha)
      · rcases List.mem_append.mp ha with ha | ha
        · exact .inl ha
        · exact .inr (new a ha)
    · rw [if_neg hz] at q
      exact q.elim
  rw [← hK]
  rcases h2 with h2 | h2
  · exact .inl ⟨a, vs, j', _, rfl, r1.1, h2, atI_of h3 en h4, core⟩
  · exact .inr (.inl ⟨a, vs, j', _, rfl, r1.1, h2, atI_of h3 en h4, core⟩)
/-- name[j].extend(e) -/
def nExt (i : Nat) (fi f : Env → R D) : Env → SR := fun ρ => match ρ[i]?.getD none with
  | none => .no
  | some _ => (fi ρ).st ρ fun j => onN i j ρ fun ys up => (f ρ).st ρ fun d => match lstD d with
    | some zs => if ys.length + zs.length ≤ 16777216 then .nx (ρ.set i (some (up (ys ++ zs)))) else .no
    | none => .no
theorem nExt_eq (i : Nat) (fi f : Env → R D) (ρ : Env) : nExt i fi f ρ = match ρ[i]?.getD none with
  | none => .no
  | some _ => (fi ρ).st ρ fun j => onN i j ρ fun ys up => (f ρ).st ρ fun d => match lstD d with
    | some zs => if ys.length + zs.length ≤ 16777216 then .nx (ρ.set i (some (up (ys ++ zs)))) else .no
    | none => .no := rfl
theorem ss_nExt {i : Nat} {o ix e : Expr} {fi f : Env → R D} {sp apos cpos pos : Pos} (hK : E.k.K = X.K) (ho : PE X o (tVar i)) (hx : EV X E W ix fi) (h : EV X E W e f) (hpl : PlainIx ix := by exact fun _ _ => rfl) (hs : swapsWith (.Call (.Attribute (.Subscript o ix sp) "extend" apos) [e] [] cpos) none pos.line X.env = pure false := by rfl)
    (hbase : attributeBase (.Subscript o ix sp) "extend" X.env (eval (.Subscript o ix sp) X.env) = eval (.Subscript o ix sp) X.env := by rfl)
    (hfew : ((backTo cpos (starEach [e] X.env)).all (fun x => !x.1) && (backToKw cpos (keywordEach [] X.env)).all (fun x => x.1.isSome)
      && decide ([e].length + ([] : List Keyword).length + (if ([] : List Keyword).isEmpty then 0 else 1) < 30)) = true := by rfl)
    (hline : (apos.endLine == cpos.line) = true := by rfl) (hst : starEach [e] X.env = (false, eval e X.env) :: starEach [] X.env := by rfl) (hplain : (backTo cpos (starEach [] X.env)).any (·.1) = false := by rfl) :
    SS X E W (.Expr (.Call (.Attribute (.Subscript o ix sp) "extend" apos) [e] [] cpos) pos) (nExt i fi f) := by
  refine ⟨ps_mono (ps_expr (pe_bm PySem.F.plainAttrs_list PySem.F.slot_list_extend PySem.F.type_list_extend mt_extend (pe_ix ix_seq ho hx.pe hpl) (pa_cons h.pe pa_nil hst) hbase hfew hline hst hplain) hs) fun Z σ H h => ?_⟩
  obtain ⟨F, ρ, s, q⟩ := h
  obtain ⟨d0, e0, q⟩ := slot_of q
  obtain ⟨fp, sl⟩ := s.sl
  obtain ⟨v0, ev0, r0⟩ := sl.rp i _ e0
  refine ⟨v0, ev0, F, ρ, s, Res.mono q.st (fun j _ q F1 H1 w A t1 r1 => ?_) fun c _ z => SRes.exc s z⟩
  obtain ⟨d, j', n, ys, up, e1, rfl, en, eu, q⟩ := onN_of q
  rw [e0] at e1
  cases e1
  obtain ⟨a, vs, l, ws, B, h1, h2, h3, h4, h5, h6, h7, h8, h9⟩ := (s.tr t1).nst (sl.tr t1) e0 eu
  rw [ev0] at h1
  cases h1
  have core : tyV E.k.K "list" (.ref l) H1 ∧ tCons (tV E W f) tNil σ H1 fun xs H2 => rExtend (.ref l) xs H2 fun _ H3 => Z.nx σ H3 := by
    refine ⟨ty_ref (k := E.k) h5, F1, ρ, s.tr t1, Res.mono q.st (fun y _ q F2 H2 u C t2 r2 => ?_) fun c _ z F' H' t => SRes.exc s z F' H' (t1.trans t)⟩
    cases ed : lstD y with
    | none => rw [ed] at q; exact q.elim
    | some zs =>
      rw [ed] at q
      have q : SRes E W F Z (if ys.length + zs.length ≤ 16777216 then .nx (ρ.set i (some (up (ys ++ zs)))) else .no) := q
      by_cases hz : ys.length + zs.length ≤ 16777216
      · rw [if_pos hz] at q
        cases y with
        | lst o zs' =>
          obtain ⟨p, e2⟩ := if_some (show (if D.pureL zs' = true then some zs' else none) = some zs from ed)
          subst e2
          obtain ⟨b, us, C, rfl, hb, rw1⟩ := Rp.lstW t2.fh r2
          have rw0 : RpL E.k F2 H2 zs' us [] := RpL.pure p (.refl _) rw1
          have t12 := t1.trans t2
          have rl := h6.tr t2
          refine ⟨l, b, ws, us, rfl, rfl, t2.hh _ _ h5, hb, (by rw [sizeLine_eq, ← rl.len, ← rw0.len]; exact hz), q F2 _ σ t12.ff (h9 F2 H2 t2 (ys ++ zs') (ws ++ us) (B ++ []) (rl.append rw0) (by rw [List.append_nil]; exact h8) fun a ha => .inl (by rw [List.append_nil] at ha; exact ha))⟩
        | _ => cases ed
      · rw [if_neg hz] at q
        exact q.elim
  rw [← hK]
  rcases h2 with h2 | h2
  · exact .inl ⟨a, vs, j', _, rfl, r1.1, h2, atI_of h3 en h4, core⟩
  · exact .inr (.inl ⟨a, vs, j', _, rfl, r1.1, h2, atI_of h3 en h4, core⟩)
/-- name[j][k] = e -/
def nSet (i : Nat) (fi fk f : Env → R D) : Env → SR := fun ρ => (f ρ).st ρ fun d => match ρ[i]?.getD none with
  | none => .no
  | some _ => (fi ρ).st ρ fun j => onN i j ρ fun ys up => (fk ρ).st ρ fun x => match x with
    | .int x => match L2.ixN ys.length x with
      | some m => .nx (ρ.set i (some (up (ys.set m d))))
      | none => .no
    | _ => .no
theorem nSet_eq (i : Nat) (fi fk f : Env → R D) (ρ : Env) : nSet i fi fk f ρ = (f ρ).st ρ fun d => match ρ[i]?.getD none with
  | none => .no
  | some _ => (fi ρ).st ρ fun j => onN i j ρ fun ys up => (fk ρ).st ρ fun x => match x with
    | .int x => match L2.ixN ys.length x with
      | some m => .nx (ρ.set i (some (up (ys.set m d))))
      | none => .no
    | _ => .no := rfl
theorem ss_nSet {i : Nat} {o ix kx e : Expr} {fi fk f : Env → R D} {sp0 sp pos : Pos} (hK : E.k.K = X.K) (ho : PE X o (tVar i)) (hx : EV X E W ix fi) (hk : EV X E W kx fk) (h : EO X E W e f) (hpl : PlainIx ix := by exact fun _ _ => rfl)
    (ha : ∀ v, assign (.Subscript (.Subscript o ix sp0) kx sp) X.env v = (do
      let ov ← holding [v] (eval (.Subscript o ix sp0) X.env)
      let iv ← holding [v, ov] (eval kx X.env)
      standAt sp
      holding [v, ov, iv] (setItem ov iv v)
      release [v, ov, iv] []) := by intro _; rfl)
    (hs : swapsWithSole [.Subscript (.Subscript o ix sp0) kx sp] e pos.line X.env = pure false := by rfl) (hw : swappedStores [.Subscript (.Subscript o ix sp0) kx sp] e X.env = pure none := by rfl)
    (h1 : (assignEach [.Subscript (.Subscript o ix sp0) kx sp] X.env).map (·.2) = [assign (.Subscript (.Subscript o ix sp0) kx sp) X.env] := by rfl) :
    SS X E W (.Assign [.Subscript (.Subscript o ix sp0) kx sp] e pos) (nSet i fi fk f) := by
  refine ⟨ps_mono (ps_asg h.pe (pg_sub (pe_ix ix_seq ho hx.pe hpl) hk.pe set_list ha) hs hw h1) fun Z σ H h => ?_⟩
  obtain ⟨F, ρ, s, q⟩ := h
  refine ⟨F, ρ, s, Res.mono q.st (fun d _ q F0 H0 dv DA t0 r0 nd u => ?_) fun c _ z => SRes.exc s z⟩
  obtain ⟨d0, e0, q⟩ := slot_of q
  obtain ⟨fp, sl⟩ := s.sl
  obtain ⟨v0, ev0, _⟩ := sl.rp i _ e0
  refine ⟨v0, ev0, F0, ρ, s.tr t0, Res.mono q.st (fun j _ q F1 H1 w A t1 r1 => ?_) fun c _ z F' H' t => SRes.exc s z F' H' (t0.trans t)⟩
  obtain ⟨d1, j', n, ys, up, e1, rfl, en, eu, q⟩ := onN_of q
  rw [e0] at e1
  cases e1
  have t01 := t0.trans t1
  obtain ⟨a, vs, l, ws, B, h1, h2, h3, h4, h5, h6, h7, h8, h9⟩ := (s.tr t01).nst (sl.tr t01) e0 eu
  rw [ev0] at h1
  cases h1
  have core : tV E W fk σ H1 fun x H2 => rSetL (.ref l) x dv H2 fun H3 => Z.nx σ H3 := by
    refine ⟨F1, ρ, s.tr t01, Res.mono q.st (fun x _ q F2 H2 xv C t2 r2 => ?_) fun c _ z F' H' t => SRes.exc s z F' H' (t01.trans t)⟩
    cases x with
    | int x =>
      have q : SRes E W F Z (match L2.ixN ys.length x with
        | some m => .nx (ρ.set i (some (up (ys.set m d))))
        | none => .no) := q
      cases em : L2.ixN ys.length x with
      | none => rw [em] at q; exact q.elim
      | some m =>
        rw [em] at q
        have hm := (L2.ixN_seq em).2.1
        have t12 := t01.trans t2
        have rl := h6.tr t2
        obtain ⟨A1, A2, A3, eB, rn⟩ := rl.set (r0.tr (t1.trans t2)) hm
        have new : ∀ a ∈ DA, E.He a = none ∧ ∀ j, a ∉ fp j := fun a ha => s.fresh sl (u a ha)
        refine ⟨l, ws, x, m, rfl, r2.1, t2.hh _ _ h5, by rw [← rl.len]; exact em, q F2 _ σ t12.ff (h9 F2 H2 t2 _ _ _ rn ?_ fun a ha => ?_)⟩
        · rw [eB] at h8
          have n13 : (A1 ++ A3).Nodup := by
            have := List.nodup_append.mp h8
            have h12 := List.nodup_append.mp this.1
            exact List.nodup_append.mpr ⟨h12.1, this.2.1, fun a ha b hb => this.2.2 a (List.mem_append_left _ ha) b hb⟩
          have h13 := List.nodup_append.mp n13
          refine List.nodup_append.mpr ⟨List.nodup_append.mpr ⟨h13.1, nd, fun a ha b hb z => ?_⟩, h13.2.1, fun a ha b hb z => ?_⟩
          · subst z
            exact (new a hb).2 i (h7 a (by rw [eB]; simp [ha]))
          · rcases List.mem_append.mp ha with ha | ha
            · exact h13.2.2 a ha b hb z
            · subst z
              exact (new a ha).2 i (h7 a (by rw [eB]; simp [hb]))
        · rcases List.mem_append.mp ha with ha | ha
          · rcases List.mem_append.mp ha with ha | ha
            · exact .inl (by rw [eB]; simp [ha])
            · exact .inr (new a ha)
          · exact .inl (by rw [eB]; simp [ha])
    | _ => exact q.elim
  rw [← hK]
  rcases h2 with h2 | h2
  · exact .inl ⟨a, vs, j', _, rfl, r1.1, h2, atI_of h3 en h4, core⟩
  · exact .inr (.inl ⟨a, vs, j', _, rfl, r1.1, h2, atI_of h3 en h4, core⟩)
end
end Dv
end
section
set_option maxRecDepth 100000
set_option maxHeartbeats 1000000
namespace Dv
open PySem PySem.Spec PyProof.Rows L2

section
variable {X : Cx} {E : En} {W : WX}
theorem gIn_isbl (x y d : D) (e : gIn x y = some d) : ∃ b, d = .bl b := by
  unfold gIn at e
  cases z : inB x y with
  | none => rw [z] at e; cases e
  | some b => rw [z] at e; cases e; exact ⟨_, rfl⟩
theorem gNotIn_isbl (x y d : D) (e : gNotIn x y = some d) : ∃ b, d = .bl b := by
  unfold gNotIn at e
  cases z : inB x y with
  | none => rw [z] at e; cases e
  | some b => rw [z] at e; cases e; exact ⟨_, rfl⟩
section
variable {a b : Expr} {fa fb : Env → R D} {pos : Pos}
theorem et_in (hK : E.k.K = X.K) (hu : X.A.units + 65 < cLine) (ha : EV X E W a fa) (hb : EV X E W b fb) (hm : behindInMarks .In b = false := by rfl) : ET X E W (.Compare a [.In] [b] pos) (eT (e2 gIn fa fb)) := et_cmp (op_inA hu) (by rw [← hK]; exact says_in) gIn_isbl hm ha hb
theorem et_notIn (hK : E.k.K = X.K) (hu : X.A.units + 65 < cLine) (ha : EV X E W a fa) (hb : EV X E W b fb) (hm : behindInMarks .NotIn b = false := by rfl) : ET X E W (.Compare a [.NotIn] [b] pos) (eT (e2 gNotIn fa fb)) := et_cmp (op_notInA hu) (by rw [← hK]; exact says_notIn) gNotIn_isbl hm ha hb
end
/-! ### any, all of a list of bools -/
def dBls (bs : List Bool) : List D := bs.map .bl
def lBls : List D → Option (List Bool)
  | [] => some []
  | .bl x :: xs => (lBls xs).map fun r => x :: r
  | _ :: _ => none
@[simp] theorem lBls_nil : lBls [] = some [] := rfl
@[simp] theorem lBls_cons (x : Bool) (xs : List D) : lBls (.bl x :: xs) = (lBls xs).map fun r => x :: r := rfl
theorem lBls_some : ∀ {xs : List D} {bs : List Bool}, lBls xs = some bs → xs = dBls bs
  | [], ns, e => by cases e; rfl
  | .bl x :: xs, ns, e => by
    rw [lBls_cons] at e
    cases z : lBls xs with
    | none => rw [z] at e; cases e
    | some r =>
      rw [z] at e
      cases e
      rw [lBls_some z]; rfl
  | .non :: _, _, e => nomatch e
  | .int _ :: _, _, e => nomatch e
  | .str _ :: _, _, e => nomatch e
  | .tup _ :: _, _, e => nomatch e
  | .lst _ _ :: _, _, e => nomatch e
  | .scr _ :: _, _, e => nomatch e
  | .dic _ _ _ :: _, _, e => nomatch e
  | .dit _ _ _ :: _, _, e => nomatch e
  | .ins _ _ _ :: _, _, e => nomatch e
  | .fn _ :: _, _, e => nomatch e
theorem lBls_map {α : Type} (f : α → Bool) : ∀ xs : List α, lBls (xs.map fun x => .bl (f x)) = some (xs.map f)
  | [] => rfl
  | x :: xs => by rw [List.map_cons, lBls_cons, lBls_map f xs]; rfl
theorem rp_bls {k : Kx} {F H : Hp} : ∀ {bs : List Bool} {vs : List V} {A : List Addr}, RpL k F H (dBls bs) vs A → vs = bs.map V.bl
  | [], vs, A, h => by rw [h.1]; rfl
  | n :: ns, vs, A, h => by
    obtain ⟨v, ws, B, C, rfl, rfl, h1, h2⟩ := h
    rw [rp_bls h2, h1.1]
    rfl
def blsD : D → Option (List Bool)
  | .lst _ xs => lBls xs
  | _ => none
@[simp] theorem blsD_lst (o : Bool) (xs : List D) : blsD (.lst o xs) = lBls xs := rfl
def gAny : List D → Option D
  | [x] => (blsD x).map fun bs => .bl (bs.any id)
  | _ => none
def gAll : List D → Option D
  | [x] => (blsD x).map fun bs => .bl (bs.all id)
  | _ => none
@[simp] theorem gAny_one (x : D) : gAny [x] = (blsD x).map fun bs => .bl (bs.any id) := rfl
@[simp] theorem gAll_one (x : D) : gAll [x] = (blsD x).map fun bs => .bl (bs.all id) := rfl
theorem bls_sq {F H : Hp} {d : D} {v : V} {A : List Addr} {bs : List Bool} (fh : Ex F H) (r : Rp E.k F H d v A) (e : blsD d = some bs) : ∃ a, v = .ref a ∧ SqL E.k.K H a (bs.map V.bl) := by
  cases d with
  | lst o xs =>
    obtain ⟨a, vs, B, rfl, s, r⟩ := Rp.lstW fh r
    have := lBls_some (show lBls xs = some bs from e)
    subst this
    rw [rp_bls r] at s
    exact ⟨a, rfl, .inl (.inl s)⟩
  | _ => cases e
theorem says_any : SaysC E (rAny E.k.K) gAny := by
  intro F H ds vs Q d fh r e g
  unfold gAny at e
  split at e
  · rename_i x
    cases ex : blsD x with
    | none => rw [ex] at e; cases e
    | some ns =>
      rw [ex] at e
      cases e
      obtain ⟨v, A, rfl, rr⟩ := r.one
      obtain ⟨a, rfl, s⟩ := bls_sq fh rr ex
      exact ⟨a, ns, rfl, s, g.scal fh fun _ _ => ⟨rfl, rfl⟩⟩
  · cases e
theorem says_all : SaysC E (rAll E.k.K) gAll := by
  intro F H ds vs Q d fh r e g
  unfold gAll at e
  split at e
  · rename_i x
    cases ex : blsD x with
    | none => rw [ex] at e; cases e
    | some ns =>
      rw [ex] at e
      cases e
      obtain ⟨v, A, rfl, rr⟩ := r.one
      obtain ⟨a, rfl, s⟩ := bls_sq fh rr ex
      exact ⟨a, ns, rfl, s, g.scal fh fun _ _ => ⟨rfl, rfl⟩⟩
  · cases e
def gStr : List D → Option D
  | [.int i] => if i.natAbs.log2 < 1920 then some (.str (toString i)) else none
  | _ => none
@[simp] theorem gStr_int (i : Int) : gStr [.int i] = if i.natAbs.log2 < 1920 then some (.str (toString i)) else none := rfl
theorem says_str : SaysC E (fun xs H Q => ∃ i, xs = [.int i] ∧ i.natAbs.log2 < 1920 ∧ Q (.str (toString i)) H) gStr := by
  intro F H ds vs Q d fh r e g
  unfold gStr at e
  split at e
  · obtain ⟨z, e⟩ := if_some e
    cases e
    obtain ⟨v, A, rfl, rr⟩ := r.one
    rw [rr.1]
    exact ⟨_, rfl, z, g.scal fh fun _ _ => ⟨rfl, rfl⟩⟩
  · cases e
end
end Dv
end
section
set_option maxRecDepth 100000
set_option maxHeartbeats 1000000
namespace Dv
open PySem PySem.Spec PyProof.Rows L2

/-! ### displays that own their items; names may be moved into them -/
def mNil : Env → R (List D) := fun _ => .ok []
def mV (f : Env → R D) (g : Env → R (List D)) : Env → R (List D) := fun ρ => (f ρ).bind fun x => if x.pure = true then (g ρ).bind fun xs => .ok (x :: xs) else .no
def mO (f : Env → R D) (g : Env → R (List D)) : Env → R (List D) := fun ρ => (f ρ).bind fun x => (g ρ).bind fun xs => .ok (x :: xs)
def mM (i : Nat) (g : Env → R (List D)) : Env → R (List D) := fun ρ => match ρ[i]?.getD none with
  | some d => (g ρ).bind fun xs => .ok (d :: xs)
  | none => .no
@[simp] theorem mNil_eq (ρ : Env) : mNil ρ = .ok [] := rfl
@[simp] theorem mV_eq (f : Env → R D) (g : Env → R (List D)) (ρ : Env) : mV f g ρ = (f ρ).bind fun x => if x.pure = true then (g ρ).bind fun xs => .ok (x :: xs) else .no := rfl
@[simp] theorem mO_eq (f : Env → R D) (g : Env → R (List D)) (ρ : Env) : mO f g ρ = (f ρ).bind fun x => (g ρ).bind fun xs => .ok (x :: xs) := rfl
@[simp] theorem mM_eq (i : Nat) (g : Env → R (List D)) (ρ : Env) : mM i g ρ = match ρ[i]?.getD none with
  | some d => (g ρ).bind fun xs => .ok (d :: xs)
  | none => .no := rfl
def tM (E : En) (W : WX) (f : Env → R (List D)) (mv : List Nat) : TA := fun σ H Q => ∃ F ρ fp, Stt E F H σ ρ ∧ Sl E F H σ ρ fp ∧
  Res (f ρ) (fun ds => ∀ F' H' vs A, Tr F H F' H' → RpL E.k F' H' ds vs A → A.Nodup → (∀ a ∈ A, H a = none ∨ ∃ i ∈ mv, a ∈ fp i) → Q vs H') (fun c => ∀ F' H', Tr F H F' H' → W (E.ec c) none σ H')
structure EM (X : Cx) (E : En) (W : WX) (es : List Expr) (f : Env → R (List D)) (mv : List Nat) : Prop where
  pa : PA X es (tM E W f mv)
section
variable {X : Cx} {E : En} {W : WX}
theorem em_nil : EM X E W [] mNil [] := ⟨pa_mono pa_nil fun σ H Q ⟨F, ρ, fp, s, sl, q⟩ => q F H [] [] (Tr.refl s.fh) ⟨rfl, rfl⟩ .nil fun _ z => nomatch z⟩
/-- what stands at the head is new, or a slot's -/
theorem em_step {F H F1 H1 : Hp} {σ : L2.St} {ρ : Env} {fp : Nat → List Addr} {g : Env → R (List D)} {mv hv : List Nat} {d : D} {v : V} {A : List Addr} {Q : List V → Hp → Prop} (s : Stt E F H σ ρ) (sl : Sl E F H σ ρ fp) (t1 : Tr F H F1 H1) (r1 : Rp E.k F1 H1 d v A) (nd : A.Nodup)
    (u : ∀ a ∈ A, H a = none ∨ ∃ i ∈ hv, a ∈ fp i) (dis : ∀ i ∈ hv, i ∉ mv)
    (q : Res ((g ρ).bind fun xs => R.ok (d :: xs)) (fun ds => ∀ F' H' vs A, Tr F H F' H' → RpL E.k F' H' ds vs A → A.Nodup → (∀ a ∈ A, H a = none ∨ ∃ i ∈ hv ++ mv, a ∈ fp i) → Q vs H') (fun c => ∀ F' H', Tr F H F' H' → W (E.ec c) none σ H')) :
    tM E W g mv σ H1 fun xs H2 => Q (v :: xs) H2 := by
  refine ⟨F1, ρ, fp, s.tr t1, sl.tr t1, Res.mono q.bind (fun xs _ q F2 H2 vs B t2 r2 nd2 u2 => ?_) fun c _ z F' H' t => z F' H' (t1.trans t)⟩
  have q : ∀ F' H' vs A, Tr F H F' H' → RpL E.k F' H' (d :: xs) vs A → A.Nodup → (∀ a ∈ A, H a = none ∨ ∃ i ∈ hv ++ mv, a ∈ fp i) → Q vs H' := q
  refine q F2 H2 (v :: vs) (A ++ B) (t1.trans t2) ⟨v, vs, A, B, rfl, rfl, r1.tr t2, r2⟩ (List.nodup_append.mpr ⟨nd, nd2, fun a ha b hb z => ?_⟩) fun a ha => ?_
  · subst z
    obtain ⟨_, o, h1, _⟩ := Rp.dom d v A r1 a ha
    rcases u2 a hb with h | ⟨j, hj, h⟩
    · rw [h] at h1; cases h1
    · rcases u a ha with h0 | ⟨i, hi, h0⟩
      · exact (sl.there h).2 h0
      · have := sl.dj i j a h0 h
        subst this
        exact dis i hi hj
  · rcases List.mem_append.mp ha with ha | ha
    · exact (u a ha).imp_right fun ⟨i, hi, h⟩ => ⟨i, List.mem_append_left _ hi, h⟩
    · rcases u2 a ha with h | ⟨j, hj, h⟩
      · exact .inl (none_back t1.hh h)
      · exact .inr ⟨j, List.mem_append_right _ hj, h⟩
theorem em_o {e : Expr} {es : List Expr} {f : Env → R D} {g : Env → R (List D)} {mv : List Nat} (h : EO X E W e f) (hr : EM X E W es g mv) (hs : starEach (e :: es) X.env = (false, eval e X.env) :: starEach es X.env := by rfl) : EM X E W (e :: es) (mO f g) mv := by
  refine ⟨pa_mono (pa_cons h.pe hr.pa hs) fun σ H Q ⟨F, ρ, fp, s, sl, q⟩ => ?_⟩
  refine ⟨F, ρ, s, Res.mono q.bind (fun d _ q F1 H1 v A t1 r1 nd u => ?_) fun c _ z F' H' t => z F' H' t⟩
  exact em_step (hv := []) s sl t1 r1 nd (fun a ha => .inl (u a ha)) (fun i z => nomatch z) q
theorem em_v {e : Expr} {es : List Expr} {f : Env → R D} {g : Env → R (List D)} {mv : List Nat} (h : EV X E W e f) (hr : EM X E W es g mv) (hs : starEach (e :: es) X.env = (false, eval e X.env) :: starEach es X.env := by rfl) : EM X E W (e :: es) (mV f g) mv := by
  refine ⟨pa_mono (pa_cons h.pe hr.pa hs) fun σ H Q ⟨F, ρ, fp, s, sl, q⟩ => ?_⟩
  refine ⟨F, ρ, s, Res.mono q.bind (fun d _ q F1 H1 v A t1 r1 => ?_) fun c _ z F' H' t => z F' H' t⟩
  by_cases p : d.pure = true
  · rw [if_pos p] at q
    have e := Rp.own_nil d v A p r1
    subst e
    exact em_step (hv := []) s sl t1 r1 .nil (fun a z => nomatch z) (fun i z => nomatch z) q
  · rw [if_neg p] at q; exact q.elim
theorem em_m {i : Nat} {e : Expr} {es : List Expr} {g : Env → R (List D)} {mv : List Nat} (hi : i ∉ mv) (h : PE X e (tVar i)) (hr : EM X E W es g mv) (hs : starEach (e :: es) X.env = (false, eval e X.env) :: starEach es X.env := by rfl) : EM X E W (e :: es) (mM i g) (i :: mv) := by
  refine ⟨pa_mono (pa_cons h hr.pa hs) fun σ H Q ⟨F, ρ, fp, s, sl, q⟩ => ?_⟩
  rw [mM_eq] at q
  split at q
  · rename_i d ed
    obtain ⟨v, ev, r⟩ := sl.rp i d (some_some ed)
    exact ⟨v, ev, em_step (hv := [i]) s sl (Tr.refl s.fh) r (sl.nd i) (fun a ha => .inr ⟨i, List.mem_singleton_self _, ha⟩) (fun j hj => by rw [List.mem_singleton.mp hj]; exact hi) q⟩
  · exact q.elim
/-- the display -/
def eTupM (fs : Env → R (List D)) : Env → R D := fun ρ => (fs ρ).bind fun ds => if ds.length ≤ 16777216 then .ok (.tup ds) else .no
def eLstM (fs : Env → R (List D)) : Env → R D := fun ρ => (fs ρ).bind fun ds => if ds.length ≤ 16777216 then .ok (.lst true ds) else .no
@[simp] theorem eTupM_eq (fs : Env → R (List D)) (ρ : Env) : eTupM fs ρ = (fs ρ).bind fun ds => if ds.length ≤ 16777216 then .ok (.tup ds) else .no := rfl
@[simp] theorem eLstM_eq (fs : Env → R (List D)) (ρ : Env) : eLstM fs ρ = (fs ρ).bind fun ds => if ds.length ≤ 16777216 then .ok (.lst true ds) else .no := rfl
theorem rp_newT {k : Kx} {F H : Hp} {ds : List D} {vs : List V} {A : List Addr} {p : Addr} (fh : Ex F H) (hp : H p = none) (r : RpL k F H ds vs A) : Tr F H (upd F p (.tup vs)) (upd H p (.tup vs)) ∧ Rp k (upd F p (.tup vs)) (upd H p (.tup vs)) (.tup ds) (.ref p) A :=
  ⟨tr_newF fh hp, p, vs, rfl, .inl (.inl upd_same), r.tr (tr_newF fh hp)⟩
theorem rp_newL {k : Kx} {F H : Hp} {ds : List D} {vs : List V} {A : List Addr} {p : Addr} (fh : Ex F H) (hp : H p = none) (r : RpL k F H ds vs A) : Tr F H F (upd H p (.lst vs)) ∧ Rp k F (upd H p (.lst vs)) (.lst true ds) (.ref p) (p :: A) := by
  have hf : F p = none := by
    cases q : F p with
    | none => rfl
    | some u => rw [fh p u q] at hp; cases hp
  exact ⟨tr_new fh hp, p, vs, A, rfl, r.tr (tr_new fh hp), (fun z => nomatch z), fun _ => ⟨rfl, hf, upd_same⟩⟩
theorem not_new {k : Kx} {F H : Hp} {ds : List D} {vs : List V} {A : List Addr} {p : Addr} (hp : H p = none) (r : RpL k F H ds vs A) : p ∉ A := fun z => by
  obtain ⟨_, o, h, _⟩ := RpL.dom ds vs A r p z
  rw [hp] at h; cases h
theorem eo_tupM {es : List Expr} {fs : Env → R (List D)} {x1 : Nat} {pos : Pos} (h : EM X E W es fs []) : EO X E W (.Tuple es x1 pos) (eTupM fs) := by
  refine ⟨pe_mono (pe_tup h.pa) fun σ H Q ⟨F, ρ, s, q⟩ => ?_⟩
  obtain ⟨fp, sl⟩ := s.sl
  refine ⟨F, ρ, fp, s, sl, Res.mono q.bind (fun ds _ q F1 H1 vs A t1 r1 nd u => ?_) fun c _ z F' H' t => z F' H' t⟩
  by_cases hz : ds.length ≤ 16777216
  · rw [if_pos hz] at q
    refine ⟨big_le (by rw [← r1.len]; exact hz), fun p hp => ?_⟩
    obtain ⟨t2, r2⟩ := rp_newT t1.fh hp r1
    exact q _ _ _ A (t1.trans t2) r2 nd fun a ha => (u a ha).elim (fun z => z) fun ⟨i, z, _⟩ => nomatch z
  · rw [if_neg hz] at q; exact q.elim
theorem eo_lstM {es : List Expr} {fs : Env → R (List D)} {pos : Pos} (h : EM X E W es fs []) : EO X E W (.List es pos) (eLstM fs) := by
  refine ⟨pe_mono (pe_lst h.pa) fun σ H Q ⟨F, ρ, s, q⟩ => ?_⟩
  obtain ⟨fp, sl⟩ := s.sl
  refine ⟨F, ρ, fp, s, sl, Res.mono q.bind (fun ds _ q F1 H1 vs A t1 r1 nd u => ?_) fun c _ z F' H' t => z F' H' t⟩
  by_cases hz : ds.length ≤ 16777216
  · rw [if_pos hz] at q
    refine ⟨big_le (by rw [← r1.len]; exact hz), fun p hp => ?_⟩
    obtain ⟨t2, r2⟩ := rp_newL t1.fh hp r1
    have u' : ∀ a ∈ A, H a = none := fun a ha => (u a ha).elim (fun z => z) fun ⟨i, z, _⟩ => nomatch z
    refine q _ _ _ (p :: A) (t1.trans t2) r2 (List.nodup_cons.mpr ⟨not_new hp r1, nd⟩) fun a ha => ?_
    rcases List.mem_cons.mp ha with rfl | ha
    · exact none_back t1.hh hp
    · exact u' a ha
  · rw [if_neg hz] at q; exact q.elim
/-- return (a, b, ..), names moved -/
theorem ss_retT {es : List Expr} {fs : Env → R (List D)} {mv : List Nat} {x1 : Nat} {p pos : Pos} (hb : ∀ i ∈ mv, i ∉ E.bs) (h : EM X E W es fs mv) (hE : E.bs = [] := by rfl) : SS X E W (.Return (some (.Tuple es x1 p)) pos) (sRet (eTupM fs)) := by
  refine ⟨ps_mono (ps_ret (pe_tup h.pa)) fun Z σ H ⟨F, ρ, s, q⟩ => ?_⟩
  obtain ⟨fp, sl⟩ := s.sl
  refine ⟨F, ρ, fp, s, sl, Res.mono q.st.bind (fun ds _ q F1 H1 vs A t1 r1 nd u => ?_) fun c _ z => SRes.exc s z⟩
  by_cases hz : ds.length ≤ 16777216
  · rw [if_pos hz] at q
    refine ⟨big_le (by rw [← r1.len]; exact hz), fun p hp => ?_⟩
    obtain ⟨t2, r2⟩ := rp_newT t1.fh hp r1
    have s2 := s.tr (t1.trans t2)
    refine q _ _ σ _ s2 ⟨s2.e0, s2.fh, s2.fr, s2.st, s2.bt, A, r2, nd, fun a ha => ?_⟩ (.inl hE)
    rcases u a ha with h | ⟨i, hi, h⟩
    · exact s.new h
    · exact (sl.nw i a h).elim (fun z => z) fun z => absurd z.2 (hb i hi)
  · rw [if_neg hz] at q; exact q.elim
theorem ss_retL {es : List Expr} {fs : Env → R (List D)} {mv : List Nat} {p pos : Pos} (hb : ∀ i ∈ mv, i ∉ E.bs) (h : EM X E W es fs mv) (hE : E.bs = [] := by rfl) : SS X E W (.Return (some (.List es p)) pos) (sRet (eLstM fs)) := by
  refine ⟨ps_mono (ps_ret (pe_lst h.pa)) fun Z σ H ⟨F, ρ, s, q⟩ => ?_⟩
  obtain ⟨fp, sl⟩ := s.sl
  refine ⟨F, ρ, fp, s, sl, Res.mono q.st.bind (fun ds _ q F1 H1 vs A t1 r1 nd u => ?_) fun c _ z => SRes.exc s z⟩
  by_cases hz : ds.length ≤ 16777216
  · rw [if_pos hz] at q
    refine ⟨big_le (by rw [← r1.len]; exact hz), fun p hp => ?_⟩
    obtain ⟨t2, r2⟩ := rp_newL t1.fh hp r1
    have s2 := s.tr (t1.trans t2)
    refine q _ _ σ _ s2 ⟨s2.e0, s2.fh, s2.fr, s2.st, s2.bt, p :: A, r2, List.nodup_cons.mpr ⟨not_new hp r1, nd⟩, fun a ha => ?_⟩ (.inl hE)
    rcases List.mem_cons.mp ha with rfl | ha
    · exact s.new (none_back t1.hh hp)
    · rcases u a ha with h | ⟨i, hi, h⟩
      · exact s.new h
      · exact (sl.nw i a h).elim (fun z => z) fun z => absurd z.2 (hb i hi)
  · rw [if_neg hz] at q; exact q.elim
/-- a, b = e, e's value its own: what it owns is frozen -/
def sUnO (g : D → Env → Option Env) (f : Env → R D) : Env → SR := fun ρ => (f ρ).st ρ fun d => if d.cold = true then (if d.frz.pure = true then (match g d.frz ρ with
  | some ρ' => .nx ρ'
  | none => .no) else .no) else .no
@[simp] theorem sUnO_eq (g : D → Env → Option Env) (f : Env → R D) (ρ : Env) : sUnO g f ρ = (f ρ).st ρ fun d => if d.cold = true then (if d.frz.pure = true then (match g d.frz ρ with
  | some ρ' => .nx ρ'
  | none => .no) else .no) else .no := rfl
theorem ss_unO {tg e : Expr} {f : Env → R D} {g : D → Env → Option Env} {pos : Pos} (h : EO X E W e f) (hg : EG X E tg g) (hs : swapsWithSole [tg] e pos.line X.env = pure false := by rfl) (hw : swappedStores [tg] e X.env = pure none := by rfl)
    (h1 : (assignEach [tg] X.env).map (·.2) = [assign tg X.env] := by rfl) : SS X E W (.Assign [tg] e pos) (sUnO g f) := by
  refine ⟨ps_mono (ps_asg h.pe hg.pg hs hw h1) fun Z σ H h => ?_⟩
  obtain ⟨F, ρ, s, q⟩ := h
  refine ⟨F, ρ, s, Res.mono q.st (fun d _ q F1 H1 v A t1 r1 nd u => ?_) fun c _ z => SRes.exc s z⟩
  by_cases c : d.cold = true
  · rw [if_pos c] at q
    by_cases p : d.frz.pure = true
    · rw [if_pos p] at q
      cases eg : g d.frz ρ with
      | none => rw [eg] at q; exact q.elim
      | some ρ' =>
        rw [eg] at q
        have n := fun a ha => (Rp.dom d v A r1 a ha).1
        have t2 := tr_fz t1 n u
        exact ⟨_, ρ, d.frz, s.tr t2, p, Rp.frz (H' := H1) n d v A c (fun _ z => z) r1, ρ', eg, fun σ' s' => q _ H1 σ' t2.ff s'⟩
    · rw [if_neg p] at q; exact q.elim
  · rw [if_neg c] at q; exact q.elim
end
end Dv
end
section
set_option maxRecDepth 100000
set_option maxHeartbeats 1000000
namespace Dv
open PySem PySem.Spec PyProof.Rows L2

section
variable {X : Cx} {E : En} {W : WX}
/-! ### what may be a text, a list or a tuple is walked -/
def iAny (K : PySem.W.Frag) (tl : TE) : TI := fun σ H P => tl σ H fun x H1 => ((∃ a xs, x = .ref a ∧ SqL K H1 a xs ∧ P (Itl K a) H1) ∨ ∃ a xs, x = .ref a ∧ SqT K H1 a xs ∧ P (Itt K a) H1) ∨ ∃ z, x = .str z ∧ P (Its z) H1
theorem pi_any {tg l : Expr} {tl : TE} (hl : PE X l tl) : PI X tg l (iAny X.K tl) := by
  refine ⟨fun pins s σ H P I h => thn (hl.run pins s σ H _ I h) ?_⟩
  rintro v s1 ⟨x, H1, I1, r1, (⟨a, xs, rfl, hq, q⟩ | ⟨a, xs, rfl, hq, q⟩) | ⟨z, rfl, q⟩⟩
  · cases r1
    obtain ⟨its, _, pl, _⟩ := I1.list hq
    exact wpAny_pyIter_list pl.isList (pi_one I1 _ (turn_list a _) ⟨_, Heap.get?_push_size _ rfl, rfl, rfl⟩ q)
  · cases r1
    obtain ⟨its, _, pl, _⟩ := I1.tuple hq
    exact wpAny_pyIter_tuple (show s1.heap.IsTuple a its.toArray from pl) (pi_one I1 _ (turn_tuple a _) ⟨_, Heap.get?_push_size _ rfl, rfl, rfl⟩ q)
  · obtain ⟨t, rfl⟩ := r1
    cases ha : z.cps.all (· < 128)
    · exact wpAny_pyIter_wide ha (pi_one (tk := s1.toks) I1 _ (turn_str _ z t "str_iterator" (.inr rfl)) ⟨_, Heap.get?_push_size _ rfl, rfl, rfl⟩ q)
    · exact wpAny_pyIter_ascii ha (pi_one (tk := s1.toks) I1 _ (turn_str _ z t "str_ascii_iterator" (.inl rfl)) ⟨_, Heap.get?_push_size _ rfl, rfl, rfl⟩ q)
def walkW : D → Option (List D)
  | .str x => some (x.cps.toList.map fun c => .str ⟨#[c]⟩)
  | d => walkD d
@[simp] theorem walkW_str (x : Str) : walkW (.str x) = some (x.cps.toList.map fun c => .str ⟨#[c]⟩) := rfl
@[simp] theorem walkW_lst (o : Bool) (xs : List D) : walkW (.lst o xs) = walkD (.lst o xs) := rfl
@[simp] theorem walkW_tup (xs : List D) : walkW (.tup xs) = walkD (.tup xs) := rfl
@[simp] theorem walkW_scr (xs : List D) : walkW (.scr xs) = walkD (.scr xs) := rfl
/-- looked at -/
def iW (f : Env → R D) : Env → R (List D) := fun ρ => (f ρ).bind fun d => R.opt (walkW d)
@[simp] theorem iW_eq (f : Env → R D) (ρ : Env) : iW f ρ = (f ρ).bind fun d => R.opt (walkW d) := rfl
theorem ei_w {tg e : Expr} {f : Env → R D} (hK : E.k.K = X.K) (h : EV X E W e f) : EI X E W tg e (iW f) := by
  refine ⟨pi_mono (pi_any h.pe) fun σ H P q => ?_⟩
  obtain ⟨F, ρ, s, q⟩ := q
  refine ⟨F, ρ, s, Res.mono q.bind (fun d _ q F1 H1 v A t1 r1 => ?_) fun c _ z F' H' t => z F' H' t⟩
  obtain ⟨ds, e, p⟩ := Res.opt q
  rw [← hK]
  cases d with
  | str x => cases e; exact .inr ⟨x, r1.1, p F1 H1 _ t1 wk_str⟩
  | _ => exact .inl (walk_seq t1 r1 e p)
end
end Dv
end
section
set_option maxRecDepth 100000
set_option maxHeartbeats 1000000
namespace Dv
open PySem PySem.Spec PyProof.Rows L2
variable {X : Cx} {E : En} {W : WX}
/-- an own value, frozen to be looked at -/
def eFz (f : Env → R D) : Env → R D := fun ρ => (f ρ).bind fun d => if d.cold = true then .ok d.frz else .no
@[simp] theorem eFz_eq (f : Env → R D) (ρ : Env) : eFz f ρ = (f ρ).bind fun d => if d.cold = true then .ok d.frz else .no := rfl
theorem EO.vz {e : Expr} {f : Env → R D} (h : EO X E W e f) : EV X E W e (eFz f) := by
  refine ⟨pe_mono h.pe fun σ H Q ⟨F, ρ, s, q⟩ => ⟨F, ρ, s, ?_⟩⟩
  refine Res.mono q.bind (fun d _ p F' H' v A t r n u => ?_) fun _ _ z => z
  by_cases c : d.cold = true
  · rw [if_pos c] at p
    have n' := fun a ha => (Rp.dom d v A r a ha).1
    exact p _ H' v [] (tr_fz t n' u) (Rp.frz (H' := H') n' d v A c (fun _ z => z) r)
  · rw [if_neg c] at p
    exact p.elim
end Dv
end
section
set_option maxRecDepth 100000
set_option maxHeartbeats 1000000
namespace L2
open PySem PySem.Spec PyProof.Rows
theorem flat_ints (ys : List Int) : (ys.map V.int).all flatV = true := by
  rw [List.all_map]
  exact List.all_eq_true.mpr fun _ _ => rfl
section
variable {X : Cx}
/-- t.index(i), the first place, among ints -/
theorem mt_tup_indexI : MtR X "tuple.index" (fun x xs H Q => ∃ p, ∃ ys : List Int, ∃ z j, x = .ref p ∧ xs = [.int z] ∧ SqT X.K H p (ys.map V.int) ∧ ys[j]? = some z ∧ (∀ m, m < j → ys[m]? ≠ some z) ∧ Q (.int (j : Nat)) H) := by
  intro pins s σ H x xs v us Q I rx rs h
  obtain ⟨p, ys, z, j, rfl, rfl, hq, hy, hno, q⟩ := h
  cases rx
  obtain ⟨u, rfl, t, rfl⟩ := vals1 rs
  obtain ⟨its, r, pl, hz⟩ := I.tuple hq
  obtain ⟨⟨cls, dd, dt, sl⟩, ho, hc, n, hd⟩ := pl
  simp only at hc hd
  subst hc
  subst hd
  have hl : its.toArray.size = ys.length := by rw [List.size_toArray, ← r.length, List.length_map]
  have hj : j < its.toArray.size := by rw [hl]; exact (List.getElem?_eq_some_iff.mp hy).1
  have at' : ∀ (m : Nat) (hm : m < its.toArray.size), ∃ y t', ys[m]? = some y ∧ its.toArray[m] = Value.int y t' := fun m hm => by
    have hm' : m < ys.length := by rw [← hl]; exact hm
    obtain ⟨w, hw, t', hw'⟩ := r.get (i := m) (x := .int ys[m]) (by simp [hm'])
    refine ⟨ys[m], t', List.getElem?_eq_getElem hm', ?_⟩
    have e := (List.getElem?_eq_some_iff.mp hw).2
    rw [← hw', ← e]
    simp
  refine call_meets PySem.F.slot_tuple_index ⟨_, ho, rfl⟩ PySem.F.entry_tuple_index (PySem.F.args_tuple_index_2 _ _) (TI.tuple_indexAt p its.toArray n dd sl (.int z t) (eqU (.int z)) j hj ?_ ?_)
    ⟨ho, fun w hw => mem_eqAt (x := .int z) ⟨t, rfl⟩ rfl r (flat_ints ys) w (by simpa using hw), ⟨.int (j : Nat), H, I.tok _, ⟨_, rfl⟩, q⟩⟩
  · obtain ⟨y, t', h1, h2⟩ := at' j hj
    rw [hy] at h1
    cases h1
    rw [h2]
    show (z == z) = true
    exact beq_self_eq_true z
  · intro m hm hmj
    obtain ⟨y, t', h1, h2⟩ := at' m hm
    rw [h2]
    show (y == z) = false
    exact beq_eq_false_iff_ne.mpr fun e => hno m hmj (e ▸ h1)
end
end L2
namespace Dv
open PySem PySem.Spec PyProof.Rows L2
variable {X : Cx} {E : En} {W : WX}
/-- the first place of an equal one, in a tuple of ints or of texts -/
def idxD : D → D → Option Nat
  | .tup xs, .int i => (dInts? xs).bind fun ns => ns.findIdx? (· == i)
  | .tup xs, .str z => (txs xs).bind fun ss => ss.findIdx? (· == z)
  | _, _ => none
def eIdx (d : D) (f : Env → R D) : Env → R D := fun ρ => (f ρ).bind fun y => R.opt ((idxD d y).map fun (k : Nat) => D.int (k : Int))
@[simp] theorem eIdx_eq (d : D) (f : Env → R D) (ρ : Env) : eIdx d f ρ = (f ρ).bind fun y => R.opt ((idxD d y).map fun (k : Nat) => D.int (k : Int)) := rfl
/-- a module's tuple, as an object of its own -/
def GlobT (kx : Kx) (mg : Str → Option Value) (x : Str) : Prop := ∃ a o, mg x = some (.ref a) ∧ kx.K.lookup a = some o ∧ o.cls = .type "tuple" ∧ o.dict = none
def rTIx (K : PySem.W.Frag) : V → List V → Hp → VK → Prop := fun x xs H Q => (∃ p, ∃ ys : List Int, ∃ z j, x = .ref p ∧ xs = [.int z] ∧ SqT K H p (ys.map V.int) ∧ ys[j]? = some z ∧ (∀ m, m < j → ys[m]? ≠ some z) ∧ Q (.int (j : Nat)) H) ∨
  (∃ p, ∃ ys : List Str, ∃ z j, x = .ref p ∧ xs = [.str z] ∧ SqT K H p (ys.map V.str) ∧ ys[j]? = some z ∧ (∀ m, m < j → ys[m]? ≠ some z) ∧ Q (.int (j : Nat)) H)
theorem mt_tix : MtR X "tuple.index" (rTIx X.K) := mt_tup_indexI.or mt_tup_index
theorem find_at {α : Type} [BEq α] [LawfulBEq α] {xs : List α} {z : α} {j : Nat} (h : xs.findIdx? (· == z) = some j) : xs[j]? = some z ∧ ∀ m, m < j → xs[m]? ≠ some z := by
  obtain ⟨hj, h1, h2⟩ := List.findIdx?_eq_some_iff_getElem.mp h
  refine ⟨by rw [List.getElem?_eq_getElem hj, eq_of_beq h1], fun m hm e => ?_⟩
  obtain ⟨hm', e⟩ := List.getElem?_eq_some_iff.mp e
  exact h2 m hm (by rw [e]; exact beq_self_eq_true z)
theorem eo_gidx {x : Str} {d : D} {a : Expr} {fa : Env → R D} {p apos pos : Pos} (hK : E.k.K = X.K) (hg : Gl X x) (h : Glob E.k X.mg x d) (ht : GlobT E.k X.mg x) (ha : EV X E W a fa) (hd : (x == ("__debug__" : Str)) = false := by decide)
    (hbase : attributeBase (.Name x p) "index" X.env (eval (.Name x p) X.env) = eval (.Name x p) X.env := by rfl)
    (hfew : ((backTo pos (starEach [a] X.env)).all (fun x => !x.1) && (backToKw pos (keywordEach [] X.env)).all (fun x => x.1.isSome)
      && decide (([a] : List Expr).length + ([] : List Keyword).length + (if ([] : List Keyword).isEmpty then 0 else 1) < 30)) = true := by rfl)
    (hline : (apos.endLine == pos.line) = true := by rfl) (hs : starEach [a] X.env = (false, eval a X.env) :: starEach [] X.env := by rfl) (hplain : (backTo pos (starEach [] X.env)).any (·.1) = false := by rfl) :
    EO X E W (.Call (.Attribute (.Name x p) "index" apos) [a] [] pos) (eIdx d fa) := by
  obtain ⟨b, o, e1, e2, e3, e4⟩ := ht
  obtain ⟨u, v, h1, rv, rp⟩ := h
  rw [e1] at h1
  cases h1
  have hv : v = .ref b := by cases v <;> first | (cases rv; rfl) | (obtain ⟨_, z⟩ := rv; cases z) | cases rv
  subst hv
  refine ⟨pe_mono (pe_bm PySem.F.plainAttrs_tuple PySem.F.slot_tuple_index PySem.F.type_tuple_index mt_tix (pe_glob (v := .ref b) hg e1 rv hd) (pa_cons ha.pe pa_nil hs) hbase hfew hline hs hplain) fun σ H Q q => ?_⟩
  obtain ⟨F, ρ, s, q⟩ := q
  refine ⟨.inr (.inl ⟨rfl, o, by rw [← hK]; exact e2, e3, e4⟩), F, ρ, s, Res.mono q.bind (fun y _ q F2 H2 w B t2 r2 => ?_) fun c _ z F' H' t => z F' H' t⟩
  obtain ⟨d', e, p⟩ := Res.opt q
  obtain ⟨k, ek, e⟩ := Option.map_eq_some_iff.mp e
  subst e
  have g : Q (.int (k : Int)) H2 := p F2 H2 (.int (k : Int)) [] t2 ⟨rfl, rfl⟩ List.nodup_nil fun _ z => nomatch z
  show rTIx X.K (V.ref b) [w] H2 Q
  have rr := rp F2 H2
  rw [← hK]
  cases d with
  | tup xs =>
    obtain ⟨a', vs, ea, sq, rl⟩ := rr
    cases ea
    have sq := ex_t t2.fh sq
    cases y with
    | int i =>
      obtain ⟨ns, en, ei⟩ := Option.bind_eq_some_iff.mp (show (dInts? xs).bind (fun ns => ns.findIdx? (· == i)) = some k from ek)
      have := dIntsO_some en
      subst this
      rw [rp_ints rl] at sq
      obtain ⟨f1, f2⟩ := find_at ei
      exact .inl ⟨b, ns, i, k, rfl, by rw [r2.1], sq, f1, f2, g⟩
    | str z =>
      obtain ⟨ss, en, ei⟩ := Option.bind_eq_some_iff.mp (show (txs xs).bind (fun ss => ss.findIdx? (· == z)) = some k from ek)
      rw [txs_rp rl en] at sq
      obtain ⟨f1, f2⟩ := find_at ei
      exact .inr ⟨b, ss, z, k, rfl, by rw [r2.1], sq, f1, f2, g⟩
    | _ => cases ek
  | _ => cases ek
end Dv
end
section
set_option maxRecDepth 100000
set_option maxHeartbeats 1000000
namespace Dv
open PySem PySem.Spec PyProof.Rows L2
open Builtin Builtin.Str Builtin.Int Builtin.Float
def F16 : FormatSpec := { fill := 48, align := 61, width := some 16, type := some 120 }
def S16 : Str := ⟨#[48, 49, 54, 120]⟩
theorem parse16 (n : String) : parseFormatSpec S16.cps.toList n 62 = .ok F16 := by
  show parseFormatSpec [48, 49, 54, 120] n 62 = .ok F16
  rfl
def hexT (a : Int) : Str := intField' F16 false [] ((Nat.toDigits 16 a.natAbs).map fun c => (if (120 : Nat) == 88 then c.toUpper else c).toNat) [] 4
theorem wp_typeNameOfCut_int {prog : Program} {w : World} {A : Around} {E : Value → Shared → Prop} {s : Shared} {a : Int} {t : Tok} {Q : String → Shared → Prop} (h : Q "int" s) : wpAny (model prog w) A (typeNameOfCut 200 (.int a t)) Q E s := wpAny_typeNameOfCut_int h
theorem gives_hexF (a : Int) (t u : Tok) (f : FormatSpec) (sp : Str) (hne : (sp.length == 0) = false) (hasc : ((sp.cps.toList.drop 1).any (· ≥ 128) || (sp.cps.getD 0 0 ≥ 128 && !([60, 62, 61, 94] : List Nat).contains (sp.cps.getD 1 0))) = false)
    (hp : parseFormatSpec sp.cps.toList "int" 62 = .ok f) (hty : f.type.getD (if (sp.cps.back? == some 0) = true then 0 else 100) = 120) (hpr : f.precision = none) (hz : f.noNeg0 = false) (hal : f.alt = false) (hw : f.width.getD 0 ≤ 100000) (hf : f = F16) :
    Gives («int.__format__» ⟨[.int a t, .str sp u], []⟩) (.str (intField' f (decide (a < 0)) [] ((Nat.toDigits 16 a.natAbs).map fun c => (if (120 : Nat) == 88 then c.toUpper else c).toNat) [] 4)) := by
  intro prog w A R s hq
  unfold Builtin.«int.__format__»
  simp only [selfAndOne, noKeywords, Int.intOfSelf, asInt?, asStr?, List.isEmpty_nil, if_true, pure_bind, bind_pure, bind_assoc, Bool.false_eq_true, if_false, hne, hasc,
    show (Value.str sp u == Value.none) = false from rfl]
  refine wpAny_bind (wpAny_typeNameOf (T := "str") (typeIs_str _ _ _) (by decide) fun _ => ?_)
  refine wpAny_bind (wp_typeNameOfCut_int ?_)
  simp only [hp, hty]
  rw [if_pos (by decide)]
  show wpAny _ _ (if _ then _ else _) _ _ _
  rw [if_neg (by simp [hpr])]
  show wpAny _ _ (if _ then _ else _) _ _ _
  rw [if_neg (by simp [hz])]
  show wpAny _ _ (if _ then _ else _) _ _ _
  rw [if_neg (by decide)]
  show wpAny _ _ (if _ then _ else _) _ _ _
  rw [if_neg (by decide)]
  show wpAny _ _ (if _ then _ else _) _ _ _
  have hw' : ¬ (f.width.getD 0 > 100000) := by omega
  rw [if_neg (by simpa using hw')]
  show wpAny _ _ (retStr _) _ _ _
  have e : ∀ (Y : Str), Y = (intField' f (decide (a < 0)) [] ((Nat.toDigits 16 a.natAbs).map fun c => (if (120 : Nat) == 88 then c.toUpper else c).toNat) [] 4) → wpAny (model prog w) A.in1 (retStr Y) (fun fin s' =>
      match fin with
      | Fin.done f => R (Except.ok f) s'
      | Fin.again c' => c'.quiet = true ∧ codeAny (model prog w) A c' R s') (fun e s' => R (Except.error e) s') s := by
    rintro _ rfl
    exact wpAny_bind (wpAny_mkStr (wpAny_pure hq.2) hq.1)
  refine e _ ?_
  subst hf
  rfl
theorem gives_hex16 (a : Int) (t u : Tok) (h : 0 ≤ a) : Gives («int.__format__» ⟨[.int a t, .str S16 u], []⟩) (.str (hexT a)) := by
  have := gives_hexF a t u F16 S16 rfl (by decide) (parse16 _) rfl rfl rfl rfl (by decide) rfl
  rw [show decide (a < 0) = false from decide_eq_false (by omega)] at this
  exact this
/-! the digits -/
def hd : Nat → Nat → List Nat
  | 0, _ => []
  | k + 1, n => hd k (n / 16) ++ [(Nat.digitChar (n % 16)).toNat]
theorem hd_len : ∀ k n, (hd k n).length = k
  | 0, _ => rfl
  | k + 1, n => by rw [hd, List.length_append, hd_len k]; rfl
theorem hd_zero : ∀ k, hd k 0 = List.replicate k 48
  | 0 => rfl
  | k + 1 => by
    rw [hd, Nat.zero_div, hd_zero k, List.replicate_succ']
    rfl
theorem hd_dig : ∀ (k n : Nat), 1 ≤ k → n < 16 ^ k → List.replicate (k - (Nat.toDigits 16 n).length) 48 ++ (Nat.toDigits 16 n).map Char.toNat = hd k n
  | 0, _, h, _ => absurd h (by omega)
  | k + 1, n, _, h => by
    by_cases g : n < 16
    · rw [Nat.toDigits_of_lt_base g, hd, Nat.div_eq_of_lt g, hd_zero, Nat.mod_eq_of_lt g]
      simp
    · have h1 : n / 16 < 16 ^ k := by
        rw [Nat.pow_succ] at h
        exact Nat.div_lt_of_lt_mul (by rw [Nat.mul_comm]; exact h)
      have k1 : 1 ≤ k := by
        rcases Nat.eq_zero_or_pos k with z | z
        · subst z; simp at h; omega
        · exact z
      rw [Nat.toDigits_of_base_le (by decide) (by omega), hd, ← hd_dig k _ k1 h1, List.map_append, List.length_append]
      simp [Nat.add_sub_add_right]
theorem hexT_eq (n : Nat) (h : n < 18446744073709551616) : hexT (n : Int) = ⟨(hd 16 n).toArray⟩ := by
  have e := hd_dig 16 n (by decide) h
  rw [← e]
  have l : ((Nat.toDigits 16 n).map fun c => c.toNat).isEmpty = false := by
    have := Nat.length_toDigits_pos (b := 16) (n := n)
    cases q : Nat.toDigits 16 n with
    | nil => rw [q] at this; simp at this
    | cons _ _ => rfl
  unfold hexT F16 intField'
  simp [l]
  omega
theorem hd_inj16 : ∀ a : Nat, a < 16 → ∀ b : Nat, b < 16 → (Nat.digitChar a).toNat = (Nat.digitChar b).toNat → a = b := by decide +kernel
theorem hd_inj : ∀ (k n m : Nat), hd k n = hd k m → n % 16 ^ k = m % 16 ^ k
  | 0, n, m, _ => by simp [Nat.mod_one]
  | k + 1, n, m, h => by
    rw [hd, hd] at h
    obtain ⟨h1, h2⟩ := List.append_inj h (by rw [hd_len, hd_len])
    have a := hd_inj k _ _ h1
    have b := hd_inj16 (n % 16) (Nat.mod_lt _ (by decide)) (m % 16) (Nat.mod_lt _ (by decide)) (List.cons.inj h2).1
    rw [Nat.pow_succ, Nat.mul_comm, Nat.mod_mul, Nat.mod_mul, a, b]
theorem hexT_len (i : Int) (h0 : 0 ≤ i) (h : i < 18446744073709551616) : (hexT i).length = 16 := by
  obtain ⟨n, rfl⟩ := Int.eq_ofNat_of_zero_le h0
  rw [hexT_eq n (by omega)]
  show (hd 16 n).toArray.size = 16
  rw [List.size_toArray, hd_len]
theorem pe_hex {X : Cx} {e : Expr} {te : TE} {j : Nat} {p1 p2 p3 pos : Pos} (he : PE X e te) : PE X (.JoinedStr [.FormattedValue e (-1) (some (.JoinedStr [.Constant (.str (Str.ofString "016x")) j p1] p2)) p3] pos) (fun σ H Q => te σ H fun x H1 => ∃ i : Int, x = .int i ∧ 0 ≤ i ∧ i < 18446744073709551616 ∧ Q (.str (hexT i)) H1) := by
  refine ⟨fun pins s σ H Q I h => ?_⟩
  refine wpAny_JoinedStr_one (wpAny_FormattedValue_spec (thn (he.run pins s σ H _ I h) fun v s1 hv => ?_))
  obtain ⟨x, H1, I1, r1, i, rfl, h0, h2, q⟩ := hv
  obtain ⟨t, rfl⟩ := r1
  have hs := (pe_joined1 (pos := p2) (pe_str (X := X) (x := Str.ofString "016x") (j := j) (pos := p1))).run pins s1 σ H1 (fun y H2 => y = .str (Str.ofString "016x") ∧ H2 = H1) I1 ⟨rfl, rfl⟩
  refine thn hs fun r s2 hr => ?_
  obtain ⟨y, H2, I2, r2, rfl, rfl⟩ := hr
  obtain ⟨t2, rfl⟩ := r2
  have e16 : Str.ofString "016x" = S16 := by decide +kernel
  have hl := hexT_len i h0 h2
  refine ⟨Str.ofString "016x", t2, rfl, ?_⟩
  rw [e16]
  exact wpAny_formatField_spec (by rfl) (fun s' => typeIs_int s' i t) F.slot_int_format F.entry_int_format F.args_int_format_2 (fun u => gives_hex16 i t u h0) ⟨.str (hexT i), H2, I2.tok _, ⟨_, rfl⟩, q⟩ (by rw [sizeLine_eq]; decide) (by rw [hl, sizeLine_eq]; decide)
def gHex : D → Option D
  | .int i => if 0 ≤ i ∧ i < 18446744073709551616 then some (.str (hexT i)) else none
  | _ => none
@[simp] theorem gHex_int (i : Int) : gHex (.int i) = if 0 ≤ i ∧ i < 18446744073709551616 then some (.str (hexT i)) else none := rfl
/-- f'{e:016x}' -/
theorem eo_hex {X : Cx} {E : En} {W : WX} {e : Expr} {f : Env → R D} {j : Nat} {p1 p2 p3 pos : Pos} (h : EV X E W e f) : EO X E W (.JoinedStr [.FormattedValue e (-1) (some (.JoinedStr [.Constant (.str (Str.ofString "016x")) j p1] p2)) p3] pos) (e1 gHex f) := by
  refine ⟨pe_mono (pe_hex h.pe) fun σ H Q hh => ?_⟩
  obtain ⟨F, ρ, s, q⟩ := hh
  refine ⟨F, ρ, s, Res.mono q.bind (fun x _ q F1 H1 v A t1 r1 => ?_) fun c _ z F' H' t => z F' H' t⟩
  obtain ⟨d, e, p⟩ := q.opt
  cases x with
  | int i =>
    simp only [gHex_int] at e
    by_cases c : 0 ≤ i ∧ i < 18446744073709551616
    · rw [if_pos c] at e
      cases e
      exact ⟨i, r1.1, c.1, c.2, p F1 H1 _ [] t1 ⟨rfl, rfl⟩ .nil fun _ z => nomatch z⟩
    · rw [if_neg c] at e; cases e
  | _ => cases e
end Dv
end
section
set_option maxRecDepth 100000
set_option maxHeartbeats 1000000
namespace Dv
open PySem PySem.Spec PyProof.Rows L2

/-! ## expressions with an effect on what slots own -/
/-- what such an expression comes to: a value and the slots behind it -/
inductive XR (α : Type) where
  | no | ok (a : α) (ρ : Env) | ex (c : Nat) (ρ : Env)
def XR.bind {α β : Type} (r : XR α) (f : α → Env → XR β) : XR β := match r with
  | .no => .no
  | .ok a ρ => f a ρ
  | .ex c ρ => .ex c ρ
@[simp] theorem XR.bind_no {α β : Type} (f : α → Env → XR β) : (XR.no).bind f = .no := rfl
@[simp] theorem XR.bind_ok {α β : Type} (a : α) (ρ : Env) (f : α → Env → XR β) : (XR.ok a ρ).bind f = f a ρ := rfl
@[simp] theorem XR.bind_ex {α β : Type} (c : Nat) (ρ : Env) (f : α → Env → XR β) : (XR.ex c ρ : XR α).bind f = .ex c ρ := rfl
def XR.opt {α : Type} (o : Option α) (ρ : Env) : XR α := match o with
  | some a => .ok a ρ
  | none => .no
@[simp] theorem XR.opt_some {α : Type} (a : α) (ρ : Env) : XR.opt (some a) ρ = .ok a ρ := rfl
@[simp] theorem XR.opt_none {α : Type} (ρ : Env) : (XR.opt none ρ : XR α) = .no := rfl
/-- without an effect -/
def R.x {α : Type} (r : R α) (ρ : Env) : XR α := match r with
  | .no => .no
  | .ok a => .ok a ρ
  | .ex c => .ex c ρ
@[simp] theorem R.x_no {α : Type} (ρ : Env) : (R.no : R α).x ρ = .no := rfl
@[simp] theorem R.x_ok {α : Type} (a : α) (ρ : Env) : (R.ok a).x ρ = .ok a ρ := rfl
@[simp] theorem R.x_ex {α : Type} (c : Nat) (ρ : Env) : (R.ex c : R α).x ρ = .ex c ρ := rfl
def XRes {α : Type} (r : XR α) (P : α → Env → Prop) (E : Nat → Env → Prop) : Prop := match r with
  | .no => False
  | .ok a ρ => P a ρ
  | .ex c ρ => E c ρ
theorem XRes.mono {α : Type} {r : XR α} {P P' : α → Env → Prop} {E E' : Nat → Env → Prop} (h : XRes r P E) (p : ∀ a ρ, r = .ok a ρ → P a ρ → P' a ρ) (e : ∀ c ρ, E c ρ → E' c ρ) : XRes r P' E' := by
  cases r with
  | no => exact h
  | ok a ρ => exact p a ρ rfl h
  | ex c ρ => exact e c ρ h
theorem XRes.bind {α β : Type} {r : XR α} {f : α → Env → XR β} {P : β → Env → Prop} {E : Nat → Env → Prop} (h : XRes (r.bind f) P E) : XRes r (fun a ρ => XRes (f a ρ) P E) E := by
  cases r with
  | no => exact h
  | ok a ρ => exact h
  | ex c ρ => exact h
theorem XRes.x {α : Type} {r : R α} {ρ : Env} {P : α → Env → Prop} {E : Nat → Env → Prop} (h : XRes (r.x ρ) P E) : Res r (fun a => P a ρ) (fun c => E c ρ) := by
  cases r with
  | no => exact h
  | ok a => exact h
  | ex c => exact h
theorem XRes.opt {α : Type} {o : Option α} {ρ : Env} {P : α → Env → Prop} {E : Nat → Env → Prop} (h : XRes (XR.opt o ρ) P E) : ∃ a, o = some a ∧ P a ρ := by
  cases o with
  | none => exact h.elim
  | some a => exact ⟨a, rfl, h⟩

section
variable {E : En} {F H F' H' : Hp}
/-- the last one held is let go -/
theorem Stt.pop' {σ : L2.St} {ρ : Env} {o : Option V} {p : Option D} {fp : Nat → List Addr} (s : Stt E F H (σ ++ [o]) (ρ ++ [p])) (sl : Sl E F H (σ ++ [o]) (ρ ++ [p]) fp) (hb : ∀ i ∈ E.bs, i < σ.length) :
    Stt E F H σ ρ ∧ Sl E F H σ ρ (fun j => if j = σ.length then [] else fp j) ∧ (∀ d, p = some d → ∃ v, o = some v ∧ Rp E.k F H d v (fp σ.length)) ∧ (fp σ.length).Nodup ∧ ∀ a ∈ fp σ.length, E.He a = none ∧ ∀ j, a ∉ (if j = σ.length then [] else fp j) := by
  have hl : ρ.length = σ.length := by have := s.len; simpa using this
  have at' : ∀ j, j ≠ σ.length → ((ρ ++ [p])[j]?).getD none = (ρ[j]?).getD none := fun j n => by
    by_cases q : j < ρ.length
    · rw [List.getElem?_append_left q]
    · rw [List.getElem?_append_right (by omega), List.getElem?_singleton, if_neg (by omega), List.getElem?_eq_none (by omega)]
  have sl' : Sl E F H σ ρ (fun j => if j = σ.length then [] else fp j) := by
    refine ⟨fun j d e => ?_, fun j e => ?_, fun j => ?_, fun j j' a ha ha' => ?_, fun j a ha => ?_⟩
    · have lj : j < ρ.length := (List.getElem?_eq_some_iff.mp e).1
      obtain ⟨v, h1, h2⟩ := sl.rp j d (by rw [List.getElem?_append_left lj]; exact e)
      rw [List.getElem?_append_left (by omega)] at h1
      exact ⟨v, h1, by show Rp _ _ _ _ _ (if j = σ.length then [] else fp j); rw [if_neg (by omega)]; exact h2⟩
    · show (if j = σ.length then [] else fp j) = []
      by_cases q : j = σ.length
      · rw [if_pos q]
      · rw [if_neg q]; exact sl.em j (by rw [at' j q]; exact e)
    · show (if j = σ.length then [] else fp j).Nodup
      by_cases q : j = σ.length
      · rw [if_pos q]; exact .nil
      · rw [if_neg q]; exact sl.nd j
    · have ha : a ∈ (if j = σ.length then [] else fp j) := ha
      have ha' : a ∈ (if j' = σ.length then [] else fp j') := ha'
      by_cases q : j = σ.length
      · rw [if_pos q] at ha; cases ha
      · by_cases q' : j' = σ.length
        · rw [if_pos q'] at ha'; cases ha'
        · rw [if_neg q] at ha; rw [if_neg q'] at ha'; exact sl.dj j j' a ha ha'
    · have ha : a ∈ (if j = σ.length then [] else fp j) := ha
      by_cases q : j = σ.length
      · rw [if_pos q] at ha; cases ha
      · rw [if_neg q] at ha; exact sl.nw j a ha
  refine ⟨⟨s.e0, s.fh, s.fr, s.st, s.bt, hl, fun j hj => ⟨hb j hj, by have := (s.bv j hj).2; rwa [List.getElem?_append_left (hb j hj)] at this⟩, _, sl'⟩, sl', fun d e => ?_, sl.nd _, fun a ha => ⟨?_, fun j hj => ?_⟩⟩
  · obtain ⟨v, h1, h2⟩ := sl.rp σ.length d (by rw [List.getElem?_append_right (by omega), e, hl, Nat.sub_self]; rfl)
    rw [List.getElem?_append_right (Nat.le_refl _), Nat.sub_self] at h1
    exact ⟨v, by simpa using h1, h2⟩
  · exact (sl.nw _ a ha).elim (fun z => z) fun z => absurd (hb _ z.2) (Nat.lt_irrefl _)
  · by_cases q : j = σ.length
    · rw [if_pos q] at hj; cases hj
    · rw [if_neg q] at hj; exact q (sl.dj _ _ a hj ha)
theorem Stt.pop {σ : L2.St} {ρ : Env} {o : Option V} {p : Option D} (s : Stt E F H (σ ++ [o]) (ρ ++ [p])) (hb : ∀ i ∈ E.bs, i < σ.length) : Stt E F H σ ρ := by
  obtain ⟨fp, sl⟩ := s.sl
  exact (s.pop' sl hb).1
theorem Stt.top {σ : L2.St} {ρ : Env} {o : Option V} {d : D} (s : Stt E F H (σ ++ [o]) (ρ ++ [some d])) (hb : ∀ i ∈ E.bs, i < σ.length) : ∃ v A, o = some v ∧ Rp E.k F H d v A ∧ A.Nodup := by
  obtain ⟨fp, sl⟩ := s.sl
  obtain ⟨_, _, h, n, _⟩ := s.pop' sl hb
  obtain ⟨v, e, r⟩ := h d rfl
  exact ⟨v, _, e, r, n⟩
/-- several held ones together -/
theorem Stt.collect : ∀ (vs : List V) (ds : List D) {σ : L2.St} {ρ : Env} {fp : Nat → List Addr}, vs.length = ds.length → Stt E F H (σ ++ vs.map some) (ρ ++ ds.map some) → Sl E F H (σ ++ vs.map some) (ρ ++ ds.map some) fp → (∀ i ∈ E.bs, i < σ.length) →
    ∃ fp' A, Stt E F H σ ρ ∧ Sl E F H σ ρ fp' ∧ RpL E.k F H ds vs A ∧ A.Nodup ∧ ∀ a ∈ A, E.He a = none ∧ ∀ j, a ∉ fp' j
  | [], ds, σ, ρ, fp, hl, s, sl, hb => by
    cases ds with
    | cons _ _ => cases hl
    | nil =>
      simp only [List.map_nil, List.append_nil] at s sl
      exact ⟨fp, [], s, sl, ⟨rfl, rfl⟩, .nil, fun _ z => nomatch z⟩
  | v :: vs, ds, σ, ρ, fp, hl, s, sl, hb => by
    cases ds with
    | nil => cases hl
    | cons d ds =>
      have e1 : σ ++ (v :: vs).map some = (σ ++ [some v]) ++ vs.map some := by simp
      have e2 : ρ ++ (d :: ds).map some = (ρ ++ [some d]) ++ ds.map some := by simp
      rw [e1, e2] at s sl
      obtain ⟨fp1, B, s1, sl1, r1, n1, u1⟩ := Stt.collect vs ds (by simpa using hl) s sl (fun i hi => by have := hb i hi; rw [List.length_append]; omega)
      obtain ⟨s2, sl2, h2, n2, u2⟩ := s1.pop' sl1 hb
      obtain ⟨w, ew, r2⟩ := h2 d rfl
      cases ew
      refine ⟨_, fp1 σ.length ++ B, s2, sl2, ⟨v, vs, _, B, rfl, rfl, r2, r1⟩, List.nodup_append.mpr ⟨n2, n1, fun a ha b hb' z => ?_⟩, fun a ha => ?_⟩
      · subst z; exact (u1 a hb').2 _ ha
      · rcases List.mem_append.mp ha with ha | ha
        · exact u2 a ha
        · refine ⟨(u1 a ha).1, fun j hj => ?_⟩
          by_cases q : j = σ.length
          · rw [if_pos q] at hj; cases hj
          · rw [if_neg q] at hj; exact (u1 a ha).2 j hj
end

/-! ### the judgement -/
def tX (E : En) (W : WX) (f : Env → XR D) : TE := fun σ H Q => ∃ (F : Hp) (ρ : Env) (τ : L2.St) (δ : Env), Stt E F H (σ ++ τ) (ρ ++ δ) ∧ ρ.length = σ.length ∧ (∀ i ∈ E.bs, i < σ.length) ∧
  XRes (f ρ) (fun d ρ' => ∀ F' H' v, Ex F F' → ρ'.length = σ.length → Stt E F' H' (σ ++ (τ ++ [some v])) (ρ' ++ (δ ++ [some d])) → Q v H') (fun c ρ' => ∀ F' H', Ex F F' → ρ'.length = σ.length → Stt E F' H' (σ ++ τ) (ρ' ++ δ) → W (E.ec c) none σ H')
def tXT (E : En) (W : WX) (f : Env → XR Bool) : TT := fun σ H Q => ∃ (F : Hp) (ρ : Env) (τ : L2.St) (δ : Env), Stt E F H (σ ++ τ) (ρ ++ δ) ∧ ρ.length = σ.length ∧ (∀ i ∈ E.bs, i < σ.length) ∧
  XRes (f ρ) (fun b ρ' => ∀ F' H', Ex F F' → ρ'.length = σ.length → Stt E F' H' (σ ++ τ) (ρ' ++ δ) → Q b H') (fun c ρ' => ∀ F' H', Ex F F' → ρ'.length = σ.length → Stt E F' H' (σ ++ τ) (ρ' ++ δ) → W (E.ec c) none σ H')
/-- arguments: all held -/
def tXA (E : En) (W : WX) (f : Env → XR (List D)) : TA := fun σ H Q => ∃ (F : Hp) (ρ : Env) (τ : L2.St) (δ : Env), Stt E F H (σ ++ τ) (ρ ++ δ) ∧ ρ.length = σ.length ∧ (∀ i ∈ E.bs, i < σ.length) ∧
  XRes (f ρ) (fun ds ρ' => ∀ F' H' vs, Ex F F' → ρ'.length = σ.length → vs.length = ds.length → Stt E F' H' (σ ++ (τ ++ vs.map some)) (ρ' ++ (δ ++ ds.map some)) → Q vs H') (fun c ρ' => ∀ F' H', Ex F F' → ρ'.length = σ.length → Stt E F' H' (σ ++ τ) (ρ' ++ δ) → W (E.ec c) none σ H')
structure EX (X : Cx) (E : En) (W : WX) (e : Expr) (f : Env → XR D) : Prop where
  pe : PE X e (tX E W f)
structure EXT (X : Cx) (E : En) (W : WX) (e : Expr) (f : Env → XR Bool) : Prop where
  pt : PT X e (tXT E W f)
structure EXW (X : Cx) (E : En) (W : WX) (e : Expr) (f : Env → XR Bool) : Prop where
  pw : PW X e (tXT E W f)
structure EXA (X : Cx) (E : En) (W : WX) (es : List Expr) (f : Env → XR (List D)) : Prop where
  pa : PA X es (tXA E W f)

section
variable {X : Cx} {E : En} {W : WX}
theorem blt {σ : L2.St} {τ : L2.St} (hb : ∀ i ∈ E.bs, i < σ.length) : ∀ i ∈ E.bs, i < (σ ++ τ).length := fun i hi => by rw [List.length_append]; exact Nat.lt_of_lt_of_le (hb i hi) (Nat.le_add_right _ _)
/-- the slots alone -/
theorem Stt.slots {F H : Hp} {σ : L2.St} {ρ : Env} : ∀ {τ : L2.St} {δ : Env}, Stt E F H (σ ++ τ) (ρ ++ δ) → ρ.length = σ.length → (∀ i ∈ E.bs, i < σ.length) → Stt E F H σ ρ := fun {τ δ} s hl hb => by
  obtain ⟨n, hn⟩ : ∃ n, τ.length = n := ⟨_, rfl⟩
  induction n generalizing τ δ with
  | zero =>
    have e1 : τ = [] := List.length_eq_zero_iff.mp hn
    subst e1
    have : δ = [] := by have := s.len; simp [hl] at this; exact this
    subst this
    simpa using s
  | succ n ih =>
    rcases List.eq_nil_or_concat τ with e | ⟨τ', o, e⟩
    · subst e; cases hn
    · rcases List.eq_nil_or_concat δ with e' | ⟨δ', p, e'⟩
      · subst e'; have := s.len; simp [hl] at this; rw [this] at hn; cases hn
      · rw [e', e, List.concat_eq_append, List.concat_eq_append] at s
        rw [e, List.length_concat] at hn
        rw [← List.append_assoc, ← List.append_assoc] at s
        exact ih (s.pop (blt hb)) (by omega)
theorem Stt.pushX {F H F' H' : Hp} {σ τ : L2.St} {ρ δ : Env} {d : D} {v : V} {A : List Addr} (s : Stt E F H (σ ++ τ) (ρ ++ δ)) (t : Tr F H F' H') (r : Rp E.k F' H' d v A) (nd : A.Nodup) (u : ∀ a ∈ A, H a = none) : Stt E F' H' (σ ++ (τ ++ [some v])) (ρ ++ (δ ++ [some d])) := by
  rw [← List.append_assoc, ← List.append_assoc]
  exact s.push t r nd u
theorem Stt.popX {F H : Hp} {σ τ : L2.St} {ρ δ : Env} {o : Option V} {p : Option D} (s : Stt E F H (σ ++ (τ ++ [o])) (ρ ++ (δ ++ [p]))) (hb : ∀ i ∈ E.bs, i < σ.length) : Stt E F H (σ ++ τ) (ρ ++ δ) := by
  rw [← List.append_assoc, ← List.append_assoc] at s
  exact s.pop (blt hb)
theorem Stt.topX {F H : Hp} {σ τ : L2.St} {ρ δ : Env} {v : V} {d : D} (s : Stt E F H (σ ++ (τ ++ [some v])) (ρ ++ (δ ++ [some d]))) (hb : ∀ i ∈ E.bs, i < σ.length) : ∃ A, Rp E.k F H d v A ∧ A.Nodup := by
  rw [← List.append_assoc, ← List.append_assoc] at s
  obtain ⟨w, A, e, r, n⟩ := s.top (blt hb)
  cases e
  exact ⟨A, r, n⟩
theorem Stt.slotX {F H : Hp} {σ τ : L2.St} {ρ δ : Env} {i : Nat} {d : D} (s : Stt E F H (σ ++ τ) (ρ ++ δ)) (hl : ρ.length = σ.length) (e : ρ[i]? = some (some d)) : ∃ v A, σ[i]? = some (some v) ∧ Rp E.k F H d v A := by
  obtain ⟨fp, sl⟩ := s.sl
  have hi := (List.getElem?_eq_some_iff.mp e).1
  obtain ⟨v, h1, h2⟩ := sl.rp i d (by rw [List.getElem?_append_left hi]; exact e)
  rw [List.getElem?_append_left (by omega)] at h1
  exact ⟨v, _, h1, h2⟩
/-- what is made out of what is held, in their place -/
theorem GOk.ofX {F F0 H : Hp} {σ τ : L2.St} {ρ δ : Env} {Q : VK} {d : D} (s : Stt E F H (σ ++ τ) (ρ ++ δ)) (hl : ρ.length = σ.length) (x : Ex F0 F) (q : ∀ F' H' v, Ex F0 F' → ρ.length = σ.length → Stt E F' H' (σ ++ (τ ++ [some v])) (ρ ++ (δ ++ [some d])) → Q v H') : GOk E F H Q d :=
  fun F' H' v A t r nd u => q F' H' v (x.trans t.ff) hl (s.pushX t r nd u)

/-! ### without an effect -/
def xO (f : Env → R D) : Env → XR D := fun ρ => (f ρ).x ρ
@[simp] theorem xO_eq (f : Env → R D) (ρ : Env) : xO f ρ = (f ρ).x ρ := rfl
theorem xe_o {e : Expr} {f : Env → R D} (h : EO X E W e f) : EX X E W e (xO f) := by
  refine ⟨pe_mono h.pe fun σ H Q ⟨F, ρ, τ, δ, s, hl, hb, q⟩ => ⟨F, ρ, s.slots hl hb, Res.mono (XRes.x q) (fun d _ q F' H' v A t r nd u => q F' H' v t.ff hl (s.pushX t r nd u)) fun c _ z F' H' t => z F' H' t.ff hl (s.tr t)⟩⟩
def xT (f : Env → R Bool) : Env → XR Bool := fun ρ => (f ρ).x ρ
@[simp] theorem xT_eq (f : Env → R Bool) (ρ : Env) : xT f ρ = (f ρ).x ρ := rfl
theorem xt_t {e : Expr} {f : Env → R Bool} (h : ET X E W e f) : EXT X E W e (xT f) := by
  refine ⟨pt_mono h.pt fun σ H Q ⟨F, ρ, τ, δ, s, hl, hb, q⟩ => ⟨F, ρ, s.slots hl hb, Res.mono (XRes.x q) (fun d _ q F' H' t => q F' H' t.ff hl (s.tr t)) fun c _ z F' H' t => z F' H' t.ff hl (s.tr t)⟩⟩
/-! ### one and two operands -/
def x1 (g : D → Option D) (fa : Env → XR D) : Env → XR D := fun ρ => (fa ρ).bind fun x ρ => XR.opt (g x) ρ
@[simp] theorem x1_eq (g : D → Option D) (fa : Env → XR D) (ρ : Env) : x1 g fa ρ = (fa ρ).bind fun x ρ => XR.opt (g x) ρ := rfl
def x2 (g : D → D → Option D) (fa fb : Env → XR D) : Env → XR D := fun ρ => (fa ρ).bind fun x ρ => (fb ρ).bind fun y ρ => XR.opt (g x y) ρ
@[simp] theorem x2_eq (g : D → D → Option D) (fa fb : Env → XR D) (ρ : Env) : x2 g fa fb ρ = (fa ρ).bind fun x ρ => (fb ρ).bind fun y ρ => XR.opt (g x y) ρ := rfl
/-- the first one a name, looked at behind the second -/
def x2n (g : D → D → Option D) (i : Nat) (fb : Env → XR D) : Env → XR D := fun ρ => match ρ[i]?.getD none with
  | some _ => (fb ρ).bind fun y ρ => match ρ[i]?.getD none with
    | some x => XR.opt (g x y) ρ
    | none => .no
  | none => .no
@[simp] theorem x2n_eq (g : D → D → Option D) (i : Nat) (fb : Env → XR D) (ρ : Env) : x2n g i fb ρ = match ρ[i]?.getD none with
  | some _ => (fb ρ).bind fun y ρ => match ρ[i]?.getD none with
    | some x => XR.opt (g x y) ρ
    | none => .no
  | none => .no := rfl
/-- the second one is looked at -/
def x2v (g : D → D → Option D) (fa : Env → XR D) (fb : Env → R D) : Env → XR D := fun ρ => (fa ρ).bind fun x ρ => ((fb ρ).x ρ).bind fun y ρ => XR.opt (g x y) ρ
@[simp] theorem x2v_eq (g : D → D → Option D) (fa : Env → XR D) (fb : Env → R D) (ρ : Env) : x2v g fa fb ρ = (fa ρ).bind fun x ρ => ((fb ρ).x ρ).bind fun y ρ => XR.opt (g x y) ρ := rfl
/-- the frame of a first operand's exception -/
theorem saysX1 {r : V → Hp → VK → Prop} {g : D → Option D} (hg : Says1 E r g) {fa : Env → XR D} {σ : L2.St} {H : Hp} {Q : VK} (h : tX E W (x1 g fa) σ H Q) : tUn r (tX E W fa) σ H Q := by
  obtain ⟨F, ρ, τ, δ, s, hl, hb, q⟩ := h
  refine ⟨F, ρ, τ, δ, s, hl, hb, XRes.mono q.bind (fun x ρ1 _ q F1 H1 v e1 l1 s1 => ?_) fun c ρ1 z => z⟩
  obtain ⟨d, e, p⟩ := q.opt
  obtain ⟨A, ra, _⟩ := s1.topX hb
  exact hg F1 H1 x v A Q d s1.fh ra e (GOk.ofX (s1.popX hb) l1 e1 p)
theorem saysX2 {r : R2} {g : D → D → Option D} (hg : Says2 E r g) {fa fb : Env → XR D} {σ : L2.St} {H : Hp} {Q : VK} (h : tX E W (x2 g fa fb) σ H Q) : tOp r (tX E W fa) (tX E W fb) σ H Q := by
  obtain ⟨F, ρ, τ, δ, s, hl, hb, q⟩ := h
  refine ⟨F, ρ, τ, δ, s, hl, hb, XRes.mono q.bind (fun x ρ1 _ q F1 H1 v e1 l1 s1 => ?_) fun c ρ1 z => z⟩
  refine ⟨F1, ρ1, _, _, s1, l1, hb, XRes.mono q.bind (fun y ρ2 _ q F2 H2 w e2 l2 s2 => ?_) fun c ρ2 z F2 H2 e2 l2 s2 => z F2 H2 (e1.trans e2) l2 (s2.popX hb)⟩
  obtain ⟨d, e, p⟩ := q.opt
  obtain ⟨B, rb, _⟩ := s2.topX hb
  have s2' := s2.popX hb
  obtain ⟨A, ra, _⟩ := s2'.topX hb
  exact hg F2 H2 x y v w A B Q d s2.fh ra rb e (GOk.ofX (s2'.popX hb) l2 (e1.trans e2) p)
theorem saysX2n {r : R2} {g : D → D → Option D} (hg : Says2 E r g) {i : Nat} {fb : Env → XR D} {σ : L2.St} {H : Hp} {Q : VK} (h : tX E W (x2n g i fb) σ H Q) : tOp r (tVar i) (tX E W fb) σ H Q := by
  obtain ⟨F, ρ, τ, δ, s, hl, hb, q⟩ := h
  rw [x2n_eq] at q
  cases e0 : ρ[i]?.getD none with
  | none => rw [e0] at q; exact q.elim
  | some d0 =>
    rw [e0] at q
    obtain ⟨v, A, ev, _⟩ := s.slotX hl (some_some e0)
    refine ⟨v, ev, F, ρ, τ, δ, s, hl, hb, XRes.mono q.bind (fun y ρ1 _ q F1 H1 w e1 l1 s1 => ?_) fun c ρ1 z => z⟩
    cases e2 : ρ1[i]?.getD none with
    | none => rw [e2] at q; exact q.elim
    | some x =>
      rw [e2] at q
      obtain ⟨d, e, p⟩ := q.opt
      obtain ⟨B, rb, _⟩ := s1.topX hb
      obtain ⟨v', A', ev', ra⟩ := (s1.popX hb).slotX l1 (some_some e2)
      rw [ev] at ev'
      cases ev'
      exact hg F1 H1 x y v w A' B Q d s1.fh ra rb e (GOk.ofX (s1.popX hb) l1 e1 p)
theorem saysX2v {r : R2} {g : D → D → Option D} (hg : Says2 E r g) {fa : Env → XR D} {fb : Env → R D} {σ : L2.St} {H : Hp} {Q : VK} (h : tX E W (x2v g fa fb) σ H Q) : tOp r (tX E W fa) (tV E W fb) σ H Q := by
  obtain ⟨F, ρ, τ, δ, s, hl, hb, q⟩ := h
  refine ⟨F, ρ, τ, δ, s, hl, hb, XRes.mono q.bind (fun x ρ1 _ q F1 H1 v e1 l1 s1 => ?_) fun c ρ1 z => z⟩
  refine ⟨F1, ρ1, s1.slots l1 hb, Res.mono (XRes.x q.bind) (fun y _ q F2 H2 w B t2 rb => ?_) fun c _ z F2 H2 t2 => z F2 H2 (e1.trans t2.ff) l1 ((s1.popX hb).tr t2)⟩
  obtain ⟨d, e, p⟩ := q.opt
  obtain ⟨A, ra, _⟩ := s1.topX hb
  exact hg F2 H2 x y v w A B Q d t2.fh (ra.tr t2) rb e (GOk.ofX ((s1.popX hb).tr t2) l1 (e1.trans t2.ff) p)
section
variable {a b : Expr} {op : Operator} {cop : CmpOp} {r : R2} {g : D → D → Option D} {fa fb : Env → XR D} {fv : Env → R D} {i : Nat} {pos : Pos}
theorem xe_op (ho : OpR X (binaryOp op) r) (hg : Says2 E r g) (ha : EX X E W a fa) (hb : EX X E W b fb) : EX X E W (.BinOp a op b pos) (x2 g fa fb) :=
  ⟨pe_mono (pe_op ho ha.pe hb.pe) fun _ _ _ h => saysX2 hg h⟩
theorem xe_opn (ho : OpR X (binaryOp op) r) (hg : Says2 E r g) (ha : PE X a (tVar i)) (hb : EX X E W b fb) : EX X E W (.BinOp a op b pos) (x2n g i fb) :=
  ⟨pe_mono (pe_op ho ha hb.pe) fun _ _ _ h => saysX2n hg h⟩
theorem xe_opv (ho : OpR X (binaryOp op) r) (hg : Says2 E r g) (ha : EX X E W a fa) (hb : EV X E W b fv) : EX X E W (.BinOp a op b pos) (x2v g fa fv) :=
  ⟨pe_mono (pe_op ho ha.pe hb.pe) fun _ _ _ h => saysX2v hg h⟩
theorem xe_cmp (ho : OpR X (compareOp cop) r) (hg : Says2 E r g) (hm : behindInMarks cop b = false) (ha : EX X E W a fa) (hb : EX X E W b fb) : EX X E W (.Compare a [cop] [b] pos) (x2 g fa fb) :=
  ⟨pe_mono (pe_cmpR ho ha.pe hb.pe hm) fun _ _ _ h => saysX2 hg h⟩
theorem xe_cmpn (ho : OpR X (compareOp cop) r) (hg : Says2 E r g) (hm : behindInMarks cop b = false) (ha : PE X a (tVar i)) (hb : EX X E W b fb) : EX X E W (.Compare a [cop] [b] pos) (x2n g i fb) :=
  ⟨pe_mono (pe_cmpR ho ha hb.pe hm) fun _ _ _ h => saysX2n hg h⟩
theorem xe_cmpv (ho : OpR X (compareOp cop) r) (hg : Says2 E r g) (hm : behindInMarks cop b = false) (ha : EX X E W a fa) (hb : EV X E W b fv) : EX X E W (.Compare a [cop] [b] pos) (x2v g fa fv) :=
  ⟨pe_mono (pe_cmpR ho ha.pe hb.pe hm) fun _ _ _ h => saysX2v hg h⟩
end
theorem xe_un {a : Expr} {op : UnaryOp} {r : V → Hp → VK → Prop} {g : D → Option D} {fa : Env → XR D} {pos : Pos} (ho : UnR X (unaryOp op) r) (hg : Says1 E r g) (ha : EX X E W a fa) : EX X E W (.UnaryOp op a pos) (x1 g fa) :=
  ⟨pe_mono (pe_un ho ha.pe) fun _ _ _ h => saysX1 hg h⟩
theorem says_addX (hK : E.k.K = X.K) : Says2 E (rAddA X.K) gAdd := by rw [← hK]; exact says_add
end
end Dv
end
section
set_option maxRecDepth 100000
set_option maxHeartbeats 1000000
namespace Dv
open PySem PySem.Spec PyProof.Rows L2
section
variable {X : Cx} {E : En} {W : WX}
/-! ### tests -/
def xTe (f : Env → XR D) : Env → XR Bool := fun ρ => (f ρ).bind fun d ρ => XR.opt (asT d) ρ
@[simp] theorem xTe_eq (f : Env → XR D) (ρ : Env) : xTe f ρ = (f ρ).bind fun d ρ => XR.opt (asT d) ρ := rfl
theorem xt_tru (hK : E.k.K = X.K) {a : Expr} {fa : Env → XR D} (ha : EX X E W a fa) (he : ∀ whole, isTrue a X.env whole = (do let v ← whole; standAt a.pos; holding [v] (truthy v)) := by intro _; rfl) : EXT X E W a (xTe fa) := by
  refine ⟨pt_mono (pt_truth ha.pe he) fun σ H Q h => ?_⟩
  obtain ⟨F, ρ, τ, δ, s, hl, hb, q⟩ := h
  refine ⟨F, ρ, τ, δ, s, hl, hb, XRes.mono q.bind (fun x ρ1 _ q F1 H1 v e1 l1 s1 => ?_) fun c ρ1 z => z⟩
  obtain ⟨b, e, p⟩ := q.opt
  obtain ⟨A, ra, _⟩ := s1.topX hb
  exact ⟨b, by rw [← hK]; exact ra.tru s1.fh e, p F1 H1 e1 l1 (s1.popX hb)⟩
theorem tXT_of {fa : Env → XR D} {t : TE} (hbl : ∀ ρ d ρ', fa ρ = .ok d ρ' → ∃ b, d = .bl b) (h : ∀ σ H Q, tX E W fa σ H Q → t σ H Q) {σ : L2.St} {H : Hp} {Q : Bool → Hp → Prop} (q : tXT E W (xTe fa) σ H Q) : t σ H fun x H' => ∃ k, x = .bl k ∧ Q k H' := by
  obtain ⟨F, ρ, τ, δ, s, hl, hb, q⟩ := q
  refine h σ H _ ⟨F, ρ, τ, δ, s, hl, hb, XRes.mono q.bind (fun x ρ1 e q F1 H1 v e1 l1 s1 => ?_) fun c ρ1 z => z⟩
  obtain ⟨b, rfl⟩ := hbl ρ x ρ1 e
  obtain ⟨A, ra, _⟩ := s1.topX hb
  exact ⟨b, ra.1, q F1 H1 e1 l1 (s1.popX hb)⟩
theorem x2_bl {g : D → D → Option D} (hg : ∀ x y d, g x y = some d → ∃ b, d = .bl b) {fa fb : Env → XR D} (ρ : Env) (d : D) (ρ' : Env) (e : x2 g fa fb ρ = .ok d ρ') : ∃ b, d = .bl b := by
  rw [x2_eq] at e
  cases ea : fa ρ with
  | ok x ρ1 =>
    rw [ea, XR.bind_ok] at e
    cases eb : fb ρ1 with
    | ok y ρ2 =>
      rw [eb, XR.bind_ok] at e
      cases eg : g x y with
      | some z => rw [eg] at e; cases e; exact hg x y d eg
      | none => rw [eg] at e; cases e
    | _ => rw [eb] at e; cases e
  | _ => rw [ea] at e; cases e
theorem x2n_bl {g : D → D → Option D} (hg : ∀ x y d, g x y = some d → ∃ b, d = .bl b) {i : Nat} {fb : Env → XR D} (ρ : Env) (d : D) (ρ' : Env) (e : x2n g i fb ρ = .ok d ρ') : ∃ b, d = .bl b := by
  rw [x2n_eq] at e
  split at e
  · cases eb : fb ρ with
    | ok y ρ2 =>
      rw [eb, XR.bind_ok] at e
      split at e
      · rename_i x _
        cases eg : g x y with
        | some z => rw [eg] at e; cases e; exact hg x y d eg
        | none => rw [eg] at e; cases e
      · cases e
    | _ => rw [eb] at e; cases e
  · cases e
theorem x2v_bl {g : D → D → Option D} (hg : ∀ x y d, g x y = some d → ∃ b, d = .bl b) {fa : Env → XR D} {fb : Env → R D} (ρ : Env) (d : D) (ρ' : Env) (e : x2v g fa fb ρ = .ok d ρ') : ∃ b, d = .bl b := by
  rw [x2v_eq] at e
  cases ea : fa ρ with
  | ok x ρ1 =>
    rw [ea, XR.bind_ok] at e
    cases eb : fb ρ1 with
    | ok y =>
      rw [eb, R.x_ok, XR.bind_ok] at e
      cases eg : g x y with
      | some z => rw [eg] at e; cases e; exact hg x y d eg
      | none => rw [eg] at e; cases e
    | _ => rw [eb] at e; cases e
  | _ => rw [ea] at e; cases e
section
variable {a b : Expr} {cop : CmpOp} {r : R2} {g : D → D → Option D} {fa fb : Env → XR D} {fv : Env → R D} {i : Nat} {pos : Pos}
theorem xt_cmp (ho : OpR X (compareOp cop) r) (hg : Says2 E r g) (hbl : ∀ x y d, g x y = some d → ∃ b, d = .bl b) (hm : behindInMarks cop b = false) (ha : EX X E W a fa) (hb : EX X E W b fb) : EXT X E W (.Compare a [cop] [b] pos) (xTe (x2 g fa fb)) :=
  ⟨pt_mono (pt_cmpR ho ha.pe hb.pe hm) fun _ _ _ h => tXT_of (x2_bl hbl) (fun _ _ _ q => saysX2 hg q) h⟩
theorem xt_cmpn (ho : OpR X (compareOp cop) r) (hg : Says2 E r g) (hbl : ∀ x y d, g x y = some d → ∃ b, d = .bl b) (hm : behindInMarks cop b = false) (ha : PE X a (tVar i)) (hb : EX X E W b fb) : EXT X E W (.Compare a [cop] [b] pos) (xTe (x2n g i fb)) :=
  ⟨pt_mono (pt_cmpR ho ha hb.pe hm) fun _ _ _ h => tXT_of (x2n_bl hbl) (fun _ _ _ q => saysX2n hg q) h⟩
theorem xt_cmpv (ho : OpR X (compareOp cop) r) (hg : Says2 E r g) (hbl : ∀ x y d, g x y = some d → ∃ b, d = .bl b) (hm : behindInMarks cop b = false) (ha : EX X E W a fa) (hb : EV X E W b fv) : EXT X E W (.Compare a [cop] [b] pos) (xTe (x2v g fa fv)) :=
  ⟨pt_mono (pt_cmpR ho ha.pe hb.pe hm) fun _ _ _ h => tXT_of (x2v_bl hbl) (fun _ _ _ q => saysX2v hg q) h⟩
end
def xNotF (f : Env → XR Bool) : Env → XR Bool := fun ρ => (f ρ).bind fun b ρ => .ok (!b) ρ
def xAndF (f g : Env → XR Bool) : Env → XR Bool := fun ρ => (f ρ).bind fun b ρ => if b = true then g ρ else .ok false ρ
def xOrF (f g : Env → XR Bool) : Env → XR Bool := fun ρ => (f ρ).bind fun b ρ => if b = true then .ok true ρ else g ρ
@[simp] theorem xNotF_eq (f : Env → XR Bool) (ρ : Env) : xNotF f ρ = (f ρ).bind fun b ρ => .ok (!b) ρ := rfl
@[simp] theorem xAndF_eq (f g : Env → XR Bool) (ρ : Env) : xAndF f g ρ = (f ρ).bind fun b ρ => if b = true then g ρ else .ok false ρ := rfl
@[simp] theorem xOrF_eq (f g : Env → XR Bool) (ρ : Env) : xOrF f g ρ = (f ρ).bind fun b ρ => if b = true then .ok true ρ else g ρ := rfl
section
variable {a b : Expr} {rest : List Expr} {f g : Env → XR Bool} {pos : Pos}
theorem xt_not (h : EXT X E W a f) : EXT X E W (.UnaryOp .Not a pos) (xNotF f) := by
  refine ⟨pt_mono (pt_not h.pt) fun σ H Q h => ?_⟩
  obtain ⟨F, ρ, τ, δ, s, hl, hb, q⟩ := h
  exact ⟨F, ρ, τ, δ, s, hl, hb, XRes.mono q.bind (fun x ρ1 _ q => q) fun c ρ1 z => z⟩
theorem xw_and1 (h : EXT X E W a f) : EXW X E W (.BoolOp .And [a] pos) f := ⟨pw_and1 h.pt⟩
theorem xw_or1 (h : EXT X E W a f) : EXW X E W (.BoolOp .Or [a] pos) f := ⟨pw_or1 h.pt⟩
theorem xw_and (ha : EXT X E W a f) (hb : EXW X E W (.BoolOp .And (b :: rest) pos) g) : EXW X E W (.BoolOp .And (a :: b :: rest) pos) (xAndF f g) := by
  refine ⟨pw_mono (pw_and ha.pt hb.pw) fun σ H Q h => ?_⟩
  obtain ⟨F, ρ, τ, δ, s, hl, hb, q⟩ := h
  refine ⟨F, ρ, τ, δ, s, hl, hb, XRes.mono q.bind (fun x ρ1 _ q F1 H1 e1 l1 s1 => ?_) fun c ρ1 z => z⟩
  cases x with
  | true => exact ⟨F1, ρ1, τ, δ, s1, l1, hb, XRes.mono q (fun y ρ2 _ q F2 H2 e2 l2 s2 => q F2 H2 (e1.trans e2) l2 s2) fun c ρ2 z F2 H2 e2 l2 s2 => z F2 H2 (e1.trans e2) l2 s2⟩
  | false => exact q F1 H1 e1 l1 s1
theorem xw_or (ha : EXT X E W a f) (hb : EXW X E W (.BoolOp .Or (b :: rest) pos) g) : EXW X E W (.BoolOp .Or (a :: b :: rest) pos) (xOrF f g) := by
  refine ⟨pw_mono (pw_or ha.pt hb.pw) fun σ H Q h => ?_⟩
  obtain ⟨F, ρ, τ, δ, s, hl, hb, q⟩ := h
  refine ⟨F, ρ, τ, δ, s, hl, hb, XRes.mono q.bind (fun x ρ1 _ q F1 H1 e1 l1 s1 => ?_) fun c ρ1 z => z⟩
  cases x with
  | false => exact ⟨F1, ρ1, τ, δ, s1, l1, hb, XRes.mono q (fun y ρ2 _ q F2 H2 e2 l2 s2 => q F2 H2 (e1.trans e2) l2 s2) fun c ρ2 z F2 H2 e2 l2 s2 => z F2 H2 (e1.trans e2) l2 s2⟩
  | true => exact q F1 H1 e1 l1 s1
theorem EXW.t {e : Expr} (h : EXW X E W e f) : EXT X E W e f := ⟨h.pw.pt⟩
end
def xIf (t : Env → XR Bool) (f g : Env → XR D) : Env → XR D := fun ρ => (t ρ).bind fun b ρ => if b = true then f ρ else g ρ
@[simp] theorem xIf_eq (t : Env → XR Bool) (f g : Env → XR D) (ρ : Env) : xIf t f g ρ = (t ρ).bind fun b ρ => if b = true then f ρ else g ρ := rfl
theorem xe_if {a b c : Expr} {t : Env → XR Bool} {f g : Env → XR D} {pos : Pos} (hc : EXT X E W c t) (ha : EX X E W a f) (hb : EX X E W b g) : EX X E W (.IfExp c a b pos) (xIf t f g) := by
  refine ⟨pe_mono (pe_ifExp hc.pt ha.pe hb.pe) fun σ H Q h => ?_⟩
  obtain ⟨F, ρ, τ, δ, s, hl, hb, q⟩ := h
  refine ⟨F, ρ, τ, δ, s, hl, hb, XRes.mono q.bind (fun x ρ1 _ q F1 H1 e1 l1 s1 => ?_) fun c ρ1 z => z⟩
  cases x with
  | true => exact ⟨F1, ρ1, τ, δ, s1, l1, hb, XRes.mono q (fun y ρ2 _ q F2 H2 v e2 l2 s2 => q F2 H2 v (e1.trans e2) l2 s2) fun c ρ2 z F2 H2 e2 l2 s2 => z F2 H2 (e1.trans e2) l2 s2⟩
  | false => exact ⟨F1, ρ1, τ, δ, s1, l1, hb, XRes.mono q (fun y ρ2 _ q F2 H2 v e2 l2 s2 => q F2 H2 v (e1.trans e2) l2 s2) fun c ρ2 z F2 H2 e2 l2 s2 => z F2 H2 (e1.trans e2) l2 s2⟩

/-! ### subscripts: the item must be pure -/
theorem ix_says (hK : E.k.K = X.K) {F H : Hp} {x y d : D} {v w : V} {A B : List Addr} {Q : VK} (fh : Ex F H) (rx : Rp E.k F H x v A) (ry : Rp E.k F H y w B) (e : gIx x y = some d) (p : ∀ z C, Rp E.k F H d z C → Q z H) : rIx X.K v w H Q := by
  rw [← hK]
  cases y with
  | int i =>
    have ew : w = .int i := ry.1
    cases x with
    | lst o xs =>
      obtain ⟨a, vs, B, rfl, s1, r⟩ := Rp.lstW fh rx
      obtain ⟨z, C, h1, h2⟩ := r.ix e
      exact .inl ⟨a, vs, i, z, rfl, ew, .inl (.inl s1), h1, p z C h2⟩
    | scr xs =>
      obtain ⟨a, vs, rfl, _, s1, r⟩ := rx
      obtain ⟨z, C, h1, h2⟩ := r.ix e
      exact .inl ⟨a, vs, i, z, rfl, ew, ex_l fh s1, h1, p z C h2⟩
    | tup xs =>
      obtain ⟨a, vs, rfl, s1, r⟩ := rx
      obtain ⟨z, C, h1, h2⟩ := r.ix e
      exact .inr (.inl ⟨a, vs, i, z, rfl, ew, ex_t fh s1, h1, p z C h2⟩)
    | str z =>
      by_cases hz : z.length ≤ 16777216
      · have e' : (if z.length ≤ 16777216 then (ixD z.cps.toList i).map fun c => D.str ⟨#[c]⟩ else none) = some d := e
        rw [if_pos hz] at e'
        cases ec : ixD z.cps.toList i with
        | none => rw [ec] at e'; cases e'
        | some c =>
          rw [ec] at e'
          cases e'
          exact .inr (.inr ⟨z, i, c, rx.1, ew, big_le hz, by rw [ixD_atI]; exact ec, p _ [] ⟨rfl, rfl⟩⟩)
      · have e' : (if z.length ≤ 16777216 then (ixD z.cps.toList i).map fun c => D.str ⟨#[c]⟩ else none) = some d := e
        rw [if_neg hz] at e'
        cases e'
    | _ => cases e
  | _ => cases x <;> cases e
/-- the item, if it is pure -/
def gIxP (x y : D) : Option D := (gIx x y).bind fun d => if d.pure = true then some d else none
@[simp] theorem gIxP_eq (x y : D) : gIxP x y = (gIx x y).bind fun d => if d.pure = true then some d else none := rfl
theorem says_ixP (hK : E.k.K = X.K) : Says2 E (rIx X.K) gIxP := by
  intro F H x y v w A B Q d fh rx ry e g
  rw [gIxP_eq] at e
  cases eg : gIx x y with
  | none => rw [eg] at e; cases e
  | some z =>
    rw [eg] at e
    obtain ⟨p, e⟩ := if_some (show (if z.pure = true then some z else none) = some d from e)
    subst e
    exact ix_says hK fh rx ry eg fun u C r => g F H u [] (Tr.refl fh) (Rp.pure p (.refl _) r) .nil fun _ z => nomatch z
section
variable {a b : Expr} {fa fb : Env → XR D} {fv : Env → R D} {i : Nat} {pos : Pos}
theorem xe_ix (hK : E.k.K = X.K) (ha : EX X E W a fa) (hb : EX X E W b fb) (hs : PlainIx b := by exact fun _ _ => rfl) : EX X E W (.Subscript a b pos) (x2 gIxP fa fb) :=
  ⟨pe_mono (pe_ix ix_seq ha.pe hb.pe hs) fun _ _ _ h => saysX2 (says_ixP hK) h⟩
theorem xe_ixn (hK : E.k.K = X.K) (ha : PE X a (tVar i)) (hb : EX X E W b fb) (hs : PlainIx b := by exact fun _ _ => rfl) : EX X E W (.Subscript a b pos) (x2n gIxP i fb) :=
  ⟨pe_mono (pe_ix ix_seq ha hb.pe hs) fun _ _ _ h => saysX2n (says_ixP hK) h⟩
theorem xe_ixv (hK : E.k.K = X.K) (ha : EX X E W a fa) (hb : EV X E W b fv) (hs : PlainIx b := by exact fun _ _ => rfl) : EX X E W (.Subscript a b pos) (x2v gIxP fa fv) :=
  ⟨pe_mono (pe_ix ix_seq ha.pe hb.pe hs) fun _ _ _ h => saysX2v (says_ixP hK) h⟩
end
/-! ### slices -/
def tXO (E : En) (W : WX) (f : Env → XR (Option Int)) : TO := fun σ H Q => ∃ (F : Hp) (ρ : Env) (τ : L2.St) (δ : Env), Stt E F H (σ ++ τ) (ρ ++ δ) ∧ ρ.length = σ.length ∧ (∀ i ∈ E.bs, i < σ.length) ∧
  XRes (f ρ) (fun o ρ' => ∀ F' H', Ex F F' → ρ'.length = σ.length → Stt E F' H' (σ ++ τ) (ρ' ++ δ) → Q o H') (fun c ρ' => ∀ F' H', Ex F F' → ρ'.length = σ.length → Stt E F' H' (σ ++ τ) (ρ' ++ δ) → W (E.ec c) none σ H')
structure EXP (X : Cx) (E : En) (W : WX) (e : Option Expr) (f : Env → XR (Option Int)) : Prop where
  po : PO X e (tXO E W f)
def xNo : Env → XR (Option Int) := fun ρ => .ok none ρ
def xPt (f : Env → XR D) : Env → XR (Option Int) := fun ρ => (f ρ).bind fun d ρ => XR.opt (oI d) ρ
@[simp] theorem xNo_eq (ρ : Env) : xNo ρ = .ok none ρ := rfl
@[simp] theorem xPt_eq (f : Env → XR D) (ρ : Env) : xPt f ρ = (f ρ).bind fun d ρ => XR.opt (oI d) ρ := rfl
theorem xp_no : EXP X E W none xNo := ⟨⟨fun pins s σ H Q I ⟨F, ρ, τ, δ, st, hl, hb, q⟩ => po_none.run pins s σ H Q I (q F H (.refl _) hl st)⟩⟩
theorem xp_pt {e : Expr} {f : Env → XR D} (h : EX X E W e f) : EXP X E W (some e) (xPt f) := by
  refine ⟨⟨fun pins s σ H Q I h' => (po_some h.pe).run pins s σ H Q I ?_⟩⟩
  obtain ⟨F, ρ, τ, δ, st, hl, hb, q⟩ := h'
  refine ⟨F, ρ, τ, δ, st, hl, hb, XRes.mono q.bind (fun x ρ1 _ q F1 H1 v e1 l1 s1 => ?_) fun c ρ1 z => z⟩
  obtain ⟨o, e, p⟩ := q.opt
  obtain ⟨A, ra, _⟩ := s1.topX hb
  cases x with
  | int i => cases e; exact ⟨i, ra.1, p F1 H1 e1 l1 (s1.popX hb)⟩
  | _ => cases e
theorem sl_says (hK : E.k.K = X.K) {F H : Hp} {x d : D} {v : V} {A : List Addr} {a b : Option Int} {Q : VK} (fh : Ex F H) (r1' : Rp E.k F H x v A) (e : gSl x a b = some d) (g : GOk E F H Q d) :
    (∃ p xs, v = .ref p ∧ SqL X.K H p xs ∧ ∀ q, H q = none → Q (.ref q) (upd H q (.lst (cutV xs a b)))) ∨
    (∃ p xs, v = .ref p ∧ SqT X.K H p xs ∧ (HT.sIx xs.length 0 a = 0 ∧ HT.sIx xs.length xs.length b = xs.length → Q (.ref p) H) ∧ (¬ (HT.sIx xs.length 0 a = 0 ∧ HT.sIx xs.length xs.length b = xs.length) → ∀ q, H q = none → Q (.ref q) (upd H q (.tup (cutV xs a b))))) ∨
    ∃ z, v = .str z ∧ z.length ≤ sizeLine ∧ Q (.str (cutS z a b)) H := by
  rw [← hK]
  cases x with
  | lst o xs =>
    obtain ⟨z, e⟩ := if_some e
    cases e
    obtain ⟨ad, vs, rfl, s1, r⟩ := Rp.lstR fh z r1'
    exact .inl ⟨ad, vs, rfl, .inl (.inl s1), fun p hp => g.lst fh hp (r.cut a b)⟩
  | tup xs =>
    obtain ⟨z, e⟩ := if_some e
    cases e
    obtain ⟨ad, vs, rfl, s1, r⟩ := r1'
    have r' : RpL E.k F H xs vs [] := RpL.pure z (.refl _) r
    refine .inr (.inl ⟨ad, vs, rfl, ex_t fh s1, fun hw => ?_, fun _ p hp => g.tup fh hp (r'.cut a b)⟩)
    refine g F H (.ref ad) [] (Tr.refl fh) ⟨ad, vs, rfl, s1, ?_⟩ .nil fun _ z => nomatch z
    have := r'.cut a b
    rw [cutV_whole hw] at this
    exact this
  | str z =>
    obtain ⟨hz, e⟩ := if_some e
    cases e
    exact .inr (.inr ⟨z, r1'.1, big_le hz, g.scal fh fun _ _ => ⟨rfl, rfl⟩⟩)
  | _ => cases e
def xSl (f : Env → XR D) (lo hi : Env → XR (Option Int)) : Env → XR D := fun ρ => (f ρ).bind fun d ρ => (lo ρ).bind fun a ρ => (hi ρ).bind fun b ρ => XR.opt (gSl d a b) ρ
@[simp] theorem xSl_eq (f : Env → XR D) (lo hi : Env → XR (Option Int)) (ρ : Env) : xSl f lo hi ρ = (f ρ).bind fun d ρ => (lo ρ).bind fun a ρ => (hi ρ).bind fun b ρ => XR.opt (gSl d a b) ρ := rfl
def xSln (i : Nat) (lo hi : Env → XR (Option Int)) : Env → XR D := fun ρ => match ρ[i]?.getD none with
  | some _ => (lo ρ).bind fun a ρ => (hi ρ).bind fun b ρ => match ρ[i]?.getD none with
    | some d => XR.opt (gSl d a b) ρ
    | none => .no
  | none => .no
@[simp] theorem xSln_eq (i : Nat) (lo hi : Env → XR (Option Int)) (ρ : Env) : xSln i lo hi ρ = match ρ[i]?.getD none with
  | some _ => (lo ρ).bind fun a ρ => (hi ρ).bind fun b ρ => match ρ[i]?.getD none with
    | some d => XR.opt (gSl d a b) ρ
    | none => .no
  | none => .no := rfl
theorem xe_sl {a : Expr} {lo hi : Option Expr} {fa : Env → XR D} {fl fh : Env → XR (Option Int)} {pos p2 : Pos} (hK : E.k.K = X.K) (ha : EX X E W a fa) (hl : EXP X E W lo fl) (hh : EXP X E W hi fh) : EX X E W (.Subscript a (.Slice lo hi none p2) pos) (xSl fa fl fh) := by
  refine ⟨pe_mono (pe_slice (sl_list.or (sl_tupA.or sl_str)) ha.pe hl.po hh.po) fun σ H Q h => ?_⟩
  obtain ⟨F, ρ, τ, δ, s, hl, hb, q⟩ := h
  refine ⟨F, ρ, τ, δ, s, hl, hb, XRes.mono q.bind (fun x ρ1 _ q F1 H1 v e1 l1 s1 => ?_) fun c ρ1 z => z⟩
  refine ⟨F1, ρ1, _, _, s1, l1, hb, XRes.mono q.bind (fun lo ρ2 _ q F2 H2 e2 l2 s2 => ?_) fun c ρ2 z F2 H2 e2 l2 s2 => z F2 H2 (e1.trans e2) l2 (s2.popX hb)⟩
  refine ⟨F2, ρ2, _, _, s2, l2, hb, XRes.mono q.bind (fun hi ρ3 _ q F3 H3 e3 l3 s3 => ?_) fun c ρ3 z F3 H3 e3 l3 s3 => z F3 H3 ((e1.trans e2).trans e3) l3 (s3.popX hb)⟩
  obtain ⟨d, e, p⟩ := q.opt
  obtain ⟨A, ra, _⟩ := s3.topX hb
  exact sl_says hK s3.fh ra e (GOk.ofX (s3.popX hb) l3 ((e1.trans e2).trans e3) p)
theorem xe_sln {i : Nat} {a : Expr} {lo hi : Option Expr} {fl fh : Env → XR (Option Int)} {pos p2 : Pos} (hK : E.k.K = X.K) (ha : PE X a (tVar i)) (hl : EXP X E W lo fl) (hh : EXP X E W hi fh) : EX X E W (.Subscript a (.Slice lo hi none p2) pos) (xSln i fl fh) := by
  refine ⟨pe_mono (pe_slice (sl_list.or (sl_tupA.or sl_str)) ha hl.po hh.po) fun σ H Q h => ?_⟩
  obtain ⟨F, ρ, τ, δ, s, hl, hb, q⟩ := h
  rw [xSln_eq] at q
  cases e0 : ρ[i]?.getD none with
  | none => rw [e0] at q; exact q.elim
  | some d0 =>
    rw [e0] at q
    obtain ⟨v, A, ev, _⟩ := s.slotX hl (some_some e0)
    refine ⟨v, ev, F, ρ, τ, δ, s, hl, hb, XRes.mono q.bind (fun lo ρ1 _ q F1 H1 e1 l1 s1 => ?_) fun c ρ1 z => z⟩
    refine ⟨F1, ρ1, _, _, s1, l1, hb, XRes.mono q.bind (fun hi ρ2 _ q F2 H2 e2 l2 s2 => ?_) fun c ρ2 z F2 H2 e2 l2 s2 => z F2 H2 (e1.trans e2) l2 s2⟩
    cases e3 : ρ2[i]?.getD none with
    | none => rw [e3] at q; exact q.elim
    | some x =>
      rw [e3] at q
      obtain ⟨d, e, p⟩ := q.opt
      obtain ⟨v', A', ev', ra⟩ := s2.slotX l2 (some_some e3)
      rw [ev] at ev'
      cases ev'
      exact sl_says hK s2.fh ra e (GOk.ofX s2 l2 (e1.trans e2) p)
end
end Dv
end
section
set_option maxRecDepth 100000
set_option maxHeartbeats 1000000
namespace Dv
open PySem PySem.Spec PyProof.Rows L2
theorem app1 {α : Type} (τ : List α) (a : α) (l : List α) : (τ ++ [a]) ++ l = τ ++ (a :: l) := by simp
section
variable {X : Cx} {E : En} {W : WX}
/-! ### arguments that are held -/
def xaNil : Env → XR (List D) := fun ρ => .ok [] ρ
def xaO (f : Env → XR D) (g : Env → XR (List D)) : Env → XR (List D) := fun ρ => (f ρ).bind fun x ρ => (g ρ).bind fun xs ρ => .ok (x :: xs) ρ
@[simp] theorem xaNil_eq (ρ : Env) : xaNil ρ = .ok [] ρ := rfl
@[simp] theorem xaO_eq (f : Env → XR D) (g : Env → XR (List D)) (ρ : Env) : xaO f g ρ = (f ρ).bind fun x ρ => (g ρ).bind fun xs ρ => .ok (x :: xs) ρ := rfl
theorem xa_nil : EXA X E W [] xaNil := ⟨pa_mono pa_nil fun σ H Q ⟨F, ρ, τ, δ, s, hl, hb, q⟩ => q F H [] (.refl _) hl rfl (by simpa using s)⟩
theorem xa_o {e : Expr} {es : List Expr} {f : Env → XR D} {g : Env → XR (List D)} (h : EX X E W e f) (hr : EXA X E W es g) (hs : starEach (e :: es) X.env = (false, eval e X.env) :: starEach es X.env := by rfl) : EXA X E W (e :: es) (xaO f g) := by
  refine ⟨pa_mono (pa_cons h.pe hr.pa hs) fun σ H Q h => ?_⟩
  obtain ⟨F, ρ, τ, δ, s, hl, hb, q⟩ := h
  refine ⟨F, ρ, τ, δ, s, hl, hb, XRes.mono q.bind (fun x ρ1 _ q F1 H1 v e1 l1 s1 => ?_) fun c ρ1 z => z⟩
  refine ⟨F1, ρ1, _, _, s1, l1, hb, XRes.mono q.bind (fun xs ρ2 _ q F2 H2 vs e2 l2 n2 s2 => ?_) fun c ρ2 z F2 H2 e2 l2 s2 => z F2 H2 (e1.trans e2) l2 (s2.popX hb)⟩
  refine q F2 H2 (v :: vs) (e1.trans e2) l2 (by rw [List.length_cons, List.length_cons, n2]) ?_
  rw [app1, app1] at s2
  exact s2
theorem Stt.collectX {F H : Hp} {σ τ : L2.St} {ρ δ : Env} {vs : List V} {ds : List D} (s : Stt E F H (σ ++ (τ ++ vs.map some)) (ρ ++ (δ ++ ds.map some))) (hb : ∀ i ∈ E.bs, i < σ.length) (hl : vs.length = ds.length) :
    ∃ fp A, Stt E F H (σ ++ τ) (ρ ++ δ) ∧ Sl E F H (σ ++ τ) (ρ ++ δ) fp ∧ RpL E.k F H ds vs A ∧ A.Nodup ∧ ∀ a ∈ A, E.He a = none ∧ ∀ j, a ∉ fp j := by
  rw [← List.append_assoc, ← List.append_assoc] at s
  obtain ⟨fp, sl⟩ := s.sl
  exact Stt.collect vs ds hl s sl (blt hb)
/-! displays -/
def xTup (g : Env → XR (List D)) : Env → XR D := fun ρ => (g ρ).bind fun ds ρ => if ds.length ≤ 16777216 then .ok (.tup ds) ρ else .no
def xLst (g : Env → XR (List D)) : Env → XR D := fun ρ => (g ρ).bind fun ds ρ => if ds.length ≤ 16777216 then .ok (.lst true ds) ρ else .no
@[simp] theorem xTup_eq (g : Env → XR (List D)) (ρ : Env) : xTup g ρ = (g ρ).bind fun ds ρ => if ds.length ≤ 16777216 then .ok (.tup ds) ρ else .no := rfl
@[simp] theorem xLst_eq (g : Env → XR (List D)) (ρ : Env) : xLst g ρ = (g ρ).bind fun ds ρ => if ds.length ≤ 16777216 then .ok (.lst true ds) ρ else .no := rfl
theorem Stt.pushS {F H F' H' : Hp} {σ τ : L2.St} {ρ δ : Env} {fp : Nat → List Addr} {d : D} {v : V} {A : List Addr} (s : Stt E F H (σ ++ τ) (ρ ++ δ)) (sl : Sl E F H (σ ++ τ) (ρ ++ δ) fp) (t : Tr F H F' H') (r : Rp E.k F' H' d v A) (nd : A.Nodup) (u : ∀ a ∈ A, E.He a = none ∧ ∀ j, a ∉ fp j) : Stt E F' H' (σ ++ (τ ++ [some v])) (ρ ++ (δ ++ [some d])) := by
  rw [← List.append_assoc, ← List.append_assoc]
  exact (s.tr t).push' (sl.tr t) r nd u
theorem xe_tup {es : List Expr} {x1 : Nat} {pos : Pos} {g : Env → XR (List D)} (h : EXA X E W es g) : EX X E W (.Tuple es x1 pos) (xTup g) := by
  refine ⟨pe_mono (pe_tup h.pa) fun σ H Q h => ?_⟩
  obtain ⟨F, ρ, τ, δ, s, hl, hb, q⟩ := h
  refine ⟨F, ρ, τ, δ, s, hl, hb, XRes.mono q.bind (fun ds ρ1 _ q F1 H1 vs e1 l1 n1 s1 => ?_) fun c ρ1 z => z⟩
  by_cases hz : ds.length ≤ 16777216
  · rw [if_pos hz] at q
    refine ⟨big_le (by omega), fun p hp => ?_⟩
    obtain ⟨fp, A, s2, sl2, r2, n2, u2⟩ := s1.collectX hb n1
    obtain ⟨t3, r3⟩ := rp_newT s2.fh hp r2
    exact q _ _ _ (e1.trans t3.ff) l1 (s2.pushS sl2 t3 r3 n2 u2)
  · rw [if_neg hz] at q; exact q.elim
theorem xe_lst {es : List Expr} {pos : Pos} {g : Env → XR (List D)} (h : EXA X E W es g) : EX X E W (.List es pos) (xLst g) := by
  refine ⟨pe_mono (pe_lst h.pa) fun σ H Q h => ?_⟩
  obtain ⟨F, ρ, τ, δ, s, hl, hb, q⟩ := h
  refine ⟨F, ρ, τ, δ, s, hl, hb, XRes.mono q.bind (fun ds ρ1 _ q F1 H1 vs e1 l1 n1 s1 => ?_) fun c ρ1 z => z⟩
  by_cases hz : ds.length ≤ 16777216
  · rw [if_pos hz] at q
    refine ⟨big_le (by omega), fun p hp => ?_⟩
    obtain ⟨fp, A, s2, sl2, r2, n2, u2⟩ := s1.collectX hb n1
    obtain ⟨t3, r3⟩ := rp_newL s2.fh hp r2
    refine q _ _ _ (e1.trans t3.ff) l1 (s2.pushS sl2 t3 r3 (List.nodup_cons.mpr ⟨not_new hp r2, n2⟩) fun a ha => ?_)
    rcases List.mem_cons.mp ha with rfl | ha
    · exact s2.fresh sl2 hp
    · exact u2 a ha
  · rw [if_neg hz] at q; exact q.elim
/-! built-ins -/
def xB (g : List D → Option D) (fs : Env → XR (List D)) : Env → XR D := fun ρ => (fs ρ).bind fun ds ρ => XR.opt (g ds) ρ
@[simp] theorem xB_eq (g : List D → Option D) (fs : Env → XR (List D)) (ρ : Env) : xB g fs ρ = (fs ρ).bind fun ds ρ => XR.opt (g ds) ρ := rfl
theorem saysCX {r : List V → Hp → VK → Prop} {g : List D → Option D} (hg : SaysC E r g) {fs : Env → XR (List D)} {σ : L2.St} {H : Hp} {Q : VK} (h : tX E W (xB g fs) σ H Q) : tCB r (tXA E W fs) σ H Q := by
  obtain ⟨F, ρ, τ, δ, s, hl, hb, q⟩ := h
  refine ⟨F, ρ, τ, δ, s, hl, hb, XRes.mono q.bind (fun ds ρ1 _ q F1 H1 vs e1 l1 n1 s1 => ?_) fun c ρ1 z => z⟩
  obtain ⟨d, e, p⟩ := q.opt
  obtain ⟨fp, A, s2, sl2, r2, n2, u2⟩ := s1.collectX hb n1
  exact hg F1 H1 ds vs Q d s1.fh r2.vw e (GOk.ofX s2 l1 e1 p)
section
variable {x : Str} {p pos : Pos} {e : Expr} {es : List Expr} {fs : Env → XR (List D)} {id T : String} {r : List V → Hp → VK → Prop} {g : List D → Option D}
theorem xe_B (hc : CallR X (.builtin id) r) (hg : SaysC E r g) (gl : Gl X x) (hm : X.mg x = none) (hv : bootBuiltins x = some (.builtin id)) (ha : EXA X E W (e :: es) fs) (hn : x ≠ "__name__" := by decide) (hdb : (x == ("__debug__" : Str)) = false := by decide)
    (he : starEach (e :: es) X.env = (false, eval e X.env) :: starEach es X.env := by rfl) (hpl : (backTo pos (starEach es X.env)).any (·.1) = false := by rfl) : EX X E W (.Call (.Name x p) (e :: es) [] pos) (xB g fs) :=
  ⟨pe_mono (pe_callB hc gl hm hv ha.pa hn hdb he hpl) fun _ _ _ h => saysCX hg h⟩
theorem xe_T (hc : CallR X (.type T) r) (hg : SaysC E r g) (gl : Gl X x) (hm : X.mg x = none) (hv : bootBuiltins x = some (.type T)) (ha : EXA X E W (e :: es) fs) (hn : x ≠ "__name__" := by decide) (hdb : (x == ("__debug__" : Str)) = false := by decide)
    (he : starEach (e :: es) X.env = (false, eval e X.env) :: starEach es X.env := by rfl) (hpl : (backTo pos (starEach es X.env)).any (·.1) = false := by rfl) : EX X E W (.Call (.Name x p) (e :: es) [] pos) (xB g fs) :=
  ⟨pe_mono (pe_callTy hc gl hm hv ha.pa hn hdb he hpl) fun _ _ _ h => saysCX hg h⟩
end
/-! ### arguments of a def: names (some i), or held and frozen -/
def Mg (σ : L2.St) : List (Option Nat) → List V → List V → Prop
  | [], p, q => p = [] ∧ q = []
  | none :: sh, p, q => ∃ v p' q', p = v :: p' ∧ q = v :: q' ∧ Mg σ sh p' q'
  | some i :: sh, p, q => ∃ v q', σ[i]? = some (some v) ∧ q = v :: q' ∧ Mg σ sh p q'
def tXC (E : En) (W : WX) (sh : List (Option Nat)) (f : Env → XR (List D)) : TA := fun σ H Q => ∃ (F : Hp) (ρ : Env) (τ : L2.St) (δ : Env), Stt E F H (σ ++ τ) (ρ ++ δ) ∧ ρ.length = σ.length ∧ (∀ i ∈ E.bs, i < σ.length) ∧
  XRes (f ρ) (fun ds ρ' => ∀ F' H' ps vs, Ex F F' → ρ'.length = σ.length → ps.length = ds.length → D.pureL ds = true → Mg σ sh ps vs → Stt E F' H' (σ ++ (τ ++ ps.map some)) (ρ' ++ (δ ++ ds.map some)) → Q vs H') (fun c ρ' => ∀ F' H', Ex F F' → ρ'.length = σ.length → Stt E F' H' (σ ++ τ) (ρ' ++ δ) → W (E.ec c) none σ H')
structure EXC (X : Cx) (E : En) (W : WX) (es : List Expr) (sh : List (Option Nat)) (f : Env → XR (List D)) : Prop where
  pa : PA X es (tXC E W sh f)
theorem xc_nil : EXC X E W [] [] xaNil := ⟨pa_mono pa_nil fun σ H Q ⟨F, ρ, τ, δ, s, hl, hb, q⟩ => q F H [] [] (.refl _) hl rfl rfl ⟨rfl, rfl⟩ (by simpa using s)⟩
def xcP (f : Env → XR D) (g : Env → XR (List D)) : Env → XR (List D) := fun ρ => (f ρ).bind fun x ρ => if x.cold = true then (g ρ).bind fun xs ρ => .ok (x.frz :: xs) ρ else .no
def xcN (i : Nat) (g : Env → XR (List D)) : Env → XR (List D) := fun ρ => match ρ[i]?.getD none with
  | some _ => g ρ
  | none => .no
@[simp] theorem xcP_eq (f : Env → XR D) (g : Env → XR (List D)) (ρ : Env) : xcP f g ρ = (f ρ).bind fun x ρ => if x.cold = true then (g ρ).bind fun xs ρ => .ok (x.frz :: xs) ρ else .no := rfl
@[simp] theorem xcN_eq (i : Nat) (g : Env → XR (List D)) (ρ : Env) : xcN i g ρ = match ρ[i]?.getD none with
  | some _ => g ρ
  | none => .no := rfl
theorem frz_top {σ : L2.St} {ρ : Env} {d : D} (h : d.cold = true) : frzAt ρ.length (ρ ++ [some d]) = ρ ++ [some d.frz] := by
  unfold frzAt
  rw [List.getElem?_append_right (Nat.le_refl _), Nat.sub_self]
  show (if d.cold = true then (ρ ++ [some d]).set ρ.length (some d.frz) else _) = _
  rw [if_pos h, List.set_append_right (h := Nat.le_refl _), Nat.sub_self]
  rfl
theorem Stt.frzTop {F H : Hp} {σ τ : L2.St} {ρ δ : Env} {v : V} {d : D} (s : Stt E F H (σ ++ (τ ++ [some v])) (ρ ++ (δ ++ [some d]))) (hb : ∀ i ∈ E.bs, i < σ.length) (h : d.cold = true) : ∃ F', Ex F F' ∧ Stt E F' H (σ ++ (τ ++ [some v])) (ρ ++ (δ ++ [some d.frz])) := by
  rw [← List.append_assoc, ← List.append_assoc] at s ⊢
  have hl : (ρ ++ δ).length = (σ ++ τ).length := by have := s.len; rw [List.length_append (bs := [_]), List.length_append (bs := [_])] at this; simpa using this
  obtain ⟨F', x, s'⟩ := s.frz (ρ ++ δ).length fun z => by have := blt (τ := τ) hb _ z; omega
  rw [frz_top (σ := σ) h] at s'
  exact ⟨F', x, s'⟩
theorem xc_p {e : Expr} {es : List Expr} {sh : List (Option Nat)} {f : Env → XR D} {g : Env → XR (List D)} (h : EX X E W e f) (hr : EXC X E W es sh g) (hs : starEach (e :: es) X.env = (false, eval e X.env) :: starEach es X.env := by rfl) : EXC X E W (e :: es) (none :: sh) (xcP f g) := by
  refine ⟨pa_mono (pa_cons h.pe hr.pa hs) fun σ H Q h => ?_⟩
  obtain ⟨F, ρ, τ, δ, s, hl, hb, q⟩ := h
  refine ⟨F, ρ, τ, δ, s, hl, hb, XRes.mono q.bind (fun x ρ1 _ q F1 H1 v e1 l1 s1 => ?_) fun c ρ1 z => z⟩
  by_cases hc : x.cold = true
  · rw [if_pos hc] at q
    obtain ⟨F1', x1, s1'⟩ := s1.frzTop hb hc
    refine ⟨F1', ρ1, _, _, s1', l1, hb, XRes.mono q.bind (fun xs ρ2 _ q F2 H2 ps vs e2 l2 n2 p2 m2 s2 => ?_) fun c ρ2 z F2 H2 e2 l2 s2 => z F2 H2 ((e1.trans x1).trans e2) l2 (s2.popX hb)⟩
    refine q F2 H2 (v :: ps) (v :: vs) ((e1.trans x1).trans e2) l2 (by rw [List.length_cons, List.length_cons, n2]) (by rw [D.pureL, D.frz_pure x hc, p2]; rfl) ⟨v, ps, vs, rfl, rfl, m2⟩ ?_
    rw [app1, app1] at s2
    exact s2
  · rw [if_neg hc] at q; exact q.elim
theorem xc_n {i : Nat} {e : Expr} {es : List Expr} {sh : List (Option Nat)} {g : Env → XR (List D)} (h : PE X e (tVar i)) (hr : EXC X E W es sh g) (hs : starEach (e :: es) X.env = (false, eval e X.env) :: starEach es X.env := by rfl) : EXC X E W (e :: es) (some i :: sh) (xcN i g) := by
  refine ⟨pa_mono (pa_cons h hr.pa hs) fun σ H Q h => ?_⟩
  obtain ⟨F, ρ, τ, δ, s, hl, hb, q⟩ := h
  rw [xcN_eq] at q
  cases e0 : ρ[i]?.getD none with
  | none => rw [e0] at q; exact q.elim
  | some d0 =>
    rw [e0] at q
    obtain ⟨v, A, ev, _⟩ := s.slotX hl (some_some e0)
    exact ⟨v, ev, F, ρ, τ, δ, s, hl, hb, XRes.mono q (fun xs ρ1 _ q F1 H1 ps vs e1 l1 n1 p1 m1 s1 => q F1 H1 ps (v :: vs) e1 l1 n1 p1 ⟨v, vs, ev, rfl, m1⟩ s1) fun c ρ1 z => z⟩
/-- all arguments as data -/
def mergeD : List (Option Nat) → List D → Env → Option (List D)
  | [], _, _ => some []
  | none :: sh, d :: ds, ρ => (mergeD sh ds ρ).map (d :: ·)
  | none :: _, [], _ => none
  | some i :: sh, ds, ρ => match ρ[i]?.getD none with
    | some d => (mergeD sh ds ρ).map (d :: ·)
    | none => none
@[simp] theorem mergeD_nil (ds : List D) (ρ : Env) : mergeD [] ds ρ = some [] := rfl
@[simp] theorem mergeD_none (sh : List (Option Nat)) (d : D) (ds : List D) (ρ : Env) : mergeD (none :: sh) (d :: ds) ρ = (mergeD sh ds ρ).map (d :: ·) := rfl
@[simp] theorem mergeD_some (sh : List (Option Nat)) (i : Nat) (ds : List D) (ρ : Env) : mergeD (some i :: sh) ds ρ = match ρ[i]?.getD none with
    | some d => (mergeD sh ds ρ).map (d :: ·)
    | none => none := rfl
theorem mergeD_vw {F H : Hp} {σ τ : L2.St} {ρ δ : Env} (s : Stt E F H (σ ++ τ) (ρ ++ δ)) (hl : ρ.length = σ.length) : ∀ {sh : List (Option Nat)} {ps vs : List V} {ds ds' : List D}, Mg σ sh ps vs → Vw E.k F H ps ds → mergeD sh ds ρ = some ds' → Vw E.k F H vs ds'
  | [], ps, vs, ds, ds', m, w, e => by cases e; rw [m.2]; exact .nil
  | none :: sh, ps, vs, ds, ds', m, w, e => by
    obtain ⟨v, p', q', rfl, rfl, m⟩ := m
    cases w with
    | cons r w =>
      rename_i d ds
      rw [mergeD_none] at e
      cases em : mergeD sh ds ρ with
      | none => rw [em] at e; cases e
      | some ds2 => rw [em] at e; cases e; exact .cons r (mergeD_vw s hl m w em)
  | some i :: sh, ps, vs, ds, ds', m, w, e => by
    obtain ⟨v, q', ev, rfl, m⟩ := m
    rw [mergeD_some] at e
    cases ei : ρ[i]?.getD none with
    | none => rw [ei] at e; cases e
    | some d =>
      rw [ei] at e
      have e : (mergeD sh ds ρ).map (d :: ·) = some ds' := e
      cases em : mergeD sh ds ρ with
      | none => rw [em] at e; cases e
      | some ds2 =>
        rw [em] at e; cases e
        obtain ⟨v', A, ev', r⟩ := s.slotX hl (some_some ei)
        rw [ev] at ev'
        cases ev'
        exact .cons ⟨A, r⟩ (mergeD_vw s hl m w em)
/-! ### a call of a def without an effect, behind arguments with one -/
def xCallP (n : Nat) (f : List D → R D) (sh : List (Option Nat)) (fs : Env → XR (List D)) : Env → XR D := fun ρ => (fs ρ).bind fun ds ρ => match mergeD sh ds ρ with
  | some ds => (callF n f ds).x ρ
  | none => .no
@[simp] theorem xCallP_eq (n : Nat) (f : List D → R D) (sh : List (Option Nat)) (fs : Env → XR (List D)) (ρ : Env) : xCallP n f sh fs ρ = (fs ρ).bind fun ds ρ => match mergeD sh ds ρ with
  | some ds => (callF n f ds).x ρ
  | none => .no := rfl
theorem xe_callP {k n : Nat} {fa : Addr} {fd : FuncData} {ps : List Str} {f : List D → R D} {sh : List (Option Nat)} {fs : Env → XR (List D)} {x : Str} {p pos : Pos} {e : Expr} {es : List Expr} (G : FnOk X.prog X.w X.K X.mg X.base (L2.CX X.prog X.w) k fa fd ps (spD E.k E.ec n f)) (tk : Takes X W) (hr : Room k X.A) (hg : Gl X x) (hm : X.mg x = some (.ref fa)) (hk : PySem.W.keepIn X.K (.ref fa) = true) (hb : Binds X.K fd ps [])
    (ha : EXC X E W (e :: es) sh fs) (hdb : (x == ("__debug__" : Str)) = false := by decide) (he : starEach (e :: es) X.env = (false, eval e X.env) :: starEach es X.env := by rfl) (hpl : (backTo pos (starEach es X.env)).any (·.1) = false := by rfl) : EX X E W (.Call (.Name x p) (e :: es) [] pos) (xCallP n f sh fs) := by
  refine ⟨pe_mono (pe_callS (E := WE W) G hr hg hm hk hb (fun σ => passAt tk σ) ha.pa hdb he hpl) fun σ H Q h => ?_⟩
  obtain ⟨F, ρ, τ, δ, s, hl, hb, q⟩ := h
  refine ⟨F, ρ, τ, δ, s, hl, hb, XRes.mono q.bind (fun ds ρ1 _ q F1 H1 ps vs e1 l1 n1 p1 m1 s1 => ?_) fun c ρ1 z => z⟩
  cases em : mergeD sh ds ρ1 with
  | none => rw [em] at q; exact q.elim
  | some ds' =>
    rw [em] at q
    obtain ⟨fp, A, s2, sl2, r2, n2, u2⟩ := s1.collectX hb n1
    exact call_of (Ew := WE W σ) (Tr.refl s2.fh) (mergeD_vw s2 l1 m1 r2.vw em) (Res.mono (XRes.x q) (fun d _ q F' H' v A t r nd u => q F' H' v (e1.trans t.ff) l1 (s2.pushX t r nd u)) fun c _ z F' H' t => z F' H' (e1.trans t.ff) l1 (s2.tr t))
end
end Dv
end
section
set_option maxRecDepth 100000
set_option maxHeartbeats 1000000
namespace Dv
open PySem PySem.Spec PyProof.Rows L2
/-! ## defs that change what their arguments own -/
/-- places of the borrowed parameters -/
def bsM (mk : List Bool) : List Nat := (List.range mk.length).filter fun i => mk.getD i false
theorem mem_bsM {mk : List Bool} {i : Nat} : i ∈ bsM mk ↔ mk[i]? = some true := by
  unfold bsM
  rw [List.mem_filter, List.mem_range, List.getD_eq_getElem?_getD]
  constructor
  · rintro ⟨h, e⟩
    rw [List.getElem?_eq_getElem h] at e ⊢
    exact congrArg some e
  · intro e
    obtain ⟨h, _⟩ := List.getElem?_eq_some_iff.mp e
    exact ⟨h, by rw [e]; rfl⟩
/-- what is left of the parameters: the borrowed ones -/
def keepB : List Bool → Env → Env
  | b :: mk, x :: ρ => (if b = true then x else none) :: keepB mk ρ
  | _ :: mk, [] => none :: keepB mk []
  | [], _ => []
@[simp] theorem keepB_nil (ρ : Env) : keepB [] ρ = [] := by cases ρ <;> rfl
@[simp] theorem keepB_true (mk : List Bool) (x : Option D) (ρ : Env) : keepB (true :: mk) (x :: ρ) = x :: keepB mk ρ := rfl
@[simp] theorem keepB_false (mk : List Bool) (x : Option D) (ρ : Env) : keepB (false :: mk) (x :: ρ) = none :: keepB mk ρ := rfl
theorem keepB_len : ∀ {mk : List Bool} {ρ : Env}, (keepB mk ρ).length = mk.length
  | [], ρ => by simp
  | b :: mk, [] => by rw [keepB, List.length_cons, List.length_cons, keepB_len]
  | b :: mk, x :: ρ => by rw [keepB, List.length_cons, List.length_cons, keepB_len]
theorem keepB_get : ∀ {mk : List Bool} {ρ : Env} {i : Nat} {d : D}, (keepB mk ρ)[i]? = some (some d) → mk[i]? = some true ∧ ρ[i]? = some (some d)
  | [], ρ, i, d, e => by simp at e
  | b :: mk, [], 0, d, e => by simp [keepB] at e
  | b :: mk, [], i + 1, d, e => by
    have := keepB_get (mk := mk) (ρ := []) (i := i) (d := d) (by simpa [keepB] using e)
    exact ⟨by simpa using this.1, by simp at this⟩
  | b :: mk, x :: ρ, 0, d, e => by
    cases b with
    | true => exact ⟨rfl, by simpa using e⟩
    | false => simp at e
  | b :: mk, x :: ρ, i + 1, d, e => keepB_get (mk := mk) (ρ := ρ) (i := i) (by simpa [keepB] using e)
theorem keepB_at : ∀ {mk : List Bool} {ρ : Env} {i : Nat}, mk[i]? = some true → (keepB mk ρ)[i]?.getD none = ρ[i]?.getD none
  | [], ρ, i, e => by simp at e
  | b :: mk, [], 0, e => by simp [keepB]
  | b :: mk, [], i + 1, e => by
    have := keepB_at (mk := mk) (ρ := []) (i := i) (by simpa using e)
    simpa [keepB] using this
  | b :: mk, x :: ρ, 0, e => by
    have : b = true := by simpa using e
    subst this; rfl
  | b :: mk, x :: ρ, i + 1, e => by
    have := keepB_at (mk := mk) (ρ := ρ) (i := i) (by simpa using e)
    simpa [keepB] using this
abbrev EnB (kx : Kx) (ec : Nat → Value) (mk : List Bool) (He F0 : Hp) (B : List Addr) (v0 : L2.St) : En := ⟨kx, ec, He, F0, B, bsM mk, v0⟩
/-- what is promised of such a def: its arguments and its result as a state of its own -/
def spX (k : Kx) (ec : Nat → Value) (mk : List Bool) (f : List D → XR D) : Sp := fun vs H Q Ew => ∃ F ds B, vs.length = mk.length ∧ Stt (EnB k ec mk H F B (vs.map some)) F H (vs.map some) (ds.map some) ∧
  XRes (f ds) (fun d ps => ∀ F' H' v, Ex F F' → ps.length = mk.length → Stt (EnB k ec mk H F B (vs.map some)) F' H' (vs.map some ++ [some v]) (ps ++ [some d]) → Q v H')
    (fun c ps => ∀ F' H', Ex F F' → ps.length = mk.length → Stt (EnB k ec mk H F B (vs.map some)) F' H' (vs.map some) ps → Ew (ec c) none H')
def SR.outX (mk : List Bool) : SR → XR D
  | .rt d ρ => .ok d (keepB mk ρ)
  | .nx ρ => .ok .non (keepB mk ρ)
  | .ex c ρ => .ex c (keepB mk ρ)
  | _ => .no
@[simp] theorem SR.outX_rt (mk : List Bool) (d : D) (ρ : Env) : (SR.rt d ρ).outX mk = .ok d (keepB mk ρ) := rfl
@[simp] theorem SR.outX_nx (mk : List Bool) (ρ : Env) : (SR.nx ρ).outX mk = .ok .non (keepB mk ρ) := rfl
@[simp] theorem SR.outX_ex (mk : List Bool) (c : Nat) (ρ : Env) : (SR.ex c ρ).outX mk = .ex c (keepB mk ρ) := rfl
@[simp] theorem SR.outX_no (mk : List Bool) : SR.no.outX mk = .no := rfl
def fnX (mk : List Bool) (m : Nat) (b : Env → SR) : List D → XR D := fun ds => if ds.length = mk.length then (b (ds.map some ++ List.replicate (m - mk.length) none)).outX mk else .no
/-- slots that hold nothing -/
theorem Stt.more {E : En} {F H : Hp} {σ : L2.St} {ρ : Env} (s : Stt E F H σ ρ) (n : Nat) : Stt E F H (σ ++ List.replicate n none) (ρ ++ List.replicate n none) := by
  obtain ⟨fp, sl⟩ := s.sl
  have hl := s.len
  have out : ∀ j, ¬ j < ρ.length → (ρ ++ List.replicate n (none : Option D))[j]?.getD none = none := fun j h => by
    rw [List.getElem?_append_right (by omega), List.getElem?_replicate]
    split <;> rfl
  refine ⟨s.e0, s.fh, s.fr, s.st, s.bt, by simp [hl], fun j hj => ⟨by have := (s.bv j hj).1; rw [List.length_append]; omega, by rw [List.getElem?_append_left (s.bv j hj).1]; exact (s.bv j hj).2⟩, fp, fun j d e => ?_, fun j e => ?_, sl.nd, sl.dj, sl.nw⟩
  · by_cases q : j < ρ.length
    · rw [List.getElem?_append_left q] at e
      obtain ⟨v, h1, h2⟩ := sl.rp j d e
      exact ⟨v, by rw [List.getElem?_append_left (by omega)]; exact h1, h2⟩
    · have := out j q
      rw [e] at this; cases this
  · by_cases q : j < ρ.length
    · rw [List.getElem?_append_left q] at e; exact sl.em j e
    · exact sl.em j (by rw [List.getElem?_eq_none (by omega)]; rfl)
/-- the borrowed parameters alone, and what is held -/
theorem Stt.keep {kx : Kx} {ec : Nat → Value} {mk : List Bool} {He F0 : Hp} {B : List Addr} {vs : List V} {F H : Hp} {σ : L2.St} {ρ : Env} (s : Stt (EnB kx ec mk He F0 B (vs.map some)) F H σ ρ) (hv : vs.length = mk.length) :
    Stt (EnB kx ec mk He F0 B (vs.map some)) F H (vs.map some) (keepB mk ρ) := by
  obtain ⟨fp, sl⟩ := s.sl
  refine ⟨s.e0, s.fh, s.fr, s.st, s.bt, by rw [keepB_len, List.length_map, hv], fun j hj => ⟨by
    have := mem_bsM.mp hj
    have := (List.getElem?_eq_some_iff.mp this).1
    rw [List.length_map]; omega, rfl⟩, fun j => if mk[j]? = some true then fp j else [], fun j d e => ?_, fun j e => ?_, fun j => ?_, fun j j' a ha ha' => ?_, fun j a ha => ?_⟩
  · obtain ⟨h1, h2⟩ := keepB_get e
    obtain ⟨v, e1, r⟩ := sl.rp j d h2
    refine ⟨v, by rw [← (s.bv j (mem_bsM.mpr h1)).2]; exact e1, ?_⟩
    show Rp kx F H d v (if mk[j]? = some true then fp j else [])
    rw [if_pos h1]; exact r
  · show (if mk[j]? = some true then fp j else []) = []
    by_cases q : mk[j]? = some true
    · rw [if_pos q]
      rw [keepB_at q] at e
      exact sl.em j e
    · rw [if_neg q]
  · show (if mk[j]? = some true then fp j else []).Nodup
    split
    · exact sl.nd j
    · exact .nil
  · have ha : a ∈ (if mk[j]? = some true then fp j else []) := ha
    have ha' : a ∈ (if mk[j']? = some true then fp j' else []) := ha'
    split at ha
    · split at ha'
      · exact sl.dj j j' a ha ha'
      · cases ha'
    · cases ha
  · have ha : a ∈ (if mk[j]? = some true then fp j else []) := ha
    split at ha
    · exact sl.nw j a ha
    · cases ha
theorem Stt.keepTop {kx : Kx} {ec : Nat → Value} {mk : List Bool} {He F0 : Hp} {B : List Addr} {vs : List V} {F H : Hp} {σ : L2.St} {ρ : Env} {v : V} {d : D} (s : Stt (EnB kx ec mk He F0 B (vs.map some)) F H (σ ++ [some v]) (ρ ++ [some d])) (hv : vs.length = mk.length) (hb : ∀ i ∈ bsM mk, i < σ.length) :
    Stt (EnB kx ec mk He F0 B (vs.map some)) F H (vs.map some ++ [some v]) (keepB mk ρ ++ [some d]) := by
  obtain ⟨fp, sl⟩ := s.sl
  obtain ⟨s2, sl2, h2, n2, u2⟩ := s.pop' sl hb
  obtain ⟨v', ev, r⟩ := h2 d rfl
  cases ev
  have s3 := s2.keep hv
  -- the footprints of the kept ones are among the old ones
  have sl3 : Sl (EnB kx ec mk He F0 B (vs.map some)) F H (vs.map some) (keepB mk ρ) fun j => if mk[j]? = some true then (if j = σ.length then [] else fp j) else [] := by
    refine ⟨fun j d e => ?_, fun j e => ?_, fun j => ?_, fun j j' a ha ha' => ?_, fun j a ha => ?_⟩
    · obtain ⟨h1, h2⟩ := keepB_get e
      obtain ⟨v, e1, r⟩ := sl2.rp j d h2
      refine ⟨v, by rw [← (s2.bv j (mem_bsM.mpr h1)).2]; exact e1, ?_⟩
      show Rp kx F H d v (if mk[j]? = some true then _ else [])
      rw [if_pos h1]; exact r
    · show (if mk[j]? = some true then _ else []) = []
      by_cases q : mk[j]? = some true
      · rw [if_pos q]
        rw [keepB_at q] at e
        exact sl2.em j e
      · rw [if_neg q]
    · show (if mk[j]? = some true then _ else []).Nodup
      split
      · exact sl2.nd j
      · exact .nil
    · have ha : a ∈ (if mk[j]? = some true then (if j = σ.length then [] else fp j) else []) := ha
      have ha' : a ∈ (if mk[j']? = some true then (if j' = σ.length then [] else fp j') else []) := ha'
      split at ha
      · split at ha'
        · exact sl2.dj j j' a ha ha'
        · cases ha'
      · cases ha
    · have ha : a ∈ (if mk[j]? = some true then (if j = σ.length then [] else fp j) else []) := ha
      split at ha
      · exact sl2.nw j a ha
      · cases ha
  refine s3.push' sl3 r n2 fun a ha => ⟨(u2 a ha).1, fun j hj => ?_⟩
  have hj : a ∈ (if mk[j]? = some true then (if j = σ.length then [] else fp j) else []) := hj
  split at hj
  · exact (u2 a ha).2 j hj
  · cases hj
section
variable {P : Program} {w : World} {K : PySem.W.Frag} {mg : Str → Option Value} {base : Heap}
theorem fn_okX {x qual : Str} {st : Stmt} {f : Addr} {fd : FuncData} {N ps : List Str} (k : Nat) (mk : List Bool) (m : Nat) (kx : Kx) (ec : Nat → Value) {b : Env → SR} (hn : ps.length = mk.length) (hm : N.length = m) (hnm : mk.length ≤ m) (hbs : bsM mk ≠ []) (G : Fun K x qual st f fd) (S : FnScope N ps (defScope st))
    (hbody : ∀ (cdv : Value) (A : Around) (outer : List PySem.Env) (s : Shared) (H : Hp) (Ew : XK) (He F0 : Hp) (B : List Addr) (v0 : L2.St) (W : WX), Room k (A.deeper (envOfC qual (defScope st) s.heap.objs.size f cdv)) →
      Takes (cxOf (L2.CX P w) P w K mg base N qual (defScope st) f cdv A outer s H Ew) W → PassesOwn (model P w) (cxOf (L2.CX P w) P w K mg base N qual (defScope st) f cdv A outer s H Ew).A (cxOf (L2.CX P w) P w K mg base N qual (defScope st) f cdv A outer s H Ew).env (cxOf (L2.CX P w) P w K mg base N qual (defScope st) f cdv A outer s H Ew).xe →
      SB (cxOf (L2.CX P w) P w K mg base N qual (defScope st) f cdv A outer s H Ew) (EnB kx ec mk He F0 B v0) W (defBody st) b) :
    FnOk P w K mg base (L2.CX P w) (k + 1) f fd ps (spX kx ec mk (fnX mk m b)) := by
  subst hm
  refine G.okX S (fun vs H Q E ⟨F, ds, B, h, _⟩ => by rw [h, hn]) fun cdv A outer s H vs Q Ew hr h => ?_
  obtain ⟨F, ds, B, hv, st0, h⟩ := h
  have sb := hbody cdv A outer s H Ew H F B (vs.map some) (fun cls d _ H => Ew cls d H) hr (takes_of rfl rfl rfl rfl) (passes_of rfl)
  have hd : ds.length = mk.length := by have := st0.len; rw [List.length_map, List.length_map] at this; omega
  have start : L2.start N vs = vs.map some ++ List.replicate (N.length - mk.length) none := by unfold L2.start; rw [hv]
  refine ⟨_, sb.ps, F, ds.map some ++ List.replicate (N.length - mk.length) none, ?_, ?_⟩
  · rw [start]; exact st0.more _
  · unfold fnX at h
    rw [if_pos hd] at h
    have bl : ∀ {σ : L2.St} {ρ : Env} {F' H' : Hp}, Stt (EnB kx ec mk H F B (vs.map some)) F' H' σ ρ → ∀ i ∈ bsM mk, i < σ.length := fun s i hi => (s.bv i hi).1
    cases eb : b (ds.map some ++ List.replicate (N.length - mk.length) none) with
    | no => rw [eb] at h; exact h.elim
    | bk ρ => rw [eb] at h; exact h.elim
    | ct ρ => rw [eb] at h; exact h.elim
    | nx ρ =>
      rw [eb] at h
      exact fun F' H' σ x s' => h F' H' .non x keepB_len ((s'.push (Tr.refl s'.fh) (d := .non) (v := .non) (A := []) ⟨rfl, rfl⟩ .nil fun _ z => nomatch z).keepTop hv (bl s'))
    | rt d ρ =>
      rw [eb] at h
      exact fun F' H' σ v s' fn sx => sx.elim (fun z => absurd z hbs) fun sx => h F' H' v s'.e0 keepB_len (sx.keepTop hv (bl s'))
    | ex c ρ =>
      rw [eb] at h
      exact fun F' H' σ x s' => h F' H' x keepB_len (s'.keep hv)
end
end Dv
end
section
set_option maxRecDepth 100000
set_option maxHeartbeats 1000000
namespace Dv
open PySem PySem.Spec PyProof.Rows L2
/-! ## the caller's side -/
theorem Mg_len {σ : L2.St} : ∀ {sh : List (Option Nat)} {ps vs : List V}, Mg σ sh ps vs → vs.length = sh.length
  | [], ps, vs, m => by rw [m.2]; rfl
  | none :: sh, ps, vs, m => by obtain ⟨v, p', q', rfl, rfl, m⟩ := m; rw [List.length_cons, List.length_cons, Mg_len m]
  | some i :: sh, ps, vs, m => by obtain ⟨v, q', _, rfl, m⟩ := m; rw [List.length_cons, List.length_cons, Mg_len m]
theorem Mg_at {σ : L2.St} : ∀ {sh : List (Option Nat)} {ps vs : List V} {k i : Nat}, Mg σ sh ps vs → sh[k]? = some (some i) → ∃ v, σ[i]? = some (some v) ∧ vs[k]? = some v
  | [], ps, vs, k, i, m, e => by simp at e
  | none :: sh, ps, vs, 0, i, m, e => by simp at e
  | none :: sh, ps, vs, k + 1, i, m, e => by
    obtain ⟨v, p', q', rfl, rfl, m⟩ := m
    obtain ⟨w, h1, h2⟩ := Mg_at (k := k) (i := i) m (by simpa using e)
    exact ⟨w, h1, by simpa using h2⟩
  | some i0 :: sh, ps, vs, 0, i, m, e => by
    obtain ⟨v, q', ev, rfl, m⟩ := m
    have : i0 = i := by simpa using e
    subst this
    exact ⟨v, ev, rfl⟩
  | some i0 :: sh, ps, vs, k + 1, i, m, e => by
    obtain ⟨v, q', ev, rfl, m⟩ := m
    obtain ⟨w, h1, h2⟩ := Mg_at (k := k) (i := i) m (by simpa using e)
    exact ⟨w, h1, by simpa using h2⟩
theorem mergeD_len : ∀ {sh : List (Option Nat)} {ds ds' : List D} {ρ : Env}, mergeD sh ds ρ = some ds' → ds'.length = sh.length
  | [], ds, ds', ρ, e => by cases e; rfl
  | none :: sh, [], ds', ρ, e => by cases e
  | none :: sh, d :: ds, ds', ρ, e => by
    rw [mergeD_none] at e
    cases em : mergeD sh ds ρ with
    | none => rw [em] at e; cases e
    | some x => rw [em] at e; cases e; rw [List.length_cons, List.length_cons, mergeD_len em]
  | some i :: sh, ds, ds', ρ, e => by
    rw [mergeD_some] at e
    split at e
    · cases em : mergeD sh ds ρ with
      | none => rw [em] at e; cases e
      | some x => rw [em] at e; cases e; rw [List.length_cons, List.length_cons, mergeD_len em]
    · cases e
theorem mergeD_lt : ∀ {sh : List (Option Nat)} {ds ds' : List D} {ρ : Env} {k i : Nat}, mergeD sh ds ρ = some ds' → sh[k]? = some (some i) → i < ρ.length
  | [], ds, ds', ρ, k, i, e, h => by simp at h
  | none :: sh, [], ds', ρ, k, i, e, h => by cases e
  | none :: sh, d :: ds, ds', ρ, 0, i, e, h => by simp at h
  | none :: sh, d :: ds, ds', ρ, k + 1, i, e, h => by
    rw [mergeD_none] at e
    cases em : mergeD sh ds ρ with
    | none => rw [em] at e; cases e
    | some x => exact mergeD_lt (k := k) em (by simpa using h)
  | some i0 :: sh, ds, ds', ρ, k, i, e, h => by
    rw [mergeD_some] at e
    split at e
    · rename_i d ed
      cases em : mergeD sh ds ρ with
      | none => rw [em] at e; cases e
      | some x =>
        cases k with
        | zero =>
          have : i0 = i := by simpa using h
          subst this
          exact (List.getElem?_eq_some_iff.mp (some_some ed)).1
        | succ k => exact mergeD_lt (k := k) em (by simpa using h)
    · cases e
/-- the slots are different -/
def shOk (sh : List (Option Nat)) : Bool := decide (sh.filterMap id).Nodup
theorem shOk_inj : ∀ {sh : List (Option Nat)}, shOk sh = true → ∀ {k k' i : Nat}, sh[k]? = some (some i) → sh[k']? = some (some i) → k = k' := fun {sh} h0 => by
  have h : (sh.filterMap id).Nodup := by simpa [shOk] using h0
  clear h0
  induction sh with
  | nil => intro k k' i e; simp at e
  | cons x sh ih =>
    have mem : ∀ {k i : Nat}, sh[k]? = some (some i) → i ∈ sh.filterMap id := fun {k i} e => List.mem_filterMap.mpr ⟨some i, List.mem_of_getElem? e, rfl⟩
    intro k k' i e e'
    cases x with
    | none =>
      cases k with
      | zero => simp at e
      | succ k => cases k' with
        | zero => simp at e'
        | succ k' => rw [ih (by simpa using h) (k := k) (k' := k') (i := i) (by simpa using e) (by simpa using e')]
    | some j =>
      have h' : j ∉ sh.filterMap id ∧ (sh.filterMap id).Nodup := by simpa using h
      cases k with
      | zero =>
        have e1 : j = i := by simpa using e
        cases k' with
        | zero => rfl
        | succ k' => exact absurd (mem (k := k') (i := i) (by simpa using e')) (e1 ▸ h'.1)
      | succ k =>
        cases k' with
        | zero =>
          have e1 : j = i := by simpa using e'
          exact absurd (mem (k := k) (i := i) (by simpa using e)) (e1 ▸ h'.1)
        | succ k' => rw [ih h'.2 (k := k) (k' := k') (i := i) (by simpa using e) (by simpa using e')]
/-- the slots behind the call -/
def putD : List (Option Nat) → Env → Env → Env
  | none :: sh, _ :: qs, ρ => putD sh qs ρ
  | some i :: sh, q :: qs, ρ => putD sh qs (ρ.set i q)
  | _, _, ρ => ρ
@[simp] theorem putD_nil (qs ρ : Env) : putD [] qs ρ = ρ := by cases qs <;> rfl
@[simp] theorem putD_none (sh : List (Option Nat)) (q : Option D) (qs ρ : Env) : putD (none :: sh) (q :: qs) ρ = putD sh qs ρ := rfl
@[simp] theorem putD_some (sh : List (Option Nat)) (i : Nat) (q : Option D) (qs ρ : Env) : putD (some i :: sh) (q :: qs) ρ = putD sh qs (ρ.set i q) := rfl
theorem putD_len : ∀ {sh : List (Option Nat)} {qs ρ : Env}, (putD sh qs ρ).length = ρ.length
  | [], qs, ρ => by rw [putD_nil]
  | none :: sh, [], ρ => rfl
  | some i :: sh, [], ρ => rfl
  | none :: sh, q :: qs, ρ => by rw [putD_none, putD_len]
  | some i :: sh, q :: qs, ρ => by rw [putD_some, putD_len, List.length_set]
theorem putD_out : ∀ {sh : List (Option Nat)} {qs ρ : Env} {j : Nat}, (∀ k : Nat, sh[k]? ≠ some (some j)) → (putD sh qs ρ)[j]? = ρ[j]?
  | [], qs, ρ, j, h => by rw [putD_nil]
  | none :: sh, [], ρ, j, h => rfl
  | some i :: sh, [], ρ, j, h => rfl
  | none :: sh, q :: qs, ρ, j, h => by rw [putD_none]; exact putD_out fun k z => h (k + 1) (by simpa using z)
  | some i :: sh, q :: qs, ρ, j, h => by
    rw [putD_some, putD_out fun k z => h (k + 1) (by simpa using z)]
    exact List.getElem?_set_ne fun z => h 0 (by rw [z]; rfl)
theorem putD_at : ∀ {sh : List (Option Nat)} {qs ρ : Env} {k j : Nat}, qs.length = sh.length → shOk sh = true → sh[k]? = some (some j) → j < ρ.length → (putD sh qs ρ)[j]? = qs[k]?
  | [], qs, ρ, k, j, hl, ok, e, hj => by simp at e
  | _ :: sh, [], ρ, k, j, hl, ok, e, hj => by cases hl
  | none :: sh, q :: qs, ρ, 0, j, hl, ok, e, hj => by simp at e
  | none :: sh, q :: qs, ρ, k + 1, j, hl, ok, e, hj => by
    rw [putD_none, putD_at (k := k) (by simpa using hl) (by simpa [shOk] using ok) (by simpa using e) hj]
    rfl
  | some i :: sh, q :: qs, ρ, 0, j, hl, ok, e, hj => by
    have e1 : i = j := by simpa using e
    subst e1
    rw [putD_some, putD_out fun k z => absurd (shOk_inj ok (k := 0) (k' := k + 1) (i := i) rfl (by simpa using z)) (by omega), List.getElem?_set_self hj]
    rfl
  | some i :: sh, q :: qs, ρ, k + 1, j, hl, ok, e, hj => by
    have ok' : shOk sh = true := by
      have : i ∉ sh.filterMap id ∧ (sh.filterMap id).Nodup := by simpa [shOk] using ok
      simpa [shOk] using this.2
    rw [putD_some, putD_at (k := k) (by simpa using hl) ok' (by simpa using e) (by rw [List.length_set]; exact hj)]
    rfl
section
variable {E : En} {F H : Hp}
theorem args_at {σ τ : L2.St} {ρ δ : Env} {fp : Nat → List Addr} (sl : Sl E F H (σ ++ τ) (ρ ++ δ) fp) (hl : ρ.length = σ.length) : ∀ {sh : List (Option Nat)} {ps vs : List V} {ds ds' : List D}, Mg σ sh ps vs → RpL E.k F H ds ps [] → mergeD sh ds ρ = some ds' → ∀ (k : Nat) (d : D), ds'[k]? = some d →
    ∃ v, vs[k]? = some v ∧ Rp E.k F H d v (match sh[k]? with | some (some i) => fp i | _ => [])
  | [], ps, vs, ds, ds', m, r, e, k, d, ed => by cases e; simp at ed
  | none :: sh, ps, vs, ds, ds', m, r, e, k, d, ed => by
    obtain ⟨v, p', q', rfl, rfl, m⟩ := m
    cases ds with
    | nil => cases e
    | cons d0 ds =>
      rw [mergeD_none] at e
      cases em : mergeD sh ds ρ with
      | none => rw [em] at e; cases e
      | some ds2 =>
        rw [em] at e; cases e
        obtain ⟨w, ws, A1, A2, e1, e2, r1, r2⟩ := r
        cases e1
        obtain ⟨rfl, rfl⟩ := List.append_eq_nil_iff.mp e2.symm
        cases k with
        | zero =>
          have : d0 = d := by simpa using ed
          subst this
          exact ⟨v, rfl, r1⟩
        | succ k =>
          obtain ⟨u, h1, h2⟩ := args_at sl hl m r2 em k d (by simpa using ed)
          exact ⟨u, by simpa using h1, by simpa using h2⟩
  | some i :: sh, ps, vs, ds, ds', m, r, e, k, d, ed => by
    obtain ⟨v, q', ev, rfl, m⟩ := m
    rw [mergeD_some] at e
    cases ei : ρ[i]?.getD none with
    | none => rw [ei] at e; cases e
    | some d0 =>
      rw [ei] at e
      have e : (mergeD sh ds ρ).map (d0 :: ·) = some ds' := e
      cases em : mergeD sh ds ρ with
      | none => rw [em] at e; cases e
      | some ds2 =>
        rw [em] at e; cases e
        cases k with
        | zero =>
          have : d0 = d := by simpa using ed
          subst this
          have hi := (List.getElem?_eq_some_iff.mp (some_some ei)).1
          obtain ⟨w, h1, h2⟩ := sl.rp i d0 (by rw [List.getElem?_append_left hi]; exact some_some ei)
          rw [List.getElem?_append_left (by omega), ev] at h1
          cases h1
          exact ⟨v, rfl, h2⟩
        | succ k =>
          obtain ⟨u, h1, h2⟩ := args_at sl hl m r em k d (by simpa using ed)
          exact ⟨u, by simpa using h1, by simpa using h2⟩
/-- what the called def begins with -/
theorem Stt.enter {σ τ : L2.St} {ρ δ : Env} {fp : Nat → List Addr} {sh : List (Option Nat)} {ps vs : List V} {ds ds' : List D} {mk : List Bool} (s : Stt E F H (σ ++ τ) (ρ ++ δ)) (sl : Sl E F H (σ ++ τ) (ρ ++ δ) fp) (hl : ρ.length = σ.length) (m : Mg σ sh ps vs) (r : RpL E.k F H ds ps []) (e : mergeD sh ds ρ = some ds') (hmk : mk = sh.map Option.isSome) (ok : shOk sh = true) :
    Stt (EnB E.k E.ec mk H F ((sh.filterMap id).flatMap fp) (vs.map some)) F H (vs.map some) (ds'.map some) := by
  have at' := args_at sl hl m r e
  have lv := Mg_len m
  have ld := mergeD_len e
  have memB : ∀ {k i : Nat} {a : Addr}, sh[k]? = some (some i) → a ∈ fp i → a ∈ (sh.filterMap id).flatMap fp := fun {k i a} h ha => List.mem_flatMap.mpr ⟨i, List.mem_filterMap.mpr ⟨some i, List.mem_of_getElem? h, rfl⟩, ha⟩
  have bsk : ∀ {k i : Nat}, sh[k]? = some (some i) → k ∈ bsM mk := fun {k i} h => mem_bsM.mpr (by rw [hmk, List.getElem?_map, h]; rfl)
  refine ⟨.refl _, s.fh, fun a h _ => h, fun a o h _ => h, fun a ha => ?_, by rw [List.length_map, List.length_map, ld, lv], fun k hk => ⟨?_, rfl⟩, fun k => match sh[k]? with | some (some i) => fp i | _ => [], fun k d h => ?_, fun k h => ?_, fun k => ?_, fun k k' a ha ha' => ?_, fun k a ha => ?_⟩
  · obtain ⟨i, _, ha⟩ := List.mem_flatMap.mp ha
    exact (sl.there ha).2
  · have := mem_bsM.mp hk
    have := (List.getElem?_eq_some_iff.mp this).1
    rw [hmk, List.length_map] at this
    rw [List.length_map]; omega
  · rw [List.getElem?_map] at h
    cases hd : ds'[k]? with
    | none => rw [hd] at h; cases h
    | some d' =>
      rw [hd] at h; cases h
      obtain ⟨v, h1, h2⟩ := at' k d hd
      exact ⟨v, by rw [List.getElem?_map, h1]; rfl, h2⟩
  · rw [List.getElem?_map] at h
    cases hd : ds'[k]? with
    | some d' => rw [hd] at h; cases h
    | none =>
      have : sh.length ≤ k := by rw [← ld]; exact List.getElem?_eq_none_iff.mp hd
      show (match sh[k]? with | some (some i) => fp i | _ => []) = []
      rw [List.getElem?_eq_none this]
  · show (match sh[k]? with | some (some i) => fp i | _ => []).Nodup
    split
    · exact sl.nd _
    · exact .nil
  · have ha : a ∈ (match sh[k]? with | some (some i) => fp i | _ => []) := ha
    have ha' : a ∈ (match sh[k']? with | some (some i) => fp i | _ => []) := ha'
    split at ha
    · rename_i i hi
      split at ha'
      · rename_i i' hi'
        have := sl.dj i i' a ha ha'
        subst this
        exact shOk_inj ok hi hi'
      · cases ha'
    · cases ha
  · have ha : a ∈ (match sh[k]? with | some (some i) => fp i | _ => []) := ha
    split at ha
    · rename_i i hi
      exact .inr ⟨memB hi ha, bsk hi⟩
    · cases ha
/-- what it leaves -/
theorem Stt.leave {σ τ : L2.St} {ρ δ : Env} {fp : Nat → List Addr} {sh : List (Option Nat)} {ps vs : List V} {ds ds' : List D} {mk : List Bool} {F' H' : Hp} {qs : Env} {fp3 : Nat → List Addr} (s : Stt E F H (σ ++ τ) (ρ ++ δ)) (sl : Sl E F H (σ ++ τ) (ρ ++ δ) fp) (hl : ρ.length = σ.length) (m : Mg σ sh ps vs) (e : mergeD sh ds ρ = some ds') (ok : shOk sh = true)
    (hall : (∀ i ∈ sh.filterMap id, i ∈ E.bs) ∨ ∀ i ∈ sh.filterMap id, i ∉ E.bs) (hq : qs.length = sh.length)
    (s3 : Stt (EnB E.k E.ec mk H F ((sh.filterMap id).flatMap fp) (vs.map some)) F' H' (vs.map some) qs) (sl3 : Sl (EnB E.k E.ec mk H F ((sh.filterMap id).flatMap fp) (vs.map some)) F' H' (vs.map some) qs fp3) :
    ∃ fp', Stt E F' H' (σ ++ τ) (putD sh qs ρ ++ δ) ∧ Sl E F' H' (σ ++ τ) (putD sh qs ρ ++ δ) fp' ∧ ∀ j a, a ∈ fp' j → (∃ k, a ∈ fp3 k) ∨ a ∈ fp j := by
  classical
  have lp : ∀ {k i : Nat}, sh[k]? = some (some i) → i < ρ.length := fun h => mergeD_lt e h
  have mem : ∀ {k i : Nat}, sh[k]? = some (some i) → i ∈ sh.filterMap id := fun {k i} h => List.mem_filterMap.mpr ⟨some i, List.mem_of_getElem? h, rfl⟩
  have inB : ∀ {a : Addr}, a ∈ (sh.filterMap id).flatMap fp → ∃ k i : Nat, sh[k]? = some (some i) ∧ a ∈ fp i := fun {a} h => by
    obtain ⟨i, hi, ha⟩ := List.mem_flatMap.mp h
    obtain ⟨x, hx, ex⟩ := List.mem_filterMap.mp hi
    obtain ⟨k, hk⟩ := List.mem_iff_getElem?.mp hx
    exact ⟨k, i, by rw [hk]; exact congrArg some ex, ha⟩
  have he : ∀ {a}, a ∈ (sh.filterMap id).flatMap fp → ∀ {o}, E.He a = some o → a ∈ E.B := fun {a} h {o} eo => by
    obtain ⟨k, i, _, ha⟩ := inB h
    exact (sl.nw i a ha).elim (fun z => by rw [z] at eo; cases eo) fun z => z.1
  -- by place: borrowed, or not
  let f' : Nat → List Addr := fun j => if h : ∃ k : Nat, sh[k]? = some (some j) then fp3 h.choose else fp j
  have f1 : ∀ {j k : Nat}, sh[k]? = some (some j) → f' j = fp3 k := fun {j k} h => by
    have ex : ∃ k : Nat, sh[k]? = some (some j) := ⟨k, h⟩
    show (if h : ∃ k : Nat, sh[k]? = some (some j) then fp3 h.choose else fp j) = _
    rw [dif_pos ex, shOk_inj ok ex.choose_spec h]
  have f0 : ∀ {j : Nat}, (∀ k : Nat, sh[k]? ≠ some (some j)) → f' j = fp j := fun {j} h => dif_neg fun ⟨k, z⟩ => h k z
  have cs : ∀ j : Nat, (∃ k : Nat, sh[k]? = some (some j)) ∨ ∀ k : Nat, sh[k]? ≠ some (some j) := fun j => (Classical.em (∃ k : Nat, sh[k]? = some (some j))).imp_right fun h k z => h ⟨k, z⟩
  have g1 : ∀ {j k : Nat}, sh[k]? = some (some j) → (putD sh qs ρ ++ δ)[j]? = qs[k]? := fun {j k} h => by
    rw [List.getElem?_append_left (by rw [putD_len]; exact lp h)]
    exact putD_at hq ok h (lp h)
  have g0 : ∀ {j : Nat}, (∀ k : Nat, sh[k]? ≠ some (some j)) → (putD sh qs ρ ++ δ)[j]? = (ρ ++ δ)[j]? := fun {j} h => by
    by_cases q : j < ρ.length
    · rw [List.getElem?_append_left (by rw [putD_len]; exact q), List.getElem?_append_left q, putD_out h]
    · rw [List.getElem?_append_right (by rw [putD_len]; omega), List.getElem?_append_right (by omega), putD_len]
  have out : ∀ {j : Nat} {a : Addr}, (∀ k : Nat, sh[k]? ≠ some (some j)) → a ∈ fp j → a ∉ (sh.filterMap id).flatMap fp := fun {j a} h ha z => by
    obtain ⟨k, i, hk, hi⟩ := inB z
    have := sl.dj j i a ha hi
    subst this
    exact h k hk
  -- what a borrowed one owns is new, or was borrowed
  have own3 : ∀ {k a}, a ∈ fp3 k → H a = none ∨ a ∈ (sh.filterMap id).flatMap fp := fun {k a} h => (sl3.nw k a h).imp_right fun z => z.1
  have sl' : Sl E F' H' (σ ++ τ) (putD sh qs ρ ++ δ) f' := by
    refine ⟨fun j d h => ?_, fun j h => ?_, fun j => ?_, fun j j' a ha ha' => ?_, fun j a ha => ?_⟩
    · rcases cs j with ⟨k, hk⟩ | hk
      · rw [g1 hk] at h
        obtain ⟨v, h1, h2⟩ := sl3.rp k d h
        obtain ⟨w, h3, h4⟩ := Mg_at m hk
        rw [List.getElem?_map, h4] at h1
        cases h1
        rw [f1 hk]
        exact ⟨v, by rw [List.getElem?_append_left (List.getElem?_eq_some_iff.mp h3).1]; exact h3, h2⟩
      · rw [g0 hk] at h
        obtain ⟨v, h1, h2⟩ := sl.rp j d h
        rw [f0 hk]
        exact ⟨v, h1, Rp.mono s3.e0 d v _ (fun a ha o ho n => ⟨s3.st a o ho (out hk ha), s3.fr a n (fun z => by have ho' : H a = some o := ho; have z' : H a = none := z; rw [z'] at ho'; cases ho')⟩) h2⟩
    · rcases cs j with ⟨k, hk⟩ | hk
      · rw [f1 hk]; rw [g1 hk] at h; exact sl3.em k h
      · rw [f0 hk]; rw [g0 hk] at h; exact sl.em j h
    · rcases cs j with ⟨k, hk⟩ | hk
      · rw [f1 hk]; exact sl3.nd k
      · rw [f0 hk]; exact sl.nd j
    · rcases cs j with ⟨k, hk⟩ | hk
      · rw [f1 hk] at ha
        rcases cs j' with ⟨k', hk'⟩ | hk'
        · rw [f1 hk'] at ha'
          have := sl3.dj k k' a ha ha'
          subst this
          rw [hk] at hk'
          simpa using hk'
        · rw [f0 hk'] at ha'
          rcases own3 ha with z | z
          · exact absurd z (sl.there ha').2
          · exact absurd z (out hk' ha')
      · rw [f0 hk] at ha
        rcases cs j' with ⟨k', hk'⟩ | hk'
        · rw [f1 hk'] at ha'
          rcases own3 ha' with z | z
          · exact absurd z (sl.there ha).2
          · exact absurd z (out hk ha)
        · rw [f0 hk'] at ha'
          exact sl.dj j j' a ha ha'
    · rcases cs j with ⟨k, hk⟩ | hk
      · rw [f1 hk] at ha
        rcases own3 ha with z | z
        · exact .inl (s.new z)
        · obtain ⟨k2, i2, hk2, hi2⟩ := inB z
          rcases sl.nw i2 a hi2 with h | h
          · exact .inl h
          · rcases hall with ha' | ha'
            · exact .inr ⟨h.1, ha' j (mem hk)⟩
            · exact absurd h.2 (ha' i2 (mem hk2))
      · rw [f0 hk] at ha
        exact sl.nw j a ha
  refine ⟨f', ⟨s.e0.trans s3.e0, s3.fh, fun a h1 h2 => s3.fr a (s.fr a h1 h2) (s.there h2), fun a o h1 h2 => s3.st a o (s.st a o h1 h2) fun z => h2 (he z h1), fun a ha => ?_, ?_, s.bv, f', sl'⟩, sl', fun j a ha => ?_⟩
  · by_cases z : a ∈ (sh.filterMap id).flatMap fp
    · exact s3.bt a z
    · have := s.bt a ha
      cases h : H a with
      | none => exact absurd h this
      | some o => rw [s3.st a o h z]; exact fun z => nomatch z
  · rw [List.length_append, putD_len, ← List.length_append]; exact s.len
  · rcases cs j with ⟨k, hk⟩ | hk
    · rw [f1 hk] at ha; exact .inl ⟨k, ha⟩
    · rw [f0 hk] at ha; exact .inr ha
end
section
variable {X : Cx} {E : En} {W : WX}
def XR.put (r : XR D) (sh : List (Option Nat)) (ρ : Env) : XR D := match r with
  | .ok d qs => .ok d (putD sh qs ρ)
  | .ex c qs => .ex c (putD sh qs ρ)
  | .no => .no
@[simp] theorem XR.put_ok (d : D) (qs : Env) (sh : List (Option Nat)) (ρ : Env) : (XR.ok d qs).put sh ρ = .ok d (putD sh qs ρ) := rfl
@[simp] theorem XR.put_ex (c : Nat) (qs : Env) (sh : List (Option Nat)) (ρ : Env) : (XR.ex c qs : XR D).put sh ρ = .ex c (putD sh qs ρ) := rfl
@[simp] theorem XR.put_no (sh : List (Option Nat)) (ρ : Env) : (XR.no : XR D).put sh ρ = .no := rfl
def xCall (f : List D → XR D) (sh : List (Option Nat)) (fs : Env → XR (List D)) : Env → XR D := fun ρ => (fs ρ).bind fun ds ρ => match mergeD sh ds ρ with
  | some ds => (f ds).put sh ρ
  | none => .no
@[simp] theorem xCall_eq (f : List D → XR D) (sh : List (Option Nat)) (fs : Env → XR (List D)) (ρ : Env) : xCall f sh fs ρ = (fs ρ).bind fun ds ρ => match mergeD sh ds ρ with
  | some ds => (f ds).put sh ρ
  | none => .no := rfl
theorem xe_call {k : Nat} {mk : List Bool} {fa : Addr} {fd : FuncData} {ps : List Str} {f : List D → XR D} {sh : List (Option Nat)} {fs : Env → XR (List D)} {x : Str} {p pos : Pos} {e : Expr} {es : List Expr} (G : FnOk X.prog X.w X.K X.mg X.base (L2.CX X.prog X.w) k fa fd ps (spX E.k E.ec mk f)) (tk : Takes X W) (hr : Room k X.A) (hg : Gl X x) (hm : X.mg x = some (.ref fa)) (hk : PySem.W.keepIn X.K (.ref fa) = true) (hb : Binds X.K fd ps [])
    (hmk : mk = sh.map Option.isSome) (ok : shOk sh = true) (hall : (∀ i ∈ sh.filterMap id, i ∈ E.bs) ∨ ∀ i ∈ sh.filterMap id, i ∉ E.bs)
    (ha : EXC X E W (e :: es) sh fs) (hdb : (x == ("__debug__" : Str)) = false := by decide) (he : starEach (e :: es) X.env = (false, eval e X.env) :: starEach es X.env := by rfl) (hpl : (backTo pos (starEach es X.env)).any (·.1) = false := by rfl) : EX X E W (.Call (.Name x p) (e :: es) [] pos) (xCall f sh fs) := by
  refine ⟨pe_mono (pe_callS (E := WE W) G hr hg hm hk hb (fun σ => passAt tk σ) ha.pa hdb he hpl) fun σ H Q h => ?_⟩
  obtain ⟨F, ρ, τ, δ, s, hl, hb, q⟩ := h
  refine ⟨F, ρ, τ, δ, s, hl, hb, XRes.mono q.bind (fun ds ρ1 _ q F1 H1 ps vs e1 l1 n1 p1 m1 s1 => ?_) fun c ρ1 z => z⟩
  cases em : mergeD sh ds ρ1 with
  | none => rw [em] at q; exact q.elim
  | some ds' =>
    rw [em] at q
    have q : XRes ((f ds').put sh ρ1) _ _ := q
    obtain ⟨fp, A, s2, sl2, r2, n2, u2⟩ := s1.collectX hb n1
    have r2' : RpL E.k F1 H1 ds ps [] := RpL.pure p1 (.refl _) r2
    have lv := Mg_len m1
    have lk : mk.length = sh.length := by rw [hmk, List.length_map]
    have bl : ∀ i ∈ bsM mk, i < (vs.map some).length := fun i hi => by
      have := (List.getElem?_eq_some_iff.mp (mem_bsM.mp hi)).1
      rw [List.length_map]; omega
    refine ⟨F1, ds', _, by rw [lv, lk], s2.enter sl2 l1 m1 r2' em hmk ok, ?_⟩
    cases ef : f ds' with
    | no => rw [ef] at q; exact q.elim
    | ok d qs =>
      rw [ef] at q
      intro F' H' v x2 lq s3
      obtain ⟨fp3, sl3⟩ := s3.sl
      obtain ⟨s4, sl4, h4, n4, u4⟩ := s3.pop' sl3 bl
      obtain ⟨v', ev, r4⟩ := h4 d rfl
      cases ev
      obtain ⟨fp', s5, sl5, u5⟩ := s2.leave sl2 l1 m1 em ok hall (by rw [lq, lk]) s4 sl4
      refine q F' H' v (e1.trans x2) (by rw [putD_len]; exact l1) (s5.pushS sl5 (Tr.refl s5.fh) r4 n4 fun a ha => ⟨s2.new (u4 a ha).1, fun j hj => ?_⟩)
      rcases u5 j a hj with ⟨k, z⟩ | z
      · exact (u4 a ha).2 k z
      · exact (sl2.there z).2 (u4 a ha).1
    | ex c qs =>
      rw [ef] at q
      intro F' H' x2 lq s3
      obtain ⟨fp3, sl3⟩ := s3.sl
      obtain ⟨fp', s5, sl5, u5⟩ := s2.leave sl2 l1 m1 em ok hall (by rw [lq, lk]) s3 sl3
      exact q F' H' (e1.trans x2) (by rw [putD_len]; exact l1) s5
end
end Dv
end
section
set_option maxRecDepth 100000
set_option maxHeartbeats 1000000
namespace Dv
open PySem PySem.Spec PyProof.Rows L2
/-! ## statements over expressions with an effect -/
def XR.st {α : Type} (r : XR α) (k : α → Env → SR) : SR := match r with
  | .no => .no
  | .ok a ρ => k a ρ
  | .ex c ρ => .ex c ρ
@[simp] theorem XR.st_no {α : Type} (k : α → Env → SR) : (XR.no : XR α).st k = .no := rfl
@[simp] theorem XR.st_ok {α : Type} (a : α) (ρ : Env) (k : α → Env → SR) : (XR.ok a ρ).st k = k a ρ := rfl
@[simp] theorem XR.st_ex {α : Type} (c : Nat) (ρ : Env) (k : α → Env → SR) : (XR.ex c ρ : XR α).st k = .ex c ρ := rfl
section
variable {X : Cx} {E : En} {W : WX}
theorem SRes.xst {α : Type} {F : Hp} {Z : Ends} {r : XR α} {k : α → Env → SR} (h : SRes E W F Z (r.st k)) : XRes r (fun a ρ => SRes E W F Z (k a ρ)) (fun c ρ => SRes E W F Z (.ex c ρ)) := by
  cases r with
  | no => exact h
  | ok a ρ => exact h
  | ex c ρ => exact h
theorem Stt.bl {F H : Hp} {σ : L2.St} {ρ : Env} (s : Stt E F H σ ρ) : ∀ i ∈ E.bs, i < σ.length := fun i hi => (s.bv i hi).1
/-- at a statement: the value is taken from what is held -/
theorem tX_st {F H : Hp} {σ : L2.St} {ρ : Env} {Q : VK} {f : Env → XR D} (s : Stt E F H σ ρ)
    (q : XRes (f ρ) (fun d ρ' => ∀ F' H' v fp A, Ex F F' → Stt E F' H' σ ρ' → Sl E F' H' σ ρ' fp → Rp E.k F' H' d v A → A.Nodup → (∀ a ∈ A, E.He a = none ∧ ∀ j, a ∉ fp j) → Stt E F' H' (σ ++ [some v]) (ρ' ++ [some d]) → Q v H') (fun c ρ' => ∀ F' H', Ex F F' → Stt E F' H' σ ρ' → W (E.ec c) none σ H')) : tX E W f σ H Q := by
  refine ⟨F, ρ, [], [], by simpa using s, s.len, s.bl, XRes.mono q (fun d ρ1 _ q F1 H1 v e1 l1 s1 => ?_) fun c ρ1 z F1 H1 e1 l1 s1 => z F1 H1 e1 (by simpa using s1)⟩
  simp only [List.nil_append] at s1
  obtain ⟨fp, sl⟩ := s1.sl
  obtain ⟨s2, sl2, h2, n2, u2⟩ := s1.pop' sl s.bl
  obtain ⟨v', ev, r⟩ := h2 d rfl
  cases ev
  exact q F1 H1 v _ _ e1 s2 sl2 r n2 u2 s1
theorem tXT_st {F H : Hp} {σ : L2.St} {ρ : Env} {Q : Bool → Hp → Prop} {f : Env → XR Bool} (s : Stt E F H σ ρ)
    (q : XRes (f ρ) (fun d ρ' => ∀ F' H', Ex F F' → Stt E F' H' σ ρ' → Q d H') (fun c ρ' => ∀ F' H', Ex F F' → Stt E F' H' σ ρ' → W (E.ec c) none σ H')) : tXT E W f σ H Q :=
  ⟨F, ρ, [], [], by simpa using s, s.len, s.bl, XRes.mono q (fun d ρ1 _ q F1 H1 e1 l1 s1 => q F1 H1 e1 (by simpa using s1)) fun c ρ1 z F1 H1 e1 l1 s1 => z F1 H1 e1 (by simpa using s1)⟩
/-- a slot gets what was held -/
theorem Stt.setS {F H : Hp} {σ : L2.St} {ρ : Env} {fp : Nat → List Addr} {i : Nat} {d : D} {v : V} {A : List Addr} (s : Stt E F H σ ρ) (sl : Sl E F H σ ρ fp) (r : Rp E.k F H d v A) (nd : A.Nodup) (u : ∀ a ∈ A, E.He a = none ∧ ∀ j, a ∉ fp j) (hb : i ∉ E.bs) : Stt E F H (σ.set i (some v)) (ρ.set i (some d)) := by
  by_cases hi : i < ρ.length
  · refine ⟨s.e0, s.fh, s.fr, s.st, s.bt, by rw [List.length_set, List.length_set]; exact s.len, fun j hj => ?_, fun j => if j = i then A else fp j, fun j d' e => ?_, fun j e => ?_, fun j => ?_, fun j j' a ha ha' => ?_, fun j a ha => ?_⟩
    · rw [List.getElem?_set_ne (fun z => hb (by rw [z]; exact hj)), List.length_set]
      exact s.bv j hj
    · show ∃ w, _ ∧ Rp E.k F H d' w (if j = i then A else fp j)
      by_cases q : j = i
      · subst q
        rw [List.getElem?_set_self hi] at e
        cases e
        rw [if_pos rfl]
        exact ⟨v, by rw [List.getElem?_set_self (by rw [← s.len]; exact hi)], r⟩
      · rw [List.getElem?_set_ne (Ne.symm q)] at e
        obtain ⟨v', e', r'⟩ := sl.rp j d' e
        rw [if_neg q]
        exact ⟨v', by rw [List.getElem?_set_ne (Ne.symm q)]; exact e', r'⟩
    · show (if j = i then A else fp j) = []
      by_cases q : j = i
      · subst q
        rw [List.getElem?_set_self hi] at e
        cases e
      · rw [List.getElem?_set_ne (Ne.symm q)] at e
        rw [if_neg q]
        exact sl.em j e
    · show (if j = i then A else fp j).Nodup
      by_cases q : j = i
      · rw [if_pos q]; exact nd
      · rw [if_neg q]; exact sl.nd j
    · have ha : a ∈ (if j = i then A else fp j) := ha
      have ha' : a ∈ (if j' = i then A else fp j') := ha'
      by_cases q : j = i
      · by_cases q' : j' = i
        · rw [q, q']
        · rw [if_pos q] at ha
          rw [if_neg q'] at ha'
          exact absurd ha' ((u a ha).2 j')
      · rw [if_neg q] at ha
        by_cases q' : j' = i
        · rw [if_pos q'] at ha'
          exact absurd ha ((u a ha').2 j)
        · rw [if_neg q'] at ha'
          exact sl.dj j j' a ha ha'
    · have ha : a ∈ (if j = i then A else fp j) := ha
      by_cases q : j = i
      · rw [if_pos q] at ha
        exact .inl (u a ha).1
      · rw [if_neg q] at ha
        exact sl.nw j a ha
  · have e1 : ρ.set i (some d) = ρ := List.set_eq_of_length_le (by omega)
    have e2 : σ.set i (some v) = σ := List.set_eq_of_length_le (by have := s.len; omega)
    rw [e1, e2]
    exact s
/-- what a slot holds is no longer spoken of -/
theorem Stt.forget {F H : Hp} {σ : L2.St} {ρ : Env} {fp : Nat → List Addr} (i : Nat) (s : Stt E F H σ ρ) (sl : Sl E F H σ ρ fp) : Stt E F H σ (ρ.set i none) ∧ Sl E F H σ (ρ.set i none) (fun j => if j = i then [] else fp j) := by
  have sl' : Sl E F H σ (ρ.set i none) (fun j => if j = i then [] else fp j) := by
    refine ⟨fun j d' e => ?_, fun j e => ?_, fun j => ?_, fun j j' a ha ha' => ?_, fun j a ha => ?_⟩
    · show ∃ w, _ ∧ Rp E.k F H d' w (if j = i then [] else fp j)
      by_cases q : j = i
      · subst q
        by_cases hj : j < ρ.length
        · rw [List.getElem?_set_self hj] at e; cases e
        · rw [List.getElem?_eq_none (by rw [List.length_set]; omega)] at e; cases e
      · rw [List.getElem?_set_ne (Ne.symm q)] at e
        rw [if_neg q]; exact sl.rp j d' e
    · show (if j = i then [] else fp j) = []
      by_cases q : j = i
      · rw [if_pos q]
      · rw [List.getElem?_set_ne (Ne.symm q)] at e
        rw [if_neg q]; exact sl.em j e
    · show (if j = i then [] else fp j).Nodup
      split
      · exact .nil
      · exact sl.nd j
    · have ha : a ∈ (if j = i then [] else fp j) := ha
      have ha' : a ∈ (if j' = i then [] else fp j') := ha'
      split at ha
      · cases ha
      · split at ha'
        · cases ha'
        · exact sl.dj j j' a ha ha'
    · have ha : a ∈ (if j = i then [] else fp j) := ha
      split at ha
      · cases ha
      · exact sl.nw j a ha
  exact ⟨⟨s.e0, s.fh, s.fr, s.st, s.bt, by rw [List.length_set]; exact s.len, s.bv, _, sl'⟩, sl'⟩

/-! ### small statements -/
def zAsg (i : Nat) (f : Env → XR D) : Env → SR := fun ρ => (f ρ).st fun d ρ => .nx (ρ.set i (some d))
@[simp] theorem zAsg_eq (i : Nat) (f : Env → XR D) (ρ : Env) : zAsg i f ρ = (f ρ).st fun d ρ => .nx (ρ.set i (some d)) := rfl
theorem sx_asg {i : Nat} {x : Str} {e : Expr} {f : Env → XR D} {pos pos' : Pos} (hN : X.N.Nodup) (hi : X.N[i]? = some x) (hx : Loc X.env.scope x) (hb : i ∉ E.bs) (h : EX X E W e f) (hs : swapsWith e (some (.Name x pos')) pos.line X.env = pure false := by rfl) (hf : X.fn x = true ∨ X.env.scope.names.lookup x = some .local := by first | exact .inl rfl | exact .inr rfl | assumption) :
    SS X E W (.Assign [.Name x pos'] e pos) (zAsg i f) := by
  refine ⟨ps_mono (ps_set hN hi hx h.pe hs hf) fun Z σ H h => ?_⟩
  obtain ⟨F, ρ, s, q⟩ := h
  exact tX_st s (XRes.mono q.xst (fun d ρ1 _ q F1 H1 v fp A e1 s1 sl1 r nd u _ => q F1 H1 _ e1 (s1.setS sl1 r nd u hb)) fun c ρ1 z F1 H1 e1 s1 => z F1 H1 σ e1 s1)
theorem sx_aug {i : Nat} {x : Str} {e : Expr} {op : Operator} {r : R2} {g : D → D → Option D} {f : Env → XR D} {pos pos' : Pos} (hN : X.N.Nodup) (hi : X.N[i]? = some x) (hx : Loc X.env.scope x) (hb : i ∉ E.bs) (ho : PIp X op r) (hg : Says2 E r g) (h : EX X E W e f) (hf : X.fn x = true ∨ X.env.scope.names.lookup x = some .local := by first | exact .inl rfl | exact .inr rfl | assumption) :
    SS X E W (.AugAssign (.Name x pos') op e pos) (zAsg i (x2n g i f)) := by
  refine ⟨ps_mono (ps_aug hN hi hx h.pe ho hf) fun Z σ H h => ?_⟩
  obtain ⟨F, ρ, s, q⟩ := h
  have q := q.xst
  rw [x2n_eq] at q
  cases e0 : ρ[i]?.getD none with
  | none => rw [e0] at q; exact q.elim
  | some d0 =>
    rw [e0] at q
    obtain ⟨fp, sl⟩ := s.sl
    obtain ⟨v0, ev0, _⟩ := sl.rp i d0 (some_some e0)
    refine ⟨v0, ev0, tX_st s (XRes.mono (XRes.bind q) (fun y ρ1 _ q F1 H1 v fp A e1 s1 sl1 rr nd u _ => ?_) fun c ρ1 z F1 H1 e1 s1 => z F1 H1 σ e1 s1)⟩
    cases e2 : ρ1[i]?.getD none with
    | none => rw [e2] at q; exact q.elim
    | some x =>
      rw [e2] at q
      obtain ⟨d, e, p⟩ := XRes.opt q
      obtain ⟨v', ev', rx⟩ := sl1.rp i x (some_some e2)
      rw [ev0] at ev'
      cases ev'
      exact hg F1 H1 x y v0 v _ A _ d s1.fh rx rr e fun F2 H2 w B t2 r2 nd2 u2 => p F2 H2 _ (e1.trans t2.ff) (s1.set t2 r2 nd2 u2 hb)
def zRet (f : Env → XR D) : Env → SR := fun ρ => (f ρ).st fun d ρ => .rt d ρ
@[simp] theorem zRet_eq (f : Env → XR D) (ρ : Env) : zRet f ρ = (f ρ).st fun d ρ => .rt d ρ := rfl
theorem sx_ret {e : Expr} {f : Env → XR D} {pos : Pos} (h : EX X E W e f) : SS X E W (.Return (some e) pos) (zRet f) := by
  refine ⟨ps_mono (ps_ret h.pe) fun Z σ H h => ?_⟩
  obtain ⟨F, ρ, s, q⟩ := h
  exact tX_st s (XRes.mono q.xst (fun d ρ1 _ q F1 H1 v fp A e1 s1 sl1 r nd u sp => q F1 H1 σ v s1 ⟨s1.e0, s1.fh, s1.fr, s1.st, s1.bt, A, r, nd, fun a ha => (u a ha).1⟩ (.inr sp)) fun c ρ1 z F1 H1 e1 s1 => z F1 H1 σ e1 s1)
/-- return of a name, with what it owns -/
def zRetV (i : Nat) : Env → SR := fun ρ => match ρ[i]?.getD none with
  | some d => .rt d (ρ.set i none)
  | none => .no
@[simp] theorem zRetV_eq (i : Nat) (ρ : Env) : zRetV i ρ = match ρ[i]?.getD none with
  | some d => .rt d (ρ.set i none)
  | none => .no := rfl
theorem sx_retV {i : Nat} {e : Expr} {pos : Pos} (hb : i ∉ E.bs) (h : PE X e (tVar i)) : SS X E W (.Return (some e) pos) (zRetV i) := by
  refine ⟨ps_mono (ps_ret h) fun Z σ H h => ?_⟩
  obtain ⟨F, ρ, s, q⟩ := h
  rw [zRetV_eq] at q
  cases e0 : ρ[i]?.getD none with
  | none => rw [e0] at q; exact q.elim
  | some d =>
    rw [e0] at q
    obtain ⟨fp, sl⟩ := s.sl
    obtain ⟨v, ev, r⟩ := sl.rp i d (some_some e0)
    obtain ⟨s1, sl1⟩ := s.forget i sl
    have u : ∀ a ∈ fp i, E.He a = none := fun a ha => (sl.nw i a ha).elim (fun z => z) fun z => absurd z.2 hb
    refine ⟨v, ev, q F H σ v s1 ⟨s.e0, s.fh, s.fr, s.st, s.bt, fp i, r, sl.nd i, u⟩ (.inr (s1.push' sl1 r (sl.nd i) fun a ha => ⟨u a ha, fun j hj => ?_⟩))⟩
    by_cases q : j = i
    · rw [if_pos q] at hj; cases hj
    · rw [if_neg q] at hj; exact q (sl.dj j i a hj ha)
def zIf (t : Env → XR Bool) (f g : Env → SR) : Env → SR := fun ρ => (t ρ).st fun b ρ => if b = true then f ρ else g ρ
@[simp] theorem zIf_eq (t : Env → XR Bool) (f g : Env → SR) (ρ : Env) : zIf t f g ρ = (t ρ).st fun b ρ => if b = true then f ρ else g ρ := rfl
theorem sx_if {c : Expr} {a b : List Stmt} {t : Env → XR Bool} {f g : Env → SR} {pos : Pos} (hc : EXT X E W c t) (ha : SB X E W a f) (hb : SB X E W b g) : SS X E W (.If c a b pos) (zIf t f g) := by
  refine ⟨ps_mono (ps_if hc.pt ha.ps hb.ps) fun Z σ H h => ?_⟩
  obtain ⟨F, ρ, s, q⟩ := h
  refine tXT_st s (XRes.mono q.xst (fun b ρ1 _ q F1 H1 e1 s1 => ?_) fun c ρ1 z F1 H1 e1 s1 => z F1 H1 σ e1 s1)
  cases b with
  | true => exact ⟨F1, ρ1, s1, SRes.at q e1⟩
  | false => exact ⟨F1, ρ1, s1, SRes.at q e1⟩
def zDrop (f : Env → XR D) : Env → SR := fun ρ => (f ρ).st fun _ ρ => .nx ρ
@[simp] theorem zDrop_eq (f : Env → XR D) (ρ : Env) : zDrop f ρ = (f ρ).st fun _ ρ => .nx ρ := rfl
theorem sx_drop {e : Expr} {f : Env → XR D} {pos : Pos} (h : EX X E W e f) (hs : swapsWith e none pos.line X.env = pure false := by rfl) : SS X E W (.Expr e pos) (zDrop f) := by
  refine ⟨ps_mono (ps_expr h.pe hs) fun Z σ H h => ?_⟩
  obtain ⟨F, ρ, s, q⟩ := h
  exact tX_st s (XRes.mono q.xst (fun d ρ1 _ q F1 H1 v fp A e1 s1 sl1 r nd u _ => q F1 H1 σ e1 s1) fun c ρ1 z F1 H1 e1 s1 => z F1 H1 σ e1 s1)
/-- a, b = e: what e's value owns is frozen -/
def zUn (g : D → Env → Option Env) (f : Env → XR D) : Env → SR := fun ρ => (f ρ).st fun d ρ => if d.cold = true then (if d.frz.pure = true then (match g d.frz ρ with
  | some ρ' => .nx ρ'
  | none => .no) else .no) else .no
@[simp] theorem zUn_eq (g : D → Env → Option Env) (f : Env → XR D) (ρ : Env) : zUn g f ρ = (f ρ).st fun d ρ => if d.cold = true then (if d.frz.pure = true then (match g d.frz ρ with
  | some ρ' => .nx ρ'
  | none => .no) else .no) else .no := rfl
theorem tX_frz {F H : Hp} {σ : L2.St} {ρ : Env} {d : D} {v : V} (s : Stt E F H (σ ++ [some v]) (ρ ++ [some d])) (hb : ∀ i ∈ E.bs, i < σ.length) (c : d.cold = true) : ∃ F', Ex F F' ∧ Stt E F' H σ ρ ∧ Rp E.k F' H d.frz v [] := by
  have hl : ρ.length = σ.length := by have := s.len; simpa using this
  obtain ⟨F', x, s'⟩ := s.frz ρ.length fun z => by have := hb _ z; omega
  rw [frz_top (σ := σ) c] at s'
  obtain ⟨w, A, e, r, _⟩ := s'.top hb
  cases e
  exact ⟨F', x, s'.pop hb, Rp.pure (D.frz_pure d c) (.refl _) r⟩
theorem sx_un {tg e : Expr} {f : Env → XR D} {g : D → Env → Option Env} {pos : Pos} (h : EX X E W e f) (hg : EG X E tg g) (hs : swapsWithSole [tg] e pos.line X.env = pure false := by rfl) (hw : swappedStores [tg] e X.env = pure none := by rfl)
    (h1 : (assignEach [tg] X.env).map (·.2) = [assign tg X.env] := by rfl) : SS X E W (.Assign [tg] e pos) (zUn g f) := by
  refine ⟨ps_mono (ps_asg h.pe hg.pg hs hw h1) fun Z σ H h => ?_⟩
  obtain ⟨F, ρ, s, q⟩ := h
  refine tX_st s (XRes.mono q.xst (fun d ρ1 _ q F1 H1 v fp A e1 s1 sl1 r nd u sp => ?_) fun c ρ1 z F1 H1 e1 s1 => z F1 H1 σ e1 s1)
  by_cases c : d.cold = true
  · rw [if_pos c] at q
    by_cases p : d.frz.pure = true
    · rw [if_pos p] at q
      cases eg : g d.frz ρ1 with
      | none => rw [eg] at q; exact q.elim
      | some ρ' =>
        rw [eg] at q
        obtain ⟨F2, x2, s2, r2⟩ := tX_frz sp s1.bl c
        exact ⟨F2, ρ1, d.frz, s2, p, r2, ρ', eg, fun σ' s' => q F2 H1 σ' (e1.trans x2) s'⟩
    · rw [if_neg p] at q; exact q.elim
  · rw [if_neg c] at q; exact q.elim

/-! ### lists that change -/
/-- the list in a slot, behind an expression that was held -/
def zApp (i : Nat) (f : Env → XR D) : Env → SR := fun ρ => onL i ρ fun _ => (f ρ).st fun d ρ => onL i ρ fun xs => if xs.length < 16777216 then .nx (ρ.set i (some (.lst true (xs ++ [d])))) else .no
@[simp] theorem zApp_eq (i : Nat) (f : Env → XR D) (ρ : Env) : zApp i f ρ = onL i ρ fun _ => (f ρ).st fun d ρ => onL i ρ fun xs => if xs.length < 16777216 then .nx (ρ.set i (some (.lst true (xs ++ [d])))) else .no := rfl
theorem sx_app {i : Nat} {o e : Expr} {f : Env → XR D} {apos cpos pos : Pos} (ho : PE X o (tVar i)) (h : EX X E W e f) (hs : swapsWith (.Call (.Attribute o "append" apos) [e] [] cpos) none pos.line X.env = pure false := by rfl)
    (hbase : attributeBase o "append" X.env (eval o X.env) = eval o X.env := by rfl)
    (hfew : ((backTo cpos (starEach [e] X.env)).all (fun x => !x.1) && (backToKw cpos (keywordEach [] X.env)).all (fun x => x.1.isSome)
      && decide ([e].length + ([] : List Keyword).length + (if ([] : List Keyword).isEmpty then 0 else 1) < 30)) = true := by rfl)
    (hline : (apos.endLine == cpos.line) = true := by rfl) (hst : starEach [e] X.env = (false, eval e X.env) :: starEach [] X.env := by rfl) (hplain : (backTo cpos (starEach [] X.env)).any (·.1) = false := by rfl) :
    SS X E W (.Expr (.Call (.Attribute o "append" apos) [e] [] cpos) pos) (zApp i f) := by
  refine ⟨ps_mono (ps_expr (pe_bm PySem.F.plainAttrs_list PySem.F.slot_list_append PySem.F.type_list_append mt_append ho (pa_cons h.pe pa_nil hst) hbase hfew hline hst hplain) hs) fun Z σ H h => ?_⟩
  obtain ⟨F, ρ, s, q⟩ := h
  obtain ⟨xs0, e0, q⟩ := onL_of q
  obtain ⟨fp0, sl0⟩ := s.sl
  obtain ⟨v, ev, r⟩ := sl0.rp i _ e0
  refine ⟨v, ev, ty_lst s.fh r, tX_st s (XRes.mono q.xst (fun d ρ1 _ q F1 H1 w fp A e1 s1 sl1 r1 nd u _ => ?_) fun c ρ1 z F1 H1 e1 s1 => z F1 H1 σ e1 s1)⟩
  obtain ⟨xs, ex, q⟩ := onL_of q
  by_cases hz : xs.length < 16777216
  · rw [if_pos hz] at q
    obtain ⟨l, vs, B, ev', hl, rl, Bfp, nB, wr⟩ := s1.lst sl1 ex
    rw [ev] at ev'
    cases ev'
    refine ⟨l, vs, w, rfl, rfl, hl, Nat.lt_of_lt_of_eq (by rw [← rl.len]; exact hz) sizeLine_eq.symm, q F1 _ σ e1 ?_⟩
    refine wr _ _ _ (rl.append (RpL.one r1)) (List.nodup_append.mpr ⟨nB, nd, fun a ha b hb z => ?_⟩) fun a ha => ?_
    · subst z; exact (u a hb).2 i (Bfp a ha)
    · exact (List.mem_append.mp ha).imp_right fun h => u a h
  · rw [if_neg hz] at q
    exact q.elim
def zExt (i : Nat) (f : Env → XR D) : Env → SR := fun ρ => onL i ρ fun _ => (f ρ).st fun d ρ => onL i ρ fun xs => match lstD d with
  | some ys => if xs.length + ys.length ≤ 16777216 then .nx (ρ.set i (some (.lst true (xs ++ ys)))) else .no
  | none => .no
@[simp] theorem zExt_eq (i : Nat) (f : Env → XR D) (ρ : Env) : zExt i f ρ = onL i ρ fun _ => (f ρ).st fun d ρ => onL i ρ fun xs => match lstD d with
  | some ys => if xs.length + ys.length ≤ 16777216 then .nx (ρ.set i (some (.lst true (xs ++ ys)))) else .no
  | none => .no := rfl
theorem sx_ext {i : Nat} {o e : Expr} {f : Env → XR D} {apos cpos pos : Pos} (ho : PE X o (tVar i)) (h : EX X E W e f) (hs : swapsWith (.Call (.Attribute o "extend" apos) [e] [] cpos) none pos.line X.env = pure false := by rfl)
    (hbase : attributeBase o "extend" X.env (eval o X.env) = eval o X.env := by rfl)
    (hfew : ((backTo cpos (starEach [e] X.env)).all (fun x => !x.1) && (backToKw cpos (keywordEach [] X.env)).all (fun x => x.1.isSome)
      && decide ([e].length + ([] : List Keyword).length + (if ([] : List Keyword).isEmpty then 0 else 1) < 30)) = true := by rfl)
    (hline : (apos.endLine == cpos.line) = true := by rfl) (hst : starEach [e] X.env = (false, eval e X.env) :: starEach [] X.env := by rfl) (hplain : (backTo cpos (starEach [] X.env)).any (·.1) = false := by rfl) :
    SS X E W (.Expr (.Call (.Attribute o "extend" apos) [e] [] cpos) pos) (zExt i f) := by
  refine ⟨ps_mono (ps_expr (pe_bm PySem.F.plainAttrs_list PySem.F.slot_list_extend PySem.F.type_list_extend mt_extend ho (pa_cons h.pe pa_nil hst) hbase hfew hline hst hplain) hs) fun Z σ H h => ?_⟩
  obtain ⟨F, ρ, s, q⟩ := h
  obtain ⟨xs0, e0, q⟩ := onL_of q
  obtain ⟨fp0, sl0⟩ := s.sl
  obtain ⟨v, ev, r⟩ := sl0.rp i _ e0
  refine ⟨v, ev, ty_lst s.fh r, tX_st s (XRes.mono q.xst (fun d ρ1 _ q F1 H1 w fp A e1 s1 sl1 r1 nd u _ => ?_) fun c ρ1 z F1 H1 e1 s1 => z F1 H1 σ e1 s1)⟩
  obtain ⟨xs, ex, q⟩ := onL_of q
  cases ed : lstD d with
  | none => rw [ed] at q; exact q.elim
  | some ys =>
    rw [ed] at q
    have q : SRes E W F Z (if xs.length + ys.length ≤ 16777216 then .nx (ρ1.set i (some (.lst true (xs ++ ys)))) else .no) := q
    by_cases hz : xs.length + ys.length ≤ 16777216
    · rw [if_pos hz] at q
      obtain ⟨l, vs, B, ev', hl, rl, Bfp, nB, wr⟩ := s1.lst sl1 ex
      rw [ev] at ev'
      cases ev'
      cases d with
      | lst o zs =>
        obtain ⟨p, e2⟩ := if_some (show (if D.pureL zs = true then some zs else none) = some ys from ed)
        subst e2
        obtain ⟨b, ws, C, rfl, hb, rw1⟩ := Rp.lstW s1.fh r1
        have rw0 : RpL E.k F1 H1 zs ws [] := RpL.pure p (.refl _) rw1
        refine ⟨l, b, vs, ws, rfl, rfl, hl, hb, (by rw [sizeLine_eq, ← rl.len, ← rw0.len]; exact hz), q F1 _ σ e1 ?_⟩
        exact wr _ _ _ (rl.append rw0) (by rw [List.append_nil]; exact nB) fun a ha => .inl (by rw [List.append_nil] at ha; exact ha)
      | _ => cases ed
    · rw [if_neg hz] at q; exact q.elim
/-- name[j] = e, e with an effect -/
def zSet (i : Nat) (fi : Env → R D) (f : Env → XR D) : Env → SR := fun ρ => (f ρ).st fun d ρ => onL i ρ fun xs => (fi ρ).st ρ fun j => match j with
  | .int j => match L2.ixN xs.length j with
    | some k => .nx (ρ.set i (some (.lst true (xs.set k d))))
    | none => .no
  | _ => .no
@[simp] theorem zSet_eq (i : Nat) (fi : Env → R D) (f : Env → XR D) (ρ : Env) : zSet i fi f ρ = (f ρ).st fun d ρ => onL i ρ fun xs => (fi ρ).st ρ fun j => match j with
  | .int j => match L2.ixN xs.length j with
    | some k => .nx (ρ.set i (some (.lst true (xs.set k d))))
    | none => .no
  | _ => .no := rfl
theorem sx_setL {i : Nat} {o ix e : Expr} {fi : Env → R D} {f : Env → XR D} {sp pos : Pos} (ho : PE X o (tVar i)) (h : EX X E W e f) (hx : EV X E W ix fi)
    (ha : ∀ v, assign (.Subscript o ix sp) X.env v = (do
      let ov ← holding [v] (eval o X.env)
      let iv ← holding [v, ov] (eval ix X.env)
      standAt sp
      holding [v, ov, iv] (setItem ov iv v)
      release [v, ov, iv] []) := by intro _; rfl)
    (hs : swapsWithSole [.Subscript o ix sp] e pos.line X.env = pure false := by rfl) (hw : swappedStores [.Subscript o ix sp] e X.env = pure none := by rfl)
    (h1 : (assignEach [.Subscript o ix sp] X.env).map (·.2) = [assign (.Subscript o ix sp) X.env] := by rfl) :
    SS X E W (.Assign [.Subscript o ix sp] e pos) (zSet i fi f) := by
  refine ⟨ps_mono (ps_asg h.pe (pg_sub ho hx.pe set_list ha) hs hw h1) fun Z σ H h => ?_⟩
  obtain ⟨F, ρ, s, q⟩ := h
  refine tX_st s (XRes.mono q.xst (fun d ρ1 _ q F1 H1 w fp A e1 s1 sl1 r1 nd u _ => ?_) fun c ρ1 z F1 H1 e1 s1 => z F1 H1 σ e1 s1)
  obtain ⟨xs, ex, q⟩ := onL_of q
  obtain ⟨v, ev, r⟩ := sl1.rp i _ ex
  refine ⟨v, ev, F1, ρ1, s1, Res.mono q.st (fun j _ q F2 H2 jv B t2 r2 => ?_) fun c _ z F' H' t => SRes.exc s1 (SRes.at z e1) F' H' t⟩
  cases j with
  | int j =>
    have q : SRes E W F Z (match L2.ixN xs.length j with
      | some k => .nx (ρ1.set i (some (.lst true (xs.set k d))))
      | none => .no) := q
    obtain ⟨l, vs, B, ev', hl, rl, Bfp, nB, wr⟩ := (s1.tr t2).lst (sl1.tr t2) ex
    rw [ev] at ev'
    cases ev'
    cases ek : L2.ixN xs.length j with
    | none => rw [ek] at q; exact q.elim
    | some k =>
      rw [ek] at q
      have hk := (L2.ixN_seq ek).2.1
      refine ⟨l, vs, j, k, rfl, r2.1, hl, by rw [← rl.len]; exact ek, q F2 _ σ (e1.trans t2.ff) ?_⟩
      obtain ⟨A1, A2, A3, eB, rn⟩ := rl.set (r1.tr t2) hk
      rw [eB] at nB
      refine wr _ _ _ rn ?_ fun a ha => ?_
      · have n13 : (A1 ++ A3).Nodup := by
          have := List.nodup_append.mp nB
          have h12 := List.nodup_append.mp this.1
          exact List.nodup_append.mpr ⟨h12.1, this.2.1, fun a ha b hb => this.2.2 a (List.mem_append_left _ ha) b hb⟩
        have h13 := List.nodup_append.mp n13
        refine List.nodup_append.mpr ⟨List.nodup_append.mpr ⟨h13.1, nd, fun a ha b hb z => ?_⟩, h13.2.1, fun a ha b hb z => ?_⟩
        · subst z
          exact (u a hb).2 i (Bfp a (by rw [eB]; simp [ha]))
        · rcases List.mem_append.mp ha with ha | ha
          · exact h13.2.2 a ha b hb z
          · subst z
            exact (u a ha).2 i (Bfp a (by rw [eB]; simp [hb]))
      · rcases List.mem_append.mp ha with ha | ha
        · rcases List.mem_append.mp ha with ha | ha
          · exact .inl (by rw [eB]; simp [ha])
          · exact .inr (u a ha)
        · exact .inl (by rw [eB]; simp [ha])
  | _ => exact q.elim

/-! ### for, while -/
def tXI (E : En) (W : WX) (f : Env → XR (List D)) : TI := fun σ H P => ∃ (F : Hp) (ρ : Env) (τ : L2.St) (δ : Env), Stt E F H (σ ++ τ) (ρ ++ δ) ∧ ρ.length = σ.length ∧ (∀ i ∈ E.bs, i < σ.length) ∧
  XRes (f ρ) (fun ds ρ' => ∀ F' H' J, Ex F F' → ρ'.length = σ.length → Stt E F' H' (σ ++ τ) (ρ' ++ δ) → Wk E.k J F' ds → P J H') (fun c ρ' => ∀ F' H', Ex F F' → ρ'.length = σ.length → Stt E F' H' (σ ++ τ) (ρ' ++ δ) → W (E.ec c) none σ H')
structure EXI (X : Cx) (E : En) (W : WX) (tg e : Expr) (f : Env → XR (List D)) : Prop where
  pi : PI X tg e (tXI E W f)
def xI (f : Env → R (List D)) : Env → XR (List D) := fun ρ => (f ρ).x ρ
@[simp] theorem xI_eq (f : Env → R (List D)) (ρ : Env) : xI f ρ = (f ρ).x ρ := rfl
theorem xi_i {tg e : Expr} {f : Env → R (List D)} (h : EI X E W tg e f) : EXI X E W tg e (xI f) :=
  ⟨pi_mono h.pi fun σ H P ⟨F, ρ, τ, δ, s, hl, hb, q⟩ => ⟨F, ρ, s.slots hl hb, Res.mono (XRes.x q) (fun ds _ q F' H' J t wk => q F' H' J t.ff hl (s.tr t) wk) fun c _ z F' H' t => z F' H' t.ff hl (s.tr t)⟩⟩
def xIA (g : List D → Option (List D)) (fs : Env → XR (List D)) : Env → XR (List D) := fun ρ => (fs ρ).bind fun ds ρ => XR.opt (g ds) ρ
@[simp] theorem xIA_eq (g : List D → Option (List D)) (fs : Env → XR (List D)) (ρ : Env) : xIA g fs ρ = (fs ρ).bind fun ds ρ => XR.opt (g ds) ρ := rfl
theorem xi_rng1 {tg a : Expr} {fs : Env → XR (List D)} {p pos : Pos} (hg : Gl X "range") (hm : X.mg "range" = none) (ha : EXA X E W [a] fs) (hs : starEach [a] X.env = [(false, eval a X.env)] := by rfl) : EXI X E W tg (.Call (.Name "range" p) [a] [] pos) (xIA rng1 fs) := by
  refine ⟨pi_mono (pi_range1 hg hm ha.pa hs) fun σ H P q => ?_⟩
  obtain ⟨F, ρ, τ, δ, s, hl, hb, q⟩ := q
  refine ⟨F, ρ, τ, δ, s, hl, hb, XRes.mono q.bind (fun ds ρ1 he q F1 H1 vs e1 l1 n1 s1 => ?_) fun c ρ1 z => z⟩
  obtain ⟨es, e, p⟩ := XRes.opt q
  clear he
  obtain ⟨fp, A, s2, sl2, r2, n2, u2⟩ := s1.collectX hb n1
  unfold rng1 at e
  split at e
  · obtain ⟨z, e⟩ := if_some e
    cases e
    obtain ⟨v, A, rfl, r⟩ := Vw.one r2.vw
    rw [r.1]
    exact ⟨_, rfl, by have := z.1; omega, by have := z.2; omega, p F1 H1 _ e1 l1 s2 wk_rng⟩
  · cases e
theorem xi_rng2 {tg a b : Expr} {fs : Env → XR (List D)} {p pos : Pos} (hg : Gl X "range") (hm : X.mg "range" = none) (ha : EXA X E W [a, b] fs) (hs : starEach [a, b] X.env = [(false, eval a X.env), (false, eval b X.env)] := by rfl) (hs2 : starEach [b] X.env = [(false, eval b X.env)] := by rfl) : EXI X E W tg (.Call (.Name "range" p) [a, b] [] pos) (xIA rng2 fs) := by
  refine ⟨pi_mono (pi_range2 hg hm ha.pa hs hs2) fun σ H P q => ?_⟩
  obtain ⟨F, ρ, τ, δ, s, hl, hb, q⟩ := q
  refine ⟨F, ρ, τ, δ, s, hl, hb, XRes.mono q.bind (fun ds ρ1 he q F1 H1 vs e1 l1 n1 s1 => ?_) fun c ρ1 z => z⟩
  obtain ⟨es, e, p⟩ := XRes.opt q
  clear he
  obtain ⟨fp, A, s2, sl2, r2, n2, u2⟩ := s1.collectX hb n1
  unfold rng2 at e
  split at e
  · obtain ⟨z, e⟩ := if_some e
    cases e
    obtain ⟨v, w, A, B, rfl, r, r2⟩ := Vw.two r2.vw
    rw [r.1, r2.1]
    obtain ⟨⟨z1, z2⟩, z3, z4⟩ := z
    exact ⟨_, _, rfl, ⟨by omega, by omega, by omega, by omega⟩, p F1 H1 _ e1 l1 s2 wk_rng⟩
  · cases e
/-- an own list: frozen for the walk -/
def xIO (f : Env → XR D) : Env → XR (List D) := fun ρ => (f ρ).bind fun d ρ => if d.cold = true then XR.opt (walkD d.frz) ρ else .no
@[simp] theorem xIO_eq (f : Env → XR D) (ρ : Env) : xIO f ρ = (f ρ).bind fun d ρ => if d.cold = true then XR.opt (walkD d.frz) ρ else .no := rfl
theorem xi_o {tg e : Expr} {f : Env → XR D} (hK : E.k.K = X.K) (h : EX X E W e f) : EXI X E W tg e (xIO f) := by
  refine ⟨pi_mono (pi_seq h.pe) fun σ H P q => ?_⟩
  obtain ⟨F, ρ, τ, δ, s, hl, hb, q⟩ := q
  refine ⟨F, ρ, τ, δ, s, hl, hb, XRes.mono q.bind (fun d ρ1 _ q F1 H1 v e1 l1 s1 => ?_) fun c ρ1 z => z⟩
  by_cases c : d.cold = true
  · rw [if_pos c] at q
    obtain ⟨ds, e, p⟩ := XRes.opt q
    rw [← hK]
    obtain ⟨F2, x2, s2⟩ := s1.frzTop hb c
    obtain ⟨A, r, _⟩ := s2.topX hb
    have s3 := s2.popX hb
    exact walk_seq (E := E) (Tr.refl s3.fh) (Rp.pure (D.frz_pure d c) (.refl _) r) e fun F' H' J t wk => p F' H' J ((e1.trans x2).trans t.ff) l1 (s3.tr t) wk
  · rw [if_neg c] at q
    exact q.elim
def zFor (it : Env → XR (List D)) (g : D → Env → Option Env) (b : Env → SR) : Env → SR := fun ρ => (it ρ).st fun ds ρ => forL g b ds ρ
@[simp] theorem zFor_eq (it : Env → XR (List D)) (g : D → Env → Option Env) (b : Env → SR) (ρ : Env) : zFor it g b ρ = (it ρ).st fun ds ρ => forL g b ds ρ := rfl
theorem sx_for {tg iter : Expr} {body : List Stmt} {it : Env → XR (List D)} {g : D → Env → Option Env} {b : Env → SR} {pos : Pos} (hp : PassesOwn (model X.prog X.w) X.A X.env X.xe) (hc : X.calm = true) (hi : EXI X E W tg iter it) (hg : EG X E tg g) (hb : SB X E W body b)
    (hs : ∀ x, foldedSetIterable iter X.env x = pure x := by intro _; rfl) : SS X E W (.For tg iter body [] pos) (zFor it g b) := by
  refine ⟨ps_mono (ps_for hp hc hi.pi hg.pg hb.ps hs) fun Z σ H h => ?_⟩
  obtain ⟨F, ρ, s, q⟩ := h
  refine ⟨F, ρ, [], [], by simpa using s, s.len, s.bl, XRes.mono q.xst (fun ds ρ1 _ q F1 H1 J e1 l1 s1 wk => ?_) fun c ρ1 z F1 H1 e1 l1 s1 => z F1 H1 σ e1 (by simpa using s1)⟩
  simp only [List.append_nil] at s1
  refine ⟨fun i m σ' H' => ∃ F' ρ', Ex F1 F' ∧ Stt E F' H' σ' ρ' ∧ i ≤ ds.length ∧ m = ds.length - i ∧ SRes E W F' Z (forL g b (ds.drop i) ρ'), ⟨_, F1, ρ1, .refl _, s1, Nat.zero_le _, rfl, SRes.at q e1⟩, ?_⟩
  rintro i m σ' H' ⟨F', ρ', x, s', hi, rfl, q'⟩
  by_cases hlt : i < ds.length
  · have ed : ds.drop i = ds[i] :: ds.drop (i + 1) := List.drop_eq_getElem_cons hlt
    rw [ed, forL_cons] at q'
    refine .inr ⟨wk.go i hlt F' H' x s'.fh, fun σ2 H2 => ∃ F2 ρ2, Ex F1 F2 ∧ Stt E F2 H2 σ2 ρ2 ∧ SRes E W F2 Z (forL g b (ds.drop (i + 1)) ρ2), ?_, fun v H2 y => ?_⟩
    · rintro σ2 H2 ⟨F2, ρ2, x2, s2, q2⟩
      exact ⟨_, by omega, F2, ρ2, x2, s2, hlt, rfl, q2⟩
    · obtain ⟨pd, F2, t2, r2⟩ := wk.yld i ds[i] (List.getElem?_eq_getElem hlt) F' H' v H2 x s'.fh y
      cases eg : g ds[i] ρ' with
      | none => rw [eg] at q'; exact q'.elim
      | some ρ1 =>
        rw [eg] at q'
        refine ⟨F2, ρ', ds[i], s'.tr t2, pd, r2, ρ1, eg, fun σ3 s3 => ⟨F2, ρ1, s3, ?_⟩⟩
        have x12 := x.trans t2.ff
        have q' : SRes E W F' Z (match b ρ1 with
          | .nx ρ2 => forL g b (ds.drop (i + 1)) ρ2
          | .ct ρ2 => forL g b (ds.drop (i + 1)) ρ2
          | .bk ρ2 => .nx ρ2
          | r => r) := q'
        cases eb : b ρ1 with
        | no => rw [eb] at q'; exact q'
        | nx ρ2 => rw [eb] at q'; exact fun F4 H4 σ4 x4 s4 => ⟨F4, ρ2, x12.trans x4, s4, SRes.at q' (t2.ff.trans x4)⟩
        | ct ρ2 => rw [eb] at q'; exact fun F4 H4 σ4 x4 s4 => ⟨F4, ρ2, x12.trans x4, s4, SRes.at q' (t2.ff.trans x4)⟩
        | bk ρ2 => rw [eb] at q'; exact fun F4 H4 σ4 x4 s4 => q' F4 H4 σ4 (t2.ff.trans x4) s4
        | rt d ρ2 => rw [eb] at q'; exact q'
        | ex c ρ2 => rw [eb] at q'; exact fun F4 H4 σ4 x4 s4 => q' F4 H4 σ4 (t2.ff.trans x4) s4
  · have e : i = ds.length := by omega
    subst e
    rw [List.drop_length, forL_nil] at q'
    exact .inl ⟨wk.stop F' H' x s'.fh, q' F' H' σ' (.refl _) s'⟩
end
end Dv
end
section
set_option maxRecDepth 100000
set_option maxHeartbeats 1000000
namespace Dv
open PySem PySem.Spec PyProof.Rows L2
/-! ## comprehensions over expressions with an effect -/
section
variable {X : Cx} {E : En} {W : WX}
theorem set_app {α : Type} {σ τ : List α} {i : Nat} {x : α} (h : i < σ.length) : (σ ++ τ).set i x = σ.set i x ++ τ := by rw [List.set_append_left (h := h)]
theorem Stt.unsetX {F H : Hp} {σ τ : L2.St} {ρ δ : Env} {i : Nat} (s : Stt E F H (σ ++ τ) (ρ ++ δ)) (hl : ρ.length = σ.length) (hb : i ∉ E.bs) : Stt E F H (σ.set i none ++ τ) (ρ.set i none ++ δ) := by
  by_cases h : i < σ.length
  · have := s.unset hb
    rwa [set_app h, set_app (by omega)] at this
  · rw [List.set_eq_of_length_le (by omega), List.set_eq_of_length_le (by omega)]
    exact s
theorem wipeE_len (ρ : Env) : ∀ vs : List Nat, (wipeE ρ vs).length = ρ.length
  | [] => rfl
  | v :: vs => by rw [wipeE_cons, List.length_set, wipeE_len ρ vs]
theorem Stt.wipeX {F H : Hp} {σ τ : L2.St} {ρ δ : Env} (s : Stt E F H (σ ++ τ) (ρ ++ δ)) (hl : ρ.length = σ.length) : ∀ {vs : List Nat}, (∀ v ∈ vs, v ∉ E.bs) → Stt E F H (L2.wipe σ vs ++ τ) (wipeE ρ vs ++ δ)
  | [], _ => s
  | v :: vs, h => (Stt.wipeX s hl fun v hv => h v (List.mem_cons_of_mem _ hv)).unsetX (by rw [wipeE_len, wipe_length, hl]) (h v List.mem_cons_self)
theorem Stt.setX {F H F' H' : Hp} {σ τ : L2.St} {ρ δ : Env} {i : Nat} {d : D} {v : V} {A : List Addr} (s : Stt E F H (σ ++ τ) (ρ ++ δ)) (hl : ρ.length = σ.length) (t : Tr F H F' H') (r : Rp E.k F' H' d v A) (nd : A.Nodup) (u : ∀ a ∈ A, H a = none) (hb : i ∉ E.bs) : Stt E F' H' (σ.set i (some v) ++ τ) (ρ.set i (some d) ++ δ) := by
  by_cases h : i < σ.length
  · have := s.set t r nd u hb
    rwa [set_app h, set_app (by omega)] at this
  · rw [List.set_eq_of_length_le (by omega), List.set_eq_of_length_le (by omega)]
    exact s.tr t
theorem Stt.popA {F H : Hp} {σ τ : L2.St} {ρ δ : Env} {v : V} {d : D} (s : Stt E F H (σ ++ (τ ++ [some v])) (ρ ++ (δ ++ [some d]))) (hb : ∀ i ∈ E.bs, i < σ.length) :
    ∃ fp A, Stt E F H (σ ++ τ) (ρ ++ δ) ∧ Sl E F H (σ ++ τ) (ρ ++ δ) fp ∧ Rp E.k F H d v A ∧ A.Nodup ∧ ∀ a ∈ A, E.He a = none ∧ ∀ j, a ∉ fp j := by
  rw [← List.append_assoc, ← List.append_assoc] at s
  obtain ⟨fp, sl⟩ := s.sl
  obtain ⟨s2, sl2, h2, n2, u2⟩ := s.pop' sl (blt hb)
  obtain ⟨v', e, r⟩ := h2 d rfl
  cases e
  exact ⟨_, _, s2, sl2, r, n2, u2⟩
/-! targets -/
def tGX (E : En) (g : D → Env → Option Env) (vs : List Nat) : TG := fun v σ H Q => ∃ (F : Hp) (ρ : Env) (τ : L2.St) (δ : Env) (d : D), Stt E F H (σ ++ τ) (ρ ++ δ) ∧ ρ.length = σ.length ∧ d.pure = true ∧ Rp E.k F H d v [] ∧ ∃ ρ', g d ρ = some ρ' ∧ ∀ σ', ρ'.length = σ'.length → σ'.length = σ.length → Stt E F H (σ' ++ τ) (ρ' ++ δ) → L2.wipe σ' vs = L2.wipe σ vs → Q σ' H
def tGsX (E : En) (g : List D → Env → Option Env) (vs : List Nat) : TGs := fun ws σ H Q => ∃ (F : Hp) (ρ : Env) (τ : L2.St) (δ : Env) (ds : List D), Stt E F H (σ ++ τ) (ρ ++ δ) ∧ ρ.length = σ.length ∧ D.pureL ds = true ∧ RpL E.k F H ds ws [] ∧ ∃ ρ', g ds ρ = some ρ' ∧ ∀ σ', ρ'.length = σ'.length → σ'.length = σ.length → Stt E F H (σ' ++ τ) (ρ' ++ δ) → L2.wipe σ' vs = L2.wipe σ vs → Q σ' H
structure EGX (X : Cx) (E : En) (vs : List Nat) (e : Expr) (g : D → Env → Option Env) : Prop where
  pg : PG X e (tGX E g vs)
structure EGsX (X : Cx) (E : En) (vs : List Nat) (es : List Expr) (g : List D → Env → Option Env) : Prop where
  pg : PGs X es (tGsX E g vs)
section
variable {vs : List Nat}
theorem egx_name {i : Nat} {x : Str} {pos : Pos} (hv : i ∈ vs) (hN : X.N.Nodup) (hi : X.N[i]? = some x) (hx : Loc X.env.scope x) (hb : i ∉ E.bs) (hf : X.fn x = true ∨ X.env.scope.names.lookup x = some .local := by first | exact .inl rfl | exact .inr rfl | assumption) : EGX X E vs (.Name x pos) (gNm i) := by
  refine ⟨pg_mono (pg_name hN hi hx hf) fun v σ H Q h => ?_⟩
  obtain ⟨F, ρ, τ, δ, d, s, hl, p, r, ρ', e, q⟩ := h
  cases e
  exact q _ (by rw [List.length_set, List.length_set, hl]) (by rw [List.length_set]) (s.setX hl (Tr.refl s.fh) r .nil (fun _ z => nomatch z) hb) (wipe_set hv)
theorem egsx_nil : EGsX X E vs [] gsNil := by
  refine ⟨pgs_mono pgs_nil fun vs σ H Q h => ?_⟩
  obtain ⟨F, ρ, τ, δ, ds, s, hl, p, r, ρ', e, q⟩ := h
  cases ds with
  | nil => cases e; exact ⟨r.1, q σ hl rfl s rfl⟩
  | cons d ds => cases e
theorem egsx_cons {e : Expr} {es : List Expr} {g : D → Env → Option Env} {gs : List D → Env → Option Env} (h1 : EGX X E vs e g) (h2 : EGsX X E vs es gs)
    (hs : (assignEach (e :: es) X.env).map (·.2) = assign e X.env :: (assignEach es X.env).map (·.2) := by rfl) : EGsX X E vs (e :: es) (gsCons g gs) := by
  refine ⟨pgs_mono (pgs_cons h1.pg h2.pg hs) fun ws σ H Q h => ?_⟩
  obtain ⟨F, ρ, τ, δ, ds, s, hl, p, r, ρ', e, q⟩ := h
  cases ds with
  | nil => cases e
  | cons d ds =>
    obtain ⟨v, ws, B, C, e1, e2, r1, r2⟩ := r
    obtain ⟨rfl, rfl⟩ := List.append_eq_nil_iff.mp e2.symm
    have p' : d.pure = true ∧ D.pureL ds = true := by simpa [D.pureL] using p
    rw [gsCons_cons] at e
    cases eg : g d ρ with
    | none => rw [eg] at e; cases e
    | some ρ1 =>
      rw [eg] at e
      exact ⟨v, ws, e1, F, ρ, τ, δ, d, s, hl, p'.1, r1, ρ1, eg, fun σ' l1 l2 s' w' => ⟨F, ρ1, τ, δ, ds, s', l1, p'.2, r2, ρ', e, fun σ2 l3 l4 s2 w2 => q σ2 l3 (l4.trans l2) s2 (w2.trans w')⟩⟩
theorem egx_tup {es : List Expr} {k : Nat} {gs : List D → Env → Option Env} {pos : Pos} (hK : E.k.K = X.K) (hc : X.calm = true) (h : EGsX X E vs es gs) (n : Nat) (hlen : ∀ ds ρ ρ', gs ds ρ = some ρ' → ds.length = n)
    (hn : (assignEach es X.env).length = n := by rfl) (hst : (assignEach es X.env).findIdx? (·.1) = none := by rfl) : EGX X E vs (.Tuple es k pos) (gTp gs) := by
  refine ⟨pg_mono (pg_tup hc h.pg hn hst) fun v σ H Q h => ?_⟩
  obtain ⟨F, ρ, τ, δ, d, s, hl, p, r, ρ', e, q⟩ := h
  cases d with
  | tup ds =>
    obtain ⟨a, vs, rfl, s1, r⟩ := r
    exact ⟨a, vs, rfl, by rw [← hK]; exact ex_t s.fh s1, by rw [← r.len]; exact hlen ds ρ ρ' e, F, ρ, τ, δ, ds, s, hl, p, r, ρ', e, q⟩
  | _ => cases e
end
/-! tests of a clause -/
structure EXTs (X : Cx) (E : En) (W : WX) (ifs : List Expr) (f : Env → XR Bool) : Prop where
  pt : PTs X ifs (tXT E W f)
def xYes : Env → XR Bool := fun ρ => .ok true ρ
@[simp] theorem xYes_eq (ρ : Env) : xYes ρ = .ok true ρ := rfl
theorem xts_nil : EXTs X E W [] xYes := ⟨pts_mono pts_nil fun σ H Q ⟨F, ρ, τ, δ, s, hl, hb, q⟩ => q F H (.refl _) hl s⟩
theorem xts_one {e : Expr} {f : Env → XR Bool} (h : EXT X E W e f) : EXTs X E W [e] f := ⟨pts_one h.pt⟩
/-! the list under way -/
def xlcL (g : D → Env → Option Env) (t : Env → XR Bool) (f : Env → XR D) (vs : List Nat) : List D → List D → Env → XR D
  | [], acc, ρ => .ok (.lst true acc) ρ
  | d :: ds, acc, ρ => match g d ρ with
    | none => .no
    | some ρ1 => match t ρ1 with
      | .ok true ρ2 => match f ρ2 with
        | .ok y ρ3 => if acc.length < 16777216 then xlcL g t f vs ds (acc ++ [y]) (wipeE ρ3 vs) else .no
        | _ => .no
      | .ok false ρ2 => xlcL g t f vs ds acc (wipeE ρ2 vs)
      | _ => .no
theorem xlcL_nil (g : D → Env → Option Env) (t : Env → XR Bool) (f : Env → XR D) (vs : List Nat) (acc : List D) (ρ : Env) : xlcL g t f vs [] acc ρ = .ok (.lst true acc) ρ := rfl
theorem xlcL_cons (g : D → Env → Option Env) (t : Env → XR Bool) (f : Env → XR D) (vs : List Nat) (d : D) (ds acc : List D) (ρ : Env) : xlcL g t f vs (d :: ds) acc ρ = match g d ρ with
    | none => .no
    | some ρ1 => match t ρ1 with
      | .ok true ρ2 => match f ρ2 with
        | .ok y ρ3 => if acc.length < 16777216 then xlcL g t f vs ds (acc ++ [y]) (wipeE ρ3 vs) else .no
        | _ => .no
      | .ok false ρ2 => xlcL g t f vs ds acc (wipeE ρ2 vs)
      | _ => .no := rfl
/-- the block's own names get back what they had -/
def restE (ρ0 : Env) : List Nat → Env → Env
  | [], ρ => ρ
  | v :: vs, ρ => (restE ρ0 vs ρ).set v (ρ0[v]?.getD none)
@[simp] theorem restE_nil (ρ0 ρ : Env) : restE ρ0 [] ρ = ρ := rfl
@[simp] theorem restE_cons (ρ0 : Env) (v : Nat) (vs : List Nat) (ρ : Env) : restE ρ0 (v :: vs) ρ = (restE ρ0 vs ρ).set v (ρ0[v]?.getD none) := rfl
theorem restE_len (ρ0 : Env) : ∀ (vs : List Nat) (ρ : Env), (restE ρ0 vs ρ).length = ρ.length
  | [], _ => rfl
  | v :: vs, ρ => by rw [restE_cons, List.length_set, restE_len]
theorem restE_out (ρ0 : Env) : ∀ {vs : List Nat} {ρ : Env} {j : Nat}, j ∉ vs → (restE ρ0 vs ρ)[j]? = ρ[j]?
  | [], _, _, _ => rfl
  | v :: vs, ρ, j, h => by
    rw [restE_cons, List.getElem?_set_ne (fun z => h (by rw [z]; exact List.mem_cons_self))]
    exact restE_out ρ0 fun z => h (List.mem_cons_of_mem _ z)
theorem restE_in (ρ0 : Env) : ∀ {vs : List Nat} {ρ : Env} {j : Nat}, j ∈ vs → (restE ρ0 vs ρ)[j]?.getD none = if j < ρ.length then ρ0[j]?.getD none else none
  | v :: vs, ρ, j, h => by
    rw [restE_cons]
    by_cases q : v = j
    · subst q
      by_cases hj : v < ρ.length
      · rw [List.getElem?_set_self (by rw [restE_len]; exact hj), if_pos hj]; rfl
      · rw [List.getElem?_eq_none (by rw [List.length_set, restE_len]; omega), if_neg hj]; rfl
    · rw [List.getElem?_set_ne q]
      exact restE_in ρ0 ((List.mem_cons.mp h).resolve_left fun z => q z.symm)
def pureO : Option D → Bool
  | some d => d.pure
  | none => true
@[simp] theorem pureO_none : pureO none = true := rfl
@[simp] theorem pureO_some (d : D) : pureO (some d) = d.pure := rfl
def xLc (it : Env → XR (List D)) (g : D → Env → Option Env) (t : Env → XR Bool) (f : Env → XR D) (vs : List Nat) : Env → XR D := fun ρ => (it ρ).bind fun ds ρ0 => if vs.all (fun v => pureO (ρ0[v]?.getD none)) = true then (xlcL g t f vs ds [] (wipeE ρ0 vs)).bind fun d ρ => .ok d (restE ρ0 vs ρ) else .no
@[simp] theorem xLc_eq (it : Env → XR (List D)) (g : D → Env → Option Env) (t : Env → XR Bool) (f : Env → XR D) (vs : List Nat) (ρ : Env) : xLc it g t f vs ρ = (it ρ).bind fun ds ρ0 => if vs.all (fun v => pureO (ρ0[v]?.getD none)) = true then (xlcL g t f vs ds [] (wipeE ρ0 vs)).bind fun d ρ => .ok d (restE ρ0 vs ρ) else .no := rfl
theorem wipe_at {σ : L2.St} {vs : List Nat} {j : Nat} (h : j ∉ vs) : (L2.wipe σ vs)[j]? = σ[j]? := wipe_out h
/-- the names come back -/
theorem Stt.unwipe {F H F0 : Hp} {σ τ : L2.St} {ρ ρ0 δ : Env} {vs : List Nat} (hb : ∀ v ∈ vs, v ∉ E.bs) (hl : ρ.length = σ.length) (s : Stt E F H (L2.wipe σ vs ++ τ) (ρ ++ δ))
    (k : ∀ j d, j ∈ vs → j < ρ.length → ρ0[j]?.getD none = some d → d.pure = true ∧ ∃ u, σ[j]? = some (some u) ∧ Rp E.k F H d u []) : Stt E F H (σ ++ τ) (restE ρ0 vs ρ ++ δ) := by
  obtain ⟨fp, sl⟩ := s.sl
  have lw : (L2.wipe σ vs).length = σ.length := wipe_length _ _
  have at' : ∀ j, j ∉ vs ∨ ¬ j < ρ.length → (restE ρ0 vs ρ ++ δ)[j]? = (ρ ++ δ)[j]? := fun j h => by
    by_cases q : j < ρ.length
    · rw [List.getElem?_append_left (by rw [restE_len]; exact q), List.getElem?_append_left q, restE_out ρ0 (h.resolve_right fun z => z q)]
    · rw [List.getElem?_append_right (by rw [restE_len]; omega), List.getElem?_append_right (by omega), restE_len]
  have as' : ∀ j, j ∉ vs ∨ ¬ j < ρ.length → (σ ++ τ)[j]? = (L2.wipe σ vs ++ τ)[j]? := fun j h => by
    by_cases q : j < σ.length
    · rw [List.getElem?_append_left q, List.getElem?_append_left (by omega), wipe_at (h.resolve_right fun z => z (by omega))]
    · rw [List.getElem?_append_right (by omega), List.getElem?_append_right (by omega), lw]
  refine ⟨s.e0, s.fh, s.fr, s.st, s.bt, by have := s.len; rw [List.length_append, List.length_append, lw] at this; rw [List.length_append, List.length_append, restE_len]; exact this, fun j hj => ?_, fun j => if j ∈ vs ∧ j < ρ.length then [] else fp j, fun j d e => ?_, fun j e => ?_, fun j => ?_, fun j j' a ha ha' => ?_, fun j a ha => ?_⟩
  · obtain ⟨h1, h2⟩ := s.bv j hj
    rw [as' j (.inl fun z => hb j z hj)]
    exact ⟨by rw [List.length_append, lw] at h1; rw [List.length_append]; exact h1, h2⟩
  · show ∃ v, _ ∧ Rp E.k F H d v (if j ∈ vs ∧ j < ρ.length then [] else fp j)
    by_cases q : j ∈ vs ∧ j < ρ.length
    · rw [if_pos q]
      rw [List.getElem?_append_left (by rw [restE_len]; exact q.2)] at e
      have e2 := restE_in ρ0 (ρ := ρ) q.1
      rw [e, if_pos q.2] at e2
      obtain ⟨_, u, h1, h2⟩ := k j d q.1 q.2 e2.symm
      exact ⟨u, by rw [List.getElem?_append_left (by omega)]; exact h1, h2⟩
    · have q' : j ∉ vs ∨ ¬ j < ρ.length := by
        by_cases z : j ∈ vs
        · exact .inr fun y => q ⟨z, y⟩
        · exact .inl z
      rw [if_neg q, as' j q']
      rw [at' j q'] at e
      exact sl.rp j d e
  · show (if j ∈ vs ∧ j < ρ.length then [] else fp j) = []
    by_cases q : j ∈ vs ∧ j < ρ.length
    · rw [if_pos q]
    · have q' : j ∉ vs ∨ ¬ j < ρ.length := by
        by_cases z : j ∈ vs
        · exact .inr fun y => q ⟨z, y⟩
        · exact .inl z
      rw [if_neg q]
      rw [at' j q'] at e
      exact sl.em j e
  · show (if j ∈ vs ∧ j < ρ.length then [] else fp j).Nodup
    split
    · exact .nil
    · exact sl.nd j
  · have ha : a ∈ (if j ∈ vs ∧ j < ρ.length then [] else fp j) := ha
    have ha' : a ∈ (if j' ∈ vs ∧ j' < ρ.length then [] else fp j') := ha'
    split at ha
    · cases ha
    · split at ha'
      · cases ha'
      · exact sl.dj j j' a ha ha'
  · have ha : a ∈ (if j ∈ vs ∧ j < ρ.length then [] else fp j) := ha
    split at ha
    · cases ha
    · exact sl.nw j a ha
theorem wipe_lenE {σ σ' : L2.St} {vs : List Nat} (h : L2.wipe σ' vs = L2.wipe σ vs) : σ'.length = σ.length := by
  have := congrArg List.length h
  rwa [wipe_length, wipe_length] at this
theorem xlc_imp {it : Env → XR (List D)} {g : D → Env → Option Env} {t : Env → XR Bool} {f : Env → XR D} {vs : List Nat} (hb : ∀ v ∈ vs, v ∉ E.bs) {σ : L2.St} {H : Hp} {Q : VK} (h : tX E W (xLc it g t f vs) σ H Q) :
    tLc (tXI E W it) (tGX E g vs) (tXT E WN t) (tX E WN f) vs σ H Q := by
  obtain ⟨F, ρ, τ, δ, s, hl, hbs, q⟩ := h
  refine ⟨F, ρ, τ, δ, s, hl, hbs, XRes.mono q.bind (fun ds ρ0 _ q F1 H1 J e1 l1 s1 wk p hp => ?_) fun c ρ1 z => z⟩
  by_cases hpu : vs.all (fun v => pureO (ρ0[v]?.getD none)) = true
  · rw [if_pos hpu] at q
    have lw : (L2.wipe σ vs).length = σ.length := wipe_length _ _
    -- what the names held
    have held : ∀ j d, j ∈ vs → j < ρ0.length → ρ0[j]?.getD none = some d → d.pure = true ∧ ∃ u, σ[j]? = some (some u) ∧ Rp E.k F1 H1 d u [] := fun j d hj lj e => by
      have pd : d.pure = true := by have := List.all_eq_true.mp hpu j hj; rw [e] at this; exact this
      obtain ⟨u, A, eu, r⟩ := s1.slotX l1 (some_some e)
      exact ⟨pd, u, eu, Rp.pure pd (.refl _) r⟩
    have s2 := s1.wipeX l1 hb
    have s3 := s2.pushX (d := .lst true []) (v := .ref p) (A := [p]) (tr_new s2.fh hp) (by
      have hf : F1 p = none := by
        cases q : F1 p with
        | none => rfl
        | some u => rw [s2.fh p u q] at hp; cases hp
      exact ⟨p, [], [], rfl, ⟨rfl, rfl⟩, (fun z => nomatch z), fun _ => ⟨rfl, hf, upd_same⟩⟩) (by simp) fun a ha => by rw [List.mem_singleton.mp ha]; exact hp
    refine ⟨fun i m H' => ∃ F' ρ' acc, Ex F1 F' ∧ ρ'.length = σ.length ∧ Stt E F' H' (L2.wipe σ vs ++ (τ ++ [some (.ref p)])) (ρ' ++ (δ ++ [some (.lst true acc)])) ∧ i ≤ ds.length ∧ m = ds.length - i ∧
      XRes ((xlcL g t f vs (ds.drop i) acc ρ').bind fun d ρ => .ok d (restE ρ0 vs ρ)) (fun d ρ' => ∀ F' H' v, Ex F F' → ρ'.length = σ.length → Stt E F' H' (σ ++ (τ ++ [some v])) (ρ' ++ (δ ++ [some d])) → Q v H') (fun c ρ' => ∀ F' H', Ex F F' → ρ'.length = σ.length → Stt E F' H' (σ ++ τ) (ρ' ++ δ) → W (E.ec c) none σ H'),
      ⟨_, F1, wipeE ρ0 vs, [], .refl _, by rw [wipeE_len, l1], s3, Nat.zero_le _, rfl, q⟩, ?_⟩
    rintro i m H' ⟨F', ρ', acc, x', l', s', hi, rfl, q'⟩
    by_cases hlt : i < ds.length
    · have ed : ds.drop i = ds[i] :: ds.drop (i + 1) := List.drop_eq_getElem_cons hlt
      rw [ed, xlcL_cons] at q'
      refine .inr ⟨wk.go i hlt F' H' x' s'.fh, fun H2 => ∃ F2 ρ2 acc2, Ex F1 F2 ∧ ρ2.length = σ.length ∧ Stt E F2 H2 (L2.wipe σ vs ++ (τ ++ [some (.ref p)])) (ρ2 ++ (δ ++ [some (.lst true acc2)])) ∧
        XRes ((xlcL g t f vs (ds.drop (i + 1)) acc2 ρ2).bind fun d ρ => .ok d (restE ρ0 vs ρ)) (fun d ρ' => ∀ F' H' v, Ex F F' → ρ'.length = σ.length → Stt E F' H' (σ ++ (τ ++ [some v])) (ρ' ++ (δ ++ [some d])) → Q v H') (fun c ρ' => ∀ F' H', Ex F F' → ρ'.length = σ.length → Stt E F' H' (σ ++ τ) (ρ' ++ δ) → W (E.ec c) none σ H'), ?_, fun v H2 y => ?_⟩
      · rintro H2 ⟨F2, ρ2, acc2, x2, l2, s2, q2⟩
        exact ⟨_, by omega, F2, ρ2, acc2, x2, l2, s2, hlt, rfl, q2⟩
      · obtain ⟨pd, F2, t2, r2⟩ := wk.yld i ds[i] (List.getElem?_eq_getElem hlt) F' H' v H2 x' s'.fh y
        cases eg : g ds[i] ρ' with
        | none => rw [eg] at q'; exact q'.elim
        | some ρ1 =>
          rw [eg] at q'
          refine ⟨F2, ρ', _, _, ds[i], s'.tr t2, by rw [lw]; exact l', pd, r2, ρ1, eg, fun σ3 l3 l3' s4 w3 => ⟨w3.trans wipe_wipe, ?_⟩⟩
          have w3' : L2.wipe σ3 vs = L2.wipe σ vs := w3.trans wipe_wipe
          have l3'' : σ3.length = σ.length := by rw [l3', lw]
          have hbs3 : ∀ i ∈ E.bs, i < σ3.length := fun i hi => by rw [l3'']; exact hbs i hi
          have x12 := x'.trans t2.ff
          refine ⟨F2, ρ1, _, _, s4, l3, hbs3, ?_⟩
          cases et : t ρ1 with
          | no => simp only [et] at q'; exact q'.elim
          | ex c ρ2 => simp only [et] at q'; exact q'.elim
          | ok b ρ2 =>
            simp only [et] at q'
            show ∀ F' H', Ex F2 F' → _
            intro F3 H3 e3 l4 s5
            cases b with
            | false =>
              rw [if_neg Bool.false_ne_true]
              have s6 := s5.wipeX l4 hb
              rw [w3'] at s6
              exact ⟨F3, wipeE ρ2 vs, acc, x12.trans e3, by rw [wipeE_len, l4, l3''], s6, q'⟩
            | true =>
              rw [if_pos rfl]
              refine ⟨F3, ρ2, _, _, s5, l4, hbs3, ?_⟩
              cases ef : f ρ2 with
              | no => simp only [ef] at q'; exact q'.elim
              | ex c ρ3 => simp only [ef] at q'; exact q'.elim
              | ok y3 ρ3 =>
                simp only [ef] at q'
                show ∀ F' H' v, Ex F3 F' → _
                intro F4 H4 yv e4 l5 s6
                by_cases hz : acc.length < 16777216
                · rw [if_pos hz] at q'
                  obtain ⟨fp7, A7, s7, sl7, r7, n7, u7⟩ := s6.popA hbs3
                  have dl : δ.length = τ.length := by have := s.len; rw [List.length_append, List.length_append] at this; omega
                  have eix : (ρ3 ++ (δ ++ [some (D.lst true acc)]))[ρ3.length + δ.length]? = some (some (.lst true acc)) := by
                    rw [← List.append_assoc, List.getElem?_append_right (by rw [List.length_append]; omega), List.length_append, Nat.sub_self]; rfl
                  obtain ⟨l, ws, B, ev', hl', rl, Bfp, nB, wr⟩ := s7.lst sl7 eix
                  have el : l = p := by
                    rw [← List.append_assoc, show ρ3.length + δ.length = (σ3 ++ τ).length by rw [List.length_append]; omega, List.getElem?_append_right (Nat.le_refl _), Nat.sub_self] at ev'
                    simpa using ev'.symm
                  subst el
                  refine ⟨ws, hl', Nat.lt_of_lt_of_eq (by rw [← rl.len]; exact hz) sizeLine_eq.symm, F4, wipeE ρ3 vs, acc ++ [y3], (x12.trans e3).trans e4, by rw [wipeE_len, l5, l3''], ?_, q'⟩
                  have s8 := wr (acc ++ [y3]) (ws ++ [yv]) _ (rl.append (RpL.one r7)) (List.nodup_append.mpr ⟨nB, n7, fun a ha b hb' z => by subst z; exact (u7 a hb').2 _ (Bfp a ha)⟩) fun a ha => (List.mem_append.mp ha).imp_right fun h => u7 a h
                  have es : (ρ3 ++ (δ ++ [some (D.lst true acc)])).set (ρ3.length + δ.length) (some (.lst true (acc ++ [y3]))) = ρ3 ++ (δ ++ [some (.lst true (acc ++ [y3]))]) := by
                    rw [← List.append_assoc, List.set_append_right (h := by rw [List.length_append]; omega), List.length_append, Nat.sub_self, List.append_assoc]; rfl
                  rw [es] at s8
                  have s9 := s8.wipeX l5 hb
                  rw [w3'] at s9
                  exact s9
                · rw [if_neg hz] at q'; exact q'.elim
    · have e : i = ds.length := by omega
      subst e
      rw [List.drop_length, xlcL_nil] at q'
      refine .inl ⟨wk.stop F' H' x' s'.fh, ?_⟩
      refine q' F' H' (.ref p) (e1.trans x') (by rw [restE_len]; exact l') (Stt.unwipe (F0 := F') hb l' s' fun j d hj lj e => ?_)
      obtain ⟨pd, u, eu, r⟩ := held j d hj (by omega) e
      exact ⟨pd, u, eu, Rp.pure pd x' r⟩
  · rw [if_neg hpu] at q; exact q.elim
theorem xe_lc {elt tg iter : Expr} {ifs : List Expr} {scope : Scope} {own : List (Str × Nat)} {pos : Pos} {it : Env → XR (List D)} {g : D → Env → Option Env} {t : Env → XR Bool} {f : Env → XR D} (hc : X.calm = true) (hN : X.N.Nodup) (hi : EXI X E W tg iter it) (ok : blkC X.N X.env.scope scope own = true)
    (hg : ∀ (s : Shared) (H : Hp) (C : Addr) (cl : List (Str × Addr)) (fp : List Addr), EGX (X.blk s H scope (compEnvC scope cl C X.env) fp) E (own.map (·.2)) tg g) (ht : ∀ (s : Shared) (H : Hp) (C : Addr) (cl : List (Str × Addr)) (fp : List Addr) (tk : Takes (X.blk s H scope (compEnvC scope cl C X.env) fp) WN), EXTs (X.blk s H scope (compEnvC scope cl C X.env) fp) E WN ifs t)
    (he : ∀ (s : Shared) (H : Hp) (C : Addr) (cl : List (Str × Addr)) (fp : List Addr) (tk : Takes (X.blk s H scope (compEnvC scope cl C X.env) fp) WN), EX (X.blk s H scope (compEnvC scope cl C X.env) fp) E WN elt f) (hb : ∀ v ∈ own.map (·.2), v ∉ E.bs) (hs : ∀ x, foldedSetIterable iter X.env x = pure x := by intro _; rfl) :
    EX X E W (.ListComp elt [⟨tg, iter, ifs, 0⟩] scope pos) (xLc it g t f (own.map (·.2))) :=
  ⟨pe_mono (pe_lc hc hN hi.pi (blkOk_by ok) (fun s H C cl fp => (hg s H C cl fp).pg) (fun s H C cl fp => (ht s H C cl fp takes_no).pt) (fun s H C cl fp => (he s H C cl fp takes_no).pe) hs) fun σ H Q h => xlc_imp hb h⟩
theorem sx_setLc {i : Nat} {y : Str} {py : Pos} {elt tg iter : Expr} {ifs : List Expr} {scope : Scope} {own : List (Str × Nat)} {pos spos : Pos} {it : Env → XR (List D)} {g : D → Env → Option Env} {t : Env → XR Bool} {f : Env → XR D} (hc : X.calm = true) (hN : X.N.Nodup) (hy : X.N[i]? = some y) (hyl : X.env.scope.names.lookup y = some .local) (hyb : i ∉ E.bs)
    (hk : X.env.scope.kind = .function) (hl : (py.line == pos.line) = true) (hsp : (pos.line == spos.line) = true) (ha : (scope.names.any fun (n, k) => n == y && (k == .local || k == .cell)) = false)
    (hi : EXI X E W tg iter it) (ok : blkC X.N X.env.scope scope own = true)
    (hg : ∀ (s : Shared) (H : Hp) (C : Addr) (cl : List (Str × Addr)) (fp : List Addr), EGX (X.blk s H scope (compEnvC scope cl C X.env) fp) E (own.map (·.2)) tg g) (ht : ∀ (s : Shared) (H : Hp) (C : Addr) (cl : List (Str × Addr)) (fp : List Addr) (tk : Takes (X.blk s H scope (compEnvC scope cl C X.env) fp) WN), EXTs (X.blk s H scope (compEnvC scope cl C X.env) fp) E WN ifs t)
    (he : ∀ (s : Shared) (H : Hp) (C : Addr) (cl : List (Str × Addr)) (fp : List Addr) (tk : Takes (X.blk s H scope (compEnvC scope cl C X.env) fp) WN), EX (X.blk s H scope (compEnvC scope cl C X.env) fp) E WN elt f) (hb : ∀ v ∈ own.map (·.2), v ∉ E.bs) (hs : ∀ x, foldedSetIterable iter X.env x = pure x := by intro _; rfl) :
    SS X E W (.Assign [.Name y py] (.ListComp elt [⟨tg, iter, ifs, 0⟩] scope pos) spos) (zAsg i (xLc it g t f (own.map (·.2)))) := by
  have hsw : swapsWith (.ListComp elt [⟨tg, iter, ifs, 0⟩] scope pos) (some (.Name y py)) spos.line X.env = pure true := by
    rw [← beq_iff_eq.mp hsp]
    exact sw_true hk hyl hl ha
  refine ⟨ps_mono (ps_setLc hc hN hy hyl hsw hi.pi (blkOk_by ok) (fun s H C cl fp => (hg s H C cl fp).pg) (fun s H C cl fp => (ht s H C cl fp takes_no).pt) (fun s H C cl fp => (he s H C cl fp takes_no).pe) hs) fun Z σ H h => ?_⟩
  obtain ⟨F, ρ, s, q⟩ := h
  exact xlc_imp hb (tX_st s (XRes.mono q.xst (fun d ρ1 _ q F1 H1 v fp A e1 s1 sl1 r nd u _ => q F1 H1 _ e1 (s1.setS sl1 r nd u hyb)) fun c ρ1 z F1 H1 e1 s1 => z F1 H1 σ e1 s1))
end
end Dv
end
section
set_option maxRecDepth 100000
set_option maxHeartbeats 1000000
namespace Dv
open PySem PySem.Spec PyProof.Rows L2
/-! ## try -/
/-- of which class's the exceptions numbered are -/
def SubOf (K : PySem.W.Frag) (ec : Nat → Value) (tbl : Nat → Option Bool) (C : Addr) : Prop := ∀ c b, tbl c = some b → ∃ D, ec c = .ref D ∧ ExcC K D ∧ PySem.W.exmOne K (.ref D) (.ref C) = some b ∧ PySem.W.kitOne K (.ref D) (.ref C) = some b
theorem sub_one {K : PySem.W.Frag} {D C : Addr} {b : Bool} (x : ExcC K D) (h1 : PySem.W.subIn K (.ref C) (.type "BaseException") = some true) (hd : PySem.W.hasDictIn K C = true) (ht : PySem.W.typeIn K (.ref C) = some (.type "type")) (h4 : PySem.W.subIn K (.ref D) (.ref C) = some b) (hs : PySem.W.subIn K (.ref C) (.ref C) = some true) :
    ExcC K D ∧ PySem.W.exmOne K (.ref D) (.ref C) = some b ∧ PySem.W.kitOne K (.ref D) (.ref C) = some b := by
  refine ⟨x, PySem.W.exm_ref h1 hd ht h4, ?_⟩
  unfold PySem.W.kitOne
  by_cases e : (Value.ref D == Value.ref C) = true
  · rw [if_pos e]
    have : D = C := Value.ref.inj (beq_iff_eq.mp e)
    subst this
    rw [hs] at h4
    exact h4
  · rw [if_neg e]
    obtain ⟨cd, hc, _⟩ := PySem.W.any_some hd
    have e2 : ((PySem.W.clsIn K C).isSome && PySem.W.typeIn K (.ref C) == some (.type "type")) = true := by rw [hc, ht] <;> rfl
    show (if ((PySem.W.clsIn K C).isSome && PySem.W.typeIn K (.ref C) == some (.type "type")) = true then PySem.W.subIn K (.ref D) (.ref C) else none) = some b
    rw [if_pos e2]
    exact h4
/-- the suite's entry: slot i holds the exception -/
abbrev suE (E : En) (i : Nat) (a : Addr) : En := ⟨E.k, E.ec, E.He, E.F0, E.B, i :: E.bs, (E.v0 ++ List.replicate (i + 1) none).set i (some (.ref a))⟩
section
variable {E : En} {F H : Hp}
theorem su_v0 (i : Nat) (a : Addr) : ((E.v0 ++ List.replicate (i + 1) none).set i (some (V.ref a)))[i]? = some (some (.ref a)) := List.getElem?_set_self (by rw [List.length_append, List.length_replicate]; omega)
theorem su_v1 {i j : Nat} {a : Addr} (h : j ≠ i) (hj : j < E.v0.length) : ((E.v0 ++ List.replicate (i + 1) none).set i (some (V.ref a)))[j]? = E.v0[j]? := by
  rw [List.getElem?_set_ne (Ne.symm h), List.getElem?_append_left hj]
theorem Stt.v0l {σ : L2.St} {ρ : Env} (s : Stt E F H σ ρ) : ∀ j ∈ E.bs, j < E.v0.length := fun j hj => by
  obtain ⟨h1, h2⟩ := s.bv j hj
  rw [List.getElem?_eq_getElem h1] at h2
  exact (List.getElem?_eq_some_iff.mp h2.symm).1
theorem Stt.suIn {σ : L2.St} {ρ : Env} {i : Nat} (a : Addr) (s : Stt E F H σ ρ) (hi : i < ρ.length) (hb : i ∉ E.bs) : Stt (suE E i a) F H (σ.set i (some (.ref a))) (ρ.set i none) := by
  obtain ⟨fp, sl⟩ := s.sl
  obtain ⟨s1, sl1⟩ := s.forget i sl
  have hl := s.len
  refine ⟨s1.e0, s1.fh, s1.fr, s1.st, s1.bt, by rw [List.length_set, List.length_set]; exact hl, fun j hj => ?_, fun j => if j = i then [] else fp j, fun j d e => ?_, sl1.em, sl1.nd, sl1.dj, fun j b hb' => (sl1.nw j b hb').imp_right fun z => ⟨z.1, List.mem_cons_of_mem _ z.2⟩⟩
  · rw [List.length_set]
    rcases List.mem_cons.mp hj with rfl | hj
    · exact ⟨by omega, by rw [List.getElem?_set_self (by omega)]; exact (su_v0 ..).symm⟩
    · have ne : j ≠ i := fun z => hb (z ▸ hj)
      exact ⟨(s.bv j hj).1, by rw [List.getElem?_set_ne (Ne.symm ne), (s.bv j hj).2]; exact (su_v1 ne (s.v0l j hj)).symm⟩
  · by_cases q : j = i
    · subst q
      rw [List.getElem?_set_self hi] at e; cases e
    · obtain ⟨v, h1, h2⟩ := sl1.rp j d e
      exact ⟨v, by rw [List.getElem?_set_ne (Ne.symm q)]; exact h1, h2⟩
theorem Stt.suOut {σ : L2.St} {ρ : Env} {i : Nat} {a : Addr} (hb : i ∉ E.bs) (hv : ∀ j ∈ E.bs, j < E.v0.length) (s : Stt (suE E i a) F H σ ρ) (h : ρ[i]?.getD none = none) : Stt E F H σ ρ := by
  obtain ⟨fp, sl⟩ := s.sl
  refine ⟨s.e0, s.fh, s.fr, s.st, s.bt, s.len, fun j hj => ?_, fp, sl.rp, sl.em, sl.nd, sl.dj, fun j b hb' => ?_⟩
  · obtain ⟨h1, h2⟩ := s.bv j (List.mem_cons_of_mem _ hj)
    exact ⟨h1, h2.trans (su_v1 (fun z => hb (z ▸ hj)) (hv j hj))⟩
  · rcases sl.nw j b hb' with z | z
    · exact .inl z
    · rcases List.mem_cons.mp z.2 with q | q
      · subst q
        rw [sl.em j h] at hb'; cases hb'
      · exact .inr ⟨z.1, q⟩
end
/-- the suite's end -/
def suEnd (i : Nat) : SR → SR
  | .nx ρ => if (ρ[i]?.getD none).isNone = true then .nx (ρ.set i none) else .no
  | .bk ρ => if (ρ[i]?.getD none).isNone = true then .bk (ρ.set i none) else .no
  | .ct ρ => if (ρ[i]?.getD none).isNone = true then .ct (ρ.set i none) else .no
  | .rt d ρ => if (ρ[i]?.getD none).isNone = true then .rt d ρ else .no
  | _ => .no
@[simp] theorem suEnd_nx (i : Nat) (ρ : Env) : suEnd i (.nx ρ) = if (ρ[i]?.getD none).isNone = true then .nx (ρ.set i none) else .no := rfl
@[simp] theorem suEnd_bk (i : Nat) (ρ : Env) : suEnd i (.bk ρ) = if (ρ[i]?.getD none).isNone = true then .bk (ρ.set i none) else .no := rfl
@[simp] theorem suEnd_ct (i : Nat) (ρ : Env) : suEnd i (.ct ρ) = if (ρ[i]?.getD none).isNone = true then .ct (ρ.set i none) else .no := rfl
@[simp] theorem suEnd_rt (i : Nat) (d : D) (ρ : Env) : suEnd i (.rt d ρ) = if (ρ[i]?.getD none).isNone = true then .rt d ρ else .no := rfl
def tryA (i : Nat) (sub : Nat → Option Bool) (g : Nat → Env → SR) : SR → SR
  | .ex c ρ => match sub c with
    | some true => if i < ρ.length then suEnd i (g c (ρ.set i none)) else .no
    | some false => .ex c ρ
    | none => .no
  | r => r
@[simp] theorem tryA_nx (i : Nat) (sub : Nat → Option Bool) (g : Nat → Env → SR) (ρ : Env) : tryA i sub g (.nx ρ) = .nx ρ := rfl
@[simp] theorem tryA_bk (i : Nat) (sub : Nat → Option Bool) (g : Nat → Env → SR) (ρ : Env) : tryA i sub g (.bk ρ) = .bk ρ := rfl
@[simp] theorem tryA_ct (i : Nat) (sub : Nat → Option Bool) (g : Nat → Env → SR) (ρ : Env) : tryA i sub g (.ct ρ) = .ct ρ := rfl
@[simp] theorem tryA_rt (i : Nat) (sub : Nat → Option Bool) (g : Nat → Env → SR) (d : D) (ρ : Env) : tryA i sub g (.rt d ρ) = .rt d ρ := rfl
@[simp] theorem tryA_no (i : Nat) (sub : Nat → Option Bool) (g : Nat → Env → SR) : tryA i sub g .no = .no := rfl
@[simp] theorem tryA_ex (i : Nat) (sub : Nat → Option Bool) (g : Nat → Env → SR) (c : Nat) (ρ : Env) : tryA i sub g (.ex c ρ) = match sub c with
    | some true => if i < ρ.length then suEnd i (g c (ρ.set i none)) else .no
    | some false => .ex c ρ
    | none => .no := rfl
def sTryA (i : Nat) (sub : Nat → Option Bool) (f : Env → SR) (g : Nat → Env → SR) : Env → SR := fun ρ => tryA i sub g (f ρ)
@[simp] theorem sTryA_eq (i : Nat) (sub : Nat → Option Bool) (f : Env → SR) (g : Nat → Env → SR) (ρ : Env) : sTryA i sub f g ρ = tryA i sub g (f ρ) := rfl
/-- without a name -/
def calmS : SR → SR
  | .ex _ _ => .no
  | r => r
@[simp] theorem calmS_nx (ρ : Env) : calmS (.nx ρ) = .nx ρ := rfl
@[simp] theorem calmS_bk (ρ : Env) : calmS (.bk ρ) = .bk ρ := rfl
@[simp] theorem calmS_ct (ρ : Env) : calmS (.ct ρ) = .ct ρ := rfl
@[simp] theorem calmS_rt (d : D) (ρ : Env) : calmS (.rt d ρ) = .rt d ρ := rfl
@[simp] theorem calmS_no : calmS .no = .no := rfl
@[simp] theorem calmS_ex (c : Nat) (ρ : Env) : calmS (.ex c ρ) = .no := rfl
def tryM : List ((Nat → Option Bool) × (Env → SR)) → Nat → Env → SR
  | [], c, ρ => .ex c ρ
  | (sub, g) :: r, c, ρ => match sub c with
    | some true => calmS (g ρ)
    | some false => tryM r c ρ
    | none => .no
@[simp] theorem tryM_nil (c : Nat) (ρ : Env) : tryM [] c ρ = .ex c ρ := rfl
@[simp] theorem tryM_cons (sub : Nat → Option Bool) (g : Env → SR) (r : List ((Nat → Option Bool) × (Env → SR))) (c : Nat) (ρ : Env) : tryM ((sub, g) :: r) c ρ = match sub c with
    | some true => calmS (g ρ)
    | some false => tryM r c ρ
    | none => .no := rfl
def tryN (l : List ((Nat → Option Bool) × (Env → SR))) : SR → SR
  | .ex c ρ => tryM l c ρ
  | r => r
@[simp] theorem tryN_nx (l : List ((Nat → Option Bool) × (Env → SR))) (ρ : Env) : tryN l (.nx ρ) = .nx ρ := rfl
@[simp] theorem tryN_bk (l : List ((Nat → Option Bool) × (Env → SR))) (ρ : Env) : tryN l (.bk ρ) = .bk ρ := rfl
@[simp] theorem tryN_ct (l : List ((Nat → Option Bool) × (Env → SR))) (ρ : Env) : tryN l (.ct ρ) = .ct ρ := rfl
@[simp] theorem tryN_rt (l : List ((Nat → Option Bool) × (Env → SR))) (d : D) (ρ : Env) : tryN l (.rt d ρ) = .rt d ρ := rfl
@[simp] theorem tryN_no (l : List ((Nat → Option Bool) × (Env → SR))) : tryN l .no = .no := rfl
@[simp] theorem tryN_ex (l : List ((Nat → Option Bool) × (Env → SR))) (c : Nat) (ρ : Env) : tryN l (.ex c ρ) = tryM l c ρ := rfl
def sTryN (f : Env → SR) (l : List ((Nat → Option Bool) × (Env → SR))) : Env → SR := fun ρ => tryN l (f ρ)
@[simp] theorem sTryN_eq (f : Env → SR) (l : List ((Nat → Option Bool) × (Env → SR))) (ρ : Env) : sTryN f l ρ = tryN l (f ρ) := rfl
section
variable {X : Cx} {E : En} {W : WX}
theorem fin_su {i : Nat} {a : Addr} {F H : Hp} {d : D} {v : V} (f : Fin (suE E i a) F H d v) : Fin E F H d v := ⟨f.e0, f.fh, f.fr, f.st, f.bt, f.rp⟩
theorem SRes.su {i : Nat} {a : Addr} {F : Hp} {Z : Ends} {r : SR} (hb : i ∉ E.bs) (hv : ∀ j ∈ E.bs, j < E.v0.length) (h : SRes E W F Z (suEnd i r)) :
    SRes (suE E i a) WN F { nx := fun σ' H' => Z.nx (σ'.set i none) H', rt := Z.rt, bk := fun σ' H' => Z.bk (σ'.set i none) H', ct := fun σ' H' => Z.ct (σ'.set i none) H' } r := by
  have isn : ∀ {o : Option D}, o.isNone = true → o = none := fun {o} h => by cases o with
    | none => rfl
    | some _ => cases h
  cases r with
  | no => exact h
  | nx ρ =>
    rw [suEnd_nx] at h
    by_cases g : (ρ[i]?.getD none).isNone = true
    · rw [if_pos g] at h
      exact fun F' H' σ x s => h F' H' _ x ((s.suOut hb hv (isn g)).unset hb)
    · rw [if_neg g] at h; exact h.elim
  | bk ρ =>
    rw [suEnd_bk] at h
    by_cases g : (ρ[i]?.getD none).isNone = true
    · rw [if_pos g] at h
      exact fun F' H' σ x s => h F' H' _ x ((s.suOut hb hv (isn g)).unset hb)
    · rw [if_neg g] at h; exact h.elim
  | ct ρ =>
    rw [suEnd_ct] at h
    by_cases g : (ρ[i]?.getD none).isNone = true
    · rw [if_pos g] at h
      exact fun F' H' σ x s => h F' H' _ x ((s.suOut hb hv (isn g)).unset hb)
    · rw [if_neg g] at h; exact h.elim
  | rt d ρ =>
    rw [suEnd_rt] at h
    by_cases g : (ρ[i]?.getD none).isNone = true
    · rw [if_pos g] at h
      intro F' H' σ v s f z
      refine h F' H' σ v (s.suOut hb hv (isn g)) (fin_su f) (.inr ?_)
      have s2 := z.resolve_left fun q => nomatch q
      have li : i < ρ.length := by
        have := (s.bv i List.mem_cons_self).1
        have := s.len; omega
      refine s2.suOut hb hv ?_
      rw [List.getElem?_append_left li]; exact isn g
    · rw [if_neg g] at h; exact h.elim
  | ex c ρ => exact h.elim
theorem ss_tryA {i : Nat} {n x : Str} {C : Addr} {sub : Nat → Option Bool} {body suite : List Stmt} {b₀ : Stmt} {np pos pos' : Pos} {f : Env → SR} {g : Nat → Env → SR} (hs : X.stack = X.env :: X.outer) (hf : X.env.frame = some X.env.locals) (hN : X.N.Nodup) (hi : X.N[i]? = some n) (hln : X.env.kindOf n = some .local) (hib : i ∉ E.bs)
    (hg : Gl X x) (hm : X.mg x = some (.ref C)) (hsub : SubOf X.K E.ec sub C) (tk : Takes X W)
    (hb : ∀ (W' : WX) (pn : List (Addr × Obj)) (xe : Value → Shared → Prop), Takes (X.tr pn xe) W' → PassesOwn (model X.prog X.w) X.A X.env xe → SB (X.tr pn xe) E W' body f)
    (hsu : ∀ (c : Nat) (D a : Addr) (oe : Obj) (pn : List (Addr × Obj)), E.ec c = .ref D → Zc (.ref D) none oe → (∃ vs, oe.data = .fields vs) → SB (X.suite a ((a, oe) :: pn)) (suE E i a) WN (b₀ :: suite) (g c))
    (hdb : (x == ("__debug__" : Str)) = false := by decide) :
    SS X E W (.Try body [.ExceptHandler (some (.Name x np)) (some n) (b₀ :: suite) pos'] [] [] pos) (sTryA i sub f g) := by
  refine ⟨ps_mono (ps_try_as (i := i) (c := .ref C) (tb := fun W' => tSS E W' f) (Wout := W)
    (ts := fun a cls d Z σ H => ∃ c D F ρ, cls = .ref D ∧ E.ec c = .ref D ∧ d = none ∧ Stt (suE E i a) F H σ ρ ∧ SRes (suE E i a) WN F Z (g c ρ)) hs hf hN hi hln ⟨hg, hdb, .inl hm⟩ tk
    (fun W' pn xe t p => (hb W' pn xe t p).ps) (fun a oe cls d pn hz hv => ⟨fun pins s σ H Z I h => ?_⟩)) fun Z σ H h => ?_⟩
  · obtain ⟨c, D, F, ρ, rfl, hD, rfl, st, q⟩ := h
    exact (hsu c D a oe pn hD hz hv).ps.run pins s σ H Z I ⟨F, ρ, st, q⟩
  · obtain ⟨F, ρ, s, q⟩ := h
    refine ⟨F, ρ, s, ?_⟩
    rw [sTryA_eq] at q
    cases ef : f ρ with
    | no => rw [ef] at q; exact q
    | nx ρ' => rw [ef] at q; exact q
    | bk ρ' => rw [ef] at q; exact q
    | ct ρ' => rw [ef] at q; exact q
    | rt d ρ' => rw [ef] at q; exact q
    | ex c ρ' =>
      rw [ef, tryA_ex] at q
      intro F' H' σ' xx s'
      cases es : sub c with
      | none => rw [es] at q; exact q.elim
      | some b =>
        obtain ⟨D, hD, hx, hm', hk⟩ := hsub c b es
        refine ⟨b, by rw [hD]; exact hm', fun e a ha => ?_, fun e => ?_⟩
        · subst e
          rw [es] at q
          have q : SRes E W F Z (if i < ρ'.length then suEnd i (g c (ρ'.set i none)) else .no) := q
          by_cases hl : i < ρ'.length
          · rw [if_pos hl] at q
            exact ⟨c, D, F', _, hD, hD, rfl, s'.suIn a hl hib, SRes.su hib s'.v0l (SRes.at q xx)⟩
          · rw [if_neg hl] at q; exact q.elim
        · subst e
          rw [es] at q
          exact (show SRes E W F Z (.ex c ρ') from q) F' H' σ' xx s'
/-- isinstance of the exception that the suite holds -/
def eIsE (o : Option Bool) : Env → R D := fun _ => R.opt (o.map .bl)
@[simp] theorem eIsE_eq (o : Option Bool) (ρ : Env) : eIsE o ρ = R.opt (o.map .bl) := rfl
theorem eo_isE {i : Nat} {a D C : Addr} {oe : Obj} {pn : List (Addr × Obj)} {c : Nat} {tbl : Nat → Option Bool} {e : Expr} {x y : Str} {p p2 pos : Pos} (hK : E.k.K = X.K) (hsub : SubOf X.K E.ec tbl C) (hD : E.ec c = .ref D) (hz : Zc (.ref D) none oe) (hf : ∃ vs, oe.data = .fields vs)
    (he : PE (X.suite a ((a, oe) :: pn)) e (tVar i)) (gl : Gl X x) (hm : X.mg x = none) (hv : bootBuiltins x = some (.builtin "isinstance")) (gl2 : Gl X y) (hm2 : X.mg y = some (.ref C)) (hn : x ≠ "__name__" := by decide) (hdb : (x == ("__debug__" : Str)) = false := by decide) (hdb2 : (y == ("__debug__" : Str)) = false := by decide)
    (hs1 : starEach [e, .Name y p2] (X.suite a ((a, oe) :: pn)).env = (false, eval e (X.suite a ((a, oe) :: pn)).env) :: starEach [.Name y p2] (X.suite a ((a, oe) :: pn)).env := by rfl) (hs2 : starEach [.Name y p2] (X.suite a ((a, oe) :: pn)).env = (false, eval (.Name y p2) (X.suite a ((a, oe) :: pn)).env) :: starEach [] (X.suite a ((a, oe) :: pn)).env := by rfl) (hpl : (backTo pos (starEach [.Name y p2] (X.suite a ((a, oe) :: pn)).env)).any (·.1) = false := by rfl) :
    EO (X.suite a ((a, oe) :: pn)) (suE E i a) W (.Call (.Name x p) [e, .Name y p2] [] pos) (eIsE (tbl c)) := by
  cases ht : tbl c with
  | none =>
    refine ⟨⟨fun pins s σ H Q I h => ?_⟩⟩
    obtain ⟨F, ρ, st, q⟩ := h
    exact q.elim
  | some b =>
    obtain ⟨D', hD', hx, _, hk⟩ := hsub c b ht
    rw [hD] at hD'
    cases hD'
    refine ⟨pe_mono (pe_callB (call_isE hx hz hf) gl hm hv (pa_cons he (pa_cons (pe_glob (v := .ref C) gl2 hm2 rfl hdb2) pa_nil hs2) hs1) hn hdb hs1 hpl) fun σ H Q h => ?_⟩
    obtain ⟨F, ρ, s, q⟩ := h
    have hv := (s.bv i List.mem_cons_self).2
    refine ⟨.ref a, hv.trans (su_v0 i a), .ref C, .ref C, b, rfl, fun u hu => hu, hk, ?_⟩
    exact GOk.scal (E := suE E i a) s.fh (show GOk (suE E i a) F H Q (.bl b) from q) fun _ _ => ⟨rfl, rfl⟩
/-- except clauses without names -/
structure EHd (X : Cx) (E : En) (hds : List ExceptHandler) (l : List ((Nat → Option Bool) × (Env → SR))) : Prop where
  ok : ∃ m : List (Value × (Addr → Value → Option Addr → TS)), HdsOk X hds m ∧ ∀ (W : WX) (Z : Ends) (c : Nat) (ρ : Env) (F F' H' : Hp) (σ : L2.St), SRes E W F Z (tryM l c ρ) → Ex F F' → Stt E F' H' σ ρ → wMany X.K W Z m (E.ec c) none σ H'
theorem ehd_nil : EHd X E [] [] := ⟨[], .nil, fun W Z c ρ F F' H' σ q x s => (show SRes E W F Z (.ex c ρ) from q) F' H' σ x s⟩
theorem SRes.calmS {F : Hp} {Z : Ends} {r : SR} (h : SRes E W F Z (calmS r)) : SRes E WN F Z r := by
  cases r with
  | ex c ρ => exact h.elim
  | _ => exact h
theorem ehd_cons {x : Str} {C : Addr} {sub : Nat → Option Bool} {b₀ : Stmt} {suite : List Stmt} {np pos' : Pos} {hds : List ExceptHandler} {l : List ((Nat → Option Bool) × (Env → SR))} {g : Env → SR} (hg : Gl X x) (hm : X.mg x = some (.ref C)) (hsub : SubOf X.K E.ec sub C)
    (hsu : ∀ (a : Addr) (oe : Obj) (pn : List (Addr × Obj)), SB (X.suite a ((a, oe) :: pn)) E WN (b₀ :: suite) g) (r : EHd X E hds l) (hdb : (x == ("__debug__" : Str)) = false := by decide) :
    EHd X E (.ExceptHandler (some (.Name x np)) none (b₀ :: suite) pos' :: hds) ((sub, g) :: l) := by
  obtain ⟨m, hok, hq⟩ := r.ok
  refine ⟨(.ref C, fun a cls d => tSS E WN g) :: m, .cons ⟨hg, hdb, .inl hm⟩ (fun a oe cls d pn hz hv => (hsu a oe pn).ps) hok, fun W Z c ρ F F' H' σ q x s => ?_⟩
  rw [tryM_cons] at q
  cases es : sub c with
  | none => rw [es] at q; exact q.elim
  | some b =>
    obtain ⟨D, hD, hx, hm', hk⟩ := hsub c b es
    rw [es] at q
    refine ⟨b, by rw [hD]; exact hm', fun e a ha => ?_, fun e => ?_⟩
    · subst e
      exact ⟨F', ρ, s, SRes.calmS (SRes.at q x)⟩
    · subst e
      exact hq W Z c ρ F F' H' σ q x s
theorem ss_tryN {body : List Stmt} {h₀ : ExceptHandler} {hds : List ExceptHandler} {pos : Pos} {f : Env → SR} {l : List ((Nat → Option Bool) × (Env → SR))} (hs : X.stack = X.env :: X.outer) (hf : X.env.frame = some X.env.locals) (tk : Takes X W)
    (hb : ∀ (W' : WX) (pn : List (Addr × Obj)) (xe : Value → Shared → Prop), Takes (X.tr pn xe) W' → PassesOwn (model X.prog X.w) X.A X.env xe → SB (X.tr pn xe) E W' body f) (hh : EHd X E (h₀ :: hds) l) :
    SS X E W (.Try body (h₀ :: hds) [] [] pos) (sTryN f l) := by
  obtain ⟨m, hok, hq⟩ := hh.ok
  refine ⟨ps_mono (ps_try_many (tb := fun W' => tSS E W' f) (Wout := W) hs hf tk (fun W' pn xe t p => (hb W' pn xe t p).ps) hok) fun Z σ H h => ?_⟩
  obtain ⟨F, ρ, s, q⟩ := h
  refine ⟨F, ρ, s, ?_⟩
  rw [sTryN_eq] at q
  cases ef : f ρ with
  | no => rw [ef] at q; exact q
  | nx ρ' => rw [ef] at q; exact q
  | bk ρ' => rw [ef] at q; exact q
  | ct ρ' => rw [ef] at q; exact q
  | rt d ρ' => rw [ef] at q; exact q
  | ex c ρ' =>
    rw [ef, tryN_ex] at q
    exact fun F' H' σ' xx s' => hq W Z c ρ' F F' H' σ' q xx s'
end
end Dv
end
section
set_option maxRecDepth 100000
namespace Dv
open PySem PySem.Spec PyProof.Rows L2
/-! ## zip of three tuples -/
/-- the tuples at a, b and c as they stand at each turn, the items in new triples -/
def Itz3 (K : PySem.W.Frag) (a b c : Addr) : It :=
  ⟨fun i H => ∃ xs ys zs : List V, SqT K H a xs ∧ SqT K H b ys ∧ SqT K H c zs ∧ i < min (min xs.length ys.length) zs.length,
    fun i H v H' => ∃ T x y z, v = .ref T ∧ H T = none ∧ H' = upd H T (.tup [x, y, z]) ∧ (∀ xs, SqT K H a xs → xs[i]? = some x) ∧ (∀ ys, SqT K H b ys → ys[i]? = some y) ∧ ∀ zs, SqT K H c zs → zs[i]? = some z,
    fun i H => ∃ xs ys zs : List V, SqT K H a xs ∧ SqT K H b ys ∧ SqT K H c zs ∧ i = min (min xs.length ys.length) zs.length⟩
theorem sub6 {N q : Addr} (m : q ∈ [N + 5, N + 4, N, N + 1, N + 2]) : q ∈ [N + 5, N + 3, N + 4, N, N + 1, N + 2] := by
  simp only [List.mem_cons, List.not_mem_nil, or_false] at m ⊢
  rcases m with h | h | h | h | h
  · exact .inl h
  · exact .inr (.inr (.inl h))
  · exact .inr (.inr (.inr (.inl h)))
  · exact .inr (.inr (.inr (.inr (.inl h))))
  · exact .inr (.inr (.inr (.inr (.inr h))))
theorem vals_get' : ∀ {xs : List V} {us : List Value} {i : Nat} {u : Value}, Vals xs us → us[i]? = some u → ∃ x, xs[i]? = some x ∧ RelV x u
  | _, _, _, _, .nil, e => by simp at e
  | _, _, 0, _, .cons r _, e => by simp at e; subst e; exact ⟨_, rfl, r⟩
  | _, _, i + 1, u, .cons _ t, e => by
    obtain ⟨x, h1, h2⟩ := vals_get' (i := i) (u := u) t (by simpa using e)
    exact ⟨x, by simpa using h1, h2⟩
theorem turn_zip3 {P : Program} {w : World} {K : PySem.W.Frag} {elts : List Expr} {kk : Nat} {tpos : Pos} {N a b c : Addr} (la : a < N) (lb : b < N) (lc : c < N) :
    Turn P w K (.Tuple elts kk tpos) (Itz3 K a b c) [N + 5, N + 3, N + 4, N, N + 1, N + 2] (N + 5) (fun i h => IsZip h (N + 5) (N + 3) (N + 4) .none ∧ IsTupOf3 h (N + 3) (.ref N) (.ref (N + 1)) (.ref (N + 2)) ∧ (∃ x y z, IsTupOf3 h (N + 4) x y z) ∧ h.IsTupleIter N a i ∧ h.IsTupleIter (N + 1) b i ∧ h.IsTupleIter (N + 2) c i) where
  mem := by simp
  obj := fun i h st q hq => by
    obtain ⟨hz, hTI, ⟨x, y, z, hTO⟩, ⟨o1, e1, _, d1⟩, ⟨o2, e2, _, d2⟩, ⟨o3, e3, _, d3⟩⟩ := st
    have e' : q = N + 5 ∨ q = N + 3 ∨ q = N + 4 ∨ q = N ∨ q = N + 1 ∨ q = N + 2 := by simpa using hq
    rcases e' with g | g | g | g | g | g
    · rw [g]; exact ⟨_, hz, fun v q => nomatch q⟩
    · rw [g]; exact ⟨_, hTI, fun v q => nomatch q⟩
    · rw [g]; exact ⟨_, hTO, fun v q => nomatch q⟩
    · rw [g]; exact ⟨o1, e1, fun v q => by rw [d1] at q; cases q⟩
    · rw [g]; exact ⟨o2, e2, fun v q => by rw [d2] at q; cases q⟩
    · rw [g]; exact ⟨o3, e3, fun v q => by rw [d3] at q; cases q⟩
  keep := fun i h h' st k => by
    obtain ⟨hz, hTI, ⟨x, y, z, hTO⟩, h1, h2, h3⟩ := st
    exact ⟨k _ (by simp) _ hz, k _ (by simp) _ hTI, ⟨x, y, z, k _ (by simp) _ hTO⟩, h1.at fun o q => k _ (by simp) o q, h2.at fun o q => k _ (by simp) o q, h3.at fun o q => k _ (by simp) o q⟩
  item := by
    intro X hP hw hK hc i pins s σ H E I hf st hg
    subst hP hw hK
    obtain ⟨hz, hTI, hTO, h1, h2, h3⟩ := st
    obtain ⟨xs, ys, zs, hqx, hqy, hqz, hi⟩ := hg
    obtain ⟨its, rv, p, _⟩ := I.tuple hqx
    obtain ⟨its2, rv2, p2, _⟩ := I.tuple hqy
    obtain ⟨its3, rv3, p3, _⟩ := I.tuple hqz
    have l1 := rv.length
    have l2 := rv2.length
    have l3 := rv3.length
    have hh : X.A.in1.handled = none := I.ok.hd hc
    have S := zip_sep3 (N := N) (fp1 := [a]) (fp2 := [b]) (fp3 := [c]) (by simpa using la) (by simpa using lb) (by simpa using lc)
    have G := GoesN.zip3 (prog := X.prog) (w := X.w) (A := X.A) (elts := elts) (x1 := kk) (pos := tpos) S (Draws.tuple (A := X.A.in1) hh N a (Nat.ne_of_lt la) its.toArray) (Draws.tuple (A := X.A.in1) hh (N + 1) b (Nat.ne_of_lt (Nat.lt_succ_of_lt lb)) its2.toArray) (Draws.tuple (A := X.A.in1) hh (N + 2) c (Nat.ne_of_lt (Nat.lt_succ_of_lt (Nat.lt_succ_of_lt lc))) its3.toArray)
    refine G.goes i s _ E (by simp only [List.size_toArray]; omega) ⟨hz, hTI, hTO, ⟨h1, p⟩, ⟨h2, p2⟩, h3, p3⟩ fun v h' tk hY st' hk _ => ?_
    obtain ⟨T, u1, u2, u3, rfl, hT, e1, e2, e3, hTup⟩ := hY
    obtain ⟨x1, g1, r1⟩ := vals_get' rv (by simpa using e1)
    obtain ⟨x2, g2, r2⟩ := vals_get' rv2 (by simpa using e2)
    obtain ⟨x3, g3, r3⟩ := vals_get' rv3 (by simpa using e3)
    have new : ObjOk X.prog X.w (upd H T (.tup [x1, x2, x3])) h' T (.tup [x1, x2, x3]) :=
      ⟨by show 3 ≤ sizeLine; decide, [u1, u2, u3], .cons r1 (.cons r2 (.cons r3 .nil)), hTup⟩
    have I1 : Inv X pins σ (upd H T (.tup [x1, x2, x3])) { s with heap := h', toks := tk } :=
      I.turnedNew (t' := tk) (ch := [N + 5, N + 3, N + 4, N, N + 1, N + 2]) (fun q o hb e => hk q o (fun m => hb (sub6 m)) e) hf hT new
    refine ⟨.ref T, _, I1, rfl, ⟨T, x1, x2, x3, rfl, I.hok.fresh hT, rfl, fun l hl => by rw [I.tuple_inj hl hqx]; exact g1, fun l hl => by rw [I.tuple_inj hl hqy]; exact g2, fun l hl => by rw [I.tuple_inj hl hqz]; exact g3⟩, ⟨st'.1, st'.2.1, st'.2.2.1, st'.2.2.2.1.1, st'.2.2.2.2.1.1, st'.2.2.2.2.2.1⟩, fun q hqm => ?_⟩
    have hlt : q < s.heap.objs.size := by
      have e' : q = N + 5 ∨ q = N + 3 ∨ q = N + 4 ∨ q = N ∨ q = N + 1 ∨ q = N + 2 := by simpa using hqm
      obtain ⟨x, y, z, hTO⟩ := hTO
      rcases e' with g | g | g | g | g | g
      · rw [g]; exact Heap.lt_size hz
      · rw [g]; exact Heap.lt_size hTI
      · rw [g]; exact Heap.lt_size hTO
      · rw [g]; obtain ⟨_, e1, _⟩ := h1; exact Heap.lt_size e1
      · rw [g]; obtain ⟨_, e2, _⟩ := h2; exact Heap.lt_size e2
      · rw [g]; obtain ⟨_, e3, _⟩ := h3; exact Heap.lt_size e3
    rw [upd_ne (Nat.ne_of_lt (Nat.lt_of_lt_of_le hlt hT))]
    exact (hf q hqm).1
  done := by
    intro X hP hw hK hc i pins s σ H E I hf st hg
    subst hP hw hK
    obtain ⟨hz, hTI, hTO, h1, h2, h3⟩ := st
    obtain ⟨xs, ys, zs, hqx, hqy, hqz, hi⟩ := hg
    obtain ⟨its, rv, p, _⟩ := I.tuple hqx
    obtain ⟨its2, rv2, p2, _⟩ := I.tuple hqy
    obtain ⟨its3, rv3, p3, _⟩ := I.tuple hqz
    have l1 := rv.length
    have l2 := rv2.length
    have l3 := rv3.length
    have hh : X.A.in1.handled = none := I.ok.hd hc
    have S := zip_sep3 (N := N) (fp1 := [a]) (fp2 := [b]) (fp3 := [c]) (by simpa using la) (by simpa using lb) (by simpa using lc)
    have G := GoesN.zip3 (prog := X.prog) (w := X.w) (A := X.A) (elts := elts) (x1 := kk) (pos := tpos) S (Draws.tuple (A := X.A.in1) hh N a (Nat.ne_of_lt la) its.toArray) (Draws.tuple (A := X.A.in1) hh (N + 1) b (Nat.ne_of_lt (Nat.lt_succ_of_lt lb)) its2.toArray) (Draws.tuple (A := X.A.in1) hh (N + 2) c (Nat.ne_of_lt (Nat.lt_succ_of_lt (Nat.lt_succ_of_lt lc))) its3.toArray)
    have ei : i = min (min its.toArray.size its2.toArray.size) its3.toArray.size := by simp only [List.size_toArray]; omega
    rw [ei] at h1 h2 h3
    exact G.stops s _ E ⟨hz, hTI, hTO, ⟨h1, p⟩, ⟨h2, p2⟩, h3, p3⟩ fun h' tk hk _ => I.turnedL (t' := tk) (ch := [N + 5, N + 3, N + 4, N, N + 1, N + 2]) (fun q o hb e => hk q o (fun m => hb (sub6 m)) e) hf
  self := fun A i s Q E st h => wpAny_pyIter_zip st.1 h

def iZip3A (K : PySem.W.Frag) (ta : TA) : TI := fun σ H R => ta σ H fun vs H1 => ∃ a b c xs ys zs, vs = [.ref a, .ref b, .ref c] ∧ SqT K H1 a xs ∧ SqT K H1 b ys ∧ SqT K H1 c zs ∧ R (Itz3 K a b c) H1
theorem pi_zip3A {X : Cx} {e e2 e3 : Expr} {ta : TA} {p pos tpos : Pos} {elts : List Expr} {kk : Nat} (hg : Gl X "zip") (hm : X.mg "zip" = none) (ha : PA X [e, e2, e3] ta)
    (hs : starEach [e, e2, e3] X.env = (false, eval e X.env) :: starEach [e2, e3] X.env := by rfl) (hpl : (backTo pos (starEach [e2, e3] X.env)).any (·.1) = false := by rfl) :
    PI X (.Tuple elts kk tpos) (.Call (.Name "zip" p) [e, e2, e3] [] pos) (iZip3A X.K ta) := by
  refine ⟨fun pins s σ H R I h => ?_⟩
  refine Call_ (ld_blt I hg hm PyProof.Rows.boot_zip (PyProof.Rows.callWith_type1 (thn (ha.run pos pins s σ H _ I h) fun us s1 ⟨vs, H1, I1, r1, q1⟩ => ?_) hs hpl))
  obtain ⟨a, b, c, xs, ys, zs, ex, hqx, hqy, hqz, q⟩ := q1
  subst ex
  cases r1 with
  | cons r rr =>
    cases rr with
    | cons r' rr =>
      cases rr with
      | cons r'' rr =>
        cases rr
        cases r
        cases r'
        cases r''
        have fresh6 : ∀ q, q ∈ [s1.heap.objs.size + 5, s1.heap.objs.size + 3, s1.heap.objs.size + 4, s1.heap.objs.size, s1.heap.objs.size + 1, s1.heap.objs.size + 2] → FpOk X pins H1 q := fun q hqm => by
          have hle : s1.heap.objs.size ≤ q := by
            simp only [List.mem_cons, List.not_mem_nil, or_false] at hqm
            rcases hqm with z | z | z | z | z | z <;> rw [z] <;> first | exact Nat.le_add_right _ _ | exact Nat.le_refl _
          exact I1.fpOk hle (I1.hok.fresh hle)
        obtain ⟨its, rv, p1, _⟩ := I1.tuple hqx
        obtain ⟨its2, rv2, p2, _⟩ := I1.tuple hqy
        obtain ⟨its3, rv3, p3, _⟩ := I1.tuple hqz
        obtain ⟨o1, ho1, _⟩ := id p1
        obtain ⟨o2, ho2, _⟩ := id p2
        obtain ⟨o3, ho3, _⟩ := id p3
        refine zip_begins3 (begins_tuple a its.toArray) (begins_tuple b its2.toArray) (begins_tuple c its3.toArray) p1 p2 p3 fun h' hz hTI hTO g1 g2 g3 hsz hk => wpAny_pyIter_zip hz ?_
        have I2 : Inv X pins σ H1 { s1 with heap := h' } := I1.kept (t' := s1.toks) hk
        exact ⟨s1.heap.objs.size + 5, _, _, _, H1, rfl, I2, turn_zip3 (Heap.lt_size ho1) (Heap.lt_size ho2) (Heap.lt_size ho3), ⟨hz, hTI, ⟨_, _, _, hTO⟩, ⟨_, g1, rfl, rfl⟩, ⟨_, g2, rfl, rfl⟩, ⟨_, g3, rfl, rfl⟩⟩, fresh6, q⟩
section
variable {X : Cx} {E : En} {W : WX}
def zipD3 : List D → List D → List D → List D
  | x :: xs, y :: ys, z :: zs => .tup [x, y, z] :: zipD3 xs ys zs
  | _, _, _ => []
@[simp] theorem zipD3_cons (x y z : D) (xs ys zs : List D) : zipD3 (x :: xs) (y :: ys) (z :: zs) = .tup [x, y, z] :: zipD3 xs ys zs := rfl
@[simp] theorem zipD3_nil (ys zs : List D) : zipD3 [] ys zs = [] := rfl
theorem zipD3_get : ∀ {xs ys zs : List D} {i : Nat} {d : D}, (zipD3 xs ys zs)[i]? = some d → ∃ x y z, xs[i]? = some x ∧ ys[i]? = some y ∧ zs[i]? = some z ∧ d = .tup [x, y, z]
  | x :: xs, y :: ys, z :: zs, 0, d, h => ⟨x, y, z, rfl, rfl, rfl, by simpa using h.symm⟩
  | x :: xs, y :: ys, z :: zs, i + 1, d, h => by simpa using zipD3_get (xs := xs) (ys := ys) (zs := zs) (i := i) (by simpa using h)
  | [], ys, zs, i, d, h => by simp [zipD3] at h
  | x :: xs, [], zs, i, d, h => by simp [zipD3] at h
  | x :: xs, y :: ys, [], i, d, h => by simp [zipD3] at h
theorem zipD3_len : ∀ {xs ys zs : List D}, (zipD3 xs ys zs).length = min (min xs.length ys.length) zs.length
  | x :: xs, y :: ys, z :: zs => by rw [zipD3_cons, List.length_cons, List.length_cons, List.length_cons, List.length_cons, zipD3_len]; omega
  | [], ys, zs => by simp [zipD3]
  | x :: xs, [], zs => by simp [zipD3]
  | x :: xs, y :: ys, [] => by simp [zipD3]
theorem pure_tup3 {x y z : D} (hx : x.pure = true) (hy : y.pure = true) (hz : z.pure = true) : (D.tup [x, y, z]).pure = true := by simp [D.pure, D.pureL, hx, hy, hz]
theorem rp_tri {k : Kx} {F H : Hp} {x y z : D} {v w u : V} {T : Addr} (fh : Ex F H) (hT : H T = none) (rx : Rp k F H x v []) (ry : Rp k F H y w []) (rz : Rp k F H z u []) : Tr F H (upd F T (.tup [v, w, u])) (upd H T (.tup [v, w, u])) ∧ Rp k (upd F T (.tup [v, w, u])) (upd H T (.tup [v, w, u])) (.tup [x, y, z]) (.ref T) [] := by
  have t := tr_newF (o := .tup [v, w, u]) fh hT
  exact ⟨t, T, [v, w, u], rfl, .inl (.inl upd_same), v, [w, u], [], [], rfl, rfl, rx.tr t, w, [u], [], [], rfl, rfl, ry.tr t, u, [], [], [], rfl, rfl, rz.tr t, rfl, rfl⟩
theorem wk_zip3 {k : Kx} {F H : Hp} {a b c : Addr} {vs ws us : List V} {xs ys zs : List D} (sa : SqT k.K F a vs) (sb : SqT k.K F b ws) (sc : SqT k.K F c us) (px : D.pureL xs = true) (py : D.pureL ys = true) (pz : D.pureL zs = true) (rx : RpL k F H xs vs []) (ry : RpL k F H ys ws []) (rz : RpL k F H zs us []) :
    Wk k (Itz3 k.K a b c) F (zipD3 xs ys zs) := by
  have hx := rx.len
  have hy := ry.len
  have hz := rz.len
  refine ⟨fun i hi F' H' x y => ?_, fun F' H' x y => ?_, fun i d e F' H' v H'' x y h => ?_⟩
  · rw [zipD3_len] at hi
    exact ⟨vs, ws, us, ex_t (x.trans y) sa, ex_t (x.trans y) sb, ex_t (x.trans y) sc, by omega⟩
  · refine ⟨vs, ws, us, ex_t (x.trans y) sa, ex_t (x.trans y) sb, ex_t (x.trans y) sc, ?_⟩
    rw [zipD3_len]; omega
  · obtain ⟨T, v1, v2, v3, rfl, hT, rfl, h1, h2, h3⟩ := h
    obtain ⟨d1, d2, d3, e1, e2, e3, rfl⟩ := zipD3_get e
    obtain ⟨w1, g1, r1⟩ := rx.get0 e1
    obtain ⟨w2, g2, r2⟩ := ry.get0 e2
    obtain ⟨w3, g3, r3⟩ := rz.get0 e3
    have := (h1 vs (ex_t (x.trans y) sa)).symm.trans g1
    cases this
    have := (h2 ws (ex_t (x.trans y) sb)).symm.trans g2
    cases this
    have := (h3 us (ex_t (x.trans y) sc)).symm.trans g3
    cases this
    obtain ⟨t, r⟩ := rp_tri y hT (Rp.pure (H' := H') (pureL_get px e1) x r1) (Rp.pure (H' := H') (pureL_get py e2) x r2) (Rp.pure (H' := H') (pureL_get pz e3) x r3)
    exact ⟨pure_tup3 (pureL_get px e1) (pureL_get py e2) (pureL_get pz e3), _, t, r⟩
def zip3 : List D → Option (List D)
  | [x, y, z] => match seqD x, seqD y, seqD z with
    | some (false, xs), some (false, ys), some (false, zs) => some (zipD3 xs ys zs)
    | _, _, _ => none
  | _ => none
@[simp] theorem zip3_eq (x y z : D) : zip3 [x, y, z] = match seqD x, seqD y, seqD z with
    | some (false, xs), some (false, ys), some (false, zs) => some (zipD3 xs ys zs)
    | _, _, _ => none := rfl
theorem ei_zip3 {e e2 e3 : Expr} {fs : Env → R (List D)} {p pos tpos : Pos} {elts : List Expr} {kk : Nat} (hK : E.k.K = X.K) (hg : Gl X "zip") (hm : X.mg "zip" = none) (ha : EA X E W [e, e2, e3] fs)
    (hs : starEach [e, e2, e3] X.env = (false, eval e X.env) :: starEach [e2, e3] X.env := by rfl) (hpl : (backTo pos (starEach [e2, e3] X.env)).any (·.1) = false := by rfl) :
    EI X E W (.Tuple elts kk tpos) (.Call (.Name "zip" p) [e, e2, e3] [] pos) (iA zip3 fs) := by
  refine ⟨pi_mono (pi_zip3A hg hm ha.pa hs hpl) fun σ H P q => ?_⟩
  obtain ⟨F, ρ, s, q⟩ := q
  refine ⟨F, ρ, s, Res.mono q.bind (fun ds he q F1 H1 vs t1 r1 => ?_) fun c _ z F' H' t => z F' H' t⟩
  obtain ⟨es, e, p⟩ := Res.opt q
  clear he
  unfold zip3 at e
  split at e
  · rename_i x y z
    split at e
    · rename_i xs ys zs ex ey ez
      cases e
      obtain ⟨v, w, u, A, B, G, rfl, rx, ry, rz⟩ := Vw.three r1
      obtain ⟨px, a, ws, rfl, sa, q1⟩ := seq_of rx ex
      obtain ⟨py, a2, ws2, rfl, sb, q2⟩ := seq_of ry ey
      obtain ⟨pz, a3, ws3, rfl, sc, q3⟩ := seq_of rz ez
      have wk := p F1 H1 _ t1 (wk_zip3 sa sb sc px py pz q1 q2 q3)
      rw [← hK]
      exact ⟨a, a2, a3, ws, ws2, ws3, rfl, ex_t t1.fh sa, ex_t t1.fh sb, ex_t t1.fh sc, wk⟩
    · cases e
  · cases e
/-- a, b, c = x, y, z -/
def sPar3 (i j l : Nat) (fs : Env → R (List D)) : Env → SR := fun ρ => (fs ρ).st ρ fun ds => match ds with
  | [x, y, z] => if x.pure = true ∧ y.pure = true ∧ z.pure = true then .nx (((ρ.set i (some x)).set j (some y)).set l (some z)) else .no
  | _ => .no
@[simp] theorem sPar3_eq (i j l : Nat) (fs : Env → R (List D)) (ρ : Env) : sPar3 i j l fs ρ = (fs ρ).st ρ fun ds => match ds with
  | [x, y, z] => if x.pure = true ∧ y.pure = true ∧ z.pure = true then .nx (((ρ.set i (some x)).set j (some y)).set l (some z)) else .no
  | _ => .no := rfl
theorem ss_par3 {i j l : Nat} {x y z : Str} {a b c : Expr} {fs : Env → R (List D)} {px py pz pt pos : Pos} {kt k2 : Nat} {pt2 : Pos} (hc : X.calm = true) (hN : X.N.Nodup) (hi : X.N[i]? = some x) (hj : X.N[j]? = some y) (hl : X.N[l]? = some z) (hij : i ≠ j) (hil : i ≠ l) (hjl : j ≠ l)
    (hx : X.env.scope.names.lookup x = some .local) (hy : X.env.scope.names.lookup y = some .local) (hz : X.env.scope.names.lookup z = some .local) (hbi : i ∉ E.bs) (hbj : j ∉ E.bs) (hbl : l ∉ E.bs) (ha : EA X E W [a, b, c] fs)
    (hw : swappedStores [.Tuple [.Name x px, .Name y py, .Name z pz] kt pt] (.Tuple [a, b, c] k2 pt2) X.env = pure (some [x, y, z]))
    (hs : swapsWithSole [.Tuple [.Name x px, .Name y py, .Name z pz] kt pt] (.Tuple [a, b, c] k2 pt2) pos.line X.env = pure false := by rfl) :
    SS X E W (.Assign [.Tuple [.Name x px, .Name y py, .Name z pz] kt pt] (.Tuple [a, b, c] k2 pt2) pos) (sPar3 i j l fs) := by
  refine ⟨ps_mono (L2.ps_par3 hc hN hi hj hl hij hil hjl hx hy hz ha.pa hw hs) fun Z σ H h => ?_⟩
  obtain ⟨F, ρ, s, q⟩ := h
  refine ⟨F, ρ, s, Res.mono q.st (fun ds he q F1 H1 vs t1 r1 => ?_) fun c _ z => SRes.exc s z⟩
  clear he
  split at q
  · rename_i x y z
    by_cases c : x.pure = true ∧ y.pure = true ∧ z.pure = true
    · rw [if_pos c] at q
      obtain ⟨v, w, u, A, B, G, rfl, rx, ry, rz⟩ := Vw.three r1
      refine ⟨v, w, u, rfl, q F1 H1 _ t1.ff ?_⟩
      have s1 := s.set t1 (Rp.pure c.1 (.refl _) rx) .nil (fun _ z => nomatch z) hbi
      have s2 := s1.set (Tr.refl t1.fh) (Rp.pure c.2.1 (.refl _) ry) .nil (fun _ z => nomatch z) hbj
      exact s2.set (Tr.refl t1.fh) (Rp.pure c.2.2 (.refl _) rz) .nil (fun _ z => nomatch z) hbl
    · rw [if_neg c] at q
      exact q.elim
  · exact q.elim
end
end Dv
end
section
set_option maxRecDepth 100000
set_option maxHeartbeats 1000000
namespace Dv
open PySem PySem.Spec PyProof.Rows L2
/-! ## xs.index(i), the first place, in a list of ints -/
variable {X : Cx} {E : En} {W : WX}
def lixD : D → D → Option Nat
  | d, .int i => (lInts d).bind fun ns => ns.findIdx? (· == i)
  | _, _ => none
def eLix (fo f : Env → R D) : Env → R D := fun ρ => (fo ρ).bind fun x => if (lInts x).isSome = true then (f ρ).bind fun y => R.opt ((lixD x y).map fun (k : Nat) => D.int (k : Int)) else .no
@[simp] theorem eLix_eq (fo f : Env → R D) (ρ : Env) : eLix fo f ρ = (fo ρ).bind fun x => if (lInts x).isSome = true then (f ρ).bind fun y => R.opt ((lixD x y).map fun (k : Nat) => D.int (k : Int)) else .no := rfl
@[simp] theorem lixD_ints (o : Bool) (ns : List Int) (i : Int) : lixD (.lst o (dInts ns)) (.int i) = ns.findIdx? (· == i) := by simp [lixD, lInts]
theorem rIndex_ints {K : PySem.W.Frag} {a : Addr} {ns : List Int} {i : Int} {k : Nat} {H : Hp} {Q : VK} (hs : SqL K H a (ns.map V.int)) (e : ns.findIdx? (· == i) = some k) (q : Q (.int (k : Nat)) H) : rIndex K (.ref a) [.int i] H Q := by
  obtain ⟨h1, h2⟩ := find_at e
  refine ⟨a, ns.map V.int, .int i, k, .int i, rfl, rfl, hs, rfl, flat_ints ns, by rw [List.getElem?_map, h1]; rfl, beq_self_eq_true i, fun m z' hm hz => ?_, q⟩
  rw [List.getElem?_map] at hz
  cases hy : ns[m]? with
  | none => rw [hy] at hz; cases hz
  | some y =>
    rw [hy] at hz
    cases hz
    show (y == i) = false
    exact beq_eq_false_iff_ne.mpr fun e => h2 m hm (by rw [hy, e])
theorem eo_lix {o a : Expr} {fo fa : Env → R D} {apos pos : Pos} (hK : E.k.K = X.K) (ho : EV X E W o fo) (ha : EV X E W a fa)
    (hbase : attributeBase o "index" X.env (eval o X.env) = eval o X.env := by rfl)
    (hfew : ((backTo pos (starEach [a] X.env)).all (fun x => !x.1) && (backToKw pos (keywordEach [] X.env)).all (fun x => x.1.isSome)
      && decide (([a] : List Expr).length + ([] : List Keyword).length + (if ([] : List Keyword).isEmpty then 0 else 1) < 30)) = true := by rfl)
    (hline : (apos.endLine == pos.line) = true := by rfl) (hs : starEach [a] X.env = (false, eval a X.env) :: starEach [] X.env := by rfl) (hplain : (backTo pos (starEach [] X.env)).any (·.1) = false := by rfl) :
    EO X E W (.Call (.Attribute o "index" apos) [a] [] pos) (eLix fo fa) := by
  refine ⟨pe_mono (pe_bm PySem.F.plainAttrs_list PySem.F.slot_list_index PySem.F.type_list_index mt_index ho.pe (pa_cons ha.pe pa_nil hs) hbase hfew hline hs hplain) fun σ H Q q => ?_⟩
  obtain ⟨F, ρ, s, q⟩ := q
  refine ⟨F, ρ, s, Res.mono q.bind (fun x _ q F1 H1 v A t1 r1 => ?_) fun c _ z F' H' t => z F' H' t⟩
  cases en : lInts x with
  | none => rw [en] at q; exact q.elim
  | some ns =>
    rw [en] at q
    obtain ⟨b, rfl, sq⟩ := lInts_sq t1.fh r1 en
    rw [hK] at sq
    refine ⟨.inl ⟨rfl, _, sq⟩, F1, ρ, s.tr t1, Res.mono q.bind (fun y _ q F2 H2 w B t2 r2 => ?_) fun c _ z F' H' t => z F' H' (t1.trans t)⟩
    obtain ⟨d', e, p⟩ := Res.opt q
    obtain ⟨k, ek, e⟩ := Option.map_eq_some_iff.mp e
    subst e
    have g : Q (.int (k : Int)) H2 := p F2 H2 (.int (k : Int)) [] (t1.trans t2) ⟨rfl, rfl⟩ List.nodup_nil fun _ z => nomatch z
    cases y with
    | int i =>
      obtain ⟨ns', en', ei⟩ := Option.bind_eq_some_iff.mp (show (lInts x).bind (fun ns => ns.findIdx? (· == i)) = some k from ek)
      rw [en] at en'
      cases en'
      rw [r2.1]
      exact rIndex_ints (ex_l t2.hh sq) ei g
    | _ => cases ek
end Dv
end
section
set_option maxRecDepth 100000
set_option maxHeartbeats 1000000
namespace Dv
open PySem PySem.Spec PyProof.Rows L2
/-! ## a list of the def's own, frozen for one expression alone -/
variable {X : Cx} {E : En} {W : WX}
theorem tr_back {F F0 H F1 H1 : Hp} (fh : Ex F H) (x : Ex F F0) (t : Tr F0 H F1 H1) : Tr F H F H1 := ⟨.refl _, t.hh, fun a o e => t.hh a o (fh a o e), fun _ e _ => e⟩
/-- a test -/
def tLend (i : Nat) (t : Env → R Bool) : Env → R Bool := fun ρ => t (frzAt i ρ)
@[simp] theorem tLend_eq (i : Nat) (t : Env → R Bool) (ρ : Env) : tLend i t ρ = t (frzAt i ρ) := rfl
theorem et_lend {c : Expr} {t : Env → R Bool} (i : Nat) (hb : i ∉ E.bs) (h : ET X E W c t) : ET X E W c (tLend i t) := by
  refine ⟨pt_mono h.pt fun σ H Q q => ?_⟩
  obtain ⟨F, ρ, s, q⟩ := q
  obtain ⟨F', x, s'⟩ := s.frz i hb
  exact ⟨F', _, s', Res.mono q (fun b _ q F1 H1 t1 => q F H1 (tr_back s.fh x t1)) fun c _ z F1 H1 t1 => z F H1 (tr_back s.fh x t1)⟩
/-- neither a list nor a tuple nor a dict -/
def D.flat : D → Bool
  | .non => true | .bl _ => true | .int _ => true | .str _ => true
  | _ => false
theorem Rp.flat {k : Kx} {F H F' H' : Hp} : ∀ {d : D} {v : V} {A : List Addr}, d.flat = true → Rp k F H d v A → Rp k F' H' d v []
  | .non, _, _, _, r => ⟨r.1, rfl⟩
  | .bl _, _, _, _, r => ⟨r.1, rfl⟩
  | .int _, _, _, _, r => ⟨r.1, rfl⟩
  | .str _, _, _, _, r => ⟨r.1, rfl⟩
/-- a number, text or truth value got with a list frozen meanwhile -/
def eLend (i : Nat) (f : Env → R D) : Env → R D := fun ρ => (f (frzAt i ρ)).bind fun d => if d.flat = true then .ok d else .no
@[simp] theorem eLend_eq (i : Nat) (f : Env → R D) (ρ : Env) : eLend i f ρ = (f (frzAt i ρ)).bind fun d => if d.flat = true then .ok d else .no := rfl
theorem eo_lend {e : Expr} {f : Env → R D} (i : Nat) (hb : i ∉ E.bs) (h : EV X E W e f) : EO X E W e (eLend i f) := by
  refine ⟨pe_mono h.pe fun σ H Q q => ?_⟩
  obtain ⟨F, ρ, s, q⟩ := q
  obtain ⟨F', x, s'⟩ := s.frz i hb
  refine ⟨F', _, s', Res.mono q.bind (fun d _ q F1 H1 v A t1 r1 => ?_) fun c _ z F1 H1 t1 => z F H1 (tr_back s.fh x t1)⟩
  by_cases c : d.flat = true
  · rw [if_pos c] at q
    exact q F H1 v [] (tr_back s.fh x t1) (Rp.flat c r1) .nil fun _ z => nomatch z
  · rw [if_neg c] at q; exact q.elim
@[simp] theorem flat_int (n : Int) : D.flat (.int n) = true := rfl
@[simp] theorem flat_str (x : Str) : D.flat (.str x) = true := rfl
@[simp] theorem flat_bl (b : Bool) : D.flat (.bl b) = true := rfl
@[simp] theorem flat_non : D.flat .non = true := rfl
end Dv
end
section
set_option maxRecDepth 100000
set_option maxHeartbeats 1000000
namespace Dv
open PySem PySem.Spec PyProof.Rows L2
/-! ## a text times a number -/
variable {X : Cx} {E : En} {W : WX}
def srep (a : Str) (k : Int) : Str := ⟨(List.replicate k.toNat a.cps).foldl (· ++ ·) #[]⟩
def SrOk (a : Str) (k : Int) : Prop := 2 ≤ k ∧ k ≤ 1000 ∧ 0 < a.length ∧ a.length ≤ 1000 ∧ (srep a k).length ≤ 1000000
instance (a : Str) (k : Int) : Decidable (SrOk a k) := by unfold SrOk; infer_instance
def rSRep : R2 := fun x y H Q => ∃ a k, x = .str a ∧ y = .int k ∧ SrOk a k ∧ Q (.str (srep a k)) H
theorem op_srep : OpR X (binaryOp .Mult) rSRep := by
  intro pins s σ H x y v u Q I rx ry h
  obtain ⟨a, k, rfl, rfl, ⟨h1, h2, h3, h4, h5⟩, q⟩ := h
  obtain ⟨t, rfl⟩ := rx
  obtain ⟨t2, rfl⟩ := ry
  have n1 : ¬ k < 1 := by omega
  have e0 : (k == 1 || a.length == 0) = false := by
    rw [Bool.or_eq_false_iff]
    exact ⟨beq_eq_false_iff_ne.mpr (by omega), beq_eq_false_iff_ne.mpr (by omega)⟩
  refine PySem.P.mul_str ?_ (fun _ _ => ?_) (fun _ _ => ?_) ?_
  · rw [decide_eq_false (by omega), decide_eq_false (by omega)]; rfl
  · have : (1000 : Int) ≤ (2 ^ 63 - 1) / k := Int.le_ediv_of_mul_le (by omega) (by omega)
    omega
  · unfold Builtin.Str.tooLong
    have : a.length * k.toNat ≤ 1000 * 1000 := Nat.mul_le_mul h4 (by omega)
    have := sizeLine_eq
    exact decide_eq_false (by omega)
  · rw [if_neg n1, e0]
    have := sizeLine_eq
    exact ⟨show (srep a k).length ≤ sizeLine by omega, ⟨.str (srep a k), H, I.tok _, ⟨_, rfl⟩, q⟩⟩
/-- a constant text times a constant number -/
def gMulS : D → D → Option D
  | .str a, .int k => if SrOk a k then some (.str (srep a k)) else none
  | _, _ => none
@[simp] theorem gMulS_str (a : Str) (k : Int) : gMulS (.str a) (.int k) = if SrOk a k then some (.str (srep a k)) else none := rfl
theorem says_mulS : Says2 E rSRep gMulS := by
  intro F H x y v w A B Q d fh rx ry e g
  cases x with
  | str a =>
    cases y with
    | int j =>
      obtain ⟨z, e⟩ := if_some e
      cases e
      exact ⟨a, j, rx.1, ry.1, z, g.scal fh fun _ _ => ⟨rfl, rfl⟩⟩
    | _ => cases e
  | _ => cases e
theorem eo_mulS {a b : Expr} {fa fb : Env → R D} {pos : Pos} (ha : EV X E W a fa) (hb : EV X E W b fb) : EO X E W (.BinOp a .Mult b pos) (e2 gMulS fa fb) := eo_op op_srep says_mulS ha hb
end Dv
end
section
set_option maxRecDepth 100000
set_option maxHeartbeats 1000000
namespace Dv
open PySem PySem.Spec PyProof.Rows L2
/-! defs that call themselves: at the bottom nothing is said -/
theorem fn_no {P : Program} {w : World} {K : PySem.W.Frag} {mg : Str → Option Value} {base : Heap} {CX : CXT} {k n : Nat} {f : Addr} {fd : FuncData} {ps : List Str} {kx : Kx} {ec : Nat → Value} : FnOk P w K mg base CX k f fd ps (spD kx ec n fun _ => .no) :=
  ⟨fun vs H Q E h => by
    obtain ⟨F, ds, _, _, _, _, h⟩ := h
    exact h.elim, fun A outer s H args us vs Q E _ _ _ _ h => by
    obtain ⟨F, ds, _, _, _, _, h⟩ := h
    exact h.elim⟩
end Dv
end
section
set_option maxRecDepth 100000
set_option maxHeartbeats 1000000
namespace Dv
open PySem PySem.Spec PyProof.Rows L2
/-! ## dicts whose keys are tuples of ints and texts -/
section
variable {X : Cx} {pins : List (Addr × Obj)} {σ : L2.St} {H : Hp} {s : Shared} {a b : Addr} {r : Value} {d : V} {k : List Key} {A : Around} {E : Value → Shared → Prop}
theorem d_setdT {kvs : List (List Key × V)} {Q : Value → Shared → Prop} (hu : A.units + 1 < cLine) (I : Inv X pins σ H s) (e : H a = some (.dT kvs)) (eb : H b = some (.tup (k.map kV))) (rd : RelV d r) (hl : kvs.length < sizeLine)
    (h1 : ∀ v, valV kvs k = some v → ∀ (w' : Value) (s' : Shared), Inv X pins σ H s' → RelV v w' → Q w' s') (h2 : valV kvs k = none → ∀ (w' : Value) (s' : Shared), Inv X pins σ (upd H a (.dT (putK kvs k d))) s' → RelV d w' → Q w' s') :
    wpAny (model X.prog X.w) A (call (.builtin "dict.setdefault") [.ref a, .ref b, r]) Q E s := by
  obtain ⟨z, hd, xs', rel, dd⟩ := dt_of I.hok e
  have hz : xs'.length ≤ sizeLine := by rw [← Paired.length rel]; exact z
  refine call_setdefault_heap (knd := tupleKind (mixKind X.prog X.w)) (k := k) (tupleKind_room_in1 hu) (key_of I.hok eb) hd dd (fun p hp => ?_) (fun hn h' dd' hs => ?_) hz
  · have q := rel.val k
    rw [hp] at q
    cases q0 : valV kvs k with
    | none =>
      rw [q0] at q
      exact (show False from q).elim
    | some v0 =>
      rw [q0] at q
      exact h1 v0 q0 _ _ (I.tok _) q
  · have q := rel.val k
    rw [hn] at q
    cases q0 : valV kvs k with
    | some v0 =>
      rw [q0] at q
      exact (show False from q).elim
    | none =>
      have hl2 : (putK kvs k d).length ≤ sizeLine := by
        have := length_putK kvs k d
        omega
      obtain ⟨o, es, ep, hq, g2, g3, g4, _, g5⟩ := dd'
      exact h2 q0 _ _ (d_write (t' := s.toks + (tupleKind (mixKind X.prog X.w)).draws k) I (by rw [e]; exact True.intro) hs ⟨o, hq⟩ ⟨hl2, hd, _, (rel.put k eb rd).keeps (fun c ys ec => (by rw [upd_ne (ne_of ec e (fun z => nomatch z))]; exact ec)), o, es, ep, hq, g2, g3, g4, g5⟩) rd
end
/-- d.setdefault(y, z), the key a tuple -/
def tDSetdT (td ty tx : TE) : TE := fun σ H Q => td σ H fun x H1 => ∃ a, x = .ref a ∧ IsD H1 a ∧ ty σ H1 fun y H2 => tx σ H2 fun z H3 => ∃ (kvs : List (List Key × V)) (k : List Key) (b : Addr), H3 a = some (.dT kvs) ∧ y = .ref b ∧ H3 b = some (.tup (k.map kV)) ∧ kvs.length < sizeLine ∧
  (∀ v, valV kvs k = some v → Q v H3) ∧ (valV kvs k = none → Q z (upd H3 a (.dT (putK kvs k z))))
section
variable {X : Cx} {o e f : Expr} {td ty tx : TE} {apos cpos : Pos}
theorem pe_dsetdT (hu : X.A.units + 1 < cLine) (ho : PE X o td) (he : PE X e ty) (hf : PE X f tx) (m : M2 X o "setdefault" apos e f cpos) : PE X (.Call (.Attribute o "setdefault" apos) [e, f] [] cpos) (tDSetdT td ty tx) := by
  refine ⟨fun pins s σ H Q I h => ?_⟩
  refine wpAny_Call_method m.base m.few m.line PySem.F.plainAttrs_dict PySem.F.slot_dict_setdefault PySem.F.type_dict_setdefault (thn (ho.run pins s σ H _ I h) fun u s1 ⟨x, H1, I1, rx, a, ex, d, q1⟩ => ?_)
  subst ex
  obtain rfl : u = Value.ref a := rx
  obtain ⟨t1, t2, _⟩ := isD_at I1 d
  refine ⟨t1, t2, ?_⟩
  rw [m.trees]
  refine Calls.callWith_builtin rfl (Calls.evalArgs_plain (Calls.spliced_cons (thn (he.run pins s1 σ H1 _ I1 q1) fun iv s2 ⟨y, H2, I2, ry, q2⟩ =>
    Calls.spliced_cons (thn (hf.run pins s2 σ H2 _ I2 q2) fun fv s3 ⟨z, H3, I3, rz, kvs, k, b, ea, ey, eb, hl, q3, q4⟩ => Calls.spliced_nil ?_))))
  subst ey
  obtain rfl : iv = Value.ref b := ry
  exact d_setdT hu I3 ea eb rz hl (fun v hv w' s4 I4 rw' => ⟨v, _, I4, rw', q3 v hv⟩) fun hn w' s4 I4 rw' => ⟨z, _, I4, rw', q4 hn⟩
end
section
variable {X : Cx} {E : En} {W : WX}
/-! ### keys -/
def keyOf : D → Option Key
  | .int i => some (.inl i)
  | .str x => some (.inr x)
  | _ => none
def keysOf : List D → Option (List Key)
  | [] => some []
  | x :: xs => (keyOf x).bind fun k => (keysOf xs).map fun ks => k :: ks
@[simp] theorem keysOf_nil : keysOf [] = some [] := rfl
@[simp] theorem keysOf_int (i : Int) (xs : List D) : keysOf (.int i :: xs) = (keysOf xs).map fun ks => Sum.inl i :: ks := rfl
@[simp] theorem keysOf_str (i : Str) (xs : List D) : keysOf (.str i :: xs) = (keysOf xs).map fun ks => Sum.inr i :: ks := rfl
theorem keys_rp {k : Kx} {F H : Hp} : ∀ {ds : List D} {vs : List V} {A : List Addr} {ks : List Key}, RpL k F H ds vs A → keysOf ds = some ks → vs = ks.map kV
  | [], vs, A, ks, r, e => by
    cases e
    exact r.1
  | d :: ds, vs, A, ks, r, e => by
    obtain ⟨v, ws, B, C, rfl, rfl, r1, r2⟩ := r
    obtain ⟨x, ex, e⟩ := Option.bind_eq_some_iff.mp e
    obtain ⟨xs, exs, rfl⟩ := Option.map_eq_some_iff.mp e
    rw [keys_rp r2 exs, List.map_cons]
    congr 1
    cases d with
    | int i => cases ex; exact r1.1
    | str i => cases ex; exact r1.1
    | _ => cases ex
/-- of an expression that is a new tuple of ints and texts -/
def tK (E : En) (W : WX) (f : Env → R (List Key)) : TE := fun σ H Q => ∃ F ρ, Stt E F H σ ρ ∧
  Res (f ρ) (fun ks => ∀ F' H' b, Tr F H F' H' → H' b = some (.tup (ks.map kV)) → Q (.ref b) H') (fun c => ∀ F' H', Tr F H F' H' → W (E.ec c) none σ H')
structure EK (X : Cx) (E : En) (W : WX) (e : Expr) (f : Env → R (List Key)) : Prop where
  pe : PE X e (tK E W f)
/-- tuple(list) -/
def kTup (f : Env → R D) : Env → R (List Key) := fun ρ => (f ρ).bind fun d => match d with
  | .lst _ xs => R.opt (keysOf xs)
  | _ => .no
theorem kTup_eq (f : Env → R D) (ρ : Env) : kTup f ρ = (f ρ).bind fun d => match d with
  | .lst _ xs => R.opt (keysOf xs)
  | _ => .no := rfl
theorem ek_tup {x : Str} {p pos : Pos} {e : Expr} {f : Env → R D} (h : EV X E W e f) (gl : Gl X x) (hm : X.mg x = none) (hv : bootBuiltins x = some (.type "tuple")) (hn : x ≠ "__name__" := by decide) (hdb : (x == ("__debug__" : Str)) = false := by decide)
    (hs : starEach [e] X.env = (false, eval e X.env) :: starEach [] X.env := by rfl) (hpl : (backTo pos (starEach [] X.env)).any (·.1) = false := by rfl) : EK X E W (.Call (.Name x p) [e] [] pos) (kTup f) := by
  refine ⟨pe_mono (pe_callTy call_tuple_of gl hm hv (pa_cons h.pe pa_nil hs) hn hdb hs hpl) fun σ H Q h => ?_⟩
  obtain ⟨F, ρ, s, q⟩ := h
  refine ⟨F, ρ, s, Res.mono q.bind (fun d _ q F1 H1 v A t1 r1 => ?_) fun c _ z F' H' t => z F' H' t⟩
  cases d with
  | lst o xs =>
    obtain ⟨ks, ek, p⟩ := Res.opt (show Res (R.opt (keysOf xs)) _ _ from q)
    obtain ⟨a, vs, B, rfl, hl, rl⟩ := Rp.lstW t1.fh r1
    refine ⟨a, vs, rfl, .inl ⟨.inl (.inl hl), fun l hl0 => ?_⟩⟩
    have hf : F1 l = none := by
      cases q0 : F1 l with
      | none => rfl
      | some u => rw [t1.fh l u q0] at hl0; cases hl0
    exact p _ _ l (t1.trans (tr_newF t1.fh hl0)) (by rw [upd_same, keys_rp rl ek])
  | _ => exact (show False from q).elim
/-! ### looking at a dict -/
def kIx (ks : List (List Key)) (k : List Key) : Option Nat := ks.findIdx? fun x => decide (x = k)
theorem valV_zip : ∀ (ks : List (List Key)) (vs : List V) (k : List Key), ks.length = vs.length → valV (ks.zip vs) k = (kIx ks k).bind fun j => vs[j]?
  | [], vs, k, _ => rfl
  | x :: ks, [], k, h => by simp at h
  | x :: ks, v :: vs, k, h => by
    have ih := valV_zip ks vs k (by simpa using h)
    rw [List.zip_cons_cons]
    unfold kIx at ih ⊢
    rw [List.findIdx?_cons]
    by_cases e : x = k
    · rw [valV_pos (by exact e), decide_eq_true e]; rfl
    · rw [valV_neg (by exact e), ih, decide_eq_false e]
      cases ks.findIdx? (fun x => decide (x = k)) with
      | none => rfl
      | some j => simp
theorem Rp.ditW {k : Kx} {F H : Hp} {o : Bool} {ks : List (List Key)} {xs : List D} {v : V} {A : List Addr} (fh : Ex F H) (h : Rp k F H (.dit o ks xs) v A) : ∃ a vs B, v = .ref a ∧ H a = some (.dT (ks.zip vs)) ∧ ks.length = vs.length ∧ RpL k F H xs vs B := by
  obtain ⟨a, vs, B, e, l, r, h1, h2⟩ := h
  refine ⟨a, vs, B, e, ?_, l, r⟩
  cases o with
  | false => exact fh _ _ (h1 rfl).1
  | true => exact (h2 rfl).2.2
def gDget (d : D) (k : List Key) (z : D) : Option D := match d with
  | .dit _ ks xs => match kIx ks k with
    | some j => xs[j]?
    | none => some z
  | _ => none
theorem gDget_dit (o : Bool) (ks : List (List Key)) (xs : List D) (k : List Key) (z : D) : gDget (.dit o ks xs) k z = match kIx ks k with
    | some j => xs[j]?
    | none => some z := rfl
def isDit : D → Bool
  | .dit _ _ _ => true
  | _ => false
@[simp] theorem isDit_dit (o : Bool) (ks : List (List Key)) (xs : List D) : isDit (.dit o ks xs) = true := rfl
/-- d.get(key, z) -/
def eDget (fo : Env → R D) (fk : Env → R (List Key)) (fz : Env → R D) : Env → R D := fun ρ => (fo ρ).bind fun d => if isDit d = true then (fk ρ).bind fun k => (fz ρ).bind fun z => R.opt (gDget d k z) else .no
@[simp] theorem eDget_eq (fo : Env → R D) (fk : Env → R (List Key)) (fz : Env → R D) (ρ : Env) : eDget fo fk fz ρ = (fo ρ).bind fun d => if isDit d = true then (fk ρ).bind fun k => (fz ρ).bind fun z => R.opt (gDget d k z) else .no := rfl
theorem ev_dget {o e f : Expr} {apos cpos : Pos} {fo fz : Env → R D} {fk : Env → R (List Key)} (hu : X.A.units + 65 < cLine) (ho : EV X E W o fo) (he : EK X E W e fk) (hf : EV X E W f fz) (m : M2 X o "get" apos e f cpos := by exact ⟨rfl, rfl, rfl, rfl⟩) :
    EV X E W (.Call (.Attribute o "get" apos) [e, f] [] cpos) (eDget fo fk fz) := by
  refine ⟨pe_mono (pe_dget2 (by omega) ho.pe he.pe hf.pe m) fun σ H Q h => ?_⟩
  obtain ⟨F, ρ, s, q⟩ := h
  refine ⟨F, ρ, s, Res.mono q.bind (fun x _ q F1 H1 v A t1 r1 => ?_) fun c _ z F' H' t => z F' H' t⟩
  by_cases hd : isDit x = true
  · rw [if_pos hd] at q
    cases x with
    | dit o ks xs =>
      obtain ⟨a, vs, B, rfl, ha, hl, rl⟩ := Rp.ditW t1.fh r1
      refine ⟨a, rfl, .inr ⟨_, .inl ha⟩, F1, ρ, s.tr t1, Res.mono q.bind (fun k _ q F2 H2 b t2 hb => ?_) fun c _ z F' H' t => z F' H' (t1.trans t)⟩
      have t12 := t1.trans t2
      refine ⟨F2, ρ, s.tr t12, Res.mono q.bind (fun z _ q F3 H3 w C t3 rz => ?_) fun c _ z F' H' t => z F' H' (t12.trans t)⟩
      have t := t12.trans t3
      obtain ⟨d', e, p⟩ := Res.opt q
      refine ⟨_, DGet.t (t3.hh _ _ (t2.hh _ _ ha)) (t3.hh _ _ hb), ?_⟩
      rw [valV_zip ks vs k hl]
      rw [gDget_dit] at e
      cases ej : kIx ks k with
      | none =>
        rw [ej] at e
        cases e
        exact p F3 H3 w C t rz
      | some j =>
        rw [ej] at e
        obtain ⟨v, A1, B1, A3, hv, _, rv, _⟩ := rl.nth (show xs[j]? = some d' from e)
        show Q ((vs[j]?).getD w) H3
        rw [hv]
        exact p F3 H3 v B1 t ((rv.tr t2).tr t3)
    | _ => exact absurd hd (by simp [isDit])
  · rw [if_neg hd] at q
    exact q.elim
/-- {} whose keys will be tuples -/
theorem eo_ditN {pos : Pos} : EO X E W (.Dict [] [] pos) (eC (.dit true [] [])) := by
  refine ⟨pe_mono pe_dnewT fun σ H Q ⟨F, ρ, s, q⟩ => ?_⟩
  intro d hd
  have hf : F d = none := by
    cases q0 : F d with
    | none => rfl
    | some u => rw [s.fh d u q0] at hd; cases hd
  exact q F _ (.ref d) [d] (tr_new s.fh hd) ⟨d, [], [], rfl, rfl, ⟨rfl, rfl⟩, (fun z => nomatch z), fun _ => ⟨rfl, hf, upd_same⟩⟩ (by simp) fun a ha => by rw [List.mem_singleton.mp ha]; exact hd
/-! ### d.setdefault(key, []).append(e) -/
/-- what stands around a list within a slot's object -/
theorem nst_core {F H : Hp} {σ : L2.St} {ρ : Env} {fp : Nat → List Addr} {i n : Nat} {ys : List D} (s : Stt E F H σ ρ) (sl : Sl E F H σ ρ fp) : ∀ (xs : List D) (vs : List V) (A P : List Addr), fp i = P ++ A → RpL E.k F H xs vs A → xs[n]? = some (.lst true ys) →
      ∃ l ws B, vs[n]? = some (.ref l) ∧ H l = some (.lst ws) ∧ RpL E.k F H ys ws B ∧ (∀ a ∈ B, a ∈ fp i) ∧ B.Nodup ∧ l ∈ fp i ∧ l ∉ P ∧
        ∀ F' H', Tr F H F' H' → ∀ ys' ws' C, RpL E.k F' H' ys' ws' C → C.Nodup → (∀ a ∈ C, a ∈ B ∨ (E.He a = none ∧ ∀ j, a ∉ fp j)) →
          ∃ A', RpL E.k F' (upd H' l (.lst ws')) (xs.set n (.lst true ys')) vs A' ∧ (P ++ A').Nodup ∧ ∀ a ∈ P ++ A', a ∈ fp i ∨ (E.He a = none ∧ ∀ j, a ∉ fp j) := by
  have ndi := sl.nd i
  intro xs vs A P eA rl ex
  obtain ⟨v, A1, B0, A3, g1, rfl, g3, g4⟩ := rl.nth ex
  obtain ⟨l, ws, B, rfl, rfl, fl, hl, rB⟩ := lstO g3
  rw [eA] at ndi
  have n1 := List.nodup_append.mp ndi
  have n2 := List.nodup_append.mp n1.2.1
  have n3 := List.nodup_append.mp n2.1
  have n4 := List.nodup_cons.mp n3.2.1
  have lfp : l ∈ fp i := by rw [eA]; simp
  have Bfp : ∀ a ∈ B, a ∈ fp i := fun a ha => by rw [eA]; simp [ha]
  refine ⟨l, ws, B, g1, hl, rB, Bfp, n4.2, lfp, fun z => n1.2.2 l z l (by simp) rfl, fun F' H' t ys' ws' C rC nC uC => ?_⟩
  have lC : l ∉ C := fun z => (uC l z).elim n4.1 fun h => h.2 i lfp
  have notC : ∀ a, a ∈ fp i → a ∉ B → a ∉ C := fun a ha hb z => (uC a z).elim hb fun h => h.2 i ha
  refine ⟨A1 ++ (l :: C) ++ A3, g4 F' (upd H' l (.lst ws')) (.lst true ys') (l :: C) t.ff (fun a ha o e n => ?_) ⟨l, ws', C, rfl, rC.upd lC, (fun z => nomatch z), fun _ => ⟨rfl, t.no l fl (by rw [hl]; exact fun z => nomatch z), upd_same⟩⟩, ?_, fun a ha => ?_⟩
  · rw [upd_ne fun z => ?_]
    · exact ⟨t.hh a o e, t.no a n (by rw [e]; exact fun z => nomatch z)⟩
    · subst z
      rcases ha with ha | ha
      · exact n3.2.2 a ha a List.mem_cons_self rfl
      · exact n2.2.2 a (by simp) a ha rfl
  · have fpm : ∀ a, a ∈ P ∨ a ∈ A1 ∨ a ∈ A3 → a ∈ fp i := fun a ha => by rw [eA]; rcases ha with h | h | h <;> simp [h]
    have nB : ∀ a, a ∈ P ∨ a ∈ A1 ∨ a ∈ A3 → a ∉ l :: B := fun a ha hb => by
      rcases ha with h | h | h
      · exact n1.2.2 a h a (by rcases List.mem_cons.mp hb with z | z <;> simp [z]) rfl
      · exact n3.2.2 a h a hb rfl
      · exact n2.2.2 a (List.mem_append_right _ hb) a h rfl
    have nlC : ∀ a, a ∈ P ∨ a ∈ A1 ∨ a ∈ A3 → a ∉ l :: C := fun a ha hb => by
      rcases List.mem_cons.mp hb with z | z
      · exact nB a ha (by rw [z]; exact List.mem_cons_self)
      · exact notC a (fpm a ha) (fun y => nB a ha (List.mem_cons_of_mem _ y)) z
    refine List.nodup_append.mpr ⟨n1.1, List.nodup_append.mpr ⟨List.nodup_append.mpr ⟨n3.1, List.nodup_cons.mpr ⟨lC, nC⟩, fun a ha b hb z => ?_⟩, n2.2.1, fun a ha b hb z => ?_⟩, fun a ha b hb z => ?_⟩
    · subst z; exact nlC a (.inr (.inl ha)) hb
    · subst z
      rcases List.mem_append.mp ha with ha | ha
      · exact n2.2.2 a (List.mem_append_left _ ha) a hb rfl
      · exact nlC a (.inr (.inr hb)) ha
    · subst z
      rcases List.mem_append.mp hb with hb | hb
      · rcases List.mem_append.mp hb with hb | hb
        · exact n1.2.2 a ha a (by simp [hb]) rfl
        · exact nlC a (.inl ha) hb
      · exact n1.2.2 a ha a (by simp [hb]) rfl
  · rcases List.mem_append.mp ha with ha | ha
    · exact .inl (by rw [eA]; simp [ha])
    · rcases List.mem_append.mp ha with ha | ha
      · rcases List.mem_append.mp ha with ha | ha
        · exact .inl (by rw [eA]; simp [ha])
        · rcases List.mem_cons.mp ha with rfl | ha
          · exact .inl lfp
          · exact (uC a ha).imp_left fun h => Bfp a h
      · exact .inl (by rw [eA]; simp [ha])
/-- the dict in a slot may get another table -/
theorem Stt.dt {F H : Hp} {σ : L2.St} {ρ : Env} {fp : Nat → List Addr} {i : Nat} {ks : List (List Key)} {xs : List D} (s : Stt E F H σ ρ) (sl : Sl E F H σ ρ fp) (e : ρ[i]? = some (some (.dit true ks xs))) :
    ∃ a vs B, σ[i]? = some (some (.ref a)) ∧ H a = some (.dT (ks.zip vs)) ∧ ks.length = vs.length ∧ RpL E.k F H xs vs B ∧ fp i = a :: B ∧
      ∀ ks' xs' vs' C, ks'.length = vs'.length → RpL E.k F H xs' vs' C → C.Nodup → (∀ b ∈ C, b ∈ B ∨ (E.He b = none ∧ ∀ j, b ∉ fp j)) → Stt E F (upd H a (.dT (ks'.zip vs'))) σ (ρ.set i (some (.dit true ks' xs'))) := by
  obtain ⟨v, ev, r⟩ := sl.rp i _ e
  obtain ⟨a, vs, B, rfl, l, rl, _, h2⟩ := r
  obtain ⟨eA, fl, hl⟩ := h2 rfl
  have lfp : a ∈ fp i := by rw [eA]; exact List.mem_cons_self
  have Bfp : ∀ b ∈ B, b ∈ fp i := fun b hb => by rw [eA]; exact List.mem_cons_of_mem _ hb
  have ndi := sl.nd i
  rw [eA] at ndi
  have lB : a ∉ B := (List.nodup_cons.mp ndi).1
  refine ⟨a, vs, B, ev, hl, l, rl, eA, fun ks' xs' vs' C hl' rC nC uC => ?_⟩
  have lC : a ∉ C := fun z => (uC a z).elim lB fun h => h.2 i lfp
  refine s.write sl (v := .ref a) (A' := a :: C) lfp ev ⟨a, vs', C, rfl, hl', rC.upd lC, (fun z => nomatch z), fun _ => ⟨rfl, fl, upd_same⟩⟩ (List.nodup_cons.mpr ⟨lC, nC⟩) fun b hb => ?_
  rcases List.mem_cons.mp hb with rfl | hb
  · exact .inl lfp
  · exact (uC b hb).imp_left fun h => Bfp b h
/-- the list under a key may get other items -/
theorem Stt.dst {F H : Hp} {σ : L2.St} {ρ : Env} {fp : Nat → List Addr} {i n : Nat} {ks : List (List Key)} {xs ys : List D} (s : Stt E F H σ ρ) (sl : Sl E F H σ ρ fp) (e : ρ[i]? = some (some (.dit true ks xs))) (ex : xs[n]? = some (.lst true ys)) :
    ∃ a vs l ws B, σ[i]? = some (some (.ref a)) ∧ H a = some (.dT (ks.zip vs)) ∧ ks.length = vs.length ∧ vs[n]? = some (.ref l) ∧ H l = some (.lst ws) ∧ RpL E.k F H ys ws B ∧ (∀ a ∈ B, a ∈ fp i) ∧ B.Nodup ∧
      ∀ F' H', Tr F H F' H' → ∀ ys' ws' C, RpL E.k F' H' ys' ws' C → C.Nodup → (∀ a ∈ C, a ∈ B ∨ (E.He a = none ∧ ∀ j, a ∉ fp j)) → Stt E F' (upd H' l (.lst ws')) σ (ρ.set i (some (.dit true ks (xs.set n (.lst true ys'))))) := by
  obtain ⟨v, ev, r⟩ := sl.rp i _ e
  obtain ⟨a, vs, A, rfl, hlen, rl, _, g2⟩ := r
  obtain ⟨eA, fa, ha⟩ := g2 rfl
  obtain ⟨l, ws, B, h1, h2, h3, h4, h5, h6, h7, h8⟩ := nst_core s sl xs vs A [a] eA rl ex
  refine ⟨a, vs, l, ws, B, ev, ha, hlen, h1, h2, h3, h4, h5, fun F' H' t ys' ws' C rC nC uC => ?_⟩
  obtain ⟨A', k1, k2, k3⟩ := h8 F' H' t ys' ws' C rC nC uC
  have na : a ≠ l := fun z => h7 (by rw [z]; exact List.mem_singleton_self _)
  exact (s.tr t).write (sl.tr t) (v := .ref a) (A' := a :: A') h6 ev ⟨a, vs, A', rfl, hlen, k1, (fun z => nomatch z), fun _ => ⟨rfl, t.no a fa (by rw [ha]; exact fun z => nomatch z), by rw [upd_ne na]; exact t.hh _ _ ha⟩⟩ k2 k3
/-- the table behind setdefault(key, []), and the key's place -/
def dSd (ks : List (List Key)) (xs : List D) (k : List Key) : Option (List (List Key) × List D × Nat) := match kIx ks k with
  | some j => if ks.length < 16777216 then some (ks, xs, j) else none
  | none => if ks.length < 16777216 then some (ks ++ [k], xs ++ [.lst true []], ks.length) else none
def dB (i : Nat) (ks : List (List Key)) (xs : List D) (j : Nat) (f : Env → R D) : Env → SR := fun ρ => match xs[j]? with
  | some (.lst true ys) => (f ρ).st ρ fun d => if ys.length < 16777216 then .nx (ρ.set i (some (.dit true ks (xs.set j (.lst true (ys ++ [d])))))) else .no
  | _ => .no
def dApp (i : Nat) (fk : Env → R (List Key)) (f : Env → R D) : Env → SR := fun ρ => match ρ[i]?.getD none with
  | some (.dit true ks xs) => (fk ρ).st ρ fun k => match dSd ks xs k with
    | some (ks1, xs1, j) => dB i ks1 xs1 j f (ρ.set i (some (.dit true ks1 xs1)))
    | none => .no
  | _ => .no
theorem set_same {ρ : Env} {i : Nat} {d : Option D} (e : ρ[i]? = some d) : ρ.set i d = ρ := by
  refine List.ext_getElem? fun j => ?_
  by_cases h : j = i
  · subst h
    rw [List.getElem?_set_self (List.getElem?_eq_some_iff.mp e).1, e]
  · rw [List.getElem?_set_ne fun z => h z.symm]
theorem dB_ok {Z : Ends} {F F1 H1 : Hp} {σ : L2.St} {ρ1 : Env} {i j : Nat} {ks : List (List Key)} {xs : List D} {vs : List V} {a : Addr} {v : V} {f : Env → R D} (x : Ex F F1) (s1 : Stt E F1 H1 σ ρ1) (e1 : ρ1[i]? = some (some (.dit true ks xs))) (ea : σ[i]? = some (some (.ref a))) (ha : H1 a = some (.dT (ks.zip vs))) (hl : ks.length = vs.length) (hv : vs[j]? = some v) (q : SRes E W F Z (dB i ks xs j f ρ1)) :
    tyV E.k.K "list" v H1 ∧ tCons (tO E W f) tNil σ H1 fun xs H2 => rAppend v xs H2 fun _ H3 => Z.nx σ H3 := by
  obtain ⟨fp, sl⟩ := s1.sl
  have q : SRes E W F Z (match xs[j]? with
    | some (.lst true ys) => (f ρ1).st ρ1 fun d => if ys.length < 16777216 then .nx (ρ1.set i (some (.dit true ks (xs.set j (.lst true (ys ++ [d])))))) else .no
    | _ => .no) := q
  split at q
  · rename_i ys ej
    obtain ⟨a', vs', l, ws, B, h1, h2, h3, h4, h5, h6, h7, h8, h9⟩ := s1.dst sl e1 ej
    rw [ea] at h1
    cases h1
    have evs : vs' = vs := by
      rw [ha] at h2
      have h2 := HO.dT.inj (Option.some.inj h2)
      have := congrArg (List.map Prod.snd) h2
      rw [List.map_snd_zip (by omega), List.map_snd_zip (by omega)] at this
      exact this.symm
    subst evs
    rw [hv] at h4
    cases h4
    refine ⟨ty_ref (k := E.k) h5, F1, ρ1, s1, Res.mono q.st (fun y _ q F2 H2 u C t2 r2 nd un => ?_) fun c _ z F' H' t => SRes.exc s1 (SRes.at z x) F' H' t⟩
    by_cases hz : ys.length < 16777216
    · rw [if_pos hz] at q
      have new : ∀ a ∈ C, E.He a = none ∧ ∀ j, a ∉ fp j := fun a ha => s1.fresh sl (un a ha)
      have rl := h6.tr t2
      refine ⟨l, ws, u, rfl, rfl, t2.hh _ _ h5, Nat.lt_of_lt_of_eq (by rw [← rl.len]; exact hz) sizeLine_eq.symm, q F2 _ σ (x.trans t2.ff) (h9 F2 H2 t2 (ys ++ [y]) (ws ++ [u]) (B ++ C) (rl.append (RpL.one r2)) ?_ fun a ha => ?_)⟩
      · refine List.nodup_append.mpr ⟨h8, nd, fun a ha b hb z => ?_⟩
        subst z
        exact (new a hb).2 i (h7 a ha)
      · rcases List.mem_append.mp ha with ha | ha
        · exact .inl ha
        · exact .inr (new a ha)
    · rw [if_neg hz] at q
      exact q.elim
  · exact q.elim
theorem ss_dApp {i : Nat} {o k z e : Expr} {fk : Env → R (List Key)} {f : Env → R D} {apos1 cpos1 apos cpos pos : Pos} (hK : E.k.K = X.K) (hu : X.A.units + 65 < cLine) (ho : PE X o (tVar i)) (hk : EK X E W k fk) (hz : EO X E W z (eLst aNil)) (h : EO X E W e f) (m : M2 X o "setdefault" apos1 k z cpos1 := by exact ⟨rfl, rfl, rfl, rfl⟩)
    (hs : swapsWith (.Call (.Attribute (.Call (.Attribute o "setdefault" apos1) [k, z] [] cpos1) "append" apos) [e] [] cpos) none pos.line X.env = pure false := by rfl)
    (hbase : attributeBase (.Call (.Attribute o "setdefault" apos1) [k, z] [] cpos1) "append" X.env (eval (.Call (.Attribute o "setdefault" apos1) [k, z] [] cpos1) X.env) = eval (.Call (.Attribute o "setdefault" apos1) [k, z] [] cpos1) X.env := by rfl)
    (hfew : ((backTo cpos (starEach [e] X.env)).all (fun x => !x.1) && (backToKw cpos (keywordEach [] X.env)).all (fun x => x.1.isSome)
      && decide ([e].length + ([] : List Keyword).length + (if ([] : List Keyword).isEmpty then 0 else 1) < 30)) = true := by rfl)
    (hline : (apos.endLine == cpos.line) = true := by rfl) (hst : starEach [e] X.env = (false, eval e X.env) :: starEach [] X.env := by rfl) (hplain : (backTo cpos (starEach [] X.env)).any (·.1) = false := by rfl) :
    SS X E W (.Expr (.Call (.Attribute (.Call (.Attribute o "setdefault" apos1) [k, z] [] cpos1) "append" apos) [e] [] cpos) pos) (dApp i fk f) := by
  refine ⟨ps_mono (ps_expr (pe_bm PySem.F.plainAttrs_list PySem.F.slot_list_append PySem.F.type_list_append mt_append (pe_dsetdT (by omega) ho hk.pe hz.pe m) (pa_cons h.pe pa_nil hst) hbase hfew hline hst hplain) hs) fun Z σ H h => ?_⟩
  obtain ⟨F, ρ, s, q⟩ := h
  have q : SRes E W F Z (match ρ[i]?.getD none with
    | some (.dit true ks xs) => (fk ρ).st ρ fun k => match dSd ks xs k with
      | some (ks1, xs1, j) => dB i ks1 xs1 j f (ρ.set i (some (.dit true ks1 xs1)))
      | none => .no
    | _ => .no) := q
  split at q
  · rename_i ks xs e0
    have e0 := some_some e0
    obtain ⟨fp, sl⟩ := s.sl
    obtain ⟨a, vs0, B0, ev, ha, hlen, rl0, eA, _⟩ := s.dt sl e0
    refine ⟨.ref a, ev, a, rfl, .inr ⟨_, .inl ha⟩, F, ρ, s, Res.mono q.st (fun k _ q F1 H1 b t1 hb => ?_) fun c _ z => SRes.exc s z⟩
    refine ⟨F1, ρ, s.tr t1, ?_⟩
    have ez : eLst aNil ρ = .ok (.lst true []) := by simp
    rw [ez]
    intro F2 H2 w C t2 rw nd un
    have t12 := t1.trans t2
    have s2 := s.tr t12
    have sl2 := sl.tr t12
    obtain ⟨a2, vs, B, ev2, ha2, hlen2, rl, eA2, up⟩ := s2.dt sl2 e0
    rw [ev] at ev2
    cases ev2
    have hlen3 : ks.length = (ks.zip vs).length := by rw [List.length_zip]; omega
    have q : SRes E W F Z (match dSd ks xs k with
      | some (ks1, xs1, j) => dB i ks1 xs1 j f (ρ.set i (some (.dit true ks1 xs1)))
      | none => .no) := q
    unfold dSd at q
    cases ej : kIx ks k with
    | some j =>
      rw [ej] at q
      have q : SRes E W F Z (match (if ks.length < 16777216 then some (ks, xs, j) else none : Option (List (List Key) × List D × Nat)) with
        | some (ks1, xs1, j) => dB i ks1 xs1 j f (ρ.set i (some (.dit true ks1 xs1)))
        | none => .no) := q
      by_cases hz : ks.length < 16777216
      rotate_left
      · rw [if_neg hz] at q
        exact q.elim
      rw [if_pos hz] at q
      have q : SRes E W F Z (dB i ks xs j f (ρ.set i (some (.dit true ks xs)))) := q
      rw [set_same e0] at q
      have hj : j < ks.length := by
        have := List.findIdx?_eq_some_iff_findIdx_eq.mp ej
        exact this.1
      have hv : vs[j]? = some vs[j] := List.getElem?_eq_getElem (by omega)
      have vv := valV_zip ks vs k hlen2
      rw [ej] at vv
      have vv : valV (ks.zip vs) k = some vs[j] := vv.trans hv
      refine ⟨_, k, b, ha2, rfl, t2.hh _ _ hb, ?_, fun v hv' => ?_, fun hn => ?_⟩
      · rw [← hlen3, sizeLine_eq]
        exact hz
      · rw [vv] at hv'
        cases hv'
        rw [← hK]
        exact dB_ok t12.ff s2 e0 ev ha2 hlen2 hv q
      · rw [vv] at hn
        cases hn
    | none =>
      rw [ej] at q
      have vv := valV_zip ks vs k hlen2
      rw [ej] at vv
      have vv : valV (ks.zip vs) k = none := vv
      have q : SRes E W F Z (match (if ks.length < 16777216 then some (ks ++ [k], xs ++ [.lst true []], ks.length) else none : Option (List (List Key) × List D × Nat)) with
        | some (ks1, xs1, j) => dB i ks1 xs1 j f (ρ.set i (some (.dit true ks1 xs1)))
        | none => .no) := q
      by_cases hz : ks.length < 16777216
      · rw [if_pos hz] at q
        have q : SRes E W F Z (dB i (ks ++ [k]) (xs ++ [.lst true []]) ks.length f (ρ.set i (some (.dit true (ks ++ [k]) (xs ++ [.lst true []]))))) := q
        refine ⟨_, k, b, ha2, rfl, t2.hh _ _ hb, by rw [← hlen3, sizeLine_eq]; exact hz, fun v hv' => ?_, fun hn => ?_⟩
        · rw [vv] at hv'
          cases hv'
        · rw [putK_new w vv]
          have e1 : ks.zip vs ++ [(k, w)] = (ks ++ [k]).zip (vs ++ [w]) := by
            rw [List.zip_append hlen2]; rfl
          rw [e1]
          have new : ∀ a ∈ C, E.He a = none ∧ ∀ j, a ∉ fp j := fun a ha => (s.tr t1).fresh (sl.tr t1) (un a ha)
          have ndB : (a :: B).Nodup := by rw [← eA2]; exact sl.nd i
          have s3 := up (ks ++ [k]) (xs ++ [.lst true []]) (vs ++ [w]) (B ++ C) (by rw [List.length_append, List.length_append, hlen2]; rfl) (rl.append (RpL.one rw)) (List.nodup_append.mpr ⟨(List.nodup_cons.mp ndB).2, nd, fun x hx y hy z => by
            subst z
            exact (new x hy).2 i (by rw [eA2]; exact List.mem_cons_of_mem _ hx)⟩) fun x hx => by
            rcases List.mem_append.mp hx with hx | hx
            · exact .inl hx
            · exact .inr (new x hx)
          have hi : i < ρ.length := (List.getElem?_eq_some_iff.mp e0).1
          show (tyV X.K "list" w _ ∧ _)
          rw [← hK]
          exact dB_ok t12.ff s3 (List.getElem?_set_self hi) ev upd_same (by rw [List.length_append, List.length_append, hlen2]; rfl) (by rw [hlen2, List.getElem?_append_right (Nat.le_refl _), Nat.sub_self]; rfl) q
      · rw [if_neg hz] at q
        exact q.elim
  · exact q.elim
end
end Dv
end
section
set_option maxRecDepth 100000
set_option maxHeartbeats 1000000
namespace Dv
open PySem PySem.Spec PyProof.Rows L2
/-! ## text.find(text), text.removeprefix(text), int(text) -/
section
variable {X : Cx} {E : En} {W : WX}
def gFind : D → D → Option D
  | .str a, .str b => some (.int (Txt.find a b))
  | _, _ => none
@[simp] theorem gFind_str (a b : Str) : gFind (.str a) (.str b) = some (.int (Txt.find a b)) := rfl
theorem says_find : SaysM1 E (fun x xs H Q => ∃ a b, x = .str a ∧ xs = [.str b] ∧ Q (.int (Txt.find a b)) H) gFind := by
  intro F H x y v w A B Q d fh rx ry e g
  cases x with
  | str a =>
    cases y with
    | str b =>
      cases e
      exact ⟨a, b, rx.1, by rw [ry.1], g.scal fh fun _ _ => ⟨rfl, rfl⟩⟩
    | _ => cases e
  | _ => cases e
theorem eo_find {o e : Expr} {fo f : Env → R D} {apos pos : Pos} (ho : EV X E W o fo) (he : EV X E W e f) (hs : starEach [e] X.env = [(false, eval e X.env)] := by rfl) (hbase : attributeBase o "find" X.env (eval o X.env) = eval o X.env := by rfl) (hline : (apos.endLine == pos.line) = true := by rfl) :
    EO X E W (.Call (.Attribute o "find" apos) [e] [] pos) (eM1 gFind fo f) := eo_m1 PySem.F.slot_str_find PySem.F.type_str_find mt_find says_find ho he hs hbase hline
def gRmp : D → D → Option D
  | .str a, .str b => if a.length ≤ 16777216 then some (.str (Txt.removeprefix a b)) else none
  | _, _ => none
@[simp] theorem gRmp_str (a b : Str) : gRmp (.str a) (.str b) = if a.length ≤ 16777216 then some (.str (Txt.removeprefix a b)) else none := rfl
theorem says_rmp : SaysM1 E (fun x xs H Q => ∃ a b, x = .str a ∧ xs = [.str b] ∧ a.length ≤ sizeLine ∧ Q (.str (Txt.removeprefix a b)) H) gRmp := by
  intro F H x y v w A B Q d fh rx ry e g
  cases x with
  | str a =>
    cases y with
    | str b =>
      obtain ⟨z, e⟩ := if_some (show (if a.length ≤ 16777216 then some (D.str (Txt.removeprefix a b)) else none) = some d from e)
      cases e
      exact ⟨a, b, rx.1, by rw [ry.1], by rw [sizeLine_eq]; exact z, g.scal fh fun _ _ => ⟨rfl, rfl⟩⟩
    | _ => cases e
  | _ => cases e
theorem eo_rmp {o e : Expr} {fo f : Env → R D} {apos pos : Pos} (ho : EV X E W o fo) (he : EV X E W e f) (hs : starEach [e] X.env = [(false, eval e X.env)] := by rfl) (hbase : attributeBase o "removeprefix" X.env (eval o X.env) = eval o X.env := by rfl) (hline : (apos.endLine == pos.line) = true := by rfl) :
    EO X E W (.Call (.Attribute o "removeprefix" apos) [e] [] pos) (eM1 gRmp fo f) := eo_m1 PySem.F.slot_str_removeprefix PySem.F.type_str_removeprefix mt_removeprefix says_rmp ho he hs hbase hline
noncomputable def gIntS : List D → Option D
  | [.str a] => if a.length ≤ 640 then (PySem.intText? a).map D.int else none
  | _ => none
@[simp] theorem gIntS_str (a : Str) : gIntS [.str a] = if a.length ≤ 640 then (PySem.intText? a).map D.int else none := rfl
theorem says_intS : SaysC E (fun xs H Q => ∃ a n, xs = [.str a] ∧ PySem.intText? a = some n ∧ a.length ≤ 640 ∧ Q (.int n) H) gIntS := by
  intro F H ds vs Q d fh r e g
  unfold gIntS at e
  split at e
  · rename_i a
    split at e
    · rename_i z
      obtain ⟨n, en, rfl⟩ := Option.map_eq_some_iff.mp e
      obtain ⟨v, A, rfl, rr⟩ := r.one
      rw [rr.1]
      exact ⟨a, n, rfl, en, z, g.scal fh fun _ _ => ⟨rfl, rfl⟩⟩
    · cases e
  · cases e
end
end Dv
end
section
set_option maxRecDepth 100000
set_option maxHeartbeats 1000000
namespace Dv
open PySem PySem.Spec PyProof.Rows L2
/-! ## list(range(..)) -/
/-- an expression that makes a range a, a + c, .. ahead of b -/
def PRgC (X : Cx) (e : Expr) (t : L2.St → Hp → (Int → Int → Int → Hp → Prop) → Prop) : Prop :=
  ∀ (pins : List (Addr × Obj)) (s : Shared) (σ : L2.St) (H : Hp) (Q : Int → Int → Int → Hp → Prop), Inv X pins σ H s → t σ H Q →
    wpAny (model X.prog X.w) X.A (eval e X.env) (fun x s' => ∃ r a b c t u v H', x = .ref r ∧ IsRange s'.heap r a b c t u v ∧ Inv X pins σ H' s' ∧ Q a b c H') X.xe s
section
variable {X : Cx} {a b c : Expr} {ta tb tc : TE}
def tRgc1 (ta : TE) : L2.St → Hp → (Int → Int → Int → Hp → Prop) → Prop := fun σ H Q => ta σ H fun x H1 => ∃ n, x = .int n ∧ Q 0 n 1 H1
def tRgc2 (ta tb : TE) : L2.St → Hp → (Int → Int → Int → Hp → Prop) → Prop := fun σ H Q => ta σ H fun x H1 => tb σ H1 fun y H2 => ∃ i j, x = .int i ∧ y = .int j ∧ Q i j 1 H2
def tRgc3 (ta tb tc : TE) : L2.St → Hp → (Int → Int → Int → Hp → Prop) → Prop := fun σ H Q => ta σ H fun x H1 => tb σ H1 fun y H2 => tc σ H2 fun z H3 => ∃ i j k, x = .int i ∧ y = .int j ∧ z = .int k ∧ k ≠ 0 ∧ k.natAbs < 1073741824 ∧ Q i j k H3
theorem prgc_1 {p pos : Pos} (hg : Gl X "range") (hm : X.mg "range" = none) (ha : PE X a ta) (na : starEach [a] X.env = (false, eval a X.env) :: starEach [] X.env := by rfl) : PRgC X (.Call (.Name "range" p) [a] [] pos) (tRgc1 ta) := by
  intro pins s σ H Q I h
  refine Call_ (ld_blt I hg hm boot_range (PyProof.Rows.callWith_type1 (one_arg ha I h (fun v s2 x H2 I2 r q => ?_) na) na))
  obtain ⟨n, rfl, q⟩ := q
  obtain ⟨t, rfl⟩ := r
  exact call_range_1 ⟨_, 0, n, 1, _, _, _, H2, rfl, IsRange.new _ _ _ _ _ _ _, I2.kept fun b u e => Heap.get?_push_of_some _ e, q⟩
theorem prgc_2 {p pos : Pos} (hg : Gl X "range") (hm : X.mg "range" = none) (ha : PE X a ta) (hb : PE X b tb) (na : starEach [a, b] X.env = (false, eval a X.env) :: starEach [b] X.env := by rfl)
    (nb : starEach [b] X.env = (false, eval b X.env) :: starEach [] X.env := by rfl) (hp : (backTo pos (starEach [b] X.env)).any (·.1) = false := by rfl) : PRgC X (.Call (.Name "range" p) [a, b] [] pos) (tRgc2 ta tb) := by
  intro pins s σ H Q I h
  refine Call_ (ld_blt I hg hm boot_range (PyProof.Rows.callWith_type1 (args_cons (thn (ha.run pins s σ H _ I h) fun v s1 ⟨x, H1, I1, r1, q1⟩ => one_arg hb I1 q1 (fun u s2 y H2 I2 r2 q => ?_) nb) na) na hp))
  obtain ⟨i, j, rfl, rfl, q⟩ := q
  obtain ⟨t, rfl⟩ := r1
  obtain ⟨t', rfl⟩ := r2
  exact call_range_2 ⟨_, i, j, 1, _, _, _, H2, rfl, IsRange.new _ _ _ _ _ _ _, I2.kept fun b u e => Heap.get?_push_of_some _ e, q⟩
theorem prgc_3 {p pos : Pos} (hg : Gl X "range") (hm : X.mg "range" = none) (ha : PE X a ta) (hb : PE X b tb) (hc : PE X c tc) (na : starEach [a, b, c] X.env = (false, eval a X.env) :: starEach [b, c] X.env := by rfl)
    (nb : starEach [b, c] X.env = (false, eval b X.env) :: starEach [c] X.env := by rfl) (nc : starEach [c] X.env = (false, eval c X.env) :: starEach [] X.env := by rfl) (hp : (backTo pos (starEach [b, c] X.env)).any (·.1) = false := by rfl) : PRgC X (.Call (.Name "range" p) [a, b, c] [] pos) (tRgc3 ta tb tc) := by
  intro pins s σ H Q I h
  refine Call_ (ld_blt I hg hm boot_range (PyProof.Rows.callWith_type1 (args_cons (thn (ha.run pins s σ H _ I h) fun v s1 ⟨x, H1, I1, r1, q1⟩ => args_cons (thn (hb.run pins s1 σ H1 _ I1 q1) fun u s2 ⟨y, H2, I2, r2, q2⟩ => one_arg hc I2 q2 (fun w s3 z H3 I3 r3 q => ?_) nc) nb) na) na hp))
  obtain ⟨i, j, k, rfl, rfl, rfl, k0, k1, q⟩ := q
  obtain ⟨t, rfl⟩ := r1
  obtain ⟨t', rfl⟩ := r2
  obtain ⟨t'', rfl⟩ := r3
  exact call_range_3 k0 ⟨_, i, j, k, _, _, _, H3, rfl, IsRange.new _ _ _ _ _ _ _, I3.kept fun b u e => Heap.get?_push_of_some _ e, q⟩
end
/-- the ints a, a + c, .. (n of them) -/
def rgVC (a c : Int) (n : Nat) : List V := (List.range n).map fun i => V.int (a + (i : Nat) * c)
section
variable {X : Cx} {e : Expr} {te : L2.St → Hp → (Int → Int → Int → Hp → Prop) → Prop}
def tLstRgc (te : L2.St → Hp → (Int → Int → Int → Hp → Prop) → Prop) : TE := fun σ H Q => te σ H fun a b c H1 => ∃ n : Nat, Builtin.Range.small a b c = true ∧ Builtin.Range.rangeSize a b c = (n : Int) ∧ n ≤ 16777216 ∧ ∀ q, H1 q = none → Q (.ref q) (upd H1 q (.lst (rgVC a c n)))
theorem pe_listRgc {p pos : Pos} (hc : X.calm = true) (hg : Gl X "list") (hm : X.mg "list" = none) (he : PRgC X e te) (na : starEach [e] X.env = (false, eval e X.env) :: starEach [] X.env := by rfl) : PE X (.Call (.Name "list" p) [e] [] pos) (tLstRgc te) := by
  refine ⟨fun pins s σ H Q I h => ?_⟩
  refine Call_ (ld_blt I hg hm boot_list (PyProof.Rows.callWith_type1 (args_cons (thn (he pins s σ H _ I h) fun x s1 ⟨r, a, b, c, t, u, v, H1, ex, hr, I1, n, sm, sz, hn, q⟩ => args_nil ?_) na) na))
  subst ex
  refine call_list_range (n := n) (I1.ok.hd hc) hr sm sz hn fun h' tk acc c' hk e' hi => ?_
  have hv : Vals (rgVC a c n) acc.toList := by
    have el : acc.toList.length = n := by rw [Array.length_toList]; exact hi.1
    unfold rgVC
    rw [← el]
    refine vals_of_get acc.toList _ fun j u hj => ?_
    obtain ⟨t, rfl⟩ := hi.2 j u (by rw [← hj, Array.getElem?_toList])
    exact ⟨t, rfl⟩
  have hl : (rgVC a c n).length = n := by unfold rgVC; rw [List.length_map, List.length_range]
  refine ⟨.ref s1.heap.objs.size, upd H1 s1.heap.objs.size (.lst (rgVC a c n)), I1.laid hk (Nat.le_refl _) (show ObjOk X.prog X.w _ _ _ (.lst (rgVC a c n)) from ⟨?_, acc.toList, c', hv, ?_⟩), rfl, q _ (I1.hok.fresh (Nat.le_refl _))⟩
  · rw [hl, sizeLine_eq]; omega
  · rw [Array.toArray_toList]; exact e'
end
section
variable {X : Cx} {E : En} {W : WX}
theorem rpL_ints {k : Kx} {F H : Hp} : ∀ is : List Int, RpL k F H (is.map D.int) (is.map V.int) []
  | [] => ⟨rfl, rfl⟩
  | i :: is => ⟨.int i, _, [], [], rfl, rfl, ⟨rfl, rfl⟩, rpL_ints is⟩
theorem rp_rgc {F H : Hp} {k : Kx} (a c : Int) (n : Nat) : RpL k F H (rngC a c n) (rgVC a c n) [] := by
  have h := rpL_ints (k := k) (F := F) (H := H) ((List.range n).map fun i : Nat => a + (i : Int) * c)
  rw [List.map_map, List.map_map] at h
  exact h
/-- what stands for a new list of ints -/
theorem new_rgc {F H : Hp} {σ : L2.St} {ρ : Env} {Q : VK} {a c : Int} {n : Nat} (s : Stt E F H σ ρ) (g : GOk E F H Q (.lst true (rngC a c n))) : ∀ q, H q = none → Q (.ref q) (upd H q (.lst (rgVC a c n))) := by
  intro d hd
  have hf : F d = none := by
    cases q0 : F d with
    | none => rfl
    | some u => rw [s.fh d u q0] at hd; cases hd
  exact g F _ (.ref d) [d] (tr_new s.fh hd) ⟨d, rgVC a c n, [], rfl, rp_rgc a c n, (fun z => nomatch z), fun _ => ⟨rfl, hf, upd_same⟩⟩ (by simp) fun a ha => by rw [List.mem_singleton.mp ha]; exact hd
noncomputable def lrg (a b c : Int) : Option D := if R3Ok a b c (cntC a b c) ∧ cntC a b c ≤ 16777216 then some (.lst true (rngC a c (cntC a b c))) else none
noncomputable def gLrg3 : List D → Option D
  | [.int a, .int b, .int c] => lrg a b c
  | [.int a, .int b] => lrg a b 1
  | [.int b] => lrg 0 b 1
  | _ => none
@[simp] theorem gLrg3_3 (a b c : Int) : gLrg3 [.int a, .int b, .int c] = lrg a b c := rfl
@[simp] theorem gLrg3_2 (a b : Int) : gLrg3 [.int a, .int b] = lrg a b 1 := rfl
@[simp] theorem gLrg3_1 (b : Int) : gLrg3 [.int b] = lrg 0 b 1 := rfl
noncomputable def eL1 (f : Env → R D) : Env → R D := fun ρ => (f ρ).bind fun x => R.opt (gLrg3 [x])
noncomputable def eL2 (f g : Env → R D) : Env → R D := fun ρ => (f ρ).bind fun x => (g ρ).bind fun y => R.opt (gLrg3 [x, y])
noncomputable def eL3 (f g h : Env → R D) : Env → R D := fun ρ => (f ρ).bind fun x => (g ρ).bind fun y => (h ρ).bind fun z => R.opt (gLrg3 [x, y, z])
@[simp] theorem eL1_eq (f : Env → R D) (ρ : Env) : eL1 f ρ = (f ρ).bind fun x => R.opt (gLrg3 [x]) := rfl
@[simp] theorem eL2_eq (f g : Env → R D) (ρ : Env) : eL2 f g ρ = (f ρ).bind fun x => (g ρ).bind fun y => R.opt (gLrg3 [x, y]) := rfl
@[simp] theorem eL3_eq (f g h : Env → R D) (ρ : Env) : eL3 f g h ρ = (f ρ).bind fun x => (g ρ).bind fun y => (h ρ).bind fun z => R.opt (gLrg3 [x, y, z]) := rfl
theorem lrg_some {a b c : Int} {d : D} (h : lrg a b c = some d) : ∃ n : Nat, c ≠ 0 ∧ c.natAbs < 1073741824 ∧ Builtin.Range.small a b c = true ∧ Builtin.Range.rangeSize a b c = (n : Int) ∧ n ≤ 16777216 ∧ d = .lst true (rngC a c n) := by
  unfold lrg at h
  obtain ⟨z, h⟩ := if_some h
  cases h
  exact ⟨_, z.1.1, z.1.2.1, z.1.2.2.1, z.1.2.2.2, z.2, rfl⟩
theorem eo_lrg1 {a : Expr} {f : Env → R D} {p p2 pos pos2 : Pos} (hc : X.calm = true) (gl : Gl X "list") (ml : X.mg "list" = none) (gr : Gl X "range") (mr : X.mg "range" = none) (ha : EV X E W a f)
    (n1 : starEach [a] X.env = (false, eval a X.env) :: starEach [] X.env := by rfl)
    (ne : starEach [Expr.Call (.Name "range" p2) [a] [] pos2] X.env = (false, eval (.Call (.Name "range" p2) [a] [] pos2) X.env) :: starEach [] X.env := by rfl) :
    EO X E W (.Call (.Name "list" p) [.Call (.Name "range" p2) [a] [] pos2] [] pos) (eL1 f) := by
  refine ⟨pe_mono (pe_listRgc hc gl ml (prgc_1 gr mr ha.pe n1) ne) fun σ H Q h => ?_⟩
  obtain ⟨F, ρ, s, q⟩ := h
  refine ⟨F, ρ, s, Res.mono q.bind (fun x _ q F1 H1 v A t1 r1 => ?_) fun c _ z F' H' t => z F' H' t⟩
  obtain ⟨d, e, g⟩ := Res.opt q
  cases x with
  | int j =>
    rw [gLrg3_1] at e
    obtain ⟨n, c0, c1, sm, sz, hn, rfl⟩ := lrg_some e
    exact ⟨j, r1.1, n, sm, sz, hn, new_rgc (s.tr t1) (GOk.back (E := E) (F := F) (H := H) g t1)⟩
  | _ => cases e
theorem eo_lrg2 {a b : Expr} {f g : Env → R D} {p p2 pos pos2 : Pos} (hc : X.calm = true) (gl : Gl X "list") (ml : X.mg "list" = none) (gr : Gl X "range") (mr : X.mg "range" = none) (ha : EV X E W a f) (hb : EV X E W b g)
    (n1 : starEach [a, b] X.env = (false, eval a X.env) :: starEach [b] X.env := by rfl) (n2 : starEach [b] X.env = (false, eval b X.env) :: starEach [] X.env := by rfl) (hp : (backTo pos2 (starEach [b] X.env)).any (·.1) = false := by rfl)
    (ne : starEach [Expr.Call (.Name "range" p2) [a, b] [] pos2] X.env = (false, eval (.Call (.Name "range" p2) [a, b] [] pos2) X.env) :: starEach [] X.env := by rfl) :
    EO X E W (.Call (.Name "list" p) [.Call (.Name "range" p2) [a, b] [] pos2] [] pos) (eL2 f g) := by
  refine ⟨pe_mono (pe_listRgc hc gl ml (prgc_2 gr mr ha.pe hb.pe n1 n2 hp) ne) fun σ H Q h => ?_⟩
  obtain ⟨F, ρ, s, q⟩ := h
  refine ⟨F, ρ, s, Res.mono q.bind (fun x _ q F1 H1 v A t1 r1 => ?_) fun c _ z F' H' t => z F' H' t⟩
  refine ⟨F1, ρ, s.tr t1, Res.mono q.bind (fun y _ q F2 H2 w B t2 r2 => ?_) fun c _ z F' H' t => z F' H' (t1.trans t)⟩
  obtain ⟨d, e, k⟩ := Res.opt q
  have t := t1.trans t2
  cases x with
  | int i =>
    cases y with
    | int j =>
      rw [gLrg3_2] at e
      obtain ⟨n, c0, c1, sm, sz, hn, rfl⟩ := lrg_some e
      exact ⟨i, j, r1.1, r2.1, n, sm, sz, hn, new_rgc (s.tr t) (GOk.back (E := E) (F := F) (H := H) k t)⟩
    | _ => cases e
  | _ => cases e
theorem eo_lrg3 {a b c : Expr} {f g h : Env → R D} {p p2 pos pos2 : Pos} (hc : X.calm = true) (gl : Gl X "list") (ml : X.mg "list" = none) (gr : Gl X "range") (mr : X.mg "range" = none) (ha : EV X E W a f) (hb : EV X E W b g) (hcc : EV X E W c h)
    (n1 : starEach [a, b, c] X.env = (false, eval a X.env) :: starEach [b, c] X.env := by rfl) (n2 : starEach [b, c] X.env = (false, eval b X.env) :: starEach [c] X.env := by rfl) (n3 : starEach [c] X.env = (false, eval c X.env) :: starEach [] X.env := by rfl) (hp : (backTo pos2 (starEach [b, c] X.env)).any (·.1) = false := by rfl)
    (ne : starEach [Expr.Call (.Name "range" p2) [a, b, c] [] pos2] X.env = (false, eval (.Call (.Name "range" p2) [a, b, c] [] pos2) X.env) :: starEach [] X.env := by rfl) :
    EO X E W (.Call (.Name "list" p) [.Call (.Name "range" p2) [a, b, c] [] pos2] [] pos) (eL3 f g h) := by
  refine ⟨pe_mono (pe_listRgc hc gl ml (prgc_3 gr mr ha.pe hb.pe hcc.pe n1 n2 n3 hp) ne) fun σ H Q h => ?_⟩
  obtain ⟨F, ρ, s, q⟩ := h
  refine ⟨F, ρ, s, Res.mono q.bind (fun x _ q F1 H1 v A t1 r1 => ?_) fun c _ z F' H' t => z F' H' t⟩
  refine ⟨F1, ρ, s.tr t1, Res.mono q.bind (fun y _ q F2 H2 w B t2 r2 => ?_) fun c _ z F' H' t => z F' H' (t1.trans t)⟩
  have t12 := t1.trans t2
  refine ⟨F2, ρ, s.tr t12, Res.mono q.bind (fun z _ q F3 H3 u C t3 r3 => ?_) fun c _ z F' H' t => z F' H' (t12.trans t)⟩
  obtain ⟨d, e, k⟩ := Res.opt q
  have t := t12.trans t3
  cases x with
  | int i =>
    cases y with
    | int j =>
      cases z with
      | int l =>
        rw [gLrg3_3] at e
        obtain ⟨n, c0, c1, sm, sz, hn, rfl⟩ := lrg_some e
        exact ⟨i, j, l, r1.1, r2.1, r3.1, c0, c1, n, sm, sz, hn, new_rgc (s.tr t) (GOk.back (E := E) (F := F) (H := H) k t)⟩
      | _ => cases e
    | _ => cases e
  | _ => cases e
/-! ## a, b, .. = a list (frozen) -/
def gTl (gs : List D → Env → Option Env) : D → Env → Option Env
  | .lst false ds, ρ => gs ds ρ
  | _, _ => none
@[simp] theorem gTl_lst (gs : List D → Env → Option Env) (ds : List D) (ρ : Env) : gTl gs (.lst false ds) ρ = gs ds ρ := rfl
theorem eg_lst {es : List Expr} {k : Nat} {gs : List D → Env → Option Env} {pos : Pos} (hK : E.k.K = X.K) (hc : X.calm = true) (h : EGs X E es gs) (n : Nat) (hlen : ∀ ds ρ ρ', gs ds ρ = some ρ' → ds.length = n)
    (hn : (assignEach es X.env).length = n := by rfl) (hst : (assignEach es X.env).findIdx? (·.1) = none := by rfl) : EG X E (.Tuple es k pos) (gTl gs) := by
  refine ⟨pg_mono (pg_unl hc h.pg hn hst) fun v σ H Q h => ?_⟩
  obtain ⟨F, ρ, d, s, p, r, ρ', e, q⟩ := h
  cases d with
  | lst o ds =>
    cases o with
    | false =>
      have pd : D.pureL ds = true := by simpa [D.pure] using p
      obtain ⟨a, vs, B, rfl, hl, r⟩ := Rp.lstW s.fh r
      have r' := RpL.pure (H' := H) pd (Ex.refl F) r
      exact ⟨a, vs, rfl, .inl (.inl hl), by rw [← r.len]; exact hlen ds ρ ρ' e, F, ρ, ds, s, pd, r', ρ', e, q⟩
    | true => cases e
  | _ => cases e
end
end Dv
end
section
set_option maxRecDepth 100000
set_option maxHeartbeats 1000000
namespace Dv
open PySem PySem.Spec PyProof.Rows L2
/-! defs as values: a call of a value that is one of some defs -/
theorem glob_fn {kx : Kx} {mg : Str → Option Value} {x : Str} {i : Nat} (h : mg x = some (.ref (kx.fm i))) : Glob kx mg x (.fn i) := ⟨_, .ref (kx.fm i), h, rfl, fun _ _ => ⟨rfl, rfl⟩⟩
@[simp] theorem pure_fn (i : Nat) : D.pure (.fn i) = true := rfl
@[simp] theorem cold_fn (i : Nat) : D.cold (.fn i) = true := rfl
@[simp] theorem noFz_fn (i : Nat) : D.noFz (.fn i) = true := rfl
@[simp] theorem frz_fn (i : Nat) : D.frz (.fn i) = .fn i := rfl
@[simp] theorem isNon_fn (i : Nat) : isNon (.fn i) = false := rfl
structure Hld (X : Cx) (E : En) (m : Nat) (fa : Addr) (n : Nat) (g : List D → R D) : Prop where
  ex : ∃ (k : Nat) (fd : FuncData) (ps : List Str), FnOk X.prog X.w X.K X.mg X.base (L2.CX X.prog X.w) k fa fd ps (spD E.k E.ec n g) ∧ k ≤ m ∧ PySem.W.keepIn X.K (.ref fa) = true ∧ Binds X.K fd ps []
def eCallF (n : Nat) (S : Nat → Option (List D → R D)) (ff : Env → R D) (fs : Env → R (List D)) : Env → R D := fun ρ => (ff ρ).bind fun d => match d with
  | .fn j => match S j with
    | some g => (fs ρ).bind (callF n g)
    | none => .no
  | _ => .no
theorem eCallF_of {n : Nat} {S : Nat → Option (List D → R D)} {ff : Env → R D} {fs : Env → R (List D)} {ρ : Env} {j : Nat} {g : List D → R D} (h : ff ρ = .ok (.fn j)) (e : S j = some g) : eCallF n S ff fs ρ = (fs ρ).bind (callF n g) := by
  unfold eCallF
  rw [h]
  show (match S j with | some g => (fs ρ).bind (callF n g) | none => .no) = _
  rw [e]
section
variable {X : Cx} {E : En} {W : WX}
theorem eo_callF {m n : Nat} {S : Nat → Option (List D → R D)} {ff : Env → R D} {fs : Env → R (List D)} {fe e : Expr} {es : List Expr} {pos : Pos} (G : ∀ j g, S j = some g → Hld X E m (E.k.fm j) n g) (tk : Takes X W) (hr : Room m X.A) (hf : EV X E W fe ff) (ha : EA X E W (e :: es) fs)
    (ht : eval (.Call fe (e :: es) [] pos) X.env = (do callWith pos (← eval fe X.env) [] (backTo pos (starEach (e :: es) X.env)) (backToKw pos (keywordEach [] X.env))) := by rfl)
    (he : starEach (e :: es) X.env = (false, eval e X.env) :: starEach es X.env := by rfl) (hpl : (backTo pos (starEach es X.env)).any (·.1) = false := by rfl) : EO X E W (.Call fe (e :: es) [] pos) (eCallF n S ff fs) := by
  refine ⟨⟨fun pins s σ H Q I h => ?_⟩⟩
  obtain ⟨F, ρ, st, h⟩ := h
  refine Call_ (thn (hf.pe.run pins s σ H (fun v H1 => ∃ j g, v = .ref (E.k.fm j) ∧ S j = some g ∧ tA E W fs σ H1 (fun vs H2 => spD E.k E.ec n g vs H2 Q (WE W σ))) I ⟨F, ρ, st, Res.mono h.bind (fun d _ q F1 H1 v A t1 r1 => ?_) fun c _ z F' H' t => z F' H' t⟩) fun u s1 ⟨y, H1, I1, ry, j, g, ey, eS, q⟩ => ?_) ht
  · cases d with
    | fn j =>
      cases eS : S j with
      | none => simp only [eS] at q; exact q.elim
      | some g =>
        simp only [eS] at q
        exact ⟨j, g, r1.1, eS, F1, ρ, st.tr t1, Res.mono q.bind (fun ds _ q F2 H2 vs t2 r2 => call_of (Ew := WE W σ) t2 r2 (Res.mono q (fun d _ p => GOk.back (F := F) (H := H) (F1 := F1) (H1 := H1) p t1) (fun c _ z F' H' t => z F' H' (t1.trans t)))) fun c _ z F' H' t => z F' H' (t1.trans t)⟩
    | _ => exact q.elim
  · subst ey
    obtain rfl : u = Value.ref (E.k.fm j) := ry
    obtain ⟨k, fd, ps, Fn, hk, kp, hb⟩ := (G j g eS).ex
    refine PySem.W.callWith_K (h₀ := X.base) I.ok.mod.kin kp (thn (ha.pa.run pos pins s1 σ _ _ I1 q) fun us s2 ⟨vs, H2, I2, r, q⟩ => ⟨I2.kIn, ?_⟩) he hpl
    exact run_fnS Fn (hr.mono hk) hb (passAt tk σ) I2 r q
end
end Dv
end
section
set_option maxRecDepth 100000
set_option maxHeartbeats 1000000
namespace Dv
open PySem PySem.Spec PyProof.Rows L2
/-! ## a def that is given its arguments for good: it may change them -/
/-- a heap without some addresses -/
def rmv (H : Hp) (A : List Addr) : Hp := fun a => if a ∈ A then none else H a
theorem rmv_some {H : Hp} {A : List Addr} {a : Addr} {o : HO} (h : rmv H A a = some o) : a ∉ A ∧ H a = some o := by
  unfold rmv at h
  by_cases c : a ∈ A
  · rw [if_pos c] at h; cases h
  · rw [if_neg c] at h; exact ⟨c, h⟩
theorem rmv_in {H : Hp} {A : List Addr} {a : Addr} (h : a ∈ A) : rmv H A a = none := if_pos h
theorem rmv_out {H : Hp} {A : List Addr} {a : Addr} (h : a ∉ A) : rmv H A a = H a := if_neg h
/-- what is promised of such a def -/
def spM (k : Kx) (ec : Nat → Value) (n : Nat) (f : List D → R D) : Sp := fun vs H Q Ew => ∃ F ds A, Ex F H ∧ RpL k F H ds vs A ∧ A.Nodup ∧ ds.length = n ∧
  Res (f ds) (fun d => ∀ F' H' v B, Tr F (rmv H A) F' H' → Rp k F' H' d v B → B.Nodup → (∀ a ∈ B, rmv H A a = none) → Q v H') (fun c => ∀ F' H', Tr F (rmv H A) F' H' → Ew (ec c) none H')
theorem spM_len {k : Kx} {ec : Nat → Value} {n : Nat} {f : List D → R D} {vs : List V} {H : Hp} {Q : VK} {Ew : XK} (h : spM k ec n f vs H Q Ew) : vs.length = n := by
  obtain ⟨F, ds, A, _, r, _, l, _⟩ := h
  rw [← r.len, l]
/-- each argument's own -/
theorem rpL_split {k : Kx} {F H : Hp} : ∀ (ds : List D) (vs : List V) (A : List Addr), RpL k F H ds vs A → A.Nodup →
    ∃ fp : Nat → List Addr, (∀ i d, ds[i]? = some d → ∃ v, vs[i]? = some v ∧ Rp k F H d v (fp i)) ∧ (∀ i, ds.length ≤ i → fp i = []) ∧ (∀ i, (fp i).Nodup) ∧ (∀ i j a, a ∈ fp i → a ∈ fp j → i = j) ∧ ∀ i a, a ∈ fp i → a ∈ A
  | [], vs, A, r, nd => ⟨fun _ => [], (fun i d e => by simp at e), fun _ _ => rfl, fun _ => .nil, (fun _ _ _ z => nomatch z), fun _ _ z => nomatch z⟩
  | d :: ds, vs, A, r, nd => by
    obtain ⟨v, vs', A1, A2, rfl, rfl, r1, r2⟩ := r
    obtain ⟨n1, n2, n3⟩ := List.nodup_append.mp nd
    obtain ⟨fp, f1, f2, f3, f4, f5⟩ := rpL_split ds vs' A2 r2 n2
    refine ⟨fun i => match i with
      | 0 => A1
      | i + 1 => fp i, fun i d' e => ?_, fun i h => ?_, fun i => ?_, fun i j a h1 h2 => ?_, fun i a h => ?_⟩
    · cases i with
      | zero =>
        have : d = d' := by simpa using e
        subst this
        exact ⟨v, rfl, r1⟩
      | succ i =>
        obtain ⟨v', e1, e2⟩ := f1 i d' (by simpa using e)
        exact ⟨v', by simpa using e1, e2⟩
    · cases i with
      | zero => simp at h
      | succ i => exact f2 i (by simpa using h)
    · cases i with
      | zero => exact n1
      | succ i => exact f3 i
    · cases i with
      | zero =>
        cases j with
        | zero => rfl
        | succ j => exact absurd rfl (n3 a h1 a (f5 j a h2))
      | succ i =>
        cases j with
        | zero => exact absurd rfl (n3 a h2 a (f5 i a h1))
        | succ j => exact congrArg (· + 1) (f4 i j a h1 h2)
    · cases i with
      | zero => exact List.mem_append.mpr (.inl h)
      | succ i => exact List.mem_append.mpr (.inr (f5 i a h))
section
variable {P : Program} {w : World} {K : PySem.W.Frag} {mg : Str → Option Value} {base : Heap}
theorem fn_okM {x qual : Str} {st : Stmt} {f : Addr} {fd : FuncData} {N ps : List Str} (k n m : Nat) (kx : Kx) (ec : Nat → Value) {b : Env → SR} (hn : ps.length = n) (hm : N.length = m) (G : Fun K x qual st f fd) (S : FnScope N ps (defScope st))
    (hbody : ∀ (cdv : Value) (A : Around) (outer : List PySem.Env) (s : Shared) (H : Hp) (Ew : XK) (He F0 : Hp) (v0 : L2.St) (W : WX), Room k (A.deeper (envOfC qual (defScope st) s.heap.objs.size f cdv)) →
      Takes (cxOf (L2.CX P w) P w K mg base N qual (defScope st) f cdv A outer s H Ew) W → PassesOwn (model P w) (cxOf (L2.CX P w) P w K mg base N qual (defScope st) f cdv A outer s H Ew).A (cxOf (L2.CX P w) P w K mg base N qual (defScope st) f cdv A outer s H Ew).env (cxOf (L2.CX P w) P w K mg base N qual (defScope st) f cdv A outer s H Ew).xe →
      SB (cxOf (L2.CX P w) P w K mg base N qual (defScope st) f cdv A outer s H Ew) (En0 kx ec He F0 v0) W (defBody st) b) :
    FnOk P w K mg base (L2.CX P w) (k + 1) f fd ps (spM kx ec n (fnD n m b)) := by
  subst hn hm
  refine G.okX S (fun vs H Q E h => spM_len h) fun cdv A outer s H vs Q Ew hr h => ?_
  obtain ⟨F, ds, A0, x, r, nd, l, h⟩ := h
  have sb := hbody cdv A outer s H Ew (rmv H A0) F (L2.start N vs) (fun cls d _ H => Ew cls d H) hr (takes_of rfl rfl rfl rfl) (passes_of rfl)
  obtain ⟨fp, f1, f2, f3, f4, f5⟩ := rpL_split ds vs A0 r nd
  refine ⟨_, sb.ps, F, ds.map some ++ List.replicate (N.length - ps.length) none, ?_, ?_⟩
  · have hl := r.len
    refine ⟨.refl _, x, fun a e _ => e, fun a o e _ => (rmv_some e).2, (fun a z => nomatch z), ?_, (fun i z => nomatch z), fp, fun i d e => ?_, fun i e => ?_, f3, f4, fun i a h => .inl (rmv_in (f5 i a h))⟩
    · unfold L2.start
      rw [List.length_append, List.length_append, List.length_map, List.length_map, List.length_replicate, List.length_replicate, ← hl, l]
    · unfold L2.start
      rw [← hl, l]
      by_cases hi : i < ds.length
      · rw [List.getElem?_append_left (by rw [List.length_map]; exact hi), List.getElem?_map] at e
        cases q : ds[i]? with
        | none => rw [q] at e; cases e
        | some d' =>
          rw [q] at e
          cases e
          obtain ⟨v, h1, h2⟩ := f1 i _ q
          exact ⟨v, by rw [List.getElem?_append_left (by rw [List.length_map, ← hl]; exact hi), List.getElem?_map, h1]; rfl, h2⟩
      · rw [List.getElem?_append_right (by rw [List.length_map]; omega)] at e
        have := List.mem_of_getElem? e
        rw [List.mem_replicate] at this
        cases this.2
    · by_cases hi : i < ds.length
      · rw [List.getElem?_append_left (by rw [List.length_map]; exact hi), List.getElem?_map, List.getElem?_eq_getElem hi] at e
        cases e
      · exact f2 i (by omega)
  · unfold fnD at h
    rw [if_pos l] at h
    cases eb : b (ds.map some ++ List.replicate (N.length - ps.length) none) with
    | no => rw [eb] at h; exact h.elim
    | bk ρ => rw [eb] at h; exact h.elim
    | ct ρ => rw [eb] at h; exact h.elim
    | nx ρ => rw [eb] at h; exact fun F' H' σ _ s' => h F' H' .non [] (s'.toTr rfl) ⟨rfl, rfl⟩ .nil fun _ z => nomatch z
    | rt d ρ =>
      rw [eb] at h
      intro F' H' σ v s' fn _
      obtain ⟨A', r', nd', u⟩ := fn.rp
      exact h F' H' v A' (fn.toTr rfl) r' nd' u
    | ex c ρ => rw [eb] at h; exact fun F' H' σ _ s' => h F' H' (s'.toTr rfl)
end
section
variable {X : Cx} {E : En} {W : WX}
/-- the call: the arguments are the call's own, or pure -/
def eCallM (n : Nat) (f : List D → R D) (fs : Env → R (List D)) : Env → R D := fun ρ => (fs ρ).bind fun ds => if ds.length = n then f ds else .no
@[simp] theorem eCallM_eq (n : Nat) (f : List D → R D) (fs : Env → R (List D)) (ρ : Env) : eCallM n f fs ρ = (fs ρ).bind fun ds => if ds.length = n then f ds else .no := rfl
theorem eo_callM {k n : Nat} {fa : Addr} {fd : FuncData} {ps : List Str} {f : List D → R D} {fs : Env → R (List D)} {x : Str} {p pos : Pos} {e : Expr} {es : List Expr} (G : FnOk X.prog X.w X.K X.mg X.base (L2.CX X.prog X.w) k fa fd ps (spM E.k E.ec n f)) (tk : Takes X W) (hr : Room k X.A) (hg : Gl X x) (hm : X.mg x = some (.ref fa)) (hk : PySem.W.keepIn X.K (.ref fa) = true) (hb : Binds X.K fd ps [])
    (ha : EM X E W (e :: es) fs []) (hdb : (x == ("__debug__" : Str)) = false := by decide) (he : starEach (e :: es) X.env = (false, eval e X.env) :: starEach es X.env := by rfl) (hpl : (backTo pos (starEach es X.env)).any (·.1) = false := by rfl) : EO X E W (.Call (.Name x p) (e :: es) [] pos) (eCallM n f fs) := by
  refine ⟨pe_mono (pe_callS (E := WE W) G hr hg hm hk hb (fun σ => passAt tk σ) ha.pa hdb he hpl) fun σ H Q h => ?_⟩
  obtain ⟨F, ρ, s, q⟩ := h
  obtain ⟨fp, sl⟩ := s.sl
  refine ⟨F, ρ, fp, s, sl, Res.mono q.bind (fun ds _ q F1 H1 vs A t1 r1 nd u => ?_) fun c _ z F' H' t => z F' H' t⟩
  by_cases hl : ds.length = n
  · rw [if_pos hl] at q
    have new : ∀ a ∈ A, H a = none := fun a ha => (u a ha).elim (fun z => z) fun ⟨i, z, _⟩ => nomatch z
    have F1n : ∀ a ∈ A, F1 a = none := fun a ha => (RpL.dom ds vs A r1 a ha).1
    have back : ∀ {F' H' : Hp}, Tr F1 (rmv H1 A) F' H' → Tr F H F' H' := fun {F' H'} t => by
      refine ⟨fun a o e => t.ff a o (t1.ff a o e), fun a o e => ?_, t.fh, fun a e z => ?_⟩
      · have hA : a ∉ A := fun z => by rw [new a z] at e; cases e
        exact t.hh a o (by rw [rmv_out hA]; exact t1.hh a o e)
      · have hA : a ∉ A := fun y => z (new a y)
        refine t.no a (t1.no a e z) ?_
        rw [rmv_out hA]
        cases eo : H a with
        | none => exact absurd eo z
        | some o => rw [t1.hh a o eo]; exact fun y => nomatch y
    refine ⟨F1, ds, A, t1.fh, r1, nd, hl, Res.mono q (fun d _ p F' H' v B t r n' u' => p F' H' v B (back t) r n' fun a ha => ?_) fun c _ z F' H' t => z F' H' (back t)⟩
    have := u' a ha
    cases eo : H a with
    | none => rfl
    | some o =>
      have hA : a ∉ A := fun z => by rw [new a z] at eo; cases eo
      rw [rmv_out hA, t1.hh a o eo] at this
      cases this
  · rw [if_neg hl] at q; exact q.elim
end
end Dv
end
section
set_option maxRecDepth 100000
set_option maxHeartbeats 1000000
/-! list(reversed(a list)) -/
namespace PySem
open Sem (wp)
open RT
section
variable {prog : Program} {w : World} {A : Around} {E : Value → Shared → Prop} {s : Shared}
theorem wpAny_extend_rev {R : Result → Shared → Prop} {it l : Addr} {items : Array Value} (hh : A.handled = none) (hit : s.heap.IsRevIter it l ((items.size : Int) - 1)) (hl : s.heap.IsList l items) (hne : l ≠ it) (hn : items.size ≤ sizeLine)
    (S : Addr) (hSi : S ≠ it) (hSl : S ≠ l) (res : Value) (c₀ : Nat) (hS : s.heap.get? S = some { cls := .type "list", data := .seq #[] c₀ })
    (hR : ∀ h' tk acc' c', (∀ b o, b ≠ S → b ≠ it → s.heap.get? b = some o → h'.get? b = some o) → h'.get? S = some { cls := .type "list", dict := none, data := .seq acc' c', slots := #[] } →
      ItemsOf (fun i v => items[items.size - 1 - i]? = some v) acc' items.size → R (.ok (.ret res)) { s with heap := h', toks := tk }) :
    wpAny (model prog w) A.in1 (Builtin.List.listExtendWith (.ref S) (.ref it) res)
      (fun fin s' => match fin with | .done f => R (.ok f) s' | .again c' => c'.quiet = true ∧ codeAny (model prog w) A c' R s') (fun e s' => R (.error e) s') s := by
  have W := (Walks.listRev (prog := prog) (w := w) (A := A.in1) hh it l hne items).toS
  have hSf : S ∉ [it, l] := by simp only [List.mem_cons, List.not_mem_nil, or_false, not_or]; exact ⟨hSi, hSl⟩
  have hT : s.TypeIs (.ref it) "list_reverseiterator" := hit.typeIs
  have h1 : Builtin.List.listSameRef (.ref S) (.ref it) = false := by simp [Builtin.List.listSameRef, hSi]
  unfold Builtin.List.listExtendWith
  refine wpAny_bind (wpAny_typeOf hT ?_)
  rw [if_neg (by rw [h1]; decide)]
  refine wpAny_bind (wpAny_pyIter_revIter hit ?_)
  refine wpAny_bind (wpAny_holding ?_)
  unfold Builtin.List.listLengthHint
  refine wpAny_bind (wpAny_specialOf hT nolen_lri ?_)
  show wpAny _ A.in1 (specialOf (Value.ref it) (Str.ofString "__length_hint__") >>= _) _ _ _
  refine wpAny_bind (wpAny_specialOf hT hint_lri ?_)
  generalize hid : ("list_reverseiterator.__length_hint__" : String) = id0
  wp_delta
  rw [show splitId id0 = some ("list_reverseiterator", "__length_hint__") from by subst hid; decide +kernel]
  subst hid
  refine wpAny_bind (wpAny_isInstance (b := true) hT (by rw [isSubtype_type]; kernel_rfl) ?_)
  refine wpAny_pure ?_
  rw [if_neg (by decide)]
  have e0 : ((items.size : Nat) : Int) - 1 - ((0 : Nat) : Int) = (items.size : Int) - 1 := by omega
  refine wpAny_pure ⟨plainId_quiet F.plain_extend_loop _, codeAny_extend_loopS W hn S hSf res items.size 0 _ _ _ rfl (Nat.zero_le _) ⟨Nat.zero_le _, by rw [e0]; exact hit, hl⟩ hS (ItemsOf.nil _) fun s' acc' c' hm hS' hacc => ?_⟩
  rw [Moved.eq_with hm]
  refine hR s'.heap s'.toks acc' c' (fun b o hb hb2 e => hm.heap b o (fun hmem => ?_) e) hS' hacc
  rcases List.mem_cons.mp hmem with e' | hmem
  · exact hb e'
  · exact hb2 (List.mem_singleton.mp hmem)
theorem wpAny_list_init_rev {R : Result → Shared → Prop} {it l : Addr} {items : Array Value} (hh : A.handled = none) (hit : s.heap.IsRevIter it l ((items.size : Int) - 1)) (hl : s.heap.IsList l items) (hne : l ≠ it) (hn : items.size ≤ sizeLine)
    (S : Addr) (hSi : S ≠ it) (hSl : S ≠ l) (hS : s.heap.get? S = some { cls := .type "list", data := .seq #[] })
    (hR : ∀ h' tk acc' c', (∀ b o, b ≠ S → b ≠ it → s.heap.get? b = some o → h'.get? b = some o) → h'.get? S = some { cls := .type "list", dict := none, data := .seq acc' c', slots := #[] } →
      ItemsOf (fun i v => items[items.size - 1 - i]? = some v) acc' items.size → R (.ok (.ret .none)) { s with heap := h', toks := tk }) :
    wpAny (model prog w) A.in1 (Builtin.«list.__init__» ⟨[.ref S, .ref it], []⟩)
      (fun fin s' => match fin with | .done f => R (.ok f) s' | .again c' => c'.quiet = true ∧ codeAny (model prog w) A c' R s') (fun e s' => R (.error e) s') s := by
  show wpAny _ _ (do let old ← Builtin.List.listItems (.ref S); Builtin.List.listUpdate (.ref S) (fun _ => #[]); letGo old.toList.reverse; Builtin.List.listExtendWith (.ref S) (.ref it) .none) _ _ s
  refine wpAny_bind ?_
  unfold Builtin.List.listItems
  refine wpAny_bind (wpAny_seqItems hS rfl (wpAny_pure ?_))
  show wpAny _ _ (updateSeq S (fun _ => #[]) >>= fun _ => letGo (#[] : Array Value).toList.reverse >>= fun _ => Builtin.List.listExtendWith (.ref S) (.ref it) .none) _ _ s
  refine wpAny_bind (wpAny_updateSeq hS rfl ?_)
  have hS₂ := Heap.get?_update_self (Obj.mapSeq (fun _ => (#[] : Array Value))) hS rfl
  have oth : ∀ b o, b ≠ S → s.heap.get? b = some o → (s.heap.update S (Obj.mapSeq (fun _ => (#[] : Array Value)))).get? b = some o :=
    fun b o hb e => (Heap.get?_update_other _ _ (Ne.symm hb)).trans e
  refine wpAny_bind (wpAny_letGo ?_)
  have hl2 : (s.heap.update S (Obj.mapSeq (fun _ => (#[] : Array Value)))).IsList l items := by
    obtain ⟨o, ho, r⟩ := hl
    exact ⟨o, oth l o (Ne.symm hSl) ho, r⟩
  refine wpAny_extend_rev hh (hit.at fun o e => oth it o (Ne.symm hSi) e) hl2 hne hn S hSi hSl .none _ hS₂ fun h' tk acc' c' hk hS' hacc => ?_
  exact hR h' tk acc' c' (fun b o hb hb2 e => hk b o hb hb2 (oth b o hb e)) hS' hacc
end
section
variable {prog : Program} {w : World} {A : Around} {E : Value → Shared → Prop} {s : Shared}
theorem call_list_rev {Q : Value → Shared → Prop} {it l : Addr} {items : Array Value} (hh : A.handled = none) (hit : s.heap.IsRevIter it l ((items.size : Int) - 1)) (hl : s.heap.IsList l items) (hne : l ≠ it) (hn : items.size ≤ sizeLine)
    (hQ : ∀ h' tk acc' c', (∀ b o, b ≠ it → s.heap.get? b = some o → h'.get? b = some o) →
      h'.get? s.heap.objs.size = some { cls := .type "list", dict := none, data := .seq acc' c', slots := #[] } → ItemsOf (fun i v => items[items.size - 1 - i]? = some v) acc' items.size → Q (.ref s.heap.objs.size) { s with heap := h', toks := tk }) :
    wpAny (model prog w) A (call (.type "list") [.ref it]) Q E s := by
  obtain ⟨oi, hoi, _⟩ := id hit
  obtain ⟨ol, hol, _⟩ := id hl
  have hSi : s.heap.objs.size ≠ it := Nat.ne_of_gt (Heap.lt_size hoi)
  have hSl : s.heap.objs.size ≠ l := Nat.ne_of_gt (Heap.lt_size hol)
  refine callType_codes (Q₁ := fun obj s₁ => obj = .ref s.heap.objs.size ∧ s₁ = { s with heap := s.heap.push { cls := .type "list", data := .seq #[] } }) F.called_list (F.typeCall_list_1 _) F.entry_list_init
    (code_list_new _ ⟨rfl, rfl⟩) fun obj s₁ h₁ => ?_
  obtain ⟨rfl, rfl⟩ := h₁
  have hS : (s.heap.push { cls := .type "list", data := .seq #[] }).get? s.heap.objs.size = some { cls := .type "list", data := .seq #[] } := Heap.get?_push_size _ rfl
  refine ⟨⟨_, hS, rfl⟩, F.args_list_init_2 _ _, wpAny_list_init_rev (A := A.in1) hh (hit.at fun o e => Heap.get?_push_of_some _ e) (hl.push _) hne hn _ hSi hSl hS fun h' tk acc' c' hk hS' hacc => ?_⟩
  exact ⟨rfl, hQ h' tk acc' c' (fun b o hb e => hk b o (Nat.ne_of_lt (Heap.lt_size e)) hb (Heap.get?_push_of_some _ e)) hS' hacc⟩
end
end PySem
namespace Dv
open PySem PySem.Spec PyProof.Rows L2 RT
section
variable {X : Cx}
def tLstRev (K : PySem.W.Frag) (te : TE) : TE := fun σ H Q => te σ H fun v H1 => ∃ (a : Addr) (xs : List V), v = .ref a ∧ SqL K H1 a xs ∧ ∀ q, H1 q = none → Q (.ref q) (upd H1 q (.lst xs.reverse))
theorem pe_lstRev {e : Expr} {te : TE} {p p2 pos pos2 : Pos} (hc : X.calm = true) (hg : Gl X "list") (hm : X.mg "list" = none) (hg2 : Gl X "reversed") (hm2 : X.mg "reversed" = none) (he : PE X e te)
    (hs : starEach [e] X.env = (false, eval e X.env) :: starEach [] X.env := by rfl)
    (hs2 : starEach [.Call (.Name "reversed" p2) [e] [] pos2] X.env = (false, eval (.Call (.Name "reversed" p2) [e] [] pos2) X.env) :: starEach [] X.env := by rfl) :
    PE X (.Call (.Name "list" p) [.Call (.Name "reversed" p2) [e] [] pos2] [] pos) (tLstRev X.K te) := by
  refine ⟨fun pins s σ H Q I h => ?_⟩
  refine Call_ (ld_blt I hg hm boot_list (PyProof.Rows.callWith_type1 (args_cons (Call_ (ld_blt I hg2 hm2 PyProof.Rows.boot_reversed (PyProof.Rows.callWith_type1 (args_cons (thn (he.run pins s σ H _ I h) fun u s1 ⟨v, H1, I1, r1, q1⟩ => args_nil ?_) hs) hs rfl))) hs2) hs2 rfl))
  obtain ⟨a, xs, ev, hq, q⟩ := q1
  subst ev
  obtain rfl : u = Value.ref a := r1
  obtain ⟨its, rv, p', hz⟩ := I1.list hq
  refine call_reversed_list p'.isList (args_nil ?_)
  have hl := p'.isList
  obtain ⟨ol, hol, _⟩ := id hl
  have hne : a ≠ s1.heap.objs.size := Nat.ne_of_lt (Heap.lt_size hol)
  have hn : its.toArray.size ≤ sizeLine := by rw [List.size_toArray, ← rv.length]; exact hz
  refine call_list_rev (s := { s1 with heap := s1.heap.push (revObj a ((its.toArray.size : Int) - 1)) }) (I1.ok.hd hc) ⟨_, Heap.get?_push_size _ rfl, rfl, rfl⟩ (hl.push _) hne hn fun h' tk acc c' hk e' hi => ?_
  have hle : s1.heap.objs.size ≤ (s1.heap.push (revObj a ((its.toArray.size : Int) - 1))).objs.size := by
    show s1.heap.objs.size ≤ (s1.heap.objs.push _).size
    rw [Array.size_push]; omega
  refine ⟨.ref (s1.heap.push (revObj a ((its.toArray.size : Int) - 1))).objs.size, upd H1 (s1.heap.push (revObj a ((its.toArray.size : Int) - 1))).objs.size (.lst xs.reverse), I1.laid (t' := tk) (fun b o e => hk b o (Nat.ne_of_lt (Heap.lt_size e)) (Heap.get?_push_of_some _ e)) hle (show ObjOk X.prog X.w _ _ _ (.lst xs.reverse) from ⟨by rw [List.length_reverse]; exact hz, acc.toList, c', vals_rev rv hi, ?_⟩), rfl, q _ (I1.hok.fresh hle)⟩
  rw [Array.toArray_toList]; exact e'
end
section
variable {X : Cx} {E : En} {W : WX}
def gRevL : D → Option D
  | .lst _ xs => if D.pureL xs = true then some (.lst true xs.reverse) else none
  | _ => none
def gRevT : D → Option D
  | .lst _ xs => if D.pureL xs = true then some (.tup xs.reverse) else none
  | _ => none
@[simp] theorem gRevL_lst (o : Bool) (xs : List D) : gRevL (.lst o xs) = if D.pureL xs = true then some (.lst true xs.reverse) else none := rfl
@[simp] theorem gRevT_lst (o : Bool) (xs : List D) : gRevT (.lst o xs) = if D.pureL xs = true then some (.tup xs.reverse) else none := rfl
def eRevL (f : Env → R D) : Env → R D := fun ρ => (f ρ).bind fun d => R.opt (gRevL d)
def eRevT (f : Env → R D) : Env → R D := fun ρ => (f ρ).bind fun d => R.opt (gRevT d)
@[simp] theorem eRevL_eq (f : Env → R D) (ρ : Env) : eRevL f ρ = (f ρ).bind fun d => R.opt (gRevL d) := rfl
@[simp] theorem eRevT_eq (f : Env → R D) (ρ : Env) : eRevT f ρ = (f ρ).bind fun d => R.opt (gRevT d) := rfl
theorem eo_revL {e : Expr} {f : Env → R D} {p p2 pos pos2 : Pos} (hK : E.k.K = X.K) (hc : X.calm = true) (hg : Gl X "list") (hm : X.mg "list" = none) (hg2 : Gl X "reversed") (hm2 : X.mg "reversed" = none) (h : EV X E W e f)
    (hs : starEach [e] X.env = (false, eval e X.env) :: starEach [] X.env := by rfl)
    (hs2 : starEach [Expr.Call (.Name "reversed" p2) [e] [] pos2] X.env = (false, eval (.Call (.Name "reversed" p2) [e] [] pos2) X.env) :: starEach [] X.env := by rfl) :
    EO X E W (.Call (.Name "list" p) [.Call (.Name "reversed" p2) [e] [] pos2] [] pos) (eRevL f) := by
  refine ⟨pe_mono (pe_lstRev hc hg hm hg2 hm2 h.pe hs hs2) fun σ H Q h => ?_⟩
  obtain ⟨F, ρ, s, q⟩ := h
  refine ⟨F, ρ, s, Res.mono q.bind (fun x _ q F1 H1 v A t1 r1 => ?_) fun c _ z F' H' t => z F' H' t⟩
  obtain ⟨d, e, g⟩ := Res.opt q
  cases x with
  | lst o xs =>
    obtain ⟨z, e⟩ := if_some (show (if D.pureL xs = true then some (D.lst true xs.reverse) else none) = some d from e)
    cases e
    obtain ⟨a, ws, rfl, sq, r⟩ := Rp.lstR t1.fh z r1
    exact ⟨a, ws, rfl, (by rw [← hK]; exact .inl (.inl sq)), fun l hl => (GOk.back (E := E) (F := F) (H := H) g t1).lst t1.fh hl r.reverse⟩
  | _ => cases e
theorem eo_revT {e : Expr} {f : Env → R D} {p p2 pos pos2 : Pos} (hK : E.k.K = X.K) (hc : X.calm = true) (hg : Gl X "tuple") (hm : X.mg "tuple" = none) (hg2 : Gl X "reversed") (hm2 : X.mg "reversed" = none) (h : EV X E W e f)
    (hs : starEach [e] X.env = (false, eval e X.env) :: starEach [] X.env := by rfl)
    (hs2 : starEach [Expr.Call (.Name "reversed" p2) [e] [] pos2] X.env = (false, eval (.Call (.Name "reversed" p2) [e] [] pos2) X.env) :: starEach [] X.env := by rfl) :
    EO X E W (.Call (.Name "tuple" p) [.Call (.Name "reversed" p2) [e] [] pos2] [] pos) (eRevT f) := by
  refine ⟨pe_mono (pe_tupRev hc hg hm hg2 hm2 h.pe hs hs2) fun σ H Q h => ?_⟩
  obtain ⟨F, ρ, s, q⟩ := h
  refine ⟨F, ρ, s, Res.mono q.bind (fun x _ q F1 H1 v A t1 r1 => ?_) fun c _ z F' H' t => z F' H' t⟩
  obtain ⟨d, e, g⟩ := Res.opt q
  cases x with
  | lst o xs =>
    obtain ⟨z, e⟩ := if_some (show (if D.pureL xs = true then some (D.tup xs.reverse) else none) = some d from e)
    cases e
    obtain ⟨a, ws, rfl, sq, r⟩ := Rp.lstR t1.fh z r1
    exact ⟨a, ws, rfl, (by rw [← hK]; exact .inl (.inl sq)), fun l hl => (GOk.back (E := E) (F := F) (H := H) g t1).tup t1.fh hl r.reverse⟩
  | _ => cases e
end
end Dv
namespace Dv
open PySem PySem.Spec PyProof.Rows L2
/-! ## x.insert(j, e): x the def's own, all in it pure -/
theorem pureL_app' : ∀ xs ys : List D, D.pureL (xs ++ ys) = (D.pureL xs && D.pureL ys)
  | [], ys => by simp [D.pureL]
  | x :: xs, ys => by rw [List.cons_append, D.pureL, D.pureL, pureL_app' xs ys, Bool.and_assoc]
theorem rpL_take {k : Kx} {F H : Hp} : ∀ (n : Nat) (ds : List D) (vs : List V), RpL k F H ds vs [] → RpL k F H (ds.take n) (vs.take n) []
  | 0, ds, vs, _ => by rw [List.take_zero, List.take_zero]; exact ⟨rfl, rfl⟩
  | n + 1, [], vs, r => by obtain ⟨rfl, _⟩ := r; exact ⟨rfl, rfl⟩
  | n + 1, d :: ds, vs, r => by
    obtain ⟨v, vs', A, B, rfl, e, r1, r2⟩ := r
    have e := List.append_eq_nil_iff.mp e.symm
    obtain ⟨rfl, rfl⟩ := e
    exact ⟨v, _, [], [], rfl, rfl, r1, rpL_take n ds vs' r2⟩
theorem rpL_drop {k : Kx} {F H : Hp} : ∀ (n : Nat) (ds : List D) (vs : List V), RpL k F H ds vs [] → RpL k F H (ds.drop n) (vs.drop n) []
  | 0, ds, vs, r => r
  | n + 1, [], vs, r => by obtain ⟨rfl, _⟩ := r; exact ⟨rfl, rfl⟩
  | n + 1, d :: ds, vs, r => by
    obtain ⟨v, vs', A, B, rfl, e, r1, r2⟩ := r
    have e := List.append_eq_nil_iff.mp e.symm
    obtain ⟨rfl, rfl⟩ := e
    exact rpL_drop n ds vs' r2
noncomputable def insK (i : Nat) (xs : List D) (d : D) (ρ : Env) : D → SR
  | .int j => if D.pureL xs = true ∧ d.pure = true ∧ 0 ≤ j ∧ W62 j ∧ xs.length < 16777216 then .nx (ρ.set i (some (.lst true (xs.take j.toNat ++ [d] ++ xs.drop j.toNat)))) else .no
  | _ => .no
@[simp] theorem insK_int (i : Nat) (xs : List D) (d : D) (ρ : Env) (j : Int) : insK i xs d ρ (.int j) = if D.pureL xs = true ∧ d.pure = true ∧ 0 ≤ j ∧ W62 j ∧ xs.length < 16777216 then .nx (ρ.set i (some (.lst true (xs.take j.toNat ++ [d] ++ xs.drop j.toNat)))) else .no := rfl
noncomputable def sIns (i : Nat) (g f : Env → R D) : Env → SR := fun ρ => onL i ρ fun xs => (g ρ).st ρ fun k => (f ρ).st ρ fun d => insK i xs d ρ k
@[simp] theorem sIns_eq (i : Nat) (g f : Env → R D) (ρ : Env) : sIns i g f ρ = onL i ρ fun xs => (g ρ).st ρ fun k => (f ρ).st ρ fun d => insK i xs d ρ k := rfl
section
variable {X : Cx} {E : En} {W : WX}
theorem ss_ins {i : Nat} {o k e : Expr} {g f : Env → R D} {apos cpos pos : Pos} (ho : PE X o (tVar i)) (hk : EV X E W k g) (h : EV X E W e f) (hs : swapsWith (.Call (.Attribute o "insert" apos) [k, e] [] cpos) none pos.line X.env = pure false := by rfl)
    (hbase : attributeBase o "insert" X.env (eval o X.env) = eval o X.env := by rfl)
    (hfew : ((backTo cpos (starEach [k, e] X.env)).all (fun x => !x.1) && (backToKw cpos (keywordEach [] X.env)).all (fun x => x.1.isSome)
      && decide ([k, e].length + ([] : List Keyword).length + (if ([] : List Keyword).isEmpty then 0 else 1) < 30)) = true := by rfl)
    (hline : (apos.endLine == cpos.line) = true := by rfl) (hst : starEach [k, e] X.env = (false, eval k X.env) :: starEach [e] X.env := by rfl) (hst2 : starEach [e] X.env = (false, eval e X.env) :: starEach [] X.env := by rfl) (hplain : (backTo cpos (starEach [e] X.env)).any (·.1) = false := by rfl) :
    SS X E W (.Expr (.Call (.Attribute o "insert" apos) [k, e] [] cpos) pos) (sIns i g f) := by
  refine ⟨ps_mono (ps_expr (pe_bm PySem.F.plainAttrs_list PySem.F.slot_list_insert PySem.F.type_list_insert mt_insert ho (pa_cons hk.pe (pa_cons h.pe pa_nil hst2) hst) hbase hfew hline hst hplain) hs) fun Z σ H h => ?_⟩
  obtain ⟨F, ρ, s, q⟩ := h
  obtain ⟨xs, e, q⟩ := onL_of q
  obtain ⟨fp, sl⟩ := s.sl
  obtain ⟨v, ev, r⟩ := sl.rp i _ e
  refine ⟨v, ev, ty_lst s.fh r, F, ρ, s, Res.mono q.st (fun kd _ q F1 H1 w A t1 r1 => ?_) fun c _ z => SRes.exc s z⟩
  refine ⟨F1, ρ, s.tr t1, Res.mono q.st (fun d _ q F2 H2 w2 A2 t2 r2 => ?_) fun c _ z F' H' t => SRes.exc s z F' H' (t1.trans t)⟩
  cases kd with
  | int j =>
    rw [insK_int] at q
    by_cases hz : D.pureL xs = true ∧ d.pure = true ∧ 0 ≤ j ∧ W62 j ∧ xs.length < 16777216
    · rw [if_pos hz] at q
      obtain ⟨px, pd, j0, j1, lx⟩ := hz
      have ew : w = .int j := r1.1
      subst ew
      have eA2 := Rp.own_nil d w2 A2 pd r2
      subst eA2
      have t12 := t1.trans t2
      have s2 := s.tr t12
      have sl2 : Sl E F2 H2 σ ρ fp := ⟨fun j d e => let ⟨v, ev, r⟩ := sl.rp j d e; ⟨v, ev, r.tr t12⟩, sl.em, sl.nd, sl.dj, sl.nw⟩
      obtain ⟨l, vs, B, rfl, eA, fl, hl, rl⟩ := lstO (r.tr t12)
      have lfp : l ∈ fp i := by rw [eA]; exact List.mem_cons_self
      have eB := RpL.pure (H' := H2) px (.refl _) rl
      refine ⟨l, vs, j, w2, rfl, rfl, hl, Nat.lt_of_lt_of_eq (by rw [← rl.len]; exact lx) sizeLine_eq.symm, j0, ?_, q F2 _ σ (t12.ff) ?_⟩
      · have := j1.2; omega
      · have new : RpL E.k F2 (upd H2 l (.lst (vs.take j.toNat ++ [w2] ++ vs.drop j.toNat))) (xs.take j.toNat ++ [d] ++ xs.drop j.toNat) (vs.take j.toNat ++ [w2] ++ vs.drop j.toNat) [] := by
          have a := (((rpL_take j.toNat xs vs eB).append (RpL.one r2)).append (rpL_drop j.toNat xs vs eB))
          exact RpL.upd a List.not_mem_nil
        exact s2.write sl2 (v := .ref l) (A' := [l]) lfp ev ⟨l, _, [], rfl, new, (fun z => nomatch z), fun _ => ⟨rfl, fl, upd_same⟩⟩ (by simp) fun a ha => .inl (by rw [List.mem_singleton.mp ha]; exact lfp)
    · rw [if_neg hz] at q; exact q.elim
  | _ => exact q.elim
end
end Dv
end
set_option maxRecDepth 100000
set_option maxHeartbeats 4000000
namespace K19
open PySem PySem.Spec PyProof.Rows L2 Dv
noncomputable section
def top (i : Nat) : Stmt := PySem.Challenge.pw_stillroom_k19_whole_nothing_twice.main.body.getD i (.Pass ⟨0, 0, 0, 0⟩)
abbrev s__law_spoilt : Stmt := top 41
theorem sc__law_spoilt : FnScope ["_law_script", "_law_data", "_law_k", "_law_cell_here", "_law_at", "_law_end", "_law_which"] ["_law_script", "_law_data"] (defScope s__law_spoilt) := ⟨rfl, rfl, rfl, by decide +kernel, rfl, by decide +kernel, by decide +kernel⟩
abbrev s_spend : Stmt := top 4
theorem sc_spend : FnScope ["left", "cost"] ["left", "cost"] (defScope s_spend) := ⟨rfl, rfl, rfl, by decide +kernel, rfl, by decide +kernel, by decide +kernel⟩
abbrev s_stands_at : Stmt := top 11
theorem sc_stands_at : FnScope ["data", "sign", "at"] ["data", "sign", "at"] (defScope s_stands_at) := ⟨rfl, rfl, rfl, by decide +kernel, rfl, by decide +kernel, by decide +kernel⟩
abbrev s_low_number : Stmt := top 12
theorem sc_low_number : FnScope ["data", "number", "byte"] ["data"] (defScope s_low_number) := ⟨rfl, rfl, rfl, by decide +kernel, rfl, by decide +kernel, by decide +kernel⟩
abbrev s_last_end : Stmt := top 13
theorem sc_last_end : FnScope ["data", "at"] ["data"] (defScope s_last_end) := ⟨rfl, rfl, rfl, by decide +kernel, rfl, by decide +kernel, by decide +kernel⟩
abbrev s_head_at : Stmt := top 23
theorem sc_head_at : FnScope ["data", "at", "first", "end", "size", "total", "entry"] ["data", "at"] (defScope s_head_at) := ⟨rfl, rfl, rfl, by decide +kernel, rfl, by decide +kernel, by decide +kernel⟩
abbrev s_directory_entries : Stmt := top 24
theorem sc_directory_entries : FnScope ["data", "place", "found", "at", "_", "behind", "distance", "head", "entry", "name"] ["data", "place"] (defScope s_directory_entries) := ⟨rfl, rfl, rfl, by decide +kernel, rfl, by decide +kernel, by decide +kernel⟩
abbrev s_without_overlaps : Stmt := top 25
theorem sc_without_overlaps : FnScope ["found", "kept", "entry", "start", "end", "item", "other"] ["found"] (defScope s_without_overlaps) := ⟨rfl, rfl, rfl, by decide +kernel, rfl, by decide +kernel, by decide +kernel⟩
abbrev s_searched_entries : Stmt := top 26
theorem sc_searched_entries : FnScope ["data", "entries", "at", "head"] ["data"] (defScope s_searched_entries) := ⟨rfl, rfl, rfl, by decide +kernel, rfl, by decide +kernel, by decide +kernel⟩
abbrev s_plain_part : Stmt := top 14
theorem sc_plain_part : FnScope ["data", "byte"] ["data"] (defScope s_plain_part) := ⟨rfl, rfl, rfl, by decide +kernel, rfl, by decide +kernel, by decide +kernel⟩
abbrev s_name_parts : Stmt := top 15
theorem sc_name_parts : FnScope ["data", "parts", "part", "byte"] ["data"] (defScope s_name_parts) := ⟨rfl, rfl, rfl, by decide +kernel, rfl, by decide +kernel, by decide +kernel⟩
abbrev s_plain_name : Stmt := top 16
theorem sc_plain_name : FnScope ["data", "parts", "name", "part"] ["data"] (defScope s_plain_name) := ⟨rfl, rfl, rfl, by decide +kernel, rfl, by decide +kernel, by decide +kernel⟩
abbrev s_open_crate : Stmt := top 27
theorem sc_open_crate : FnScope ["data", "left", "place", "found", "entries", "names", "kept", "enough", "entry", "name", "method", "size", "total", "part", "at"] ["data", "left"] (defScope s_open_crate) := ⟨rfl, rfl, rfl, by decide +kernel, rfl, by decide +kernel, by decide +kernel⟩
abbrev s__law_row : Stmt := top 32
theorem sc__law_row : FnScope ["_law_cell_here", "_law_count", "_law_row_here", "_law_left", "_law_state", "_law_k"] ["_law_cell_here", "_law_count"] (defScope s__law_row) := ⟨rfl, rfl, rfl, by decide +kernel, rfl, by decide +kernel, by decide +kernel⟩
abbrev s__law_cell : Stmt := top 30
theorem sc__law_cell : FnScope ["_law_script", "_law_k"] ["_law_script", "_law_k"] (defScope s__law_cell) := ⟨rfl, rfl, rfl, by decide +kernel, rfl, by decide +kernel, by decide +kernel⟩
abbrev s__law_low : Stmt := top 34
theorem sc__law_low : FnScope ["_law_number_here", "_law_size", "_law_row_here", "_law_k"] ["_law_number_here", "_law_size"] (defScope s__law_low) := ⟨rfl, rfl, rfl, by decide +kernel, rfl, by decide +kernel, by decide +kernel⟩
abbrev s__law_codes : Stmt := top 36
theorem sc__law_codes : FnScope ["_law_text", "_law_sign"] ["_law_text"] (defScope s__law_codes) := ⟨rfl, rfl, rfl, by decide +kernel, rfl, by decide +kernel, by decide +kernel⟩
abbrev s__law_make_head : Stmt := top 37
theorem sc__law_make_head : FnScope ["_law_cell_here", "_law_name", "_law_data", "_law_size", "_law_count", "_law_row_here"] ["_law_cell_here", "_law_name", "_law_data", "_law_size"] (defScope s__law_make_head) := ⟨rfl, rfl, rfl, by decide +kernel, rfl, by decide +kernel, by decide +kernel⟩
abbrev s__law_make_name : Stmt := top 39
theorem sc__law_make_name : FnScope ["_law_cell_here", "_law_names"] ["_law_cell_here"] (defScope s__law_make_name) := ⟨rfl, rfl, rfl, by decide +kernel, rfl, by decide +kernel, by decide +kernel⟩
abbrev s__law_make_record : Stmt := top 38
theorem sc__law_make_record : FnScope ["_law_distance", "_law_name"] ["_law_distance", "_law_name"] (defScope s__law_make_record) := ⟨rfl, rfl, rfl, by decide +kernel, rfl, by decide +kernel, by decide +kernel⟩
abbrev s__law_crate : Stmt := top 40
theorem sc__law_crate : FnScope ["_law_script", "_law_data", "_law_places", "_law_many", "_law_k", "_law_records", "_law_place", "_law_start", "_law_end", "_law_count", "_law_back", "_law_cell_here", "_law_part", "_law_at", "_law_name", "_law_record"] ["_law_script"] (defScope s__law_crate) := ⟨rfl, rfl, rfl, by decide +kernel, rfl, by decide +kernel, by decide +kernel⟩
abbrev s_to_low : Stmt := top 22
theorem sc_to_low : FnScope ["number", "size", "data", "_"] ["number", "size"] (defScope s_to_low) := ⟨rfl, rfl, rfl, by decide +kernel, rfl, by decide +kernel, by decide +kernel⟩
abbrev s_write_crate : Stmt := top 28
theorem sc_write_crate : FnScope ["entries", "data", "places", "records", "place", "name", "method", "size", "total", "part", "codes", "at", "sign", "_"] ["entries"] (defScope s_write_crate) := ⟨rfl, rfl, rfl, by decide +kernel, rfl, by decide +kernel, by decide +kernel⟩
abbrev s__law_number : Stmt := top 35
theorem sc__law_number : FnScope ["_law_row_here", "_law_number_here", "_law_byte"] ["_law_row_here"] (defScope s__law_number) := ⟨rfl, rfl, rfl, by decide +kernel, rfl, by decide +kernel, by decide +kernel⟩
abbrev s__law_stands : Stmt := top 42
theorem sc__law_stands : FnScope ["_law_data", "_law_entry", "_law_sign", "_law_tail", "_law_at", "_law_name", "_law_method", "_law_size", "_law_total", "_law_part", "_law_first"] ["_law_data", "_law_entry"] (defScope s__law_stands) := ⟨rfl, rfl, rfl, by decide +kernel, rfl, by decide +kernel, by decide +kernel⟩
abbrev s_law : Stmt := top 43
theorem sc_law : FnScope ["_law_script", "_law_data", "_law_given", "_law_names", "_law_total", "_law_entry", "_law_before", "_law_again", "_law_entries", "_law_left"] ["_law_script"] (defScope s_law) := ⟨rfl, rfl, rfl, by decide +kernel, rfl, by decide +kernel, by decide +kernel⟩
def c_CRATE_SIGN : D := .tup [.int 67, .int 82, .int 84, .int 49]
def c_END_SIGN : D := .tup [.int 67, .int 69, .int 78, .int 68]
def c_END_SIZE : D := .int 10
def c_HEAD_SIZE : D := .int 20
def c_MOST_ENTRIES : D := .int 64
def c_MOST_NAME : D := .int 100
def c_RECORD_SIGN : D := .tup [.int 67, .int 68, .int 73, .int 82]
def c_RECORD_SIZE : D := .int 10
def c_SIGNS : D := .str " !\"#$?&'()*+,-./0123456789:;<=>?@abcdefghijklmnopqrstuvwxyz[\\]^_`abcdefghijklmnopqrstuvwxyz{|}~"
/-! ### what each def means -/
def lp__law_spoilt_1 : Dv.Env → SR := sq (sAsg 3 (eB gAbs (aV (e2 gIx (eVar 0) (eVar 2)) (aNil)))) (sq (sIf (eT (e2 gEq (eB gLen (aV (eVar 1) (aNil))) (eC (.int 0)))) (sRet (eVar 1)) (sNil)) (sq (sAsg 4 (e2 gMod (eB gInt (aV (e2 gDiv (eVar 3) (eC (.int 5))) (aNil))) (eB gLen (aV (eVar 1) (aNil))))) (sq (sAsg 5 (e2 gAdd (eVar 4) (e2 gMod (eB gInt (aV (e2 gDiv (eVar 3) (eC (.int 5000))) (aNil))) (eC (.int 60))))) (sq (sAsg 6 (e2 gMod (eB gInt (aV (eVar 3) (aNil))) (eC (.int 5)))) (sq (sIf (eT (e2 gEq (eVar 6) (eC (.int 0)))) (sAsg 1 (e2 gAdd (eSl (eVar 1) (oNo) (oPt (eVar 4))) (eSl (eVar 1) (oPt (eVar 5)) (oNo)))) (sNil)) (sq (sIf (eT (e2 gEq (eVar 6) (eC (.int 1)))) (sAsg 1 (e2 gAdd (eVar 1) (eSl (eVar 1) (oPt (eVar 4)) (oPt (eVar 5))))) (sNil)) (sq (sIf (eT (e2 gEq (eVar 6) (eC (.int 2)))) (sAsg 1 (e2 gAdd (e2 gAdd (eSl (eVar 1) (oNo) (oPt (eVar 4))) (eSl (eVar 1) (oPt (eVar 4)) (oPt (eVar 5)))) (eSl (eVar 1) (oPt (eVar 4)) (oNo)))) (sNil)) (sIf (eT (e2 gEq (eVar 6) (eC (.int 3)))) (sSet 1 (eVar 4) (e2 gXorB (e2 gIx (eVar 1) (eVar 4)) (e2 gAdd (eC (.int 1)) (e2 gMod (eB gInt (aV (e2 gDiv (eVar 3) (eC (.int 7))) (aNil))) (eC (.int 255)))))) (sNil)))))))))
def b__law_spoilt : Dv.Env → SR := sq (sFor (iA rng2 (aV (eC (.int 16)) (aV (eB gMin2 (aV (eC (.int 22)) (aV (eB gLen (aV (eVar 0) (aNil))) (aNil)))) (aNil)))) (gNm 2) lp__law_spoilt_1) (sRet (eSl (eVar 1) (oNo) (oPt (eC (.int 1500)))))
def d__law_spoilt : List D → R D := fnD 2 7 b__law_spoilt
def b_spend : Dv.Env → SR := sq (sAsg 1 (eB gMax2 (aV (eVar 1) (aV (eC (.int 0)) (aNil))))) (sq (sIf (eT (e2 gGt (eVar 1) (eVar 0))) (sRet (eTupM (mO (eC (.int 0)) (mO (eC (.bl false)) (mNil))))) (sNil)) (sRet (eTupM (mO (e2 gSub (eVar 0) (eVar 1)) (mO (eC (.bl true)) (mNil))))))
def d_spend : List D → R D := fnD 2 2 b_spend
def b_stands_at : Dv.Env → SR := sRet (asOwn (eAnd (e2 gEq (eSl (eVar 0) (oPt (eVar 2)) (oPt (e2 gAdd (eVar 2) (eC (.int 1))))) (eLst (aV (e2 gIx (eVar 1) (eC (.int 0))) (aNil)))) (e2 gEq (eSl (eVar 0) (oPt (eVar 2)) (oPt (e2 gAdd (eVar 2) (eB gLen (aV (eVar 1) (aNil)))))) (eB gList (aV (eVar 1) (aNil))))))
def d_stands_at : List D → R D := fnD 3 3 b_stands_at
def lp_low_number_1 : Dv.Env → SR := sAsg 1 (e2 gAdd (e2 gMul (eVar 1) (eC (.int 256))) (eVar 2))
def b_low_number : Dv.Env → SR := sq (sAsg 1 (eC (.int 0))) (sq (sFor (iRev (eVar 0)) (gNm 2) lp_low_number_1) (sRet (eVar 1)))
def d_low_number : List D → R D := fnD 1 3 b_low_number
def lp_last_end_1 : Dv.Env → SR := sIf (tAndF (eT (eCall 3 d_stands_at (aV (eVar 0) (aO (eC c_END_SIGN) (aV (eVar 1) (aNil)))))) (eT (e2 gLe (eCall 1 d_low_number (aO (eSl (eVar 0) (oPt (e2 gAdd (eVar 1) (eC (.int 6)))) (oPt (e2 gAdd (eVar 1) (eC c_END_SIZE)))) (aNil))) (eVar 1)))) (sRet (eVar 1)) (sNil)
def b_last_end : Dv.Env → SR := sq (sFor (iA rng3 (aV (e2 gSub (eB gLen (aV (eVar 0) (aNil))) (eC c_END_SIZE)) (aV (e1 gNeg (eC (.int 1))) (aV (e1 gNeg (eC (.int 1))) (aNil))))) (gNm 1) lp_last_end_1) (sRet (e1 gNeg (eC (.int 1))))
def d_last_end : List D → R D := fnD 1 2 b_last_end
def b_head_at : Dv.Env → SR := sq (sIf (tOrF (tNotF (eT (eCall 3 d_stands_at (aV (eVar 0) (aO (eC c_CRATE_SIGN) (aV (eVar 1) (aNil))))))) (eT (e2 gGt (e2 gAdd (eVar 1) (eC c_HEAD_SIZE)) (eB gLen (aV (eVar 0) (aNil)))))) (sRet (eC .non)) (sNil)) (sq (sAsg 2 (e2 gAdd (e2 gAdd (eVar 1) (eC c_HEAD_SIZE)) (eCall 1 d_low_number (aO (eSl (eVar 0) (oPt (e2 gAdd (eVar 1) (eC (.int 6)))) (oPt (e2 gAdd (eVar 1) (eC (.int 8))))) (aNil))))) (sq (sIf (eT (e2 gGt (eVar 2) (eB gLen (aV (eVar 0) (aNil))))) (sRet (eC .non)) (sNil)) (sq (sAsg 3 (e2 gAdd (eVar 2) (eCall 1 d_low_number (aO (eSl (eVar 0) (oPt (e2 gAdd (eVar 1) (eC (.int 16)))) (oPt (e2 gAdd (eVar 1) (eC c_HEAD_SIZE)))) (aNil))))) (sq (sAsg 4 (eCall 1 d_low_number (aO (eSl (eVar 0) (oPt (e2 gAdd (eVar 1) (eC (.int 8)))) (oPt (e2 gAdd (eVar 1) (eC (.int 12))))) (aNil)))) (sq (sAsg 5 (eCall 1 d_low_number (aO (eSl (eVar 0) (oPt (e2 gAdd (eVar 1) (eC (.int 12)))) (oPt (e2 gAdd (eVar 1) (eC (.int 16))))) (aNil)))) (sq (sFz 5 (sFz 4 (sAsg 6 (eTupM (mO (eSl (eVar 0) (oPt (e2 gAdd (eVar 1) (eC c_HEAD_SIZE))) (oPt (eVar 2))) (mV (e2 gIx (eVar 0) (e2 gAdd (eVar 1) (eC (.int 4)))) (mV (eVar 4) (mV (eVar 5) (mO (eB gTuple (aV (eSl (eVar 0) (oPt (eVar 2)) (oPt (eVar 3))) (aNil))) (mNil)))))))))) (sRet (eTupM (mM 6 (mO (e2 gLe (eVar 3) (eB gLen (aV (eVar 0) (aNil)))) (mO (eB gMin2 (aV (eVar 3) (aV (eB gLen (aV (eVar 0) (aNil))) (aNil)))) (mNil))))))))))))
def d_head_at : List D → R D := fnD 2 7 b_head_at
def lp_directory_entries_1 : Dv.Env → SR := sq (sIf (tNotF (eT (eCall 3 d_stands_at (aV (eVar 0) (aO (eC c_RECORD_SIGN) (aV (eVar 3) (aNil))))))) (sBrk) (sNil)) (sq (sAsg 5 (e2 gAdd (e2 gAdd (eVar 3) (eC c_RECORD_SIZE)) (eCall 1 d_low_number (aO (eSl (eVar 0) (oPt (e2 gAdd (eVar 3) (eC (.int 8)))) (oPt (e2 gAdd (eVar 3) (eC c_RECORD_SIZE)))) (aNil))))) (sq (sAsg 6 (eCall 1 d_low_number (aO (eSl (eVar 0) (oPt (e2 gAdd (eVar 3) (eC (.int 4)))) (oPt (e2 gAdd (eVar 3) (eC (.int 8))))) (aNil)))) (sq (sIf (tOrF (eT (e2 gGt (eVar 5) (eVar 1))) (tOrF (eT (e2 gGt (e2 gAdd (eVar 3) (eC c_RECORD_SIZE)) (eVar 1))) (eT (e2 gGt (eVar 6) (eVar 1))))) (sBrk) (sNil)) (sq (sAsg 7 (eCall 2 d_head_at (aV (eVar 0) (aO (e2 gSub (eVar 1) (eVar 6)) (aNil))))) (sq (sIf (tAndF (eT (e2 gIsNot (eVar 7) (eC .non))) (eT (e2 gIx (eVar 7) (eC (.int 1))))) (sq (sFz 7 (sAsg 8 (asOwn (e2 gIx (eVar 7) (eC (.int 0)))))) (sq (sAsg 9 (eSl (eVar 0) (oPt (e2 gAdd (eVar 3) (eC c_RECORD_SIZE))) (oPt (eVar 5)))) (sFz 7 (sFz 9 (sApp 2 (eTupM (mO (eTupM (mV (eVar 9) (mV (e2 gIx (eVar 8) (eC (.int 1))) (mV (e2 gIx (eVar 8) (eC (.int 2))) (mV (e2 gIx (eVar 8) (eC (.int 3))) (mV (e2 gIx (eVar 8) (eC (.int 4))) (mNil))))))) (mO (e2 gSub (eVar 1) (eVar 6)) (mV (e2 gIx (eVar 7) (eC (.int 2))) (mNil)))))))))) (sNil)) (sAsg 3 (asOwn (eVar 5))))))))
def b_directory_entries : Dv.Env → SR := sq (sAsg 2 (eLstM (mNil))) (sq (sAsg 3 (e2 gSub (eVar 1) (eCall 1 d_low_number (aO (eSl (eVar 0) (oPt (e2 gAdd (eVar 1) (eC (.int 6)))) (oPt (e2 gAdd (eVar 1) (eC c_RECORD_SIZE)))) (aNil))))) (sq (sFor (iA rng1 (aV (eCall 1 d_low_number (aO (eSl (eVar 0) (oPt (e2 gAdd (eVar 1) (eC (.int 4)))) (oPt (e2 gAdd (eVar 1) (eC (.int 6))))) (aNil))) (aNil))) (gNm 4) lp_directory_entries_1) (sRet (eVar 2))))
def d_directory_entries : List D → R D := fnD 2 10 b_directory_entries
def lp_without_overlaps_1 : Dv.Env → SR := sIf (tLend 1 (tNotF (eT (eB gAny (aV (eLc (iW (eVar 1)) (gNm 6) (tYes) (asOwn (eAnd (e2 gLt (eVar 3) (e2 gIx (eVar 6) (eC (.int 2)))) (e2 gLt (e2 gIx (eVar 6) (eC (.int 1))) (eVar 4)))) [6]) (aNil)))))) (sApp 1 (eTupM (mV (eVar 2) (mV (eVar 3) (mV (eVar 4) (mNil)))))) (sNil)
def b_without_overlaps : Dv.Env → SR := sq (sAsg 1 (eLstM (mNil))) (sq (sFor (iW (eVar 0)) (gTp (gsCons (gNm 2) (gsCons (gNm 3) (gsCons (gNm 4) (gsNil))))) lp_without_overlaps_1) (sFz 1 (sRet (eLc (iW (eVar 1)) (gNm 5) (tYes) (asOwn (e2 gIx (eVar 5) (eC (.int 0)))) [5]))))
def d_without_overlaps : List D → R D := fnD 1 7 b_without_overlaps
def lp_searched_entries_1 : Dv.Env → SR := sq (sAsg 3 (eCall 2 d_head_at (aV (eVar 0) (aV (eVar 2) (aNil))))) (sIf (eT (e2 gIs (eVar 3) (eC .non))) (sAsg 2 (e2 gAdd (eVar 2) (eC (.int 1)))) (sq (sFz 3 (sApp 1 (asOwn (e2 gIx (eVar 3) (eC (.int 0)))))) (sFz 3 (sAsg 2 (asOwn (e2 gIx (eVar 3) (eC (.int 2))))))))
def tw_searched_entries_1 : Dv.Env → R Bool := eT (e2 gLt (eVar 2) (eB gLen (aV (eVar 0) (aNil))))
def b_searched_entries : Dv.Env → SR := sq (sAsg 1 (eLstM (mNil))) (sq (sAsg 2 (eC (.int 0))) (sq (sWhile tw_searched_entries_1 lp_searched_entries_1) (sRet (eVar 1))))
def d_searched_entries : List D → R D := fnD 1 4 b_searched_entries
def b_plain_part : Dv.Env → SR := sRet (eM1 gJoin (eC (.str "")) (eLc (iW (eVar 0)) (gNm 1) (tAndF (eT (e3 gLe gLe (eC (.int 32)) (eVar 1) (eC (.int 126)))) (eT (e2 gNe (eVar 1) (eC (.int 37))))) (asOwn (e2 gIx (eC c_SIGNS) (e2 gSub (eVar 1) (eC (.int 32))))) [1]))
def d_plain_part : List D → R D := fnD 1 2 b_plain_part
def lp_name_parts_1 : Dv.Env → SR := sIf (tOrF (eT (e2 gEq (eVar 3) (eC (.int 47)))) (eT (e2 gEq (eVar 3) (eC (.int 92))))) (sq (sApp 1 (eCall 1 d_plain_part (aV (eVar 2) (aNil)))) (sAsg 2 (eLstM (mNil)))) (sApp 2 (asOwn (eVar 3)))
def b_name_parts : Dv.Env → SR := sq (sAsg 1 (eLstM (mNil))) (sq (sAsg 2 (eLstM (mNil))) (sq (sFor (iO (eLst (aS (eVar 0) (aO (eC (.int 47)) (aNil))))) (gNm 3) lp_name_parts_1) (sFz 1 (sRet (eLc (iW (eVar 1)) (gNm 2) (eT (e2 gNotIn (eVar 2) (eTup (aO (eC (.str "")) (aO (eC (.str ".")) (aO (eC (.str "..")) (aNil))))))) (asOwn (eVar 2)) [2])))))
def d_name_parts : List D → R D := fnD 1 4 b_name_parts
def lp_plain_name_1 : Dv.Env → SR := sq (sIf (eT (e2 gGt (e2 gAdd (e2 gAdd (eB gLen (aV (eVar 2) (aNil))) (eC (.int 1))) (eB gLen (aV (eVar 3) (aNil)))) (eC c_MOST_NAME))) (sBrk) (sNil)) (sAsg 2 (e2 gAdd (e2 gAdd (eVar 2) (eC (.str "/"))) (eVar 3)))
def b_plain_name : Dv.Env → SR := sq (sAsg 1 (eCall 1 d_name_parts (aV (eVar 0) (aNil)))) (sq (sIf (eT (e2 gEq (eVar 1) (eLst (aNil)))) (sRet (eC (.str "part"))) (sNil)) (sq (sAsg 2 (eSl (e2 gIx (eVar 1) (eC (.int 0))) (oNo) (oPt (eC c_MOST_NAME)))) (sq (sFor (iO (eSl (eVar 1) (oPt (eC (.int 1))) (oNo))) (gNm 3) lp_plain_name_1) (sRet (eVar 2)))))
def d_plain_name : List D → R D := fnD 1 4 b_plain_name
def b_open_crate : Dv.Env → SR := sq (sUnO (gTp (gsCons (gNm 1) (gsCons (gNm 7) (gsNil)))) (eCall 2 d_spend (aV (eVar 1) (aO (e2 gAdd (eC (.int 1)) (eB gLen (aV (eVar 0) (aNil)))) (aNil))))) (sq (sIf (tNotF (eT (eVar 7))) (sRet (eTupM (mO (eLstM (mNil)) (mM 1 (mNil))))) (sNil)) (sq (sAsg 2 (eCall 1 d_last_end (aV (eVar 0) (aNil)))) (sq (sAsg 3 (eLstM (mNil))) (sq (sIf (eT (e2 gGe (eVar 2) (eC (.int 0)))) (sAsg 3 (eCall 2 d_directory_entries (aV (eVar 0) (aV (eVar 2) (aNil))))) (sNil)) (sq (sFz 3 (sAsg 4 (eIf (eT (e2 gNe (eVar 3) (eLst (aNil)))) (eCall 1 d_without_overlaps (aV (eVar 3) (aNil))) (eCall 1 d_searched_entries (aV (eVar 0) (aNil)))))) (sq (sFz 4 (sAsg 4 (eLc (iW (eVar 4)) (gTp (gsCons (gNm 9) (gsCons (gNm 10) (gsCons (gNm 11) (gsCons (gNm 12) (gsCons (gNm 13) (gsNil))))))) (tYes) (eTupM (mO (eCall 1 d_plain_name (aV (eVar 9) (aNil))) (mV (eVar 10) (mV (eVar 11) (mV (eVar 12) (mV (eVar 13) (mNil))))))) [9, 10, 11, 12, 13]))) (sq (sFz 4 (sAsg 5 (eLc (iW (eVar 4)) (gNm 8) (tYes) (asOwn (e2 gIx (eVar 8) (eC (.int 0)))) [8]))) (sq (sFz 4 (sAsg 6 (eLc (iA enum1 (aV (eVar 4) (aNil))) (gTp (gsCons (gNm 14) (gsCons (gNm 8) (gsNil)))) (eT (e2 gNotIn (e2 gIx (eVar 8) (eC (.int 0))) (eSl (eVar 5) (oPt (e2 gAdd (eVar 14) (eC (.int 1)))) (oNo)))) (asOwn (eVar 8)) [14, 8]))) (sRet (eTupM (mO (eSl (eVar 6) (oNo) (oPt (eC c_MOST_ENTRIES))) (mM 1 (mNil)))))))))))))
def d_open_crate : List D → R D := fnD 2 15 b_open_crate
def lp__law_row_1 : Dv.Env → SR := sq (sApp 2 (e2 gAndB (eVar 3) (eC (.int 255)))) (sAsg 3 (e2 gShr (eVar 3) (eC (.int 8))))
def lp__law_row_2 : Dv.Env → SR := sq (sAsg 4 (e2 gMod (eB gInt (aV (e2 gMul (eVar 4) (eC (.int 48271))) (aNil))) (eC (.int 2147483647)))) (sApp 2 (e2 gAndB (e2 gAdd (e2 gDiv (eVar 4) (eC (.int 7))) (eVar 4)) (eC (.int 255))))
def b__law_row : Dv.Env → SR := sq (sAsg 2 (eLstM (mNil))) (sq (sAsg 3 (eB gAbs (aV (eVar 0) (aNil)))) (sq (sIf (eT (e2 gGe (eVar 3) (e2 gPow (eC (.int 10)) (eC (.int 18))))) (sq (sFor (iA rng1 (aV (eVar 1) (aNil))) (gNm 5) lp__law_row_1) (sRet (eVar 2))) (sNil)) (sq (sAsg 4 (e2 gAdd (e2 gMod (eB gInt (aV (eVar 3) (aNil))) (eC (.int 2147483629))) (eC (.int 1)))) (sq (sFor (iA rng1 (aV (eVar 1) (aNil))) (gNm 5) lp__law_row_2) (sRet (eVar 2))))))
def d__law_row : List D → R D := fnD 2 6 b__law_row
def b__law_cell : Dv.Env → SR := sq (sIf (eT (e2 gLt (eVar 1) (eB gLen (aV (eVar 0) (aNil))))) (sRet (eB gInt (aV (e2 gIx (eVar 0) (eVar 1)) (aNil)))) (sNil)) (sRet (eC (.int 0)))
def d__law_cell : List D → R D := fnD 2 2 b__law_cell
def lp__law_low_1 : Dv.Env → SR := sq (sApp 2 (e2 gAndB (eVar 0) (eC (.int 255)))) (sAsg 0 (e2 gShr (eVar 0) (eC (.int 8))))
def b__law_low : Dv.Env → SR := sq (sAsg 2 (eLstM (mNil))) (sq (sFor (iA rng1 (aV (eVar 1) (aNil))) (gNm 3) lp__law_low_1) (sRet (eVar 2)))
def d__law_low : List D → R D := fnD 2 4 b__law_low
def b__law_codes : Dv.Env → SR := sRet (eLc (iW (eVar 0)) (gNm 1) (tYes) (eB gOrd (aV (eVar 1) (aNil))) [1])
def d__law_codes : List D → R D := fnD 1 2 b__law_codes
def b__law_make_head : Dv.Env → SR := sq (sAsg 4 (eB gLen (aV (eVar 2) (aNil)))) (sq (sIf (eT (e2 gEq (e2 gMod (eB gInt (aV (eVar 0) (aNil))) (eC (.int 9))) (eC (.int 1)))) (sAsg 4 (asOwn (eVar 3))) (sNil)) (sq (sAsg 5 (e2 gAdd (e2 gAdd (eCall 1 d__law_codes (aO (eC (.str "CRT1")) (aNil))) (eLst (aO (e2 gMod (eB gInt (aV (e2 gDiv (eVar 0) (eC (.int 9))) (aNil))) (eC (.int 6))) (aO (e2 gAndB (eB gInt (aV (e2 gDiv (eVar 0) (eC (.int 54))) (aNil))) (eC (.int 1))) (aNil))))) (eCall 2 d__law_low (aO (eB gLen (aV (eVar 1) (aNil))) (aO (eC (.int 2)) (aNil)))))) (sRet (e2 gAdd (e2 gAdd (e2 gAdd (e2 gAdd (e2 gAdd (eVar 5) (eCall 2 d__law_low (aO (e2 gAndB (eB gInt (aV (e2 gDiv (eVar 0) (eC (.int 108))) (aNil))) (eC (.int 255))) (aO (eC (.int 4)) (aNil))))) (eCall 2 d__law_low (aO (e2 gAndB (eB gInt (aV (e2 gDiv (eVar 0) (eC (.int 27648))) (aNil))) (eC (.int 65535))) (aO (eC (.int 4)) (aNil))))) (eCall 2 d__law_low (aV (eVar 4) (aO (eC (.int 4)) (aNil))))) (eVar 1)) (eVar 2)))))
def d__law_make_head : List D → R D := fnD 4 6 b__law_make_head
def b__law_make_name : Dv.Env → SR := sq (sAsg 1 (eLstM (mO (eC (.str "a")) (mO (eC (.str "b")) (mO (eC (.str "A")) (mO (eC (.str "dir/a")) (mO (eC (.str "../a")) (mO (eC (.str "")) (mO (e2 gMulS (eC (.str "x")) (eC (.int 5))) (mO (eC (.str "b.txt")) (mO (eC (.str "c")) (mNil)))))))))))) (sRet (eCall 1 d__law_codes (aV (e2 gIx (eVar 1) (e2 gMod (eB gInt (aV (eVar 0) (aNil))) (eC (.int 9)))) (aNil))))
def d__law_make_name : List D → R D := fnD 1 2 b__law_make_name
def b__law_make_record : Dv.Env → SR := sRet (e2 gAdd (e2 gAdd (e2 gAdd (eCall 1 d__law_codes (aO (eC (.str "CDIR")) (aNil))) (eCall 2 d__law_low (aV (eVar 0) (aO (eC (.int 4)) (aNil))))) (eCall 2 d__law_low (aO (eB gLen (aV (eVar 1) (aNil))) (aO (eC (.int 2)) (aNil))))) (eVar 1))
def d__law_make_record : List D → R D := fnD 2 2 b__law_make_record
def lp__law_crate_1 : Dv.Env → SR := sq (sAsg 11 (eB gAbs (aV (eCall 2 d__law_cell (aV (eVar 0) (aO (e2 gAdd (eC (.int 2)) (eVar 4)) (aNil)))) (aNil)))) (sq (sAsg 12 (eCall 2 d__law_row (aO (e2 gDiv (eVar 11) (eC (.int 977))) (aO (e2 gMod (eB gInt (aV (e2 gDiv (eVar 11) (eC (.int 31))) (aNil))) (eC (.int 14))) (aNil))))) (sq (sApp 2 (eTupM (mO (eB gLen (aV (eVar 1) (aNil))) (mO (eCall 1 d__law_make_name (aO (e2 gDiv (eVar 11) (eC (.int 7))) (aNil))) (mNil))))) (sq (sAsg 1 (e2 gAdd (eVar 1) (eCall 4 d__law_make_head (aV (eVar 11) (aO (eCall 1 d__law_make_name (aO (e2 gDiv (eVar 11) (eC (.int 7))) (aNil))) (aV (eVar 12) (aO (e2 gMod (eB gInt (aV (e2 gDiv (eVar 11) (eC (.int 5))) (aNil))) (eC (.int 60))) (aNil)))))))) (sAsg 1 (e2 gAdd (eVar 1) (e2 gMul (eLst (aO (e2 gAndB (eB gInt (aV (eVar 11) (aNil))) (eC (.int 255))) (aNil))) (e2 gMod (eB gInt (aV (e2 gDiv (eVar 11) (eC (.int 11))) (aNil))) (eC (.int 3)))))))))
def lp__law_crate_2 : Dv.Env → SR := sq (sAsg 11 (eB gAbs (aV (eCall 2 d__law_cell (aV (eVar 0) (aO (e2 gAdd (eC (.int 8)) (eVar 4)) (aNil)))) (aNil)))) (sq (sFz 2 (sUn (gTp (gsCons (gNm 13) (gsCons (gNm 14) (gsNil)))) (e2 gIx (eVar 2) (eVar 4)))) (sq (sIf (eT (e2 gEq (e2 gMod (eB gInt (aV (eVar 11) (aNil))) (eC (.int 7))) (eC (.int 1)))) (sAsg 14 (eCall 1 d__law_make_name (aO (e2 gDiv (eVar 11) (eC (.int 7))) (aNil)))) (sNil)) (sq (sIf (eT (e2 gEq (e2 gMod (eB gInt (aV (eVar 11) (aNil))) (eC (.int 7))) (eC (.int 2)))) (sAsg 13 (e2 gMod (eB gInt (aV (e2 gDiv (eVar 11) (eC (.int 7))) (aNil))) (e2 gAdd (eB gLen (aV (eVar 1) (aNil))) (eC (.int 1))))) (sNil)) (sFz 14 (sFz 13 (sApp 5 (eTupM (mV (eVar 13) (mV (eVar 14) (mNil))))))))))
def lp__law_crate_3 : Dv.Env → SR := sAsg 1 (e2 gAdd (eVar 1) (eCall 2 d__law_make_record (aO (e2 gSub (eVar 6) (eVar 13)) (aV (eVar 14) (aNil)))))
def b__law_crate : Dv.Env → SR := sq (sAsg 1 (eCall 2 d__law_row (aO (eCall 2 d__law_cell (aV (eVar 0) (aO (eC (.int 1)) (aNil)))) (aO (e2 gMod (eB gInt (aV (eB gAbs (aV (eCall 2 d__law_cell (aV (eVar 0) (aO (eC (.int 0)) (aNil)))) (aNil))) (aNil))) (eC (.int 12))) (aNil))))) (sq (sAsg 2 (eLstM (mNil))) (sq (sAsg 3 (e2 gMod (eB gInt (aV (e2 gDiv (eB gAbs (aV (eCall 2 d__law_cell (aV (eVar 0) (aO (eC (.int 0)) (aNil)))) (aNil))) (eC (.int 12))) (aNil))) (eC (.int 6)))) (sq (sFor (iA rng1 (aV (eVar 3) (aNil))) (gNm 4) lp__law_crate_1) (sq (sAsg 5 (eLstM (mNil))) (sq (sFor (iA rng1 (aV (eB gLen (aV (eVar 2) (aNil))) (aNil))) (gNm 4) lp__law_crate_2) (sq (sFz 5 (sAsg 6 (e2 gAdd (eB gLen (aV (eVar 1) (aNil))) (eB gSum (aV (eLc (iW (eVar 5)) (gNm 15) (tYes) (e2 gAdd (eC (.int 10)) (eB gLen (aV (e2 gIx (eVar 15) (eC (.int 1))) (aNil)))) [15]) (aNil)))))) (sq (sAsg 7 (eB gLen (aV (eVar 1) (aNil)))) (sq (sFz 5 (sFor (iW (eVar 5)) (gTp (gsCons (gNm 13) (gsCons (gNm 14) (gsNil)))) lp__law_crate_3)) (sq (sAsg 8 (eB gAbs (aV (eCall 2 d__law_cell (aV (eVar 0) (aO (eC (.int 14)) (aNil)))) (aNil)))) (sq (sAsg 9 (eB gLen (aV (eVar 5) (aNil)))) (sq (sIf (eT (e2 gEq (e2 gMod (eB gInt (aV (eVar 8) (aNil))) (eC (.int 6))) (eC (.int 1)))) (sAsg 9 (e2 gMod (eB gInt (aV (e2 gDiv (eVar 8) (eC (.int 6))) (aNil))) (eC (.int 9)))) (sNil)) (sq (sAsg 10 (e2 gSub (eVar 6) (eVar 7))) (sq (sIf (eT (e2 gEq (e2 gMod (eB gInt (aV (eVar 8) (aNil))) (eC (.int 6))) (eC (.int 2)))) (sAsg 10 (e2 gMod (eB gInt (aV (e2 gDiv (eVar 8) (eC (.int 6))) (aNil))) (e2 gAdd (eVar 6) (eC (.int 4))))) (sNil)) (sq (sIf (eT (e2 gNe (e2 gMod (eB gInt (aV (eVar 8) (aNil))) (eC (.int 6))) (eC (.int 3)))) (sAsg 1 (e2 gAdd (e2 gAdd (e2 gAdd (eVar 1) (eCall 1 d__law_codes (aO (eC (.str "CEND")) (aNil)))) (eCall 2 d__law_low (aV (eVar 9) (aO (eC (.int 2)) (aNil))))) (eCall 2 d__law_low (aV (eVar 10) (aO (eC (.int 4)) (aNil)))))) (sNil)) (sRet (e2 gAdd (eVar 1) (eCall 2 d__law_row (aO (eCall 2 d__law_cell (aV (eVar 0) (aO (eC (.int 15)) (aNil)))) (aO (e2 gMod (eB gInt (aV (e2 gDiv (eVar 8) (eC (.int 60))) (aNil))) (eC (.int 14))) (aNil))))))))))))))))))))
def d__law_crate : List D → R D := fnD 1 16 b__law_crate
def lp_to_low_1 : Dv.Env → SR := sq (sApp 2 (e2 gAndB (eVar 0) (eC (.int 255)))) (sAsg 0 (e2 gShr (eVar 0) (eC (.int 8))))
def b_to_low : Dv.Env → SR := sq (sAsg 2 (eLstM (mNil))) (sq (sFor (iA rng1 (aV (eVar 1) (aNil))) (gNm 3) lp_to_low_1) (sRet (eVar 2)))
def d_to_low : List D → R D := fnD 2 4 b_to_low
def lp_write_crate_1 : Dv.Env → SR := sq (sAsg 10 (eLc (iW (eVar 5)) (gNm 12) (tYes) (eB gOrd (aV (eVar 12) (aNil))) [12])) (sq (sIf (eT (e2 gNe (eCall 1 d_plain_name (aV (eVar 10) (aNil))) (eVar 5))) (sRaise 1) (sNil)) (sq (sFz 10 (sApp 2 (eTupM (mO (eB gLen (aV (eVar 1) (aNil))) (mV (eVar 10) (mNil)))))) (sq (sExt 1 (eLst (aS (eC c_CRATE_SIGN) (aV (eVar 6) (aO (eC (.int 0)) (aS (eCall 2 d_to_low (aO (eB gLen (aV (eVar 10) (aNil))) (aO (eC (.int 2)) (aNil)))) (aS (eCall 2 d_to_low (aV (eVar 7) (aO (eC (.int 4)) (aNil)))) (aS (eCall 2 d_to_low (aV (eVar 8) (aO (eC (.int 4)) (aNil)))) (aNil))))))))) (sExt 1 (eLst (aS (eCall 2 d_to_low (aO (eB gLen (aV (eVar 9) (aNil))) (aO (eC (.int 4)) (aNil)))) (aS (eVar 10) (aS (eVar 9) (aNil)))))))))
def lp_write_crate_2 : Dv.Env → SR := sExt 1 (eLst (aS (eC c_RECORD_SIGN) (aS (eCall 2 d_to_low (aO (e2 gSub (eVar 4) (eVar 11)) (aO (eC (.int 4)) (aNil)))) (aS (eCall 2 d_to_low (aO (eB gLen (aV (eVar 10) (aNil))) (aO (eC (.int 2)) (aNil)))) (aS (eVar 10) (aNil))))))
def b_write_crate : Dv.Env → SR := sq (sAsg 1 (eLstM (mNil))) (sq (sAsg 2 (eLstM (mNil))) (sq (sFor (iW (eVar 0)) (gTp (gsCons (gNm 5) (gsCons (gNm 6) (gsCons (gNm 7) (gsCons (gNm 8) (gsCons (gNm 9) (gsNil))))))) lp_write_crate_1) (sq (sFz 2 (sAsg 3 (eB gSum (aV (eLc (iW (eVar 2)) (gTp (gsCons (gNm 13) (gsCons (gNm 10) (gsNil)))) (tYes) (e2 gAdd (eC c_RECORD_SIZE) (eB gLen (aV (eVar 10) (aNil)))) [13, 10]) (aNil))))) (sq (sAsg 4 (e2 gAdd (eB gLen (aV (eVar 1) (aNil))) (eVar 3))) (sq (sFz 2 (sFor (iW (eVar 2)) (gTp (gsCons (gNm 11) (gsCons (gNm 10) (gsNil)))) lp_write_crate_2)) (sq (sExt 1 (eLst (aS (eC c_END_SIGN) (aS (eCall 2 d_to_low (aO (eB gLen (aV (eVar 2) (aNil))) (aO (eC (.int 2)) (aNil)))) (aS (eCall 2 d_to_low (aV (eVar 3) (aO (eC (.int 4)) (aNil)))) (aNil)))))) (sRet (eVar 1))))))))
def d_write_crate : List D → R D := fnD 1 14 b_write_crate
def lp__law_number_1 : Dv.Env → SR := sAsg 1 (e2 gAdd (e2 gMul (eC (.int 256)) (eVar 1)) (eVar 2))
def b__law_number : Dv.Env → SR := sq (sAsg 1 (eC (.int 0))) (sq (sFor (iRev (eVar 0)) (gNm 2) lp__law_number_1) (sRet (eVar 1)))
def d__law_number : List D → R D := fnD 1 3 b__law_number
def lp__law_stands_1 : Dv.Env → SR := sIf (tAndF (eT (e2 gEq (e2 gIx (eVar 0) (eVar 4)) (eC (.int 67)))) (tAndF (eT (e2 gEq (eSl (eVar 0) (oPt (eVar 4)) (oPt (e2 gAdd (eVar 4) (eC (.int 5))))) (eVar 2))) (eT (e2 gEq (eSl (eVar 0) (oPt (e2 gAdd (eVar 4) (eC (.int 8)))) (oPt (e2 gAdd (eVar 4) (eC (.int 16))))) (eVar 3))))) (sq (sAsg 10 (e2 gAdd (e2 gAdd (eVar 4) (eC (.int 20))) (eCall 1 d__law_number (aO (eSl (eVar 0) (oPt (e2 gAdd (eVar 4) (eC (.int 6)))) (oPt (e2 gAdd (eVar 4) (eC (.int 8))))) (aNil))))) (sIf (tAndF (eT (e2 gLe (eVar 10) (eB gLen (aV (eVar 0) (aNil))))) (eT (e2 gEq (eSl (eVar 0) (oPt (eVar 10)) (oPt (e2 gAdd (eVar 10) (eB gLen (aV (eVar 9) (aNil)))))) (eB gList (aV (eVar 9) (aNil)))))) (sRet (eC (.bl true))) (sNil))) (sNil)
def b__law_stands : Dv.Env → SR := sq (sUn (gTp (gsCons (gNm 5) (gsCons (gNm 6) (gsCons (gNm 7) (gsCons (gNm 8) (gsCons (gNm 9) (gsNil))))))) (eVar 1)) (sq (sFz 6 (sAsg 2 (e2 gAdd (eCall 1 d__law_codes (aO (eC (.str "CRT1")) (aNil))) (eLst (aV (eVar 6) (aNil)))))) (sq (sAsg 3 (e2 gAdd (eCall 2 d__law_low (aV (eVar 7) (aO (eC (.int 4)) (aNil)))) (eCall 2 d__law_low (aV (eVar 8) (aO (eC (.int 4)) (aNil)))))) (sq (sFor (iA rng1 (aV (e2 gSub (eB gLen (aV (eVar 0) (aNil))) (eC (.int 19))) (aNil))) (gNm 4) lp__law_stands_1) (sRet (eC (.bl false))))))
def d__law_stands : List D → R D := fnD 2 11 b__law_stands
def lp_law_1 : Dv.Env → SR := sq (sIf (tOrF (tNotF (eT (eIsi "tuple" (eVar 5)))) (tOrF (eT (e2 gNe (eB gLen (aV (eVar 5) (aNil))) (eC (.int 5)))) (tNotF (eT (eIsi "tuple" (e2 gIx (eVar 5) (eC (.int 4)))))))) (sRet (eC (.bl false))) (sNil)) (sq (sIf (tOrF (eT (e2 gIn (e2 gIx (eVar 5) (eC (.int 0))) (eVar 3))) (tOrF (eT (e2 gNe (eCall 1 d_plain_name (aO (eCall 1 d__law_codes (aV (e2 gIx (eVar 5) (eC (.int 0))) (aNil))) (aNil))) (e2 gIx (eVar 5) (eC (.int 0))))) (tNotF (eT (eCall 2 d__law_stands (aV (eVar 1) (aV (eVar 5) (aNil)))))))) (sRet (eC (.bl false))) (sNil)) (sq (sApp 3 (asOwn (e2 gIx (eVar 5) (eC (.int 0))))) (sAsg 4 (e2 gAdd (eVar 4) (eB gLen (aV (e2 gIx (eVar 5) (eC (.int 4))) (aNil)))))))
def b_law : Dv.Env → SR := sq (sAsg 1 (eCallM 2 d__law_spoilt (mV (eVar 0) (mO (eCall 1 d__law_crate (aV (eVar 0) (aNil))) (mNil))))) (sq (sAsg 2 (eB gList (aV (eVar 1) (aNil)))) (sq (sUnO (gTp (gsCons (gNm 8) (gsCons (gNm 9) (gsNil)))) (eCall 2 d_open_crate (aV (eVar 2) (aO (eC (.int 5000)) (aNil))))) (sq (sIf (tOrF (eT (e2 gNe (eVar 2) (eVar 1))) (tOrF (eT (e2 gNe (eVar 9) (e2 gSub (eC (.int 4999)) (eB gLen (aV (eVar 1) (aNil)))))) (eT (e2 gGt (eB gLen (aV (eVar 8) (aNil))) (eC (.int 64)))))) (sRet (eC (.bl false))) (sNil)) (sq (sAsg 3 (eLstM (mNil))) (sq (sAsg 4 (eC (.int 0))) (sq (sFz 8 (sFor (iW (eVar 8)) (gNm 5) lp_law_1)) (sq (sIf (eT (e2 gGt (eVar 4) (eB gLen (aV (eVar 1) (aNil))))) (sRet (eC (.bl false))) (sNil)) (sq (sIf (eT (e2 gEq (eB gLen (aV (eVar 8) (aNil))) (eC (.int 0)))) (sRet (eC (.bl true))) (sNil)) (sq (sAsg 6 (eCall 2 d__law_row (aO (eCall 2 d__law_cell (aV (eVar 0) (aO (eC (.int 22)) (aNil)))) (aO (e2 gMod (eB gInt (aV (eB gAbs (aV (eCall 2 d__law_cell (aV (eVar 0) (aO (eC (.int 23)) (aNil)))) (aNil))) (aNil))) (eC (.int 9))) (aNil))))) (sq (sAsg 7 (e2 gAdd (eVar 6) (eCall 1 d_write_crate (aO (eB gList (aV (eVar 8) (aNil))) (aNil))))) (sRet (e2 gEq (eCall 2 d_open_crate (aV (eVar 7) (aO (eC (.int 9000)) (aNil)))) (eTup (aV (eVar 8) (aO (e2 gSub (eC (.int 8999)) (eB gLen (aV (eVar 7) (aNil)))) (aNil))))))))))))))))
def d_law : List D → R D := fnD 1 10 b_law
/-! ### what stands in the text -/
structure Ad where
  a__law_spoilt : Addr
  fd__law_spoilt : FuncData
  a_spend : Addr
  fd_spend : FuncData
  a_stands_at : Addr
  fd_stands_at : FuncData
  a_low_number : Addr
  fd_low_number : FuncData
  a_last_end : Addr
  fd_last_end : FuncData
  a_head_at : Addr
  fd_head_at : FuncData
  a_directory_entries : Addr
  fd_directory_entries : FuncData
  a_without_overlaps : Addr
  fd_without_overlaps : FuncData
  a_searched_entries : Addr
  fd_searched_entries : FuncData
  a_plain_part : Addr
  fd_plain_part : FuncData
  a_name_parts : Addr
  fd_name_parts : FuncData
  a_plain_name : Addr
  fd_plain_name : FuncData
  a_open_crate : Addr
  fd_open_crate : FuncData
  a__law_row : Addr
  fd__law_row : FuncData
  a__law_cell : Addr
  fd__law_cell : FuncData
  a__law_low : Addr
  fd__law_low : FuncData
  a__law_codes : Addr
  fd__law_codes : FuncData
  a__law_make_head : Addr
  fd__law_make_head : FuncData
  a__law_make_name : Addr
  fd__law_make_name : FuncData
  a__law_make_record : Addr
  fd__law_make_record : FuncData
  a__law_crate : Addr
  fd__law_crate : FuncData
  a_to_low : Addr
  fd_to_low : FuncData
  a_write_crate : Addr
  fd_write_crate : FuncData
  a__law_number : Addr
  fd__law_number : FuncData
  a__law_stands : Addr
  fd__law_stands : FuncData
  a_law : Addr
  fd_law : FuncData
  c_Malformed : Addr
def kx (K : PySem.W.Frag) (A : Ad) : Kx := ⟨K, fun _ => 0, fun i => match i with
  | _ => 0⟩
def ec (A : Ad) : Nat → Value := fun c => match c with
  | 1 => .ref A.c_Malformed
  | _ => .none
structure Txt (K : PySem.W.Frag) (mg : Str → Option Value) (A : Ad) : Prop where
  f__law_spoilt : Fun K "_law_spoilt" "_law_spoilt" s__law_spoilt A.a__law_spoilt A.fd__law_spoilt
  m__law_spoilt : mg "_law_spoilt" = some (.ref A.a__law_spoilt)
  i__law_spoilt : Binds K A.fd__law_spoilt ["_law_script", "_law_data"] []
  f_spend : Fun K "spend" "spend" s_spend A.a_spend A.fd_spend
  m_spend : mg "spend" = some (.ref A.a_spend)
  i_spend : Binds K A.fd_spend ["left", "cost"] []
  f_stands_at : Fun K "stands_at" "stands_at" s_stands_at A.a_stands_at A.fd_stands_at
  m_stands_at : mg "stands_at" = some (.ref A.a_stands_at)
  i_stands_at : Binds K A.fd_stands_at ["data", "sign", "at"] []
  f_low_number : Fun K "low_number" "low_number" s_low_number A.a_low_number A.fd_low_number
  m_low_number : mg "low_number" = some (.ref A.a_low_number)
  i_low_number : Binds K A.fd_low_number ["data"] []
  f_last_end : Fun K "last_end" "last_end" s_last_end A.a_last_end A.fd_last_end
  m_last_end : mg "last_end" = some (.ref A.a_last_end)
  i_last_end : Binds K A.fd_last_end ["data"] []
  f_head_at : Fun K "head_at" "head_at" s_head_at A.a_head_at A.fd_head_at
  m_head_at : mg "head_at" = some (.ref A.a_head_at)
  i_head_at : Binds K A.fd_head_at ["data", "at"] []
  f_directory_entries : Fun K "directory_entries" "directory_entries" s_directory_entries A.a_directory_entries A.fd_directory_entries
  m_directory_entries : mg "directory_entries" = some (.ref A.a_directory_entries)
  i_directory_entries : Binds K A.fd_directory_entries ["data", "place"] []
  f_without_overlaps : Fun K "without_overlaps" "without_overlaps" s_without_overlaps A.a_without_overlaps A.fd_without_overlaps
  m_without_overlaps : mg "without_overlaps" = some (.ref A.a_without_overlaps)
  i_without_overlaps : Binds K A.fd_without_overlaps ["found"] []
  f_searched_entries : Fun K "searched_entries" "searched_entries" s_searched_entries A.a_searched_entries A.fd_searched_entries
  m_searched_entries : mg "searched_entries" = some (.ref A.a_searched_entries)
  i_searched_entries : Binds K A.fd_searched_entries ["data"] []
  f_plain_part : Fun K "plain_part" "plain_part" s_plain_part A.a_plain_part A.fd_plain_part
  m_plain_part : mg "plain_part" = some (.ref A.a_plain_part)
  i_plain_part : Binds K A.fd_plain_part ["data"] []
  f_name_parts : Fun K "name_parts" "name_parts" s_name_parts A.a_name_parts A.fd_name_parts
  m_name_parts : mg "name_parts" = some (.ref A.a_name_parts)
  i_name_parts : Binds K A.fd_name_parts ["data"] []
  f_plain_name : Fun K "plain_name" "plain_name" s_plain_name A.a_plain_name A.fd_plain_name
  m_plain_name : mg "plain_name" = some (.ref A.a_plain_name)
  i_plain_name : Binds K A.fd_plain_name ["data"] []
  f_open_crate : Fun K "open_crate" "open_crate" s_open_crate A.a_open_crate A.fd_open_crate
  m_open_crate : mg "open_crate" = some (.ref A.a_open_crate)
  i_open_crate : Binds K A.fd_open_crate ["data", "left"] []
  f__law_row : Fun K "_law_row" "_law_row" s__law_row A.a__law_row A.fd__law_row
  m__law_row : mg "_law_row" = some (.ref A.a__law_row)
  i__law_row : Binds K A.fd__law_row ["_law_cell_here", "_law_count"] []
  f__law_cell : Fun K "_law_cell" "_law_cell" s__law_cell A.a__law_cell A.fd__law_cell
  m__law_cell : mg "_law_cell" = some (.ref A.a__law_cell)
  i__law_cell : Binds K A.fd__law_cell ["_law_script", "_law_k"] []
  f__law_low : Fun K "_law_low" "_law_low" s__law_low A.a__law_low A.fd__law_low
  m__law_low : mg "_law_low" = some (.ref A.a__law_low)
  i__law_low : Binds K A.fd__law_low ["_law_number_here", "_law_size"] []
  f__law_codes : Fun K "_law_codes" "_law_codes" s__law_codes A.a__law_codes A.fd__law_codes
  m__law_codes : mg "_law_codes" = some (.ref A.a__law_codes)
  i__law_codes : Binds K A.fd__law_codes ["_law_text"] []
  f__law_make_head : Fun K "_law_make_head" "_law_make_head" s__law_make_head A.a__law_make_head A.fd__law_make_head
  m__law_make_head : mg "_law_make_head" = some (.ref A.a__law_make_head)
  i__law_make_head : Binds K A.fd__law_make_head ["_law_cell_here", "_law_name", "_law_data", "_law_size"] []
  f__law_make_name : Fun K "_law_make_name" "_law_make_name" s__law_make_name A.a__law_make_name A.fd__law_make_name
  m__law_make_name : mg "_law_make_name" = some (.ref A.a__law_make_name)
  i__law_make_name : Binds K A.fd__law_make_name ["_law_cell_here"] []
  f__law_make_record : Fun K "_law_make_record" "_law_make_record" s__law_make_record A.a__law_make_record A.fd__law_make_record
  m__law_make_record : mg "_law_make_record" = some (.ref A.a__law_make_record)
  i__law_make_record : Binds K A.fd__law_make_record ["_law_distance", "_law_name"] []
  f__law_crate : Fun K "_law_crate" "_law_crate" s__law_crate A.a__law_crate A.fd__law_crate
  m__law_crate : mg "_law_crate" = some (.ref A.a__law_crate)
  i__law_crate : Binds K A.fd__law_crate ["_law_script"] []
  f_to_low : Fun K "to_low" "to_low" s_to_low A.a_to_low A.fd_to_low
  m_to_low : mg "to_low" = some (.ref A.a_to_low)
  i_to_low : Binds K A.fd_to_low ["number", "size"] []
  f_write_crate : Fun K "write_crate" "write_crate" s_write_crate A.a_write_crate A.fd_write_crate
  m_write_crate : mg "write_crate" = some (.ref A.a_write_crate)
  i_write_crate : Binds K A.fd_write_crate ["entries"] []
  f__law_number : Fun K "_law_number" "_law_number" s__law_number A.a__law_number A.fd__law_number
  m__law_number : mg "_law_number" = some (.ref A.a__law_number)
  i__law_number : Binds K A.fd__law_number ["_law_row_here"] []
  f__law_stands : Fun K "_law_stands" "_law_stands" s__law_stands A.a__law_stands A.fd__law_stands
  m__law_stands : mg "_law_stands" = some (.ref A.a__law_stands)
  i__law_stands : Binds K A.fd__law_stands ["_law_data", "_law_entry"] []
  f_law : Fun K "law" "law" s_law A.a_law A.fd_law
  m_law : mg "law" = some (.ref A.a_law)
  i_law : Binds K A.fd_law ["_law_script"] []
  z_abs : mg "abs" = none
  z_any : mg "any" = none
  z_enumerate : mg "enumerate" = none
  z_int : mg "int" = none
  z_isinstance : mg "isinstance" = none
  z_len : mg "len" = none
  z_list : mg "list" = none
  z_max : mg "max" = none
  z_min : mg "min" = none
  z_ord : mg "ord" = none
  z_range : mg "range" = none
  z_reversed : mg "reversed" = none
  z_sum : mg "sum" = none
  z_tuple : mg "tuple" = none
  g_CRATE_SIGN : Glob (kx K A) mg "CRATE_SIGN" c_CRATE_SIGN
  g_END_SIGN : Glob (kx K A) mg "END_SIGN" c_END_SIGN
  g_END_SIZE : Glob (kx K A) mg "END_SIZE" c_END_SIZE
  g_HEAD_SIZE : Glob (kx K A) mg "HEAD_SIZE" c_HEAD_SIZE
  g_MOST_ENTRIES : Glob (kx K A) mg "MOST_ENTRIES" c_MOST_ENTRIES
  g_MOST_NAME : Glob (kx K A) mg "MOST_NAME" c_MOST_NAME
  g_RECORD_SIGN : Glob (kx K A) mg "RECORD_SIGN" c_RECORD_SIGN
  g_RECORD_SIZE : Glob (kx K A) mg "RECORD_SIZE" c_RECORD_SIZE
  g_SIGNS : Glob (kx K A) mg "SIGNS" c_SIGNS
  x_Malformed : ExF K mg "Malformed" A.c_Malformed
section
variable {P : Program} {w : World} {K : PySem.W.Frag} {mg : Str → Option Value} {base : Heap} {A : Ad}
theorem ok__law_spoilt (T : Txt K mg A) : FnOk P w K mg base (L2.CX P w) 1 A.a__law_spoilt A.fd__law_spoilt ["_law_script", "_law_data"] (spM (kx K A) (ec A) 2 d__law_spoilt) := by
  refine fn_okM 0 2 7 (kx K A) (ec A) rfl rfl T.f__law_spoilt sc__law_spoilt (b := b__law_spoilt) fun cdv A' outer s H Ew He F0 v0 W hr tk hp => ?_
  exact sb_cons (ss_for hp rfl (ei_rng2 rfl T.z_range (ea_v (EO.v (eo_int)) (ea_v (EO.v (eo_B (call_min2 rfl) says_min2 rfl T.z_min bb_min (ea_v (EO.v (eo_int)) (ea_v (EO.v (eo_B call_len says_len rfl T.z_len bb_len (ea_v (ev_var (pv 0)) (ea_nil)))) (ea_nil))))) (ea_nil)))) (eg_name sc__law_spoilt.nd rfl (by first | exact .inl rfl | exact .inr rfl) (fun z => nomatch z)) (b := lp__law_spoilt_1) (sb_cons (ss_asg sc__law_spoilt.nd rfl (by first | exact .inl rfl | exact .inr rfl) (fun z => nomatch z) (eo_B call_abs says_abs rfl T.z_abs bb_abs (ea_v (ev_ix rfl (ev_var (pv 0)) (ev_var (pv 2))) (ea_nil)))) (sb_cons (ss_if (et_eq rfl hr.units (EO.v (eo_B call_len says_len rfl T.z_len bb_len (ea_v (ev_var (pv 1)) (ea_nil)))) (EO.v (eo_int))) (sb_one (ss_retV (i := 1) (fun z => nomatch z) (pv 1))) (sb_nil)) (sb_cons (ss_asg sc__law_spoilt.nd rfl (by first | exact .inl rfl | exact .inr rfl) (fun z => nomatch z) (eo_mod (EO.v (eo_T call_int1 says_int rfl T.z_int bb_int (ea_v (EO.v (eo_div (ev_var (pv 3)) (EO.v (eo_int)))) (ea_nil)))) (EO.v (eo_B call_len says_len rfl T.z_len bb_len (ea_v (ev_var (pv 1)) (ea_nil)))))) (sb_cons (ss_asg sc__law_spoilt.nd rfl (by first | exact .inl rfl | exact .inr rfl) (fun z => nomatch z) (eo_add (ev_var (pv 4)) (EO.v (eo_mod (EO.v (eo_T call_int1 says_int rfl T.z_int bb_int (ea_v (EO.v (eo_div (ev_var (pv 3)) (EO.v (eo_int)))) (ea_nil)))) (EO.v (eo_int)))))) (sb_cons (ss_asg sc__law_spoilt.nd rfl (by first | exact .inl rfl | exact .inr rfl) (fun z => nomatch z) (eo_mod (EO.v (eo_T call_int1 says_int rfl T.z_int bb_int (ea_v (ev_var (pv 3)) (ea_nil)))) (EO.v (eo_int)))) (sb_cons (ss_if (et_eq rfl hr.units (ev_var (pv 6)) (EO.v (eo_int))) (sb_one (ss_asg sc__law_spoilt.nd rfl (by first | exact .inl rfl | exact .inr rfl) (fun z => nomatch z) (eo_add (EO.v (eo_sl rfl (ev_var (pv 1)) (ep_no) (ep_pt (ev_var (pv 4))))) (EO.v (eo_sl rfl (ev_var (pv 1)) (ep_pt (ev_var (pv 5))) (ep_no)))))) (sb_nil)) (sb_cons (ss_if (et_eq rfl hr.units (ev_var (pv 6)) (EO.v (eo_int))) (sb_one (ss_asg sc__law_spoilt.nd rfl (by first | exact .inl rfl | exact .inr rfl) (fun z => nomatch z) (eo_add (ev_var (pv 1)) (EO.v (eo_sl rfl (ev_var (pv 1)) (ep_pt (ev_var (pv 4))) (ep_pt (ev_var (pv 5)))))))) (sb_nil)) (sb_cons (ss_if (et_eq rfl hr.units (ev_var (pv 6)) (EO.v (eo_int))) (sb_one (ss_asg sc__law_spoilt.nd rfl (by first | exact .inl rfl | exact .inr rfl) (fun z => nomatch z) (eo_add (EO.v (eo_add (EO.v (eo_sl rfl (ev_var (pv 1)) (ep_no) (ep_pt (ev_var (pv 4))))) (EO.v (eo_sl rfl (ev_var (pv 1)) (ep_pt (ev_var (pv 4))) (ep_pt (ev_var (pv 5))))))) (EO.v (eo_sl rfl (ev_var (pv 1)) (ep_pt (ev_var (pv 4))) (ep_no)))))) (sb_nil)) (sb_one (ss_if (et_eq rfl hr.units (ev_var (pv 6)) (EO.v (eo_int))) (sb_one (ss_setL (pv 1) (eo_bxor (ev_ix rfl (ev_var (pv 1)) (ev_var (pv 4))) (EO.v (eo_add (EO.v (eo_int)) (EO.v (eo_mod (EO.v (eo_T call_int1 says_int rfl T.z_int bb_int (ea_v (EO.v (eo_div (ev_var (pv 3)) (EO.v (eo_int)))) (ea_nil)))) (EO.v (eo_int))))))) (ev_var (pv 4)))) (sb_nil)))))))))))) (sb_one (ss_ret (eo_sl rfl (ev_var (pv 1)) (ep_no) (ep_pt (EO.v (eo_int))))))
theorem ok_spend (T : Txt K mg A) : FnOk P w K mg base (L2.CX P w) 1 A.a_spend A.fd_spend ["left", "cost"] (spD (kx K A) (ec A) 2 d_spend) := by
  refine fn_ok 0 2 2 (kx K A) (ec A) rfl rfl T.f_spend sc_spend (b := b_spend) fun cdv A' outer s H Ew He F0 v0 W hr tk hp => ?_
  exact sb_cons (ss_asg sc_spend.nd rfl (by first | exact .inl rfl | exact .inr rfl) (fun z => nomatch z) (eo_B (call_max2 rfl) says_max2 rfl T.z_max bb_max (ea_v (ev_var (pv 1)) (ea_v (EO.v (eo_int)) (ea_nil))))) (sb_cons (ss_if (et_gt (ev_var (pv 1)) (ev_var (pv 0))) (sb_one (ss_retT (fun _ _ z => nomatch z) (em_o (eo_int) (em_o (eo_bl) (em_nil))))) (sb_nil)) (sb_one (ss_retT (fun _ _ z => nomatch z) (em_o (eo_sub (ev_var (pv 0)) (ev_var (pv 1))) (em_o (eo_bl) (em_nil))))))
theorem ok_stands_at (T : Txt K mg A) : FnOk P w K mg base (L2.CX P w) 1 A.a_stands_at A.fd_stands_at ["data", "sign", "at"] (spD (kx K A) (ec A) 3 d_stands_at) := by
  refine fn_ok 0 3 3 (kx K A) (ec A) rfl rfl T.f_stands_at sc_stands_at (b := b_stands_at) fun cdv A' outer s H Ew He F0 v0 W hr tk hp => ?_
  exact sb_one (ss_ret (EV.o (ev_and rfl (EO.v (eo_eq rfl hr.units (EO.v (eo_sl rfl (ev_var (pv 0)) (ep_pt (ev_var (pv 2))) (ep_pt (EO.v (eo_add (ev_var (pv 2)) (EO.v (eo_int))))))) (EO.v (eo_lst (ea_v (ev_ix rfl (ev_var (pv 1)) (EO.v (eo_int))) (ea_nil)))))) (ev_one (EO.v (eo_eq rfl hr.units (EO.v (eo_sl rfl (ev_var (pv 0)) (ep_pt (ev_var (pv 2))) (ep_pt (EO.v (eo_add (ev_var (pv 2)) (EO.v (eo_B call_len says_len rfl T.z_len bb_len (ea_v (ev_var (pv 1)) (ea_nil))))))))) (EO.v (eo_T call_list_of says_list rfl T.z_list bb_list (ea_v (ev_var (pv 1)) (ea_nil))))))))))
theorem ok_low_number (T : Txt K mg A) : FnOk P w K mg base (L2.CX P w) 1 A.a_low_number A.fd_low_number ["data"] (spD (kx K A) (ec A) 1 d_low_number) := by
  refine fn_ok 0 1 3 (kx K A) (ec A) rfl rfl T.f_low_number sc_low_number (b := b_low_number) fun cdv A' outer s H Ew He F0 v0 W hr tk hp => ?_
  exact sb_cons (ss_asg sc_low_number.nd rfl (by first | exact .inl rfl | exact .inr rfl) (fun z => nomatch z) (eo_int)) (sb_cons (ss_for hp rfl (ei_rev rfl rfl T.z_reversed (ev_var (pv 0))) (eg_name sc_low_number.nd rfl (by first | exact .inl rfl | exact .inr rfl) (fun z => nomatch z)) (b := lp_low_number_1) (sb_one (ss_asg sc_low_number.nd rfl (by first | exact .inl rfl | exact .inr rfl) (fun z => nomatch z) (eo_add (EO.v (eo_mul (ev_var (pv 1)) (EO.v (eo_int)))) (ev_var (pv 2)))))) (sb_one (ss_retV (i := 1) (fun z => nomatch z) (pv 1))))
theorem ok_last_end (T : Txt K mg A) : FnOk P w K mg base (L2.CX P w) 2 A.a_last_end A.fd_last_end ["data"] (spD (kx K A) (ec A) 1 d_last_end) := by
  refine fn_ok 1 1 2 (kx K A) (ec A) rfl rfl T.f_last_end sc_last_end (b := b_last_end) fun cdv A' outer s H Ew He F0 v0 W hr tk hp => ?_
  exact sb_cons (ss_for hp rfl (ei_rng3 rfl T.z_range (ea_v (EO.v (eo_sub (EO.v (eo_B call_len says_len rfl T.z_len bb_len (ea_v (ev_var (pv 0)) (ea_nil)))) (EO.v (eo_g rfl T.g_END_SIZE)))) (ea_v (EO.v (eo_neg (EO.v (eo_int)))) (ea_v (EO.v (eo_neg (EO.v (eo_int)))) (ea_nil))))) (eg_name sc_last_end.nd rfl (by first | exact .inl rfl | exact .inr rfl) (fun z => nomatch z)) (b := lp_last_end_1) (sb_one (ss_if (EW.t (ew_and (et_tru rfl (EO.v (eo_call (ok_stands_at T) tk (hr.mono (by decide)) rfl T.m_stands_at T.f_stands_at.kp T.i_stands_at (ea_v (ev_var (pv 0)) (ea_o (eo_g rfl T.g_END_SIGN) (ea_v (ev_var (pv 1)) (ea_nil))))))) (ew_and1 (et_le (EO.v (eo_call (ok_low_number T) tk (hr.mono (by decide)) rfl T.m_low_number T.f_low_number.kp T.i_low_number (ea_o (eo_sl rfl (ev_var (pv 0)) (ep_pt (EO.v (eo_add (ev_var (pv 1)) (EO.v (eo_int))))) (ep_pt (EO.v (eo_add (ev_var (pv 1)) (EO.v (eo_g rfl T.g_END_SIZE)))))) (ea_nil)))) (ev_var (pv 1)))))) (sb_one (ss_retV (i := 1) (fun z => nomatch z) (pv 1))) (sb_nil)))) (sb_one (ss_ret (eo_neg (EO.v (eo_int)))))
theorem ok_head_at (T : Txt K mg A) : FnOk P w K mg base (L2.CX P w) 2 A.a_head_at A.fd_head_at ["data", "at"] (spD (kx K A) (ec A) 2 d_head_at) := by
  refine fn_ok 1 2 7 (kx K A) (ec A) rfl rfl T.f_head_at sc_head_at (b := b_head_at) fun cdv A' outer s H Ew He F0 v0 W hr tk hp => ?_
  exact sb_cons (ss_if (EW.t (ew_or (et_not (et_tru rfl (EO.v (eo_call (ok_stands_at T) tk (hr.mono (by decide)) rfl T.m_stands_at T.f_stands_at.kp T.i_stands_at (ea_v (ev_var (pv 0)) (ea_o (eo_g rfl T.g_CRATE_SIGN) (ea_v (ev_var (pv 1)) (ea_nil)))))))) (ew_or1 (et_gt (EO.v (eo_add (ev_var (pv 1)) (EO.v (eo_g rfl T.g_HEAD_SIZE)))) (EO.v (eo_B call_len says_len rfl T.z_len bb_len (ea_v (ev_var (pv 0)) (ea_nil)))))))) (sb_one (ss_ret (eo_non))) (sb_nil)) (sb_cons (ss_asg sc_head_at.nd rfl (by first | exact .inl rfl | exact .inr rfl) (fun z => nomatch z) (eo_add (EO.v (eo_add (ev_var (pv 1)) (EO.v (eo_g rfl T.g_HEAD_SIZE)))) (EO.v (eo_call (ok_low_number T) tk (hr.mono (by decide)) rfl T.m_low_number T.f_low_number.kp T.i_low_number (ea_o (eo_sl rfl (ev_var (pv 0)) (ep_pt (EO.v (eo_add (ev_var (pv 1)) (EO.v (eo_int))))) (ep_pt (EO.v (eo_add (ev_var (pv 1)) (EO.v (eo_int)))))) (ea_nil)))))) (sb_cons (ss_if (et_gt (ev_var (pv 2)) (EO.v (eo_B call_len says_len rfl T.z_len bb_len (ea_v (ev_var (pv 0)) (ea_nil))))) (sb_one (ss_ret (eo_non))) (sb_nil)) (sb_cons (ss_asg sc_head_at.nd rfl (by first | exact .inl rfl | exact .inr rfl) (fun z => nomatch z) (eo_add (ev_var (pv 2)) (EO.v (eo_call (ok_low_number T) tk (hr.mono (by decide)) rfl T.m_low_number T.f_low_number.kp T.i_low_number (ea_o (eo_sl rfl (ev_var (pv 0)) (ep_pt (EO.v (eo_add (ev_var (pv 1)) (EO.v (eo_int))))) (ep_pt (EO.v (eo_add (ev_var (pv 1)) (EO.v (eo_g rfl T.g_HEAD_SIZE)))))) (ea_nil)))))) (sb_cons (ss_asg sc_head_at.nd rfl (by first | exact .inl rfl | exact .inr rfl) (fun z => nomatch z) (eo_call (ok_low_number T) tk (hr.mono (by decide)) rfl T.m_low_number T.f_low_number.kp T.i_low_number (ea_o (eo_sl rfl (ev_var (pv 0)) (ep_pt (EO.v (eo_add (ev_var (pv 1)) (EO.v (eo_int))))) (ep_pt (EO.v (eo_add (ev_var (pv 1)) (EO.v (eo_int)))))) (ea_nil)))) (sb_cons (ss_asg sc_head_at.nd rfl (by first | exact .inl rfl | exact .inr rfl) (fun z => nomatch z) (eo_call (ok_low_number T) tk (hr.mono (by decide)) rfl T.m_low_number T.f_low_number.kp T.i_low_number (ea_o (eo_sl rfl (ev_var (pv 0)) (ep_pt (EO.v (eo_add (ev_var (pv 1)) (EO.v (eo_int))))) (ep_pt (EO.v (eo_add (ev_var (pv 1)) (EO.v (eo_int)))))) (ea_nil)))) (sb_cons (ss_fz 5 (fun z => nomatch z) (ss_fz 4 (fun z => nomatch z) (ss_asg sc_head_at.nd rfl (by first | exact .inl rfl | exact .inr rfl) (fun z => nomatch z) (eo_tupM (em_o (eo_sl rfl (ev_var (pv 0)) (ep_pt (EO.v (eo_add (ev_var (pv 1)) (EO.v (eo_g rfl T.g_HEAD_SIZE))))) (ep_pt (ev_var (pv 2)))) (em_v (ev_ix rfl (ev_var (pv 0)) (EO.v (eo_add (ev_var (pv 1)) (EO.v (eo_int))))) (em_v (ev_var (pv 4)) (em_v (ev_var (pv 5)) (em_o (eo_T call_tuple_of says_tuple rfl T.z_tuple bb_tuple (ea_v (EO.v (eo_sl rfl (ev_var (pv 0)) (ep_pt (ev_var (pv 2))) (ep_pt (ev_var (pv 3))))) (ea_nil))) (em_nil)))))))))) (sb_one (ss_retT (fun _ _ z => nomatch z) (em_m (i := 6) (by decide) (pv 6) (em_o (eo_le (ev_var (pv 3)) (EO.v (eo_B call_len says_len rfl T.z_len bb_len (ea_v (ev_var (pv 0)) (ea_nil))))) (em_o (eo_B (call_min2 rfl) says_min2 rfl T.z_min bb_min (ea_v (ev_var (pv 3)) (ea_v (EO.v (eo_B call_len says_len rfl T.z_len bb_len (ea_v (ev_var (pv 0)) (ea_nil)))) (ea_nil)))) (em_nil))))))))))))
theorem ok_directory_entries (T : Txt K mg A) : FnOk P w K mg base (L2.CX P w) 3 A.a_directory_entries A.fd_directory_entries ["data", "place"] (spD (kx K A) (ec A) 2 d_directory_entries) := by
  refine fn_ok 2 2 10 (kx K A) (ec A) rfl rfl T.f_directory_entries sc_directory_entries (b := b_directory_entries) fun cdv A' outer s H Ew He F0 v0 W hr tk hp => ?_
  exact sb_cons (ss_asg sc_directory_entries.nd rfl (by first | exact .inl rfl | exact .inr rfl) (fun z => nomatch z) (eo_lstM (em_nil))) (sb_cons (ss_asg sc_directory_entries.nd rfl (by first | exact .inl rfl | exact .inr rfl) (fun z => nomatch z) (eo_sub (ev_var (pv 1)) (EO.v (eo_call (ok_low_number T) tk (hr.mono (by decide)) rfl T.m_low_number T.f_low_number.kp T.i_low_number (ea_o (eo_sl rfl (ev_var (pv 0)) (ep_pt (EO.v (eo_add (ev_var (pv 1)) (EO.v (eo_int))))) (ep_pt (EO.v (eo_add (ev_var (pv 1)) (EO.v (eo_g rfl T.g_RECORD_SIZE)))))) (ea_nil)))))) (sb_cons (ss_for hp rfl (ei_rng1 rfl T.z_range (ea_v (EO.v (eo_call (ok_low_number T) tk (hr.mono (by decide)) rfl T.m_low_number T.f_low_number.kp T.i_low_number (ea_o (eo_sl rfl (ev_var (pv 0)) (ep_pt (EO.v (eo_add (ev_var (pv 1)) (EO.v (eo_int))))) (ep_pt (EO.v (eo_add (ev_var (pv 1)) (EO.v (eo_int)))))) (ea_nil)))) (ea_nil))) (eg_name sc_directory_entries.nd rfl (by first | exact .inl rfl | exact .inr rfl) (fun z => nomatch z)) (b := lp_directory_entries_1) (sb_cons (ss_if (et_not (et_tru rfl (EO.v (eo_call (ok_stands_at T) tk (hr.mono (by decide)) rfl T.m_stands_at T.f_stands_at.kp T.i_stands_at (ea_v (ev_var (pv 0)) (ea_o (eo_g rfl T.g_RECORD_SIGN) (ea_v (ev_var (pv 3)) (ea_nil)))))))) (sb_one (ss_brk)) (sb_nil)) (sb_cons (ss_asg sc_directory_entries.nd rfl (by first | exact .inl rfl | exact .inr rfl) (fun z => nomatch z) (eo_add (EO.v (eo_add (ev_var (pv 3)) (EO.v (eo_g rfl T.g_RECORD_SIZE)))) (EO.v (eo_call (ok_low_number T) tk (hr.mono (by decide)) rfl T.m_low_number T.f_low_number.kp T.i_low_number (ea_o (eo_sl rfl (ev_var (pv 0)) (ep_pt (EO.v (eo_add (ev_var (pv 3)) (EO.v (eo_int))))) (ep_pt (EO.v (eo_add (ev_var (pv 3)) (EO.v (eo_g rfl T.g_RECORD_SIZE)))))) (ea_nil)))))) (sb_cons (ss_asg sc_directory_entries.nd rfl (by first | exact .inl rfl | exact .inr rfl) (fun z => nomatch z) (eo_call (ok_low_number T) tk (hr.mono (by decide)) rfl T.m_low_number T.f_low_number.kp T.i_low_number (ea_o (eo_sl rfl (ev_var (pv 0)) (ep_pt (EO.v (eo_add (ev_var (pv 3)) (EO.v (eo_int))))) (ep_pt (EO.v (eo_add (ev_var (pv 3)) (EO.v (eo_int)))))) (ea_nil)))) (sb_cons (ss_if (EW.t (ew_or (et_gt (ev_var (pv 5)) (ev_var (pv 1))) (ew_or (et_gt (EO.v (eo_add (ev_var (pv 3)) (EO.v (eo_g rfl T.g_RECORD_SIZE)))) (ev_var (pv 1))) (ew_or1 (et_gt (ev_var (pv 6)) (ev_var (pv 1))))))) (sb_one (ss_brk)) (sb_nil)) (sb_cons (ss_asg sc_directory_entries.nd rfl (by first | exact .inl rfl | exact .inr rfl) (fun z => nomatch z) (eo_call (ok_head_at T) tk (hr.mono (by decide)) rfl T.m_head_at T.f_head_at.kp T.i_head_at (ea_v (ev_var (pv 0)) (ea_o (eo_sub (ev_var (pv 1)) (ev_var (pv 6))) (ea_nil))))) (sb_cons (ss_if (EW.t (ew_and (et_isNot (ev_var (pv 7)) (EO.v (eo_non))) (ew_and1 (et_tru rfl (ev_ix rfl (ev_var (pv 7)) (EO.v (eo_int))))))) (sb_cons (ss_fz 7 (fun z => nomatch z) (ss_asg sc_directory_entries.nd rfl (by first | exact .inl rfl | exact .inr rfl) (fun z => nomatch z) (EV.o (ev_ix rfl (ev_var (pv 7)) (EO.v (eo_int)))))) (sb_cons (ss_asg sc_directory_entries.nd rfl (by first | exact .inl rfl | exact .inr rfl) (fun z => nomatch z) (eo_sl rfl (ev_var (pv 0)) (ep_pt (EO.v (eo_add (ev_var (pv 3)) (EO.v (eo_g rfl T.g_RECORD_SIZE))))) (ep_pt (ev_var (pv 5))))) (sb_one (ss_fz 7 (fun z => nomatch z) (ss_fz 9 (fun z => nomatch z) (ss_app (pv 2) (eo_tupM (em_o (eo_tupM (em_v (ev_var (pv 9)) (em_v (ev_ix rfl (ev_var (pv 8)) (EO.v (eo_int))) (em_v (ev_ix rfl (ev_var (pv 8)) (EO.v (eo_int))) (em_v (ev_ix rfl (ev_var (pv 8)) (EO.v (eo_int))) (em_v (ev_ix rfl (ev_var (pv 8)) (EO.v (eo_int))) (em_nil))))))) (em_o (eo_sub (ev_var (pv 1)) (ev_var (pv 6))) (em_v (ev_ix rfl (ev_var (pv 7)) (EO.v (eo_int))) (em_nil))))))))))) (sb_nil)) (sb_one (ss_asg sc_directory_entries.nd rfl (by first | exact .inl rfl | exact .inr rfl) (fun z => nomatch z) (EV.o (ev_var (pv 5)))))))))))) (sb_one (ss_retV (i := 2) (fun z => nomatch z) (pv 2)))))
theorem ok_without_overlaps (T : Txt K mg A) : FnOk P w K mg base (L2.CX P w) 1 A.a_without_overlaps A.fd_without_overlaps ["found"] (spD (kx K A) (ec A) 1 d_without_overlaps) := by
  refine fn_ok 0 1 7 (kx K A) (ec A) rfl rfl T.f_without_overlaps sc_without_overlaps (b := b_without_overlaps) fun cdv A' outer s H Ew He F0 v0 W hr tk hp => ?_
  exact sb_cons (ss_asg sc_without_overlaps.nd rfl (by first | exact .inl rfl | exact .inr rfl) (fun z => nomatch z) (eo_lstM (em_nil))) (sb_cons (ss_for hp rfl (ei_w rfl (ev_var (pv 0))) (eg_tup rfl rfl (egs_cons (eg_name sc_without_overlaps.nd rfl (by first | exact .inl rfl | exact .inr rfl) (fun z => nomatch z)) (egs_cons (eg_name sc_without_overlaps.nd rfl (by first | exact .inl rfl | exact .inr rfl) (fun z => nomatch z)) (egs_cons (eg_name sc_without_overlaps.nd rfl (by first | exact .inl rfl | exact .inr rfl) (fun z => nomatch z)) (egs_nil)))) 3 (gsCons_len (gsCons_len (gsCons_len (gsNil_len))))) (b := lp_without_overlaps_1) (sb_one (ss_if (et_lend 1 (fun z => nomatch z) (et_not (et_tru rfl (EO.v (eo_B (cr_any rfl) says_any rfl T.z_any bb_any (ea_v (EO.v (eo_lc (own := [("other", 6)]) rfl sc_without_overlaps.nd (ei_w rfl (ev_var (pv 1))) (by first | (show blkC ["found", "kept", "entry", "start", "end", "item", "other"] (defScope s_without_overlaps) _ _ = true; decide +kernel) | rfl | (with_unfolding_all rfl)) (fun _ _ _ _ _ => egw_name (by decide) sc_without_overlaps.nd rfl (by first | exact .inl rfl | exact .inr rfl) (fun z => nomatch z)) (fun _ _ _ _ _ tk => ets_nil) (fun _ _ _ _ _ tk => EV.o (ev_and rfl (EO.v (eo_lt (ev_var (pv 3)) (ev_ix rfl (ev_var (pv 6)) (EO.v (eo_int))))) (ev_one (EO.v (eo_lt (ev_ix rfl (ev_var (pv 6)) (EO.v (eo_int))) (ev_var (pv 4))))))) (fun _ _ z => nomatch z))) (ea_nil))))))) (sb_one (ss_app (pv 1) (eo_tupM (em_v (ev_var (pv 2)) (em_v (ev_var (pv 3)) (em_v (ev_var (pv 4)) (em_nil))))))) (sb_nil)))) (sb_one (ss_fz 1 (fun z => nomatch z) (ss_ret (eo_lc (own := [("item", 5)]) rfl sc_without_overlaps.nd (ei_w rfl (ev_var (pv 1))) (by first | (show blkC ["found", "kept", "entry", "start", "end", "item", "other"] (defScope s_without_overlaps) _ _ = true; decide +kernel) | rfl | (with_unfolding_all rfl)) (fun _ _ _ _ _ => egw_name (by decide) sc_without_overlaps.nd rfl (by first | exact .inl rfl | exact .inr rfl) (fun z => nomatch z)) (fun _ _ _ _ _ tk => ets_nil) (fun _ _ _ _ _ tk => EV.o (ev_ix rfl (ev_var (pv 5)) (EO.v (eo_int)))) (fun _ _ z => nomatch z))))))
theorem ok_searched_entries (T : Txt K mg A) : FnOk P w K mg base (L2.CX P w) 3 A.a_searched_entries A.fd_searched_entries ["data"] (spD (kx K A) (ec A) 1 d_searched_entries) := by
  refine fn_ok 2 1 4 (kx K A) (ec A) rfl rfl T.f_searched_entries sc_searched_entries (b := b_searched_entries) fun cdv A' outer s H Ew He F0 v0 W hr tk hp => ?_
  exact sb_cons (ss_asg sc_searched_entries.nd rfl (by first | exact .inl rfl | exact .inr rfl) (fun z => nomatch z) (eo_lstM (em_nil))) (sb_cons (ss_asg sc_searched_entries.nd rfl (by first | exact .inl rfl | exact .inr rfl) (fun z => nomatch z) (eo_int)) (sb_cons (ss_while hp (t := tw_searched_entries_1) (b := lp_searched_entries_1) (et_lt (ev_var (pv 2)) (EO.v (eo_B call_len says_len rfl T.z_len bb_len (ea_v (ev_var (pv 0)) (ea_nil))))) (sb_cons (ss_asg sc_searched_entries.nd rfl (by first | exact .inl rfl | exact .inr rfl) (fun z => nomatch z) (eo_call (ok_head_at T) tk (hr.mono (by decide)) rfl T.m_head_at T.f_head_at.kp T.i_head_at (ea_v (ev_var (pv 0)) (ea_v (ev_var (pv 2)) (ea_nil))))) (sb_one (ss_if (et_is (ev_var (pv 3)) (EO.v (eo_non))) (sb_one (ss_asg sc_searched_entries.nd rfl (by first | exact .inl rfl | exact .inr rfl) (fun z => nomatch z) (eo_add (ev_var (pv 2)) (EO.v (eo_int))))) (sb_cons (ss_fz 3 (fun z => nomatch z) (ss_app (pv 1) (EV.o (ev_ix rfl (ev_var (pv 3)) (EO.v (eo_int)))))) (sb_one (ss_fz 3 (fun z => nomatch z) (ss_asg sc_searched_entries.nd rfl (by first | exact .inl rfl | exact .inr rfl) (fun z => nomatch z) (EV.o (ev_ix rfl (ev_var (pv 3)) (EO.v (eo_int)))))))))))) (sb_one (ss_retV (i := 1) (fun z => nomatch z) (pv 1)))))
theorem ok_plain_part (T : Txt K mg A) : FnOk P w K mg base (L2.CX P w) 1 A.a_plain_part A.fd_plain_part ["data"] (spD (kx K A) (ec A) 1 d_plain_part) := by
  refine fn_ok 0 1 2 (kx K A) (ec A) rfl rfl T.f_plain_part sc_plain_part (b := b_plain_part) fun cdv A' outer s H Ew He F0 v0 W hr tk hp => ?_
  exact sb_one (ss_ret (eo_join rfl (EO.v (eo_str)) (EO.v (eo_lc (own := [("byte", 1)]) rfl sc_plain_part.nd (ei_w rfl (ev_var (pv 0))) (by first | (show blkC ["data", "byte"] (defScope s_plain_part) _ _ = true; decide +kernel) | rfl | (with_unfolding_all rfl)) (fun _ _ _ _ _ => egw_name (by decide) sc_plain_part.nd rfl (by first | exact .inl rfl | exact .inr rfl) (fun z => nomatch z)) (fun _ _ _ _ _ tk => ets_one (EW.t (ew_and (et_chain op_le says_cmp op_le says_cmp (by with_unfolding_all rfl) gCmp_bl (EO.v (eo_int)) (ev_var (pv 1)) (EO.v (eo_int))) (ew_and1 (et_ne rfl hr.units (ev_var (pv 1)) (EO.v (eo_int))))))) (fun _ _ _ _ _ tk => EV.o (ev_ix rfl (EO.v (eo_g rfl T.g_SIGNS)) (EO.v (eo_sub (ev_var (pv 1)) (EO.v (eo_int)))))) (fun _ _ z => nomatch z)))))
theorem ok_name_parts (T : Txt K mg A) : FnOk P w K mg base (L2.CX P w) 2 A.a_name_parts A.fd_name_parts ["data"] (spD (kx K A) (ec A) 1 d_name_parts) := by
  refine fn_ok 1 1 4 (kx K A) (ec A) rfl rfl T.f_name_parts sc_name_parts (b := b_name_parts) fun cdv A' outer s H Ew He F0 v0 W hr tk hp => ?_
  exact sb_cons (ss_asg sc_name_parts.nd rfl (by first | exact .inl rfl | exact .inr rfl) (fun z => nomatch z) (eo_lstM (em_nil))) (sb_cons (ss_asg sc_name_parts.nd rfl (by first | exact .inl rfl | exact .inr rfl) (fun z => nomatch z) (eo_lstM (em_nil))) (sb_cons (ss_for hp rfl (ei_o rfl (eo_lst (ea_s rfl (ev_var (pv 0)) (ea_o (eo_int) (ea_nil))))) (eg_name sc_name_parts.nd rfl (by first | exact .inl rfl | exact .inr rfl) (fun z => nomatch z)) (b := lp_name_parts_1) (sb_one (ss_if (EW.t (ew_or (et_eq rfl hr.units (ev_var (pv 3)) (EO.v (eo_int))) (ew_or1 (et_eq rfl hr.units (ev_var (pv 3)) (EO.v (eo_int)))))) (sb_cons (ss_app (pv 1) (eo_call (ok_plain_part T) tk (hr.mono (by decide)) rfl T.m_plain_part T.f_plain_part.kp T.i_plain_part (ea_v (ev_var (pv 2)) (ea_nil)))) (sb_one (ss_asg sc_name_parts.nd rfl (by first | exact .inl rfl | exact .inr rfl) (fun z => nomatch z) (eo_lstM (em_nil))))) (sb_one (ss_app (pv 2) (EV.o (ev_var (pv 3)))))))) (sb_one (ss_fz 1 (fun z => nomatch z) (ss_ret (eo_lc (own := [("part", 2)]) rfl sc_name_parts.nd (ei_w rfl (ev_var (pv 1))) (by first | (show blkC ["data", "parts", "part", "byte"] (defScope s_name_parts) _ _ = true; decide +kernel) | rfl | (with_unfolding_all rfl)) (fun _ _ _ _ _ => egw_name (by decide) sc_name_parts.nd rfl (by first | exact .inl rfl | exact .inr rfl) (fun z => nomatch z)) (fun _ _ _ _ _ tk => ets_one (et_notIn rfl (room65 hr) (ev_var (pv 2)) (EO.v (eo_tup (ea_o (eo_str) (ea_o (eo_str) (ea_o (eo_str) (ea_nil)))))))) (fun _ _ _ _ _ tk => EV.o (ev_var (pv 2))) (fun _ _ z => nomatch z)))))))
theorem ok_plain_name (T : Txt K mg A) : FnOk P w K mg base (L2.CX P w) 3 A.a_plain_name A.fd_plain_name ["data"] (spD (kx K A) (ec A) 1 d_plain_name) := by
  refine fn_ok 2 1 4 (kx K A) (ec A) rfl rfl T.f_plain_name sc_plain_name (b := b_plain_name) fun cdv A' outer s H Ew He F0 v0 W hr tk hp => ?_
  exact sb_cons (ss_asg sc_plain_name.nd rfl (by first | exact .inl rfl | exact .inr rfl) (fun z => nomatch z) (eo_call (ok_name_parts T) tk (hr.mono (by decide)) rfl T.m_name_parts T.f_name_parts.kp T.i_name_parts (ea_v (ev_var (pv 0)) (ea_nil)))) (sb_cons (ss_if (et_eq rfl hr.units (ev_var (pv 1)) (EO.v (eo_lst (ea_nil)))) (sb_one (ss_ret (eo_str))) (sb_nil)) (sb_cons (ss_asg sc_plain_name.nd rfl (by first | exact .inl rfl | exact .inr rfl) (fun z => nomatch z) (eo_sl rfl (ev_ix rfl (ev_var (pv 1)) (EO.v (eo_int))) (ep_no) (ep_pt (EO.v (eo_g rfl T.g_MOST_NAME))))) (sb_cons (ss_for hp rfl (ei_o rfl (eo_sl rfl (ev_var (pv 1)) (ep_pt (EO.v (eo_int))) (ep_no))) (eg_name sc_plain_name.nd rfl (by first | exact .inl rfl | exact .inr rfl) (fun z => nomatch z)) (b := lp_plain_name_1) (sb_cons (ss_if (et_gt (EO.v (eo_add (EO.v (eo_add (EO.v (eo_B call_len says_len rfl T.z_len bb_len (ea_v (ev_var (pv 2)) (ea_nil)))) (EO.v (eo_int)))) (EO.v (eo_B call_len says_len rfl T.z_len bb_len (ea_v (ev_var (pv 3)) (ea_nil)))))) (EO.v (eo_g rfl T.g_MOST_NAME))) (sb_one (ss_brk)) (sb_nil)) (sb_one (ss_asg sc_plain_name.nd rfl (by first | exact .inl rfl | exact .inr rfl) (fun z => nomatch z) (eo_add (EO.v (eo_add (ev_var (pv 2)) (EO.v (eo_str)))) (ev_var (pv 3))))))) (sb_one (ss_retV (i := 2) (fun z => nomatch z) (pv 2))))))
theorem ok_open_crate (T : Txt K mg A) : FnOk P w K mg base (L2.CX P w) 4 A.a_open_crate A.fd_open_crate ["data", "left"] (spD (kx K A) (ec A) 2 d_open_crate) := by
  refine fn_ok 3 2 15 (kx K A) (ec A) rfl rfl T.f_open_crate sc_open_crate (b := b_open_crate) fun cdv A' outer s H Ew He F0 v0 W hr tk hp => ?_
  exact sb_cons (ss_unO (eo_call (ok_spend T) tk (hr.mono (by decide)) rfl T.m_spend T.f_spend.kp T.i_spend (ea_v (ev_var (pv 1)) (ea_o (eo_add (EO.v (eo_int)) (EO.v (eo_B call_len says_len rfl T.z_len bb_len (ea_v (ev_var (pv 0)) (ea_nil))))) (ea_nil)))) (eg_tup rfl rfl (egs_cons (eg_name sc_open_crate.nd rfl (by first | exact .inl rfl | exact .inr rfl) (fun z => nomatch z)) (egs_cons (eg_name sc_open_crate.nd rfl (by first | exact .inl rfl | exact .inr rfl) (fun z => nomatch z)) (egs_nil))) 2 (gsCons_len (gsCons_len (gsNil_len))))) (sb_cons (ss_if (et_not (et_tru rfl (ev_var (pv 7)))) (sb_one (ss_retT (fun _ _ z => nomatch z) (em_o (eo_lstM (em_nil)) (em_m (i := 1) (by decide) (pv 1) (em_nil))))) (sb_nil)) (sb_cons (ss_asg sc_open_crate.nd rfl (by first | exact .inl rfl | exact .inr rfl) (fun z => nomatch z) (eo_call (ok_last_end T) tk (hr.mono (by decide)) rfl T.m_last_end T.f_last_end.kp T.i_last_end (ea_v (ev_var (pv 0)) (ea_nil)))) (sb_cons (ss_asg sc_open_crate.nd rfl (by first | exact .inl rfl | exact .inr rfl) (fun z => nomatch z) (eo_lstM (em_nil))) (sb_cons (ss_if (et_ge (ev_var (pv 2)) (EO.v (eo_int))) (sb_one (ss_asg sc_open_crate.nd rfl (by first | exact .inl rfl | exact .inr rfl) (fun z => nomatch z) (eo_call (ok_directory_entries T) tk (hr.mono (by decide)) rfl T.m_directory_entries T.f_directory_entries.kp T.i_directory_entries (ea_v (ev_var (pv 0)) (ea_v (ev_var (pv 2)) (ea_nil)))))) (sb_nil)) (sb_cons (ss_fz 3 (fun z => nomatch z) (ss_asg sc_open_crate.nd rfl (by first | exact .inl rfl | exact .inr rfl) (fun z => nomatch z) (eo_if (et_ne rfl hr.units (ev_var (pv 3)) (EO.v (eo_lst (ea_nil)))) (eo_call (ok_without_overlaps T) tk (hr.mono (by decide)) rfl T.m_without_overlaps T.f_without_overlaps.kp T.i_without_overlaps (ea_v (ev_var (pv 3)) (ea_nil))) (eo_call (ok_searched_entries T) tk (hr.mono (by decide)) rfl T.m_searched_entries T.f_searched_entries.kp T.i_searched_entries (ea_v (ev_var (pv 0)) (ea_nil)))))) (sb_cons (ss_fz 4 (fun z => nomatch z) (ss_setLc (own := [("name", 9), ("method", 10), ("size", 11), ("total", 12), ("part", 13)]) rfl sc_open_crate.nd rfl rfl (fun z => nomatch z) rfl rfl rfl (by decide +kernel) (ei_w rfl (ev_var (pv 4))) (by first | (show blkC ["data", "left", "place", "found", "entries", "names", "kept", "enough", "entry", "name", "method", "size", "total", "part", "at"] (defScope s_open_crate) _ _ = true; decide +kernel) | rfl | (with_unfolding_all rfl)) (fun _ _ _ _ _ => egw_tup rfl rfl (egsw_cons (egw_name (by decide) sc_open_crate.nd rfl (by first | exact .inl rfl | exact .inr rfl) (fun z => nomatch z)) (egsw_cons (egw_name (by decide) sc_open_crate.nd rfl (by first | exact .inl rfl | exact .inr rfl) (fun z => nomatch z)) (egsw_cons (egw_name (by decide) sc_open_crate.nd rfl (by first | exact .inl rfl | exact .inr rfl) (fun z => nomatch z)) (egsw_cons (egw_name (by decide) sc_open_crate.nd rfl (by first | exact .inl rfl | exact .inr rfl) (fun z => nomatch z)) (egsw_cons (egw_name (by decide) sc_open_crate.nd rfl (by first | exact .inl rfl | exact .inr rfl) (fun z => nomatch z)) (egsw_nil)))))) 5 (gsCons_len (gsCons_len (gsCons_len (gsCons_len (gsCons_len (gsNil_len))))))) (fun _ _ _ _ _ tk => ets_nil) (fun _ _ _ _ _ tk => eo_tupM (em_o (eo_call (ok_plain_name T) tk (hr.mono (by decide)) rfl T.m_plain_name T.f_plain_name.kp T.i_plain_name (ea_v (ev_var (pv 9)) (ea_nil))) (em_v (ev_var (pv 10)) (em_v (ev_var (pv 11)) (em_v (ev_var (pv 12)) (em_v (ev_var (pv 13)) (em_nil))))))) (fun _ _ z => nomatch z))) (sb_cons (ss_fz 4 (fun z => nomatch z) (ss_asg sc_open_crate.nd rfl (by first | exact .inl rfl | exact .inr rfl) (fun z => nomatch z) (eo_lc (own := [("entry", 8)]) rfl sc_open_crate.nd (ei_w rfl (ev_var (pv 4))) (by first | (show blkC ["data", "left", "place", "found", "entries", "names", "kept", "enough", "entry", "name", "method", "size", "total", "part", "at"] (defScope s_open_crate) _ _ = true; decide +kernel) | rfl | (with_unfolding_all rfl)) (fun _ _ _ _ _ => egw_name (by decide) sc_open_crate.nd rfl (by first | exact .inl rfl | exact .inr rfl) (fun z => nomatch z)) (fun _ _ _ _ _ tk => ets_nil) (fun _ _ _ _ _ tk => EV.o (ev_ix rfl (ev_var (pv 8)) (EO.v (eo_int)))) (fun _ _ z => nomatch z)))) (sb_cons (ss_fz 4 (fun z => nomatch z) (ss_setLc (own := [("at", 14), ("entry", 8)]) rfl sc_open_crate.nd rfl rfl (fun z => nomatch z) rfl rfl rfl (by decide +kernel) (ei_enum rfl rfl T.z_enumerate (ea_v (ev_var (pv 4)) (ea_nil))) (by first | (show blkC ["data", "left", "place", "found", "entries", "names", "kept", "enough", "entry", "name", "method", "size", "total", "part", "at"] (defScope s_open_crate) _ _ = true; decide +kernel) | rfl | (with_unfolding_all rfl)) (fun _ _ _ _ _ => egw_tup rfl rfl (egsw_cons (egw_name (by decide) sc_open_crate.nd rfl (by first | exact .inl rfl | exact .inr rfl) (fun z => nomatch z)) (egsw_cons (egw_name (by decide) sc_open_crate.nd rfl (by first | exact .inl rfl | exact .inr rfl) (fun z => nomatch z)) (egsw_nil))) 2 (gsCons_len (gsCons_len (gsNil_len)))) (fun _ _ _ _ _ tk => ets_one (et_notIn rfl (room65 hr) (ev_ix rfl (ev_var (pv 8)) (EO.v (eo_int))) (EO.v (eo_sl rfl (ev_var (pv 5)) (ep_pt (EO.v (eo_add (ev_var (pv 14)) (EO.v (eo_int))))) (ep_no))))) (fun _ _ _ _ _ tk => EV.o (ev_var (pv 8))) (fun _ _ z => nomatch z))) (sb_one (ss_retT (fun _ _ z => nomatch z) (em_o (eo_sl rfl (ev_var (pv 6)) (ep_no) (ep_pt (EO.v (eo_g rfl T.g_MOST_ENTRIES)))) (em_m (i := 1) (by decide) (pv 1) (em_nil)))))))))))))
theorem ok__law_row (T : Txt K mg A) : FnOk P w K mg base (L2.CX P w) 1 A.a__law_row A.fd__law_row ["_law_cell_here", "_law_count"] (spD (kx K A) (ec A) 2 d__law_row) := by
  refine fn_ok 0 2 6 (kx K A) (ec A) rfl rfl T.f__law_row sc__law_row (b := b__law_row) fun cdv A' outer s H Ew He F0 v0 W hr tk hp => ?_
  exact sb_cons (ss_asg sc__law_row.nd rfl (by first | exact .inl rfl | exact .inr rfl) (fun z => nomatch z) (eo_lstM (em_nil))) (sb_cons (ss_asg sc__law_row.nd rfl (by first | exact .inl rfl | exact .inr rfl) (fun z => nomatch z) (eo_B call_abs says_abs rfl T.z_abs bb_abs (ea_v (ev_var (pv 0)) (ea_nil)))) (sb_cons (ss_if (et_ge (ev_var (pv 3)) (EO.v (eo_pow (EO.v (eo_int)) (EO.v (eo_int))))) (sb_cons (ss_for hp rfl (ei_rng1 rfl T.z_range (ea_v (ev_var (pv 1)) (ea_nil))) (eg_name sc__law_row.nd rfl (by first | exact .inl rfl | exact .inr rfl) (fun z => nomatch z)) (b := lp__law_row_1) (sb_cons (ss_app (pv 2) (eo_band (ev_var (pv 3)) (EO.v (eo_int)))) (sb_one (ss_asg sc__law_row.nd rfl (by first | exact .inl rfl | exact .inr rfl) (fun z => nomatch z) (eo_shr (ev_var (pv 3)) (EO.v (eo_int))))))) (sb_one (ss_retV (i := 2) (fun z => nomatch z) (pv 2)))) (sb_nil)) (sb_cons (ss_asg sc__law_row.nd rfl (by first | exact .inl rfl | exact .inr rfl) (fun z => nomatch z) (eo_add (EO.v (eo_mod (EO.v (eo_T call_int1 says_int rfl T.z_int bb_int (ea_v (ev_var (pv 3)) (ea_nil)))) (EO.v (eo_int)))) (EO.v (eo_int)))) (sb_cons (ss_for hp rfl (ei_rng1 rfl T.z_range (ea_v (ev_var (pv 1)) (ea_nil))) (eg_name sc__law_row.nd rfl (by first | exact .inl rfl | exact .inr rfl) (fun z => nomatch z)) (b := lp__law_row_2) (sb_cons (ss_asg sc__law_row.nd rfl (by first | exact .inl rfl | exact .inr rfl) (fun z => nomatch z) (eo_mod (EO.v (eo_T call_int1 says_int rfl T.z_int bb_int (ea_v (EO.v (eo_mul (ev_var (pv 4)) (EO.v (eo_int)))) (ea_nil)))) (EO.v (eo_int)))) (sb_one (ss_app (pv 2) (eo_band (EO.v (eo_add (EO.v (eo_div (ev_var (pv 4)) (EO.v (eo_int)))) (ev_var (pv 4)))) (EO.v (eo_int))))))) (sb_one (ss_retV (i := 2) (fun z => nomatch z) (pv 2)))))))
theorem ok__law_cell (T : Txt K mg A) : FnOk P w K mg base (L2.CX P w) 1 A.a__law_cell A.fd__law_cell ["_law_script", "_law_k"] (spD (kx K A) (ec A) 2 d__law_cell) := by
  refine fn_ok 0 2 2 (kx K A) (ec A) rfl rfl T.f__law_cell sc__law_cell (b := b__law_cell) fun cdv A' outer s H Ew He F0 v0 W hr tk hp => ?_
  exact sb_cons (ss_if (et_lt (ev_var (pv 1)) (EO.v (eo_B call_len says_len rfl T.z_len bb_len (ea_v (ev_var (pv 0)) (ea_nil))))) (sb_one (ss_ret (eo_T call_int1 says_int rfl T.z_int bb_int (ea_v (ev_ix rfl (ev_var (pv 0)) (ev_var (pv 1))) (ea_nil))))) (sb_nil)) (sb_one (ss_ret (eo_int)))
theorem ok__law_low (T : Txt K mg A) : FnOk P w K mg base (L2.CX P w) 1 A.a__law_low A.fd__law_low ["_law_number_here", "_law_size"] (spD (kx K A) (ec A) 2 d__law_low) := by
  refine fn_ok 0 2 4 (kx K A) (ec A) rfl rfl T.f__law_low sc__law_low (b := b__law_low) fun cdv A' outer s H Ew He F0 v0 W hr tk hp => ?_
  exact sb_cons (ss_asg sc__law_low.nd rfl (by first | exact .inl rfl | exact .inr rfl) (fun z => nomatch z) (eo_lstM (em_nil))) (sb_cons (ss_for hp rfl (ei_rng1 rfl T.z_range (ea_v (ev_var (pv 1)) (ea_nil))) (eg_name sc__law_low.nd rfl (by first | exact .inl rfl | exact .inr rfl) (fun z => nomatch z)) (b := lp__law_low_1) (sb_cons (ss_app (pv 2) (eo_band (ev_var (pv 0)) (EO.v (eo_int)))) (sb_one (ss_asg sc__law_low.nd rfl (by first | exact .inl rfl | exact .inr rfl) (fun z => nomatch z) (eo_shr (ev_var (pv 0)) (EO.v (eo_int))))))) (sb_one (ss_retV (i := 2) (fun z => nomatch z) (pv 2))))
theorem ok__law_codes (T : Txt K mg A) : FnOk P w K mg base (L2.CX P w) 1 A.a__law_codes A.fd__law_codes ["_law_text"] (spD (kx K A) (ec A) 1 d__law_codes) := by
  refine fn_ok 0 1 2 (kx K A) (ec A) rfl rfl T.f__law_codes sc__law_codes (b := b__law_codes) fun cdv A' outer s H Ew He F0 v0 W hr tk hp => ?_
  exact sb_one (ss_ret (eo_lc (own := [("_law_sign", 1)]) rfl sc__law_codes.nd (ei_w rfl (ev_var (pv 0))) (by first | (show blkC ["_law_text", "_law_sign"] (defScope s__law_codes) _ _ = true; decide +kernel) | rfl | (with_unfolding_all rfl)) (fun _ _ _ _ _ => egw_name (by decide) sc__law_codes.nd rfl (by first | exact .inl rfl | exact .inr rfl) (fun z => nomatch z)) (fun _ _ _ _ _ tk => ets_nil) (fun _ _ _ _ _ tk => eo_B call_ord says_ord rfl T.z_ord bb_ord (ea_v (ev_var (pv 1)) (ea_nil))) (fun _ _ z => nomatch z)))
theorem ok__law_make_head (T : Txt K mg A) : FnOk P w K mg base (L2.CX P w) 2 A.a__law_make_head A.fd__law_make_head ["_law_cell_here", "_law_name", "_law_data", "_law_size"] (spD (kx K A) (ec A) 4 d__law_make_head) := by
  refine fn_ok 1 4 6 (kx K A) (ec A) rfl rfl T.f__law_make_head sc__law_make_head (b := b__law_make_head) fun cdv A' outer s H Ew He F0 v0 W hr tk hp => ?_
  exact sb_cons (ss_asg sc__law_make_head.nd rfl (by first | exact .inl rfl | exact .inr rfl) (fun z => nomatch z) (eo_B call_len says_len rfl T.z_len bb_len (ea_v (ev_var (pv 2)) (ea_nil)))) (sb_cons (ss_if (et_eq rfl hr.units (EO.v (eo_mod (EO.v (eo_T call_int1 says_int rfl T.z_int bb_int (ea_v (ev_var (pv 0)) (ea_nil)))) (EO.v (eo_int)))) (EO.v (eo_int))) (sb_one (ss_asg sc__law_make_head.nd rfl (by first | exact .inl rfl | exact .inr rfl) (fun z => nomatch z) (EV.o (ev_var (pv 3))))) (sb_nil)) (sb_cons (ss_asg sc__law_make_head.nd rfl (by first | exact .inl rfl | exact .inr rfl) (fun z => nomatch z) (eo_add (EO.v (eo_add (EO.v (eo_call (ok__law_codes T) tk (hr.mono (by decide)) rfl T.m__law_codes T.f__law_codes.kp T.i__law_codes (ea_o (eo_str) (ea_nil)))) (EO.v (eo_lst (ea_o (eo_mod (EO.v (eo_T call_int1 says_int rfl T.z_int bb_int (ea_v (EO.v (eo_div (ev_var (pv 0)) (EO.v (eo_int)))) (ea_nil)))) (EO.v (eo_int))) (ea_o (eo_band (EO.v (eo_T call_int1 says_int rfl T.z_int bb_int (ea_v (EO.v (eo_div (ev_var (pv 0)) (EO.v (eo_int)))) (ea_nil)))) (EO.v (eo_int))) (ea_nil))))))) (EO.v (eo_call (ok__law_low T) tk (hr.mono (by decide)) rfl T.m__law_low T.f__law_low.kp T.i__law_low (ea_o (eo_B call_len says_len rfl T.z_len bb_len (ea_v (ev_var (pv 1)) (ea_nil))) (ea_o (eo_int) (ea_nil))))))) (sb_one (ss_ret (eo_add (EO.v (eo_add (EO.v (eo_add (EO.v (eo_add (EO.v (eo_add (ev_var (pv 5)) (EO.v (eo_call (ok__law_low T) tk (hr.mono (by decide)) rfl T.m__law_low T.f__law_low.kp T.i__law_low (ea_o (eo_band (EO.v (eo_T call_int1 says_int rfl T.z_int bb_int (ea_v (EO.v (eo_div (ev_var (pv 0)) (EO.v (eo_int)))) (ea_nil)))) (EO.v (eo_int))) (ea_o (eo_int) (ea_nil))))))) (EO.v (eo_call (ok__law_low T) tk (hr.mono (by decide)) rfl T.m__law_low T.f__law_low.kp T.i__law_low (ea_o (eo_band (EO.v (eo_T call_int1 says_int rfl T.z_int bb_int (ea_v (EO.v (eo_div (ev_var (pv 0)) (EO.v (eo_int)))) (ea_nil)))) (EO.v (eo_int))) (ea_o (eo_int) (ea_nil))))))) (EO.v (eo_call (ok__law_low T) tk (hr.mono (by decide)) rfl T.m__law_low T.f__law_low.kp T.i__law_low (ea_v (ev_var (pv 4)) (ea_o (eo_int) (ea_nil))))))) (ev_var (pv 1)))) (ev_var (pv 2)))))))
theorem ok__law_make_name (T : Txt K mg A) : FnOk P w K mg base (L2.CX P w) 2 A.a__law_make_name A.fd__law_make_name ["_law_cell_here"] (spD (kx K A) (ec A) 1 d__law_make_name) := by
  refine fn_ok 1 1 2 (kx K A) (ec A) rfl rfl T.f__law_make_name sc__law_make_name (b := b__law_make_name) fun cdv A' outer s H Ew He F0 v0 W hr tk hp => ?_
  exact sb_cons (ss_asg sc__law_make_name.nd rfl (by first | exact .inl rfl | exact .inr rfl) (fun z => nomatch z) (eo_lstM (em_o (eo_str) (em_o (eo_str) (em_o (eo_str) (em_o (eo_str) (em_o (eo_str) (em_o (eo_str) (em_o (eo_mulS (EO.v (eo_str)) (EO.v (eo_int))) (em_o (eo_str) (em_o (eo_str) (em_nil)))))))))))) (sb_one (ss_ret (eo_call (ok__law_codes T) tk (hr.mono (by decide)) rfl T.m__law_codes T.f__law_codes.kp T.i__law_codes (ea_v (ev_ix rfl (ev_var (pv 1)) (EO.v (eo_mod (EO.v (eo_T call_int1 says_int rfl T.z_int bb_int (ea_v (ev_var (pv 0)) (ea_nil)))) (EO.v (eo_int))))) (ea_nil)))))
theorem ok__law_make_record (T : Txt K mg A) : FnOk P w K mg base (L2.CX P w) 2 A.a__law_make_record A.fd__law_make_record ["_law_distance", "_law_name"] (spD (kx K A) (ec A) 2 d__law_make_record) := by
  refine fn_ok 1 2 2 (kx K A) (ec A) rfl rfl T.f__law_make_record sc__law_make_record (b := b__law_make_record) fun cdv A' outer s H Ew He F0 v0 W hr tk hp => ?_
  exact sb_one (ss_ret (eo_add (EO.v (eo_add (EO.v (eo_add (EO.v (eo_call (ok__law_codes T) tk (hr.mono (by decide)) rfl T.m__law_codes T.f__law_codes.kp T.i__law_codes (ea_o (eo_str) (ea_nil)))) (EO.v (eo_call (ok__law_low T) tk (hr.mono (by decide)) rfl T.m__law_low T.f__law_low.kp T.i__law_low (ea_v (ev_var (pv 0)) (ea_o (eo_int) (ea_nil))))))) (EO.v (eo_call (ok__law_low T) tk (hr.mono (by decide)) rfl T.m__law_low T.f__law_low.kp T.i__law_low (ea_o (eo_B call_len says_len rfl T.z_len bb_len (ea_v (ev_var (pv 1)) (ea_nil))) (ea_o (eo_int) (ea_nil))))))) (ev_var (pv 1))))
theorem ok__law_crate (T : Txt K mg A) : FnOk P w K mg base (L2.CX P w) 3 A.a__law_crate A.fd__law_crate ["_law_script"] (spD (kx K A) (ec A) 1 d__law_crate) := by
  refine fn_ok 2 1 16 (kx K A) (ec A) rfl rfl T.f__law_crate sc__law_crate (b := b__law_crate) fun cdv A' outer s H Ew He F0 v0 W hr tk hp => ?_
  exact sb_cons (ss_asg sc__law_crate.nd rfl (by first | exact .inl rfl | exact .inr rfl) (fun z => nomatch z) (eo_call (ok__law_row T) tk (hr.mono (by decide)) rfl T.m__law_row T.f__law_row.kp T.i__law_row (ea_o (eo_call (ok__law_cell T) tk (hr.mono (by decide)) rfl T.m__law_cell T.f__law_cell.kp T.i__law_cell (ea_v (ev_var (pv 0)) (ea_o (eo_int) (ea_nil)))) (ea_o (eo_mod (EO.v (eo_T call_int1 says_int rfl T.z_int bb_int (ea_v (EO.v (eo_B call_abs says_abs rfl T.z_abs bb_abs (ea_v (EO.v (eo_call (ok__law_cell T) tk (hr.mono (by decide)) rfl T.m__law_cell T.f__law_cell.kp T.i__law_cell (ea_v (ev_var (pv 0)) (ea_o (eo_int) (ea_nil))))) (ea_nil)))) (ea_nil)))) (EO.v (eo_int))) (ea_nil))))) (sb_cons (ss_asg sc__law_crate.nd rfl (by first | exact .inl rfl | exact .inr rfl) (fun z => nomatch z) (eo_lstM (em_nil))) (sb_cons (ss_asg sc__law_crate.nd rfl (by first | exact .inl rfl | exact .inr rfl) (fun z => nomatch z) (eo_mod (EO.v (eo_T call_int1 says_int rfl T.z_int bb_int (ea_v (EO.v (eo_div (EO.v (eo_B call_abs says_abs rfl T.z_abs bb_abs (ea_v (EO.v (eo_call (ok__law_cell T) tk (hr.mono (by decide)) rfl T.m__law_cell T.f__law_cell.kp T.i__law_cell (ea_v (ev_var (pv 0)) (ea_o (eo_int) (ea_nil))))) (ea_nil)))) (EO.v (eo_int)))) (ea_nil)))) (EO.v (eo_int)))) (sb_cons (ss_for hp rfl (ei_rng1 rfl T.z_range (ea_v (ev_var (pv 3)) (ea_nil))) (eg_name sc__law_crate.nd rfl (by first | exact .inl rfl | exact .inr rfl) (fun z => nomatch z)) (b := lp__law_crate_1) (sb_cons (ss_asg sc__law_crate.nd rfl (by first | exact .inl rfl | exact .inr rfl) (fun z => nomatch z) (eo_B call_abs says_abs rfl T.z_abs bb_abs (ea_v (EO.v (eo_call (ok__law_cell T) tk (hr.mono (by decide)) rfl T.m__law_cell T.f__law_cell.kp T.i__law_cell (ea_v (ev_var (pv 0)) (ea_o (eo_add (EO.v (eo_int)) (ev_var (pv 4))) (ea_nil))))) (ea_nil)))) (sb_cons (ss_asg sc__law_crate.nd rfl (by first | exact .inl rfl | exact .inr rfl) (fun z => nomatch z) (eo_call (ok__law_row T) tk (hr.mono (by decide)) rfl T.m__law_row T.f__law_row.kp T.i__law_row (ea_o (eo_div (ev_var (pv 11)) (EO.v (eo_int))) (ea_o (eo_mod (EO.v (eo_T call_int1 says_int rfl T.z_int bb_int (ea_v (EO.v (eo_div (ev_var (pv 11)) (EO.v (eo_int)))) (ea_nil)))) (EO.v (eo_int))) (ea_nil))))) (sb_cons (ss_app (pv 2) (eo_tupM (em_o (eo_B call_len says_len rfl T.z_len bb_len (ea_v (ev_var (pv 1)) (ea_nil))) (em_o (eo_call (ok__law_make_name T) tk (hr.mono (by decide)) rfl T.m__law_make_name T.f__law_make_name.kp T.i__law_make_name (ea_o (eo_div (ev_var (pv 11)) (EO.v (eo_int))) (ea_nil))) (em_nil))))) (sb_cons (ss_asg sc__law_crate.nd rfl (by first | exact .inl rfl | exact .inr rfl) (fun z => nomatch z) (eo_add (ev_var (pv 1)) (EO.v (eo_call (ok__law_make_head T) tk (hr.mono (by decide)) rfl T.m__law_make_head T.f__law_make_head.kp T.i__law_make_head (ea_v (ev_var (pv 11)) (ea_o (eo_call (ok__law_make_name T) tk (hr.mono (by decide)) rfl T.m__law_make_name T.f__law_make_name.kp T.i__law_make_name (ea_o (eo_div (ev_var (pv 11)) (EO.v (eo_int))) (ea_nil))) (ea_v (ev_var (pv 12)) (ea_o (eo_mod (EO.v (eo_T call_int1 says_int rfl T.z_int bb_int (ea_v (EO.v (eo_div (ev_var (pv 11)) (EO.v (eo_int)))) (ea_nil)))) (EO.v (eo_int))) (ea_nil))))))))) (sb_one (ss_asg sc__law_crate.nd rfl (by first | exact .inl rfl | exact .inr rfl) (fun z => nomatch z) (eo_add (ev_var (pv 1)) (EO.v (eo_mul (EO.v (eo_lst (ea_o (eo_band (EO.v (eo_T call_int1 says_int rfl T.z_int bb_int (ea_v (ev_var (pv 11)) (ea_nil)))) (EO.v (eo_int))) (ea_nil)))) (EO.v (eo_mod (EO.v (eo_T call_int1 says_int rfl T.z_int bb_int (ea_v (EO.v (eo_div (ev_var (pv 11)) (EO.v (eo_int)))) (ea_nil)))) (EO.v (eo_int)))))))))))))) (sb_cons (ss_asg sc__law_crate.nd rfl (by first | exact .inl rfl | exact .inr rfl) (fun z => nomatch z) (eo_lstM (em_nil))) (sb_cons (ss_for hp rfl (ei_rng1 rfl T.z_range (ea_v (EO.v (eo_B call_len says_len rfl T.z_len bb_len (ea_v (ev_var (pv 2)) (ea_nil)))) (ea_nil))) (eg_name sc__law_crate.nd rfl (by first | exact .inl rfl | exact .inr rfl) (fun z => nomatch z)) (b := lp__law_crate_2) (sb_cons (ss_asg sc__law_crate.nd rfl (by first | exact .inl rfl | exact .inr rfl) (fun z => nomatch z) (eo_B call_abs says_abs rfl T.z_abs bb_abs (ea_v (EO.v (eo_call (ok__law_cell T) tk (hr.mono (by decide)) rfl T.m__law_cell T.f__law_cell.kp T.i__law_cell (ea_v (ev_var (pv 0)) (ea_o (eo_add (EO.v (eo_int)) (ev_var (pv 4))) (ea_nil))))) (ea_nil)))) (sb_cons (ss_fz 2 (fun z => nomatch z) (ss_un (ev_ix rfl (ev_var (pv 2)) (ev_var (pv 4))) (eg_tup rfl rfl (egs_cons (eg_name sc__law_crate.nd rfl (by first | exact .inl rfl | exact .inr rfl) (fun z => nomatch z)) (egs_cons (eg_name sc__law_crate.nd rfl (by first | exact .inl rfl | exact .inr rfl) (fun z => nomatch z)) (egs_nil))) 2 (gsCons_len (gsCons_len (gsNil_len)))))) (sb_cons (ss_if (et_eq rfl hr.units (EO.v (eo_mod (EO.v (eo_T call_int1 says_int rfl T.z_int bb_int (ea_v (ev_var (pv 11)) (ea_nil)))) (EO.v (eo_int)))) (EO.v (eo_int))) (sb_one (ss_asg sc__law_crate.nd rfl (by first | exact .inl rfl | exact .inr rfl) (fun z => nomatch z) (eo_call (ok__law_make_name T) tk (hr.mono (by decide)) rfl T.m__law_make_name T.f__law_make_name.kp T.i__law_make_name (ea_o (eo_div (ev_var (pv 11)) (EO.v (eo_int))) (ea_nil))))) (sb_nil)) (sb_cons (ss_if (et_eq rfl hr.units (EO.v (eo_mod (EO.v (eo_T call_int1 says_int rfl T.z_int bb_int (ea_v (ev_var (pv 11)) (ea_nil)))) (EO.v (eo_int)))) (EO.v (eo_int))) (sb_one (ss_asg sc__law_crate.nd rfl (by first | exact .inl rfl | exact .inr rfl) (fun z => nomatch z) (eo_mod (EO.v (eo_T call_int1 says_int rfl T.z_int bb_int (ea_v (EO.v (eo_div (ev_var (pv 11)) (EO.v (eo_int)))) (ea_nil)))) (EO.v (eo_add (EO.v (eo_B call_len says_len rfl T.z_len bb_len (ea_v (ev_var (pv 1)) (ea_nil)))) (EO.v (eo_int))))))) (sb_nil)) (sb_one (ss_fz 14 (fun z => nomatch z) (ss_fz 13 (fun z => nomatch z) (ss_app (pv 5) (eo_tupM (em_v (ev_var (pv 13)) (em_v (ev_var (pv 14)) (em_nil))))))))))))) (sb_cons (ss_fz 5 (fun z => nomatch z) (ss_asg sc__law_crate.nd rfl (by first | exact .inl rfl | exact .inr rfl) (fun z => nomatch z) (eo_add (EO.v (eo_B call_len says_len rfl T.z_len bb_len (ea_v (ev_var (pv 1)) (ea_nil)))) (EO.v (eo_B (cr_sum rfl) says_sum rfl T.z_sum bb_sum (ea_v (EO.v (eo_lc (own := [("_law_record", 15)]) rfl sc__law_crate.nd (ei_w rfl (ev_var (pv 5))) (by first | (show blkC ["_law_script", "_law_data", "_law_places", "_law_many", "_law_k", "_law_records", "_law_place", "_law_start", "_law_end", "_law_count", "_law_back", "_law_cell_here", "_law_part", "_law_at", "_law_name", "_law_record"] (defScope s__law_crate) _ _ = true; decide +kernel) | rfl | (with_unfolding_all rfl)) (fun _ _ _ _ _ => egw_name (by decide) sc__law_crate.nd rfl (by first | exact .inl rfl | exact .inr rfl) (fun z => nomatch z)) (fun _ _ _ _ _ tk => ets_nil) (fun _ _ _ _ _ tk => eo_add (EO.v (eo_int)) (EO.v (eo_B call_len says_len rfl T.z_len bb_len (ea_v (ev_ix rfl (ev_var (pv 15)) (EO.v (eo_int))) (ea_nil))))) (fun _ _ z => nomatch z))) (ea_nil))))))) (sb_cons (ss_asg sc__law_crate.nd rfl (by first | exact .inl rfl | exact .inr rfl) (fun z => nomatch z) (eo_B call_len says_len rfl T.z_len bb_len (ea_v (ev_var (pv 1)) (ea_nil)))) (sb_cons (ss_fz 5 (fun z => nomatch z) (ss_for hp rfl (ei_w rfl (ev_var (pv 5))) (eg_tup rfl rfl (egs_cons (eg_name sc__law_crate.nd rfl (by first | exact .inl rfl | exact .inr rfl) (fun z => nomatch z)) (egs_cons (eg_name sc__law_crate.nd rfl (by first | exact .inl rfl | exact .inr rfl) (fun z => nomatch z)) (egs_nil))) 2 (gsCons_len (gsCons_len (gsNil_len)))) (b := lp__law_crate_3) (sb_one (ss_asg sc__law_crate.nd rfl (by first | exact .inl rfl | exact .inr rfl) (fun z => nomatch z) (eo_add (ev_var (pv 1)) (EO.v (eo_call (ok__law_make_record T) tk (hr.mono (by decide)) rfl T.m__law_make_record T.f__law_make_record.kp T.i__law_make_record (ea_o (eo_sub (ev_var (pv 6)) (ev_var (pv 13))) (ea_v (ev_var (pv 14)) (ea_nil)))))))))) (sb_cons (ss_asg sc__law_crate.nd rfl (by first | exact .inl rfl | exact .inr rfl) (fun z => nomatch z) (eo_B call_abs says_abs rfl T.z_abs bb_abs (ea_v (EO.v (eo_call (ok__law_cell T) tk (hr.mono (by decide)) rfl T.m__law_cell T.f__law_cell.kp T.i__law_cell (ea_v (ev_var (pv 0)) (ea_o (eo_int) (ea_nil))))) (ea_nil)))) (sb_cons (ss_asg sc__law_crate.nd rfl (by first | exact .inl rfl | exact .inr rfl) (fun z => nomatch z) (eo_B call_len says_len rfl T.z_len bb_len (ea_v (ev_var (pv 5)) (ea_nil)))) (sb_cons (ss_if (et_eq rfl hr.units (EO.v (eo_mod (EO.v (eo_T call_int1 says_int rfl T.z_int bb_int (ea_v (ev_var (pv 8)) (ea_nil)))) (EO.v (eo_int)))) (EO.v (eo_int))) (sb_one (ss_asg sc__law_crate.nd rfl (by first | exact .inl rfl | exact .inr rfl) (fun z => nomatch z) (eo_mod (EO.v (eo_T call_int1 says_int rfl T.z_int bb_int (ea_v (EO.v (eo_div (ev_var (pv 8)) (EO.v (eo_int)))) (ea_nil)))) (EO.v (eo_int))))) (sb_nil)) (sb_cons (ss_asg sc__law_crate.nd rfl (by first | exact .inl rfl | exact .inr rfl) (fun z => nomatch z) (eo_sub (ev_var (pv 6)) (ev_var (pv 7)))) (sb_cons (ss_if (et_eq rfl hr.units (EO.v (eo_mod (EO.v (eo_T call_int1 says_int rfl T.z_int bb_int (ea_v (ev_var (pv 8)) (ea_nil)))) (EO.v (eo_int)))) (EO.v (eo_int))) (sb_one (ss_asg sc__law_crate.nd rfl (by first | exact .inl rfl | exact .inr rfl) (fun z => nomatch z) (eo_mod (EO.v (eo_T call_int1 says_int rfl T.z_int bb_int (ea_v (EO.v (eo_div (ev_var (pv 8)) (EO.v (eo_int)))) (ea_nil)))) (EO.v (eo_add (ev_var (pv 6)) (EO.v (eo_int))))))) (sb_nil)) (sb_cons (ss_if (et_ne rfl hr.units (EO.v (eo_mod (EO.v (eo_T call_int1 says_int rfl T.z_int bb_int (ea_v (ev_var (pv 8)) (ea_nil)))) (EO.v (eo_int)))) (EO.v (eo_int))) (sb_one (ss_asg sc__law_crate.nd rfl (by first | exact .inl rfl | exact .inr rfl) (fun z => nomatch z) (eo_add (EO.v (eo_add (EO.v (eo_add (ev_var (pv 1)) (EO.v (eo_call (ok__law_codes T) tk (hr.mono (by decide)) rfl T.m__law_codes T.f__law_codes.kp T.i__law_codes (ea_o (eo_str) (ea_nil)))))) (EO.v (eo_call (ok__law_low T) tk (hr.mono (by decide)) rfl T.m__law_low T.f__law_low.kp T.i__law_low (ea_v (ev_var (pv 9)) (ea_o (eo_int) (ea_nil))))))) (EO.v (eo_call (ok__law_low T) tk (hr.mono (by decide)) rfl T.m__law_low T.f__law_low.kp T.i__law_low (ea_v (ev_var (pv 10)) (ea_o (eo_int) (ea_nil)))))))) (sb_nil)) (sb_one (ss_ret (eo_add (ev_var (pv 1)) (EO.v (eo_call (ok__law_row T) tk (hr.mono (by decide)) rfl T.m__law_row T.f__law_row.kp T.i__law_row (ea_o (eo_call (ok__law_cell T) tk (hr.mono (by decide)) rfl T.m__law_cell T.f__law_cell.kp T.i__law_cell (ea_v (ev_var (pv 0)) (ea_o (eo_int) (ea_nil)))) (ea_o (eo_mod (EO.v (eo_T call_int1 says_int rfl T.z_int bb_int (ea_v (EO.v (eo_div (ev_var (pv 8)) (EO.v (eo_int)))) (ea_nil)))) (EO.v (eo_int))) (ea_nil))))))))))))))))))))))
theorem ok_to_low (T : Txt K mg A) : FnOk P w K mg base (L2.CX P w) 1 A.a_to_low A.fd_to_low ["number", "size"] (spD (kx K A) (ec A) 2 d_to_low) := by
  refine fn_ok 0 2 4 (kx K A) (ec A) rfl rfl T.f_to_low sc_to_low (b := b_to_low) fun cdv A' outer s H Ew He F0 v0 W hr tk hp => ?_
  exact sb_cons (ss_asg sc_to_low.nd rfl (by first | exact .inl rfl | exact .inr rfl) (fun z => nomatch z) (eo_lstM (em_nil))) (sb_cons (ss_for hp rfl (ei_rng1 rfl T.z_range (ea_v (ev_var (pv 1)) (ea_nil))) (eg_name sc_to_low.nd rfl (by first | exact .inl rfl | exact .inr rfl) (fun z => nomatch z)) (b := lp_to_low_1) (sb_cons (ss_app (pv 2) (eo_band (ev_var (pv 0)) (EO.v (eo_int)))) (sb_one (ss_asg sc_to_low.nd rfl (by first | exact .inl rfl | exact .inr rfl) (fun z => nomatch z) (eo_shr (ev_var (pv 0)) (EO.v (eo_int))))))) (sb_one (ss_retV (i := 2) (fun z => nomatch z) (pv 2))))
theorem ok_write_crate (T : Txt K mg A) : FnOk P w K mg base (L2.CX P w) 4 A.a_write_crate A.fd_write_crate ["entries"] (spD (kx K A) (ec A) 1 d_write_crate) := by
  refine fn_ok 3 1 14 (kx K A) (ec A) rfl rfl T.f_write_crate sc_write_crate (b := b_write_crate) fun cdv A' outer s H Ew He F0 v0 W hr tk hp => ?_
  exact sb_cons (ss_asg sc_write_crate.nd rfl (by first | exact .inl rfl | exact .inr rfl) (fun z => nomatch z) (eo_lstM (em_nil))) (sb_cons (ss_asg sc_write_crate.nd rfl (by first | exact .inl rfl | exact .inr rfl) (fun z => nomatch z) (eo_lstM (em_nil))) (sb_cons (ss_for hp rfl (ei_w rfl (ev_var (pv 0))) (eg_tup rfl rfl (egs_cons (eg_name sc_write_crate.nd rfl (by first | exact .inl rfl | exact .inr rfl) (fun z => nomatch z)) (egs_cons (eg_name sc_write_crate.nd rfl (by first | exact .inl rfl | exact .inr rfl) (fun z => nomatch z)) (egs_cons (eg_name sc_write_crate.nd rfl (by first | exact .inl rfl | exact .inr rfl) (fun z => nomatch z)) (egs_cons (eg_name sc_write_crate.nd rfl (by first | exact .inl rfl | exact .inr rfl) (fun z => nomatch z)) (egs_cons (eg_name sc_write_crate.nd rfl (by first | exact .inl rfl | exact .inr rfl) (fun z => nomatch z)) (egs_nil)))))) 5 (gsCons_len (gsCons_len (gsCons_len (gsCons_len (gsCons_len (gsNil_len))))))) (b := lp_write_crate_1) (sb_cons (ss_setLc (own := [("sign", 12)]) rfl sc_write_crate.nd rfl rfl (fun z => nomatch z) rfl rfl rfl (by decide +kernel) (ei_w rfl (ev_var (pv 5))) (by first | (show blkC ["entries", "data", "places", "records", "place", "name", "method", "size", "total", "part", "codes", "at", "sign", "_"] (defScope s_write_crate) _ _ = true; decide +kernel) | rfl | (with_unfolding_all rfl)) (fun _ _ _ _ _ => egw_name (by decide) sc_write_crate.nd rfl (by first | exact .inl rfl | exact .inr rfl) (fun z => nomatch z)) (fun _ _ _ _ _ tk => ets_nil) (fun _ _ _ _ _ tk => eo_B call_ord says_ord rfl T.z_ord bb_ord (ea_v (ev_var (pv 12)) (ea_nil))) (fun _ _ z => nomatch z)) (sb_cons (ss_if (et_ne rfl hr.units (EO.v (eo_call (ok_plain_name T) tk (hr.mono (by decide)) rfl T.m_plain_name T.f_plain_name.kp T.i_plain_name (ea_v (ev_var (pv 10)) (ea_nil)))) (ev_var (pv 5))) (sb_one (ss_raise T.x_Malformed rfl rfl tk rfl)) (sb_nil)) (sb_cons (ss_fz 10 (fun z => nomatch z) (ss_app (pv 2) (eo_tupM (em_o (eo_B call_len says_len rfl T.z_len bb_len (ea_v (ev_var (pv 1)) (ea_nil))) (em_v (ev_var (pv 10)) (em_nil)))))) (sb_cons (ss_ext (pv 1) (EO.v (eo_lst (ea_s rfl (EO.v (eo_g rfl T.g_CRATE_SIGN)) (ea_v (ev_var (pv 6)) (ea_o (eo_int) (ea_s rfl (EO.v (eo_call (ok_to_low T) tk (hr.mono (by decide)) rfl T.m_to_low T.f_to_low.kp T.i_to_low (ea_o (eo_B call_len says_len rfl T.z_len bb_len (ea_v (ev_var (pv 10)) (ea_nil))) (ea_o (eo_int) (ea_nil))))) (ea_s rfl (EO.v (eo_call (ok_to_low T) tk (hr.mono (by decide)) rfl T.m_to_low T.f_to_low.kp T.i_to_low (ea_v (ev_var (pv 7)) (ea_o (eo_int) (ea_nil))))) (ea_s rfl (EO.v (eo_call (ok_to_low T) tk (hr.mono (by decide)) rfl T.m_to_low T.f_to_low.kp T.i_to_low (ea_v (ev_var (pv 8)) (ea_o (eo_int) (ea_nil))))) (ea_nil)))))))))) (sb_one (ss_ext (pv 1) (EO.v (eo_lst (ea_s rfl (EO.v (eo_call (ok_to_low T) tk (hr.mono (by decide)) rfl T.m_to_low T.f_to_low.kp T.i_to_low (ea_o (eo_B call_len says_len rfl T.z_len bb_len (ea_v (ev_var (pv 9)) (ea_nil))) (ea_o (eo_int) (ea_nil))))) (ea_s rfl (ev_var (pv 10)) (ea_s rfl (ev_var (pv 9)) (ea_nil))))))))))))) (sb_cons (ss_fz 2 (fun z => nomatch z) (ss_asg sc_write_crate.nd rfl (by first | exact .inl rfl | exact .inr rfl) (fun z => nomatch z) (eo_B (cr_sum rfl) says_sum rfl T.z_sum bb_sum (ea_v (EO.v (eo_lc (own := [("_", 13), ("codes", 10)]) rfl sc_write_crate.nd (ei_w rfl (ev_var (pv 2))) (by first | (show blkC ["entries", "data", "places", "records", "place", "name", "method", "size", "total", "part", "codes", "at", "sign", "_"] (defScope s_write_crate) _ _ = true; decide +kernel) | rfl | (with_unfolding_all rfl)) (fun _ _ _ _ _ => egw_tup rfl rfl (egsw_cons (egw_name (by decide) sc_write_crate.nd rfl (by first | exact .inl rfl | exact .inr rfl) (fun z => nomatch z)) (egsw_cons (egw_name (by decide) sc_write_crate.nd rfl (by first | exact .inl rfl | exact .inr rfl) (fun z => nomatch z)) (egsw_nil))) 2 (gsCons_len (gsCons_len (gsNil_len)))) (fun _ _ _ _ _ tk => ets_nil) (fun _ _ _ _ _ tk => eo_add (EO.v (eo_g rfl T.g_RECORD_SIZE)) (EO.v (eo_B call_len says_len rfl T.z_len bb_len (ea_v (ev_var (pv 10)) (ea_nil))))) (fun _ _ z => nomatch z))) (ea_nil))))) (sb_cons (ss_asg sc_write_crate.nd rfl (by first | exact .inl rfl | exact .inr rfl) (fun z => nomatch z) (eo_add (EO.v (eo_B call_len says_len rfl T.z_len bb_len (ea_v (ev_var (pv 1)) (ea_nil)))) (ev_var (pv 3)))) (sb_cons (ss_fz 2 (fun z => nomatch z) (ss_for hp rfl (ei_w rfl (ev_var (pv 2))) (eg_tup rfl rfl (egs_cons (eg_name sc_write_crate.nd rfl (by first | exact .inl rfl | exact .inr rfl) (fun z => nomatch z)) (egs_cons (eg_name sc_write_crate.nd rfl (by first | exact .inl rfl | exact .inr rfl) (fun z => nomatch z)) (egs_nil))) 2 (gsCons_len (gsCons_len (gsNil_len)))) (b := lp_write_crate_2) (sb_one (ss_ext (pv 1) (EO.v (eo_lst (ea_s rfl (EO.v (eo_g rfl T.g_RECORD_SIGN)) (ea_s rfl (EO.v (eo_call (ok_to_low T) tk (hr.mono (by decide)) rfl T.m_to_low T.f_to_low.kp T.i_to_low (ea_o (eo_sub (ev_var (pv 4)) (ev_var (pv 11))) (ea_o (eo_int) (ea_nil))))) (ea_s rfl (EO.v (eo_call (ok_to_low T) tk (hr.mono (by decide)) rfl T.m_to_low T.f_to_low.kp T.i_to_low (ea_o (eo_B call_len says_len rfl T.z_len bb_len (ea_v (ev_var (pv 10)) (ea_nil))) (ea_o (eo_int) (ea_nil))))) (ea_s rfl (ev_var (pv 10)) (ea_nil))))))))))) (sb_cons (ss_ext (pv 1) (EO.v (eo_lst (ea_s rfl (EO.v (eo_g rfl T.g_END_SIGN)) (ea_s rfl (EO.v (eo_call (ok_to_low T) tk (hr.mono (by decide)) rfl T.m_to_low T.f_to_low.kp T.i_to_low (ea_o (eo_B call_len says_len rfl T.z_len bb_len (ea_v (ev_var (pv 2)) (ea_nil))) (ea_o (eo_int) (ea_nil))))) (ea_s rfl (EO.v (eo_call (ok_to_low T) tk (hr.mono (by decide)) rfl T.m_to_low T.f_to_low.kp T.i_to_low (ea_v (ev_var (pv 3)) (ea_o (eo_int) (ea_nil))))) (ea_nil))))))) (sb_one (ss_retV (i := 1) (fun z => nomatch z) (pv 1)))))))))
theorem ok__law_number (T : Txt K mg A) : FnOk P w K mg base (L2.CX P w) 1 A.a__law_number A.fd__law_number ["_law_row_here"] (spD (kx K A) (ec A) 1 d__law_number) := by
  refine fn_ok 0 1 3 (kx K A) (ec A) rfl rfl T.f__law_number sc__law_number (b := b__law_number) fun cdv A' outer s H Ew He F0 v0 W hr tk hp => ?_
  exact sb_cons (ss_asg sc__law_number.nd rfl (by first | exact .inl rfl | exact .inr rfl) (fun z => nomatch z) (eo_int)) (sb_cons (ss_for hp rfl (ei_rev rfl rfl T.z_reversed (ev_var (pv 0))) (eg_name sc__law_number.nd rfl (by first | exact .inl rfl | exact .inr rfl) (fun z => nomatch z)) (b := lp__law_number_1) (sb_one (ss_asg sc__law_number.nd rfl (by first | exact .inl rfl | exact .inr rfl) (fun z => nomatch z) (eo_add (EO.v (eo_mul (EO.v (eo_int)) (ev_var (pv 1)))) (ev_var (pv 2)))))) (sb_one (ss_retV (i := 1) (fun z => nomatch z) (pv 1))))
theorem ok__law_stands (T : Txt K mg A) : FnOk P w K mg base (L2.CX P w) 2 A.a__law_stands A.fd__law_stands ["_law_data", "_law_entry"] (spD (kx K A) (ec A) 2 d__law_stands) := by
  refine fn_ok 1 2 11 (kx K A) (ec A) rfl rfl T.f__law_stands sc__law_stands (b := b__law_stands) fun cdv A' outer s H Ew He F0 v0 W hr tk hp => ?_
  exact sb_cons (ss_un (ev_var (pv 1)) (eg_tup rfl rfl (egs_cons (eg_name sc__law_stands.nd rfl (by first | exact .inl rfl | exact .inr rfl) (fun z => nomatch z)) (egs_cons (eg_name sc__law_stands.nd rfl (by first | exact .inl rfl | exact .inr rfl) (fun z => nomatch z)) (egs_cons (eg_name sc__law_stands.nd rfl (by first | exact .inl rfl | exact .inr rfl) (fun z => nomatch z)) (egs_cons (eg_name sc__law_stands.nd rfl (by first | exact .inl rfl | exact .inr rfl) (fun z => nomatch z)) (egs_cons (eg_name sc__law_stands.nd rfl (by first | exact .inl rfl | exact .inr rfl) (fun z => nomatch z)) (egs_nil)))))) 5 (gsCons_len (gsCons_len (gsCons_len (gsCons_len (gsCons_len (gsNil_len)))))))) (sb_cons (ss_fz 6 (fun z => nomatch z) (ss_asg sc__law_stands.nd rfl (by first | exact .inl rfl | exact .inr rfl) (fun z => nomatch z) (eo_add (EO.v (eo_call (ok__law_codes T) tk (hr.mono (by decide)) rfl T.m__law_codes T.f__law_codes.kp T.i__law_codes (ea_o (eo_str) (ea_nil)))) (EO.v (eo_lst (ea_v (ev_var (pv 6)) (ea_nil))))))) (sb_cons (ss_asg sc__law_stands.nd rfl (by first | exact .inl rfl | exact .inr rfl) (fun z => nomatch z) (eo_add (EO.v (eo_call (ok__law_low T) tk (hr.mono (by decide)) rfl T.m__law_low T.f__law_low.kp T.i__law_low (ea_v (ev_var (pv 7)) (ea_o (eo_int) (ea_nil))))) (EO.v (eo_call (ok__law_low T) tk (hr.mono (by decide)) rfl T.m__law_low T.f__law_low.kp T.i__law_low (ea_v (ev_var (pv 8)) (ea_o (eo_int) (ea_nil))))))) (sb_cons (ss_for hp rfl (ei_rng1 rfl T.z_range (ea_v (EO.v (eo_sub (EO.v (eo_B call_len says_len rfl T.z_len bb_len (ea_v (ev_var (pv 0)) (ea_nil)))) (EO.v (eo_int)))) (ea_nil))) (eg_name sc__law_stands.nd rfl (by first | exact .inl rfl | exact .inr rfl) (fun z => nomatch z)) (b := lp__law_stands_1) (sb_one (ss_if (EW.t (ew_and (et_eq rfl hr.units (ev_ix rfl (ev_var (pv 0)) (ev_var (pv 4))) (EO.v (eo_int))) (ew_and (et_eq rfl hr.units (EO.v (eo_sl rfl (ev_var (pv 0)) (ep_pt (ev_var (pv 4))) (ep_pt (EO.v (eo_add (ev_var (pv 4)) (EO.v (eo_int))))))) (ev_var (pv 2))) (ew_and1 (et_eq rfl hr.units (EO.v (eo_sl rfl (ev_var (pv 0)) (ep_pt (EO.v (eo_add (ev_var (pv 4)) (EO.v (eo_int))))) (ep_pt (EO.v (eo_add (ev_var (pv 4)) (EO.v (eo_int))))))) (ev_var (pv 3))))))) (sb_cons (ss_asg sc__law_stands.nd rfl (by first | exact .inl rfl | exact .inr rfl) (fun z => nomatch z) (eo_add (EO.v (eo_add (ev_var (pv 4)) (EO.v (eo_int)))) (EO.v (eo_call (ok__law_number T) tk (hr.mono (by decide)) rfl T.m__law_number T.f__law_number.kp T.i__law_number (ea_o (eo_sl rfl (ev_var (pv 0)) (ep_pt (EO.v (eo_add (ev_var (pv 4)) (EO.v (eo_int))))) (ep_pt (EO.v (eo_add (ev_var (pv 4)) (EO.v (eo_int)))))) (ea_nil)))))) (sb_one (ss_if (EW.t (ew_and (et_le (ev_var (pv 10)) (EO.v (eo_B call_len says_len rfl T.z_len bb_len (ea_v (ev_var (pv 0)) (ea_nil))))) (ew_and1 (et_eq rfl hr.units (EO.v (eo_sl rfl (ev_var (pv 0)) (ep_pt (ev_var (pv 10))) (ep_pt (EO.v (eo_add (ev_var (pv 10)) (EO.v (eo_B call_len says_len rfl T.z_len bb_len (ea_v (ev_var (pv 9)) (ea_nil))))))))) (EO.v (eo_T call_list_of says_list rfl T.z_list bb_list (ea_v (ev_var (pv 9)) (ea_nil)))))))) (sb_one (ss_ret (eo_bl))) (sb_nil)))) (sb_nil)))) (sb_one (ss_ret (eo_bl))))))
theorem ok_law (T : Txt K mg A) : FnOk P w K mg base (L2.CX P w) 5 A.a_law A.fd_law ["_law_script"] (spD (kx K A) (ec A) 1 d_law) := by
  refine fn_ok 4 1 10 (kx K A) (ec A) rfl rfl T.f_law sc_law (b := b_law) fun cdv A' outer s H Ew He F0 v0 W hr tk hp => ?_
  exact sb_cons (ss_asg sc_law.nd rfl (by first | exact .inl rfl | exact .inr rfl) (fun z => nomatch z) (eo_callM (ok__law_spoilt T) tk (hr.mono (by decide)) rfl T.m__law_spoilt T.f__law_spoilt.kp T.i__law_spoilt (em_v (ev_var (pv 0)) (em_o (eo_call (ok__law_crate T) tk (hr.mono (by decide)) rfl T.m__law_crate T.f__law_crate.kp T.i__law_crate (ea_v (ev_var (pv 0)) (ea_nil))) (em_nil))))) (sb_cons (ss_asg sc_law.nd rfl (by first | exact .inl rfl | exact .inr rfl) (fun z => nomatch z) (eo_T call_list_of says_list rfl T.z_list bb_list (ea_v (ev_var (pv 1)) (ea_nil)))) (sb_cons (ss_unO (eo_call (ok_open_crate T) tk (hr.mono (by decide)) rfl T.m_open_crate T.f_open_crate.kp T.i_open_crate (ea_v (ev_var (pv 2)) (ea_o (eo_int) (ea_nil)))) (eg_tup rfl rfl (egs_cons (eg_name sc_law.nd rfl (by first | exact .inl rfl | exact .inr rfl) (fun z => nomatch z)) (egs_cons (eg_name sc_law.nd rfl (by first | exact .inl rfl | exact .inr rfl) (fun z => nomatch z)) (egs_nil))) 2 (gsCons_len (gsCons_len (gsNil_len))))) (sb_cons (ss_if (EW.t (ew_or (et_ne rfl hr.units (ev_var (pv 2)) (ev_var (pv 1))) (ew_or (et_ne rfl hr.units (ev_var (pv 9)) (EO.v (eo_sub (EO.v (eo_int)) (EO.v (eo_B call_len says_len rfl T.z_len bb_len (ea_v (ev_var (pv 1)) (ea_nil))))))) (ew_or1 (et_gt (EO.v (eo_B call_len says_len rfl T.z_len bb_len (ea_v (ev_var (pv 8)) (ea_nil)))) (EO.v (eo_int))))))) (sb_one (ss_ret (eo_bl))) (sb_nil)) (sb_cons (ss_asg sc_law.nd rfl (by first | exact .inl rfl | exact .inr rfl) (fun z => nomatch z) (eo_lstM (em_nil))) (sb_cons (ss_asg sc_law.nd rfl (by first | exact .inl rfl | exact .inr rfl) (fun z => nomatch z) (eo_int)) (sb_cons (ss_fz 8 (fun z => nomatch z) (ss_for hp rfl (ei_w rfl (ev_var (pv 8))) (eg_name sc_law.nd rfl (by first | exact .inl rfl | exact .inr rfl) (fun z => nomatch z)) (b := lp_law_1) (sb_cons (ss_if (EW.t (ew_or (et_not (et_tru rfl (EO.v (eo_isi rfl rfl T.z_isinstance bb_isinstance rfl T.z_tuple bb_tuple (ev_var (pv 5)))))) (ew_or (et_ne rfl hr.units (EO.v (eo_B call_len says_len rfl T.z_len bb_len (ea_v (ev_var (pv 5)) (ea_nil)))) (EO.v (eo_int))) (ew_or1 (et_not (et_tru rfl (EO.v (eo_isi rfl rfl T.z_isinstance bb_isinstance rfl T.z_tuple bb_tuple (ev_ix rfl (ev_var (pv 5)) (EO.v (eo_int))))))))))) (sb_one (ss_ret (eo_bl))) (sb_nil)) (sb_cons (ss_if (EW.t (ew_or (et_in rfl (room65 hr) (ev_ix rfl (ev_var (pv 5)) (EO.v (eo_int))) (ev_var (pv 3))) (ew_or (et_ne rfl hr.units (EO.v (eo_call (ok_plain_name T) tk (hr.mono (by decide)) rfl T.m_plain_name T.f_plain_name.kp T.i_plain_name (ea_o (eo_call (ok__law_codes T) tk (hr.mono (by decide)) rfl T.m__law_codes T.f__law_codes.kp T.i__law_codes (ea_v (ev_ix rfl (ev_var (pv 5)) (EO.v (eo_int))) (ea_nil))) (ea_nil)))) (ev_ix rfl (ev_var (pv 5)) (EO.v (eo_int)))) (ew_or1 (et_not (et_tru rfl (EO.v (eo_call (ok__law_stands T) tk (hr.mono (by decide)) rfl T.m__law_stands T.f__law_stands.kp T.i__law_stands (ea_v (ev_var (pv 1)) (ea_v (ev_var (pv 5)) (ea_nil))))))))))) (sb_one (ss_ret (eo_bl))) (sb_nil)) (sb_cons (ss_app (pv 3) (EV.o (ev_ix rfl (ev_var (pv 5)) (EO.v (eo_int))))) (sb_one (ss_asg sc_law.nd rfl (by first | exact .inl rfl | exact .inr rfl) (fun z => nomatch z) (eo_add (ev_var (pv 4)) (EO.v (eo_B call_len says_len rfl T.z_len bb_len (ea_v (ev_ix rfl (ev_var (pv 5)) (EO.v (eo_int))) (ea_nil)))))))))))) (sb_cons (ss_if (et_gt (ev_var (pv 4)) (EO.v (eo_B call_len says_len rfl T.z_len bb_len (ea_v (ev_var (pv 1)) (ea_nil))))) (sb_one (ss_ret (eo_bl))) (sb_nil)) (sb_cons (ss_if (et_eq rfl hr.units (EO.v (eo_B call_len says_len rfl T.z_len bb_len (ea_v (ev_var (pv 8)) (ea_nil)))) (EO.v (eo_int))) (sb_one (ss_ret (eo_bl))) (sb_nil)) (sb_cons (ss_asg sc_law.nd rfl (by first | exact .inl rfl | exact .inr rfl) (fun z => nomatch z) (eo_call (ok__law_row T) tk (hr.mono (by decide)) rfl T.m__law_row T.f__law_row.kp T.i__law_row (ea_o (eo_call (ok__law_cell T) tk (hr.mono (by decide)) rfl T.m__law_cell T.f__law_cell.kp T.i__law_cell (ea_v (ev_var (pv 0)) (ea_o (eo_int) (ea_nil)))) (ea_o (eo_mod (EO.v (eo_T call_int1 says_int rfl T.z_int bb_int (ea_v (EO.v (eo_B call_abs says_abs rfl T.z_abs bb_abs (ea_v (EO.v (eo_call (ok__law_cell T) tk (hr.mono (by decide)) rfl T.m__law_cell T.f__law_cell.kp T.i__law_cell (ea_v (ev_var (pv 0)) (ea_o (eo_int) (ea_nil))))) (ea_nil)))) (ea_nil)))) (EO.v (eo_int))) (ea_nil))))) (sb_cons (ss_asg sc_law.nd rfl (by first | exact .inl rfl | exact .inr rfl) (fun z => nomatch z) (eo_add (ev_var (pv 6)) (EO.v (eo_call (ok_write_crate T) tk (hr.mono (by decide)) rfl T.m_write_crate T.f_write_crate.kp T.i_write_crate (ea_o (eo_T call_list_of says_list rfl T.z_list bb_list (ea_v (ev_var (pv 8)) (ea_nil))) (ea_nil)))))) (sb_one (ss_ret (eo_eq rfl hr.units (EO.v (eo_call (ok_open_crate T) tk (hr.mono (by decide)) rfl T.m_open_crate T.f_open_crate.kp T.i_open_crate (ea_v (ev_var (pv 7)) (ea_o (eo_int) (ea_nil))))) (EO.v (eo_tup (ea_v (ev_var (pv 8)) (ea_o (eo_sub (EO.v (eo_int)) (EO.v (eo_B call_len says_len rfl T.z_len bb_len (ea_v (ev_var (pv 7)) (ea_nil))))) (ea_nil))))))))))))))))))
end
set_option maxRecDepth 100000
set_option maxHeartbeats 4000000
open PySem PySem.Spec PyProof.Rows L2 Dv
noncomputable section
def cell (ns : List Int) (k : Nat) : Int := ns.getD k 0
theorem m_cell (ns : List Int) (k : Nat) : d__law_cell [.scr (dInts ns), .int k] = .ok (.int (cell ns k)) := by
  by_cases h : k < ns.length
  · simp [d__law_cell, b__law_cell, fnD, cell, h, ixD_nat]
  · simp [d__law_cell, b__law_cell, fnD, cell, h, ixD_nat]
theorem m_cellI (ns : List Int) (i : Int) (h : 0 ≤ i) : d__law_cell [.scr (dInts ns), .int i] = .ok (.int (cell ns i.toNat)) := by
  obtain ⟨k, rfl⟩ := Int.eq_ofNat_of_zero_le h
  exact m_cell ns k
/-- abs -/
def iabs (c : Int) : Int := if c < 0 then -c else c
theorem iabs_nn (c : Int) : 0 ≤ iabs c := by unfold iabs; split <;> omega
theorem iabs_eq (c : Int) : (if c < 0 then -c else c) = iabs c := rfl
theorem ixN_lt {n : Nat} {k : Nat} (h : k < n) : ixN n (k : Int) = some k := by
  unfold ixN
  rw [if_pos (by omega), if_pos (by omega), Int.toNat_natCast]
theorem for_rng {g : D → Dv.Env → Option Dv.Env} {b : Dv.Env → SR} (I : Nat → Dv.Env → Prop) (n : Nat) (ρ : Dv.Env) (hs : ∀ j ρ, j < n → I j ρ → ∃ ρ1 ρ2, g (.int (j : Int)) ρ = some ρ1 ∧ (b ρ1 = .nx ρ2 ∨ b ρ1 = .ct ρ2) ∧ I (j + 1) ρ2) (h0 : I 0 ρ) :
    ∃ ρ', forL g b (rngL 0 n) ρ = .nx ρ' ∧ I n ρ' := by
  obtain ⟨ρ', e, h⟩ := forL_inv (g := g) (b := b) I (rngL 0 n) 0 ρ (fun j d ρ ed h => by
    have hj : j < n := by have := (List.getElem?_eq_some_iff.mp ed).1; rwa [rngL_len] at this
    have ed' : d = .int (j : Int) := by
      unfold rngL at ed
      rw [List.getElem?_map, List.getElem?_range hj] at ed
      simpa using ed.symm
    subst ed'
    rw [Nat.zero_add] at h ⊢
    exact hs j ρ hj h) h0
  rw [rngL_len, Nat.zero_add] at h
  exact ⟨ρ', e, h⟩
/-- over a list of ints -/
theorem for_ints {g : D → Dv.Env → Option Dv.Env} {b : Dv.Env → SR} (I : Nat → Dv.Env → Prop) (xs : List Int) (ρ : Dv.Env) (hs : ∀ j x ρ, xs[j]? = some x → I j ρ → ∃ ρ1 ρ2, g (.int x) ρ = some ρ1 ∧ (b ρ1 = .nx ρ2 ∨ b ρ1 = .ct ρ2) ∧ I (j + 1) ρ2) (h0 : I 0 ρ) :
    ∃ ρ', forL g b (dInts xs) ρ = .nx ρ' ∧ I xs.length ρ' := by
  obtain ⟨ρ', e, h⟩ := forL_inv (g := g) (b := b) I (dInts xs) 0 ρ (fun j d ρ ed h => by
    rw [dInts_get] at ed
    cases ex : xs[j]? with
    | none => rw [ex] at ed; cases ed
    | some x =>
      rw [ex] at ed
      cases ed
      rw [Nat.zero_add] at h ⊢
      exact hs j x ρ ex h) h0
  rw [dInts_len, Nat.zero_add] at h
  exact ⟨ρ', e, h⟩

/-! turns of loops -/
theorem sw_stop {t : Dv.Env → R Bool} {b : Dv.Env → SR} {ρ : Dv.Env} (h : t ρ = .ok false) : sWhile t b ρ = .nx ρ := by
  rw [sWhile_eq, h]; simp
theorem sw_nx {t : Dv.Env → R Bool} {b : Dv.Env → SR} {ρ ρ2 : Dv.Env} (h : t ρ = .ok true) (e : b ρ = .nx ρ2) : sWhile t b ρ = sWhile t b ρ2 := by
  rw [sWhile_eq, h]; simp [e]
theorem sw_bk {t : Dv.Env → R Bool} {b : Dv.Env → SR} {ρ ρ2 : Dv.Env} (h : t ρ = .ok true) (e : b ρ = .bk ρ2) : sWhile t b ρ = .nx ρ2 := by
  rw [sWhile_eq, h]; simp [e]
theorem fl_nx {g : D → Dv.Env → Option Dv.Env} {b : Dv.Env → SR} {d : D} {ds : List D} {ρ ρ1 ρ2 : Dv.Env} (e1 : g d ρ = some ρ1) (e2 : b ρ1 = .nx ρ2) : forL g b (d :: ds) ρ = forL g b ds ρ2 := by
  rw [forL_cons, e1]; simp only [e2]
theorem fl_bk {g : D → Dv.Env → Option Dv.Env} {b : Dv.Env → SR} {d : D} {ds : List D} {ρ ρ1 ρ2 : Dv.Env} (e1 : g d ρ = some ρ1) (e2 : b ρ1 = .bk ρ2) : forL g b (d :: ds) ρ = .nx ρ2 := by
  rw [forL_cons, e1]; simp only [e2]
theorem fl_rt {g : D → Dv.Env → Option Dv.Env} {b : Dv.Env → SR} {d r : D} {ds : List D} {ρ ρ1 ρ2 : Dv.Env} (e1 : g d ρ = some ρ1) (e2 : b ρ1 = .rt r ρ2) : forL g b (d :: ds) ρ = .rt r ρ2 := by
  rw [forL_cons, e1]; simp only [e2]
theorem rng_succ (lo : Int) (k : Nat) : rngL lo (k + 1) = .int lo :: rngL (lo + 1) k := by
  unfold rngL
  rw [List.range_succ_eq_map, List.map_cons, List.map_map]
  refine congr (congrArg List.cons (by simp)) (List.map_congr_left fun i _ => ?_)
  show D.int (lo + ((i + 1 : Nat) : Int)) = _
  rw [show lo + ((i + 1 : Nat) : Int) = lo + 1 + (i : Int) by omega]
theorem rng_zero (lo : Int) : rngL lo 0 = [] := rfl

theorem row1_core (c n l k : Int) (bs : List Int) (x4 : Option D) (r : Int) (hr : Builtin.bitAnd l 255 = r) (hb : bs.length < 16777216) :
    lp__law_row_1 [some (.int c), some (.int n), some (.lst true (dInts bs)), some (.int l), x4, some (.int k)] = .nx [some (.int c), some (.int n), some (.lst true (dInts (bs ++ [r]))), some (.int (l / 2 ^ 8)), x4, some (.int k)] := by
  simp [lp__law_row_1, hr, onL, hb]
theorem row2_core (c n l s k s' r : Int) (bs : List Int) (hs : s * 48271 % 2147483647 = s') (hr : Builtin.bitAnd (s' / 7 + s') 255 = r) (hb : bs.length < 16777216) :
    lp__law_row_2 [some (.int c), some (.int n), some (.lst true (dInts bs)), some (.int l), some (.int s), some (.int k)] = .nx [some (.int c), some (.int n), some (.lst true (dInts (bs ++ [r]))), some (.int l), some (.int s'), some (.int k)] := by
  simp [lp__law_row_2, hs, hr, onL, hb]
theorem row_end1 (c n l : Int) (N : Nat) (hl : (if c < 0 then -c else c) = l) (wn : W62 n) (hN : n.toNat = N) (hc : (10 : Int) ^ 18 ≤ l) (bs : List Int) (a b d : Option D) (e : forL (gNm 5) lp__law_row_1 (rngL 0 N) [some (.int c), some (.int n), some (.lst true []), some (.int l), none, none] = .nx [some (.int c), some (.int n), some (.lst true (dInts bs)), a, b, d]) :
    d__law_row [.int c, .int n] = .ok (.lst true (dInts bs)) := by
  have hc' : (1000000000000000000 : Int) ≤ l := hc
  simp [d__law_row, b__law_row, fnD, hl, wn, hN, hc', e]
theorem row_end2 (c n l s : Int) (N : Nat) (hl : (if c < 0 then -c else c) = l) (hs : l % 2147483629 + 1 = s) (wn : W62 n) (hN : n.toNat = N) (hc : ¬ (10 : Int) ^ 18 ≤ l) (bs : List Int) (a b d : Option D) (e : forL (gNm 5) lp__law_row_2 (rngL 0 N) [some (.int c), some (.int n), some (.lst true []), some (.int l), some (.int s), none] = .nx [some (.int c), some (.int n), some (.lst true (dInts bs)), a, b, d]) :
    d__law_row [.int c, .int n] = .ok (.lst true (dInts bs)) := by
  have hc' : ¬ (1000000000000000000 : Int) ≤ l := hc
  simp [d__law_row, b__law_row, fnD, hl, hs, wn, hN, hc', e]
theorem m_row (c : Int) (n : Nat) (hn : n ≤ 1000) : ∃ bs : List Int, d__law_row [.int c, .int n] = .ok (.lst true (dInts bs)) ∧ bs.length = n := by
  by_cases hc : (10 : Int) ^ 18 ≤ (if c < 0 then -c else c)
  · obtain ⟨ρ', e, bs, l, b, d, rfl, h1⟩ := for_rng (g := gNm 5) (b := lp__law_row_1) (fun j ρ => ∃ (bs : List Int) (l : Int) (b d : Option D), ρ = [some (.int c), some (.int n), some (.lst true (dInts bs)), some (.int l), b, d] ∧ bs.length = j)
      n [some (.int c), some (.int n), some (.lst true []), some (.int (if c < 0 then -c else c)), none, none] (fun j ρ hj H => by
        obtain ⟨bs, l, b, d, rfl, h1⟩ := H
        exact ⟨_, _, rfl, .inl (row1_core c n l j bs b _ rfl (by omega)), _, _, _, _, rfl, by rw [List.length_append, h1]; rfl⟩) ⟨[], _, none, none, rfl, rfl⟩
    exact ⟨bs, row_end1 c n _ n rfl (w62 (by omega) (by omega)) (Int.toNat_natCast n) hc bs _ b d e, h1⟩
  · obtain ⟨ρ', e, bs, s, d, rfl, h1⟩ := for_rng (g := gNm 5) (b := lp__law_row_2) (fun j ρ => ∃ (bs : List Int) (s : Int) (d : Option D), ρ = [some (.int c), some (.int n), some (.lst true (dInts bs)), some (.int (if c < 0 then -c else c)), some (.int s), d] ∧ bs.length = j)
      n [some (.int c), some (.int n), some (.lst true []), some (.int (if c < 0 then -c else c)), some (.int ((if c < 0 then -c else c) % 2147483629 + 1)), none] (fun j ρ hj H => by
        obtain ⟨bs, s, d, rfl, h1⟩ := H
        exact ⟨_, _, rfl, .inl (row2_core c n _ s j _ _ bs rfl rfl (by omega)), _, _, _, rfl, by rw [List.length_append, h1]; rfl⟩) ⟨[], _, none, rfl, rfl⟩
    exact ⟨bs, row_end2 c n _ _ n rfl rfl (w62 (by omega) (by omega)) (Int.toNat_natCast n) hc bs _ _ d e, h1⟩

def dStrs (xs : List Str) : List D := xs.map D.str
theorem dStrs_eqvAll : ∀ a b : List Str, PyData.eqvAll (D.toPL (dStrs a)) (D.toPL (dStrs b)) = (a == b)
  | [], [] => rfl
  | [], m :: ms => rfl
  | n :: ns, [] => rfl
  | n :: ns, m :: ms => by
    show (PyData.eqv (.str n) (.str m) && PyData.eqvAll (D.toPL (dStrs ns)) (D.toPL (dStrs ms))) = _
    rw [dStrs_eqvAll ns ms]
    rfl
theorem dStrs_pure : ∀ a : List Str, D.pureL (dStrs a) = true
  | [] => rfl
  | n :: ns => by show (true && D.pureL (dStrs ns)) = true; rw [dStrs_pure ns]; rfl
theorem dStrs_lay (k : Nat) : ∀ a : List Str, (∀ x ∈ a, PyData.strOk x = true) → D.layL k (dStrs a) = true
  | [], _ => rfl
  | n :: ns, h => by
    show (D.lay k (.str n) && D.layL k (dStrs ns)) = true
    rw [lay_str, h n List.mem_cons_self, dStrs_lay k ns fun x hx => h x (List.mem_cons_of_mem _ hx)]; rfl
theorem gEq_strs (o p : Bool) (a b : List Str) (ha : ∀ x ∈ a, PyData.strOk x = true) (hb : ∀ x ∈ b, PyData.strOk x = true) : gEq (.lst o (dStrs a)) (.lst p (dStrs b)) = some (.bl (a == b)) := by
  have h1 : D.lay 60 (.lst o (dStrs a)) = true := dStrs_lay 59 a ha
  have h2 : D.lay 60 (.lst p (dStrs b)) = true := dStrs_lay 59 b hb
  simp only [gEq, h1, h2, and_self, if_true]
  show some (D.bl (PyData.eqvAll (D.toPL (dStrs a)) (D.toPL (dStrs b)))) = _
  rw [dStrs_eqvAll]
theorem gNe_strs (o p : Bool) (a b : List Str) (ha : ∀ x ∈ a, PyData.strOk x = true) (hb : ∀ x ∈ b, PyData.strOk x = true) : gNe (.lst o (dStrs a)) (.lst p (dStrs b)) = some (.bl (!(a == b))) := by
  have h1 : D.lay 60 (.lst o (dStrs a)) = true := dStrs_lay 59 a ha
  have h2 : D.lay 60 (.lst p (dStrs b)) = true := dStrs_lay 59 b hb
  simp only [gNe, h1, h2, and_self, if_true]
  show some (D.bl (!(PyData.eqvAll (D.toPL (dStrs a)) (D.toPL (dStrs b))))) = _
  rw [dStrs_eqvAll]

/-- a loop that looks for the first that fits -/
theorem for_find {α : Type} (f : α → D) {g : D → Dv.Env → Option Dv.Env} {b : Dv.Env → SR} (p : α → Bool) (r : α → D) (I : Dv.Env → Prop) : ∀ (as : List α) (ρ : Dv.Env),
    (∀ a ∈ as, ∀ ρ, I ρ → ∃ ρ1 ρ2, g (f a) ρ = some ρ1 ∧ ((p a = true ∧ b ρ1 = .rt (r a) ρ2) ∨ (p a = false ∧ (b ρ1 = .nx ρ2 ∨ b ρ1 = .ct ρ2) ∧ I ρ2))) → I ρ →
    (∃ a ρ', as.find? p = some a ∧ forL g b (as.map f) ρ = .rt (r a) ρ') ∨ (as.find? p = none ∧ ∃ ρ', forL g b (as.map f) ρ = .nx ρ' ∧ I ρ')
  | [], ρ, _, h => .inr ⟨rfl, ρ, rfl, h⟩
  | a :: as, ρ, hs, h => by
    obtain ⟨ρ1, ρ2, e1, e2⟩ := hs a List.mem_cons_self ρ h
    rw [List.map_cons, forL_cons, e1]
    rcases e2 with ⟨pa, e2⟩ | ⟨pa, e2, h2⟩
    · exact .inl ⟨a, ρ2, by rw [List.find?_cons, pa], by simp only [e2]⟩
    · have ih := for_find f p r I as ρ2 (fun x hx => hs x (List.mem_cons_of_mem _ hx)) h2
      rw [List.find?_cons, pa]
      rcases e2 with e2 | e2 <;> (simp only [e2]; exact ih)
/-- a loop that folds -/
theorem for_fold {α σ : Type} (f : α → D) {g : D → Dv.Env → Option Dv.Env} {b : Dv.Env → SR} (st : σ → α → σ) (I : σ → Dv.Env → Prop) : ∀ (as : List α) (s : σ) (ρ : Dv.Env),
    (∀ a ∈ as, ∀ s ρ, I s ρ → ∃ ρ1 ρ2, g (f a) ρ = some ρ1 ∧ (b ρ1 = .nx ρ2 ∨ b ρ1 = .ct ρ2) ∧ I (st s a) ρ2) → I s ρ → ∃ ρ', forL g b (as.map f) ρ = .nx ρ' ∧ I (as.foldl st s) ρ'
  | [], s, ρ, _, h => ⟨ρ, rfl, h⟩
  | a :: as, s, ρ, hs, h => by
    obtain ⟨ρ1, ρ2, e1, e2, h2⟩ := hs a List.mem_cons_self s ρ h
    rw [List.map_cons, forL_cons, e1, List.foldl_cons]
    have ih := for_fold f st I as (st s a) ρ2 (fun x hx => hs x (List.mem_cons_of_mem _ hx)) h2
    rcases e2 with e2 | e2 <;> (simp only [e2]; exact ih)
theorem cut_mid {α : Type} (xs : List α) (a n : Nat) (hi : Int) (h : hi = (a : Int) + (n : Int)) : Dv.cutD xs (some (a : Int)) (some hi) = (xs.drop a).take n := by
  subst h
  unfold Dv.cutD
  rw [show (a : Int) + (n : Int) = ((a + n : Nat) : Int) by omega, HT.sIx_nat, HT.sIx_nat]
  by_cases h : a ≤ xs.length
  · rw [show min a xs.length = a by omega]
    by_cases h2 : a + n ≤ xs.length
    · rw [show min (a + n) xs.length - a = n by omega]
    · rw [List.take_of_length_le (by rw [List.length_drop]; omega), List.take_of_length_le (by rw [List.length_drop]; omega)]
  · rw [List.drop_eq_nil_of_le (by omega), List.drop_eq_nil_of_le (by omega), List.take_nil, List.take_nil]
theorem cut_to {α : Type} (xs : List α) (n : Nat) : Dv.cutD xs none (some (n : Int)) = xs.take n := by
  unfold Dv.cutD
  rw [HT.sIx_nat, HT.sIx_none, List.drop_zero, Nat.sub_zero]
  by_cases h : n ≤ xs.length
  · rw [show min n xs.length = n by omega]
  · rw [List.take_of_length_le (by omega), List.take_of_length_le (by omega)]
theorem cut_from {α : Type} (xs : List α) (n : Nat) : Dv.cutD xs (some (n : Int)) none = xs.drop n := by
  unfold Dv.cutD
  rw [HT.sIx_nat, HT.sIx_none]
  by_cases h : n ≤ xs.length
  · rw [show min n xs.length = n by omega, List.take_of_length_le (by rw [List.length_drop]; omega)]
  · rw [List.drop_eq_nil_of_le (by omega), List.drop_eq_nil_of_le (by omega), List.take_nil]
theorem forL_nx {g : D → Dv.Env → Option Dv.Env} {b : Dv.Env → SR} {d : D} {ds : List D} {ρ ρ1 ρ2 : Dv.Env} {r : SR} (e1 : g d ρ = some ρ1) (e2 : b ρ1 = .nx ρ2) (e3 : forL g b ds ρ2 = r) : forL g b (d :: ds) ρ = r := by
  rw [forL_cons, e1]
  simp only [e2]
  exact e3
theorem ix0 (d : D) (ds : List D) : ixD (d :: ds) 0 = some d := rfl
theorem for_rngL {g : D → Dv.Env → Option Dv.Env} {b : Dv.Env → SR} (I : Nat → Dv.Env → Prop) (lo : Int) (n : Nat) (ρ : Dv.Env) (hs : ∀ j ρ, j < n → I j ρ → ∃ ρ1 ρ2, g (.int (lo + (j : Int))) ρ = some ρ1 ∧ (b ρ1 = .nx ρ2 ∨ b ρ1 = .ct ρ2) ∧ I (j + 1) ρ2) (h0 : I 0 ρ) :
    ∃ ρ', forL g b (rngL lo n) ρ = .nx ρ' ∧ I n ρ' := by
  obtain ⟨ρ', e, h⟩ := forL_inv (g := g) (b := b) I (rngL lo n) 0 ρ (fun j d ρ ed h => by
    have hj : j < n := by have := (List.getElem?_eq_some_iff.mp ed).1; rwa [rngL_len] at this
    have ed' : d = .int (lo + (j : Int)) := by
      unfold rngL at ed
      rw [List.getElem?_map, List.getElem?_range hj] at ed
      simpa using ed.symm
    subst ed'
    rw [Nat.zero_add] at h ⊢
    exact hs j ρ hj h) h0
  rw [rngL_len, Nat.zero_add] at h
  exact ⟨ρ', e, h⟩

def cps (x : Str) : List Int := x.cps.toList.map fun (c : Nat) => (c : Int)
def ordD : D → D
  | .str x => .int (x.cps.getD 0 0 : Nat)
  | d => d
theorem sign_len (c : Nat) : Str.length ⟨#[c]⟩ = 1 := rfl
theorem codes_lc (x : Str) (y : Option D) (hl : x.cps.toList.length ≤ 16777216) : lcL (gNm 1) tYes (eB gOrd (aV (eVar 1) (aNil))) [y, none] (x.cps.toList.map fun c => .str ⟨#[c]⟩) [] = .ok (.lst true (dInts (cps x))) := by
  rw [lcL_map ordD _ (fun d hd => by
    obtain ⟨c, _, rfl⟩ := List.mem_map.mp hd
    refine ⟨_, rfl, rfl, ?_⟩
    simp [sign_len, ordD]) (by rw [List.length_map]; exact hl), List.map_map]
  unfold cps dInts
  rw [List.map_map]
  rfl
theorem codes_end (x : Str) (R : List D) (h : lcL (gNm 1) tYes (eB gOrd (aV (eVar 1) (aNil))) [some (.str x), none] (x.cps.toList.map fun c => .str ⟨#[c]⟩) [] = .ok (.lst true R)) : d__law_codes [.str x] = .ok (.lst true R) := by
  simp [d__law_codes, b__law_codes, fnD, h]
theorem m_codes (x : Str) (hl : x.cps.toList.length ≤ 16777216) : d__law_codes [.str x] = .ok (.lst true (dInts (cps x))) := codes_end x _ (codes_lc x _ hl)
theorem mem_dInts {xs : List Int} {d : D} (h : d ∈ dInts xs) : ∃ c, d = .int c := by
  obtain ⟨c, _, e⟩ := List.mem_map.mp h
  exact ⟨c, e.symm⟩
def SG : Str := Str.ofString " !\"#$?&'()*+,-./0123456789:;<=>?@abcdefghijklmnopqrstuvwxyz[\\]^_`abcdefghijklmnopqrstuvwxyz{|}~"
theorem sg_len : SG.length ≤ 16777216 := by decide +kernel
theorem sg_at : ∀ k : Nat, k < 95 → k ≠ 5 → SG.cps.toList[k]? = some (if 33 ≤ k ∧ k ≤ 58 then k + 64 else k + 32) := by decide +kernel
def keep (c : Int) : Bool := decide (32 ≤ c ∧ c ≤ 126 ∧ c ≠ 37)
def low (c : Int) : Int := if 65 ≤ c ∧ c ≤ 90 then c + 32 else c
def clean (xs : List Int) : List Int := (xs.filter keep).map low
theorem gix_str {x : Str} {i : Int} (h : x.length ≤ 16777216) : gIx (.str x) (.int i) = (ixD x.cps.toList i).map fun c => .str ⟨#[c]⟩ := by
  show (if x.length ≤ 16777216 then (ixD x.cps.toList i).map (fun c => D.str ⟨#[c]⟩) else none) = _
  rw [if_pos h]
theorem sg_ix (c : Int) (h : keep c = true) : gIx c_SIGNS (.int (c - 32)) = some (.str ⟨#[(low c).toNat]⟩) := by
  have h : 32 ≤ c ∧ c ≤ 126 ∧ c ≠ 37 := of_decide_eq_true h
  show gIx (.str SG) (.int (c - 32)) = _
  rw [gix_str sg_len, ixD_pos _ (by omega), sg_at _ (by omega) (by omega)]
  unfold low
  by_cases a : 65 ≤ c ∧ c ≤ 90
  · rw [if_pos (by omega), if_pos a, Option.map_some, show (c - 32).toNat + 64 = (c + 32).toNat by omega]
  · rw [if_neg (by omega), if_neg a, Option.map_some, show (c - 32).toNat + 32 = c.toNat by omega]
def keepD : D → Bool
  | .int c => keep c
  | _ => false
def sgn (c : Int) : Str := ⟨#[c.toNat]⟩
def signD : D → D
  | .int c => .str (sgn (low c))
  | d => d
theorem keep_test (c : Int) (x : Option D) : tAndF (eT (e3 gLe gLe (eC (.int 32)) (eVar 1) (eC (.int 126)))) (eT (e2 gNe (eVar 1) (eC (.int 37)))) [x, some (.int c)] = .ok (keep c) := by
  unfold keep
  by_cases a : 32 ≤ c <;> by_cases b : c ≤ 126 <;> by_cases d : c = 37 <;> simp [e3, a, b, d]
theorem pp_lc (x : Option D) (xs : List Int) (hl : xs.length ≤ 1000000) : lcL (gNm 1) (tAndF (eT (e3 gLe gLe (eC (.int 32)) (eVar 1) (eC (.int 126)))) (eT (e2 gNe (eVar 1) (eC (.int 37))))) (asOwn (e2 gIx (eC c_SIGNS) (e2 gSub (eVar 1) (eC (.int 32))))) [x, none] (dInts xs) [] = .ok (.lst true (((dInts xs).filter keepD).map signD)) := by
  rw [lcL_of keepD signD (dInts xs) [] (fun d hd => by
    obtain ⟨v, rfl⟩ := mem_dInts hd
    refine ⟨_, rfl, keep_test v x, fun hk => ?_⟩
    have := sg_ix v hk
    simp [this, signD, sgn]) (by simp; omega), List.nil_append]
theorem pp_items : ∀ xs : List Int, ((dInts xs).filter keepD).map signD = (clean xs).map fun c => .str (sgn c)
  | [] => rfl
  | x :: xs => by
    have ih := pp_items xs
    unfold clean at ih ⊢
    rw [dInts_cons]
    by_cases h : keep x = true
    · rw [List.filter_cons_of_pos (by exact h), List.filter_cons_of_pos h, List.map_cons, List.map_cons, List.map_cons, ih]; rfl
    · rw [List.filter_cons_of_neg (by exact h), List.filter_cons_of_neg h, ih]
theorem txs_map : ∀ cs : List Int, txs (cs.map fun c => D.str (sgn c)) = some (cs.map sgn)
  | [] => rfl
  | c :: cs => by rw [List.map_cons, txs_cons, txs_map cs]; rfl
theorem len_sgn : ∀ cs : List Int, ((cs.map sgn).map (·.length)).sum = cs.length
  | [] => rfl
  | c :: cs => by
    rw [List.map_cons, List.map_cons, List.sum_cons, len_sgn cs]
    show 1 + cs.length = _
    rw [List.length_cons]; omega
/-- the text of codes -/
def mk (cs : List Int) : Str := Txt.join (Str.ofString "") (cs.map sgn)
theorem pp_end (xs cs : List Int) (e : lcL (gNm 1) (tAndF (eT (e3 gLe gLe (eC (.int 32)) (eVar 1) (eC (.int 126)))) (eT (e2 gNe (eVar 1) (eC (.int 37))))) (asOwn (e2 gIx (eC c_SIGNS) (e2 gSub (eVar 1) (eC (.int 32))))) [some (.lst false (dInts xs)), none] (dInts xs) [] = .ok (.lst true (cs.map fun c => D.str (sgn c)))) (ht : ((cs.map sgn).map (·.length)).sum + (cs.map sgn).length * (Str.ofString "").length ≤ 16777216) : d_plain_part [.lst false (dInts xs)] = .ok (.str (mk cs)) := by
  have g : gJoin (.str (Str.ofString "")) (.lst true (cs.map fun c => D.str (sgn c))) = some (.str (mk cs)) := by
    rw [gJoin_eq, items_lst]
    simp only [txs_map]
    rw [if_pos ht]; rfl
  simp [d_plain_part, b_plain_part, fnD, e, g, -gJoin_eq]
theorem clean_len (xs : List Int) : (clean xs).length ≤ xs.length := by
  unfold clean; rw [List.length_map]; exact List.length_filter_le _ _
theorem m_plain_part (xs : List Int) (hl : xs.length ≤ 1000000) : d_plain_part [.lst false (dInts xs)] = .ok (.str (mk (clean xs))) := by
  refine pp_end xs (clean xs) ?_ ?_
  · rw [pp_lc _ xs hl, pp_items]
  · have := clean_len xs
    rw [len_sgn, List.length_map, show (Str.ofString "").length = 0 from rfl]; omega
/-- cut at 47 and 92 -/
def stp (s : List (List Int) × List Int) (c : Int) : List (List Int) × List Int := if c = 47 ∨ c = 92 then (s.1 ++ [s.2], []) else (s.1, s.2 ++ [c])
def segs (xs : List Int) : List (List Int) := (xs.foldl stp ([], [])).1 ++ [(xs.foldl stp ([], [])).2]
def prt (p : List Int) : D := .str (mk (clean p))
theorem np_core (x : Option D) (ps p : List Int) (P : List D) (c : Int) (hp : d_plain_part [.lst false (dInts p)] = .ok (prt p)) (h1 : P.length < 16777216) (h2 : p.length < 16777216) :
    lp_name_parts_1 [x, some (.lst true P), some (.lst true (dInts p)), some (.int c)] =
      .nx [x, some (.lst true (if c = 47 ∨ c = 92 then P ++ [prt p] else P)), some (.lst true (if c = 47 ∨ c = 92 then [] else dInts (p ++ [c]))), some (.int c)] := by
  have hz : (prt p).noFz = true := rfl
  by_cases a : c = 47
  · simp [lp_name_parts_1, callF, hp, hz, a, onL, h1]
  · by_cases b : c = 92
    · simp [lp_name_parts_1, callF, hp, hz, a, b, onL, h1]
    · simp [lp_name_parts_1, callF, a, b, onL, h2]
theorem stp_len (s : List (List Int) × List Int) (c : Int) : (stp s c).1.length ≤ s.1.length + 1 ∧ (stp s c).2.length ≤ s.2.length + 1 := by
  unfold stp; split <;> simp
theorem fold_len : ∀ (xs : List Int) (s : List (List Int) × List Int), (xs.foldl stp s).1.length ≤ s.1.length + xs.length ∧ (xs.foldl stp s).2.length ≤ s.2.length + xs.length
  | [], s => ⟨Nat.le_refl _, Nat.le_refl _⟩
  | c :: xs, s => by
    obtain ⟨h1, h2⟩ := fold_len xs (stp s c)
    obtain ⟨g1, g2⟩ := stp_len s c
    simp only [List.foldl_cons, List.length_cons]
    omega
theorem take_succ {bs : List Int} {j : Nat} {x : Int} (e : bs[j]? = some x) : bs.take (j + 1) = bs.take j ++ [x] := by
  rw [List.take_add_one, e]; rfl
theorem np_loop (x : Option D) (xs : List Int) (hl : xs.length ≤ 100000) : ∃ z, forL (gNm 3) lp_name_parts_1 (dInts xs) [x, some (.lst true []), some (.lst true []), none] = .nx [x, some (.lst true ((xs.foldl stp ([], [])).1.map prt)), some (.lst true (dInts (xs.foldl stp ([], [])).2)), z] := by
  obtain ⟨ρ', e, z, rfl⟩ := for_ints (g := gNm 3) (b := lp_name_parts_1) (fun j ρ => ∃ z, ρ = [x, some (.lst true (((xs.take j).foldl stp ([], [])).1.map prt)), some (.lst true (dInts ((xs.take j).foldl stp ([], [])).2)), z]) xs [x, some (.lst true []), some (.lst true []), none] (fun j c ρ ec H => by
    obtain ⟨z, rfl⟩ := H
    have hj : j < xs.length := (List.getElem?_eq_some_iff.mp ec).1
    obtain ⟨l1, l2⟩ := fold_len (xs.take j) ([], [])
    have lt : (xs.take j).length ≤ xs.length := by rw [List.length_take]; omega
    simp only [List.length_nil, Nat.zero_add] at l1 l2
    refine ⟨_, _, rfl, .inl (np_core x [] ((xs.take j).foldl stp ([], [])).2 _ c (m_plain_part _ (by omega)) (by rw [List.length_map]; omega) (by omega)), some (.int c), ?_⟩
    rw [take_succ ec, List.foldl_append]
    generalize (xs.take j).foldl stp ([], []) = s
    show _ = [x, some (.lst true ((stp s c).1.map prt)), some (.lst true (dInts (stp s c).2)), some (.int c)]
    unfold stp
    by_cases h : c = 47 ∨ c = 92
    · rw [if_pos h, if_pos h, if_pos h, List.map_append]; rfl
    · rw [if_neg h, if_neg h, if_neg h]) ⟨none, rfl⟩
  rw [List.take_length] at e
  exact ⟨z, e⟩
theorem joinL_nil : ∀ ps : List (List Nat), TL.joinL [] ps = ps.flatten
  | [] => rfl
  | [p] => by simp [TL.joinL]
  | p :: q :: r => by
    show p ++ ([] ++ TL.joinL [] (q :: r)) = _
    rw [joinL_nil (q :: r)]; rfl
theorem mk_cps (cs : List Int) : (mk cs).cps.toList = cs.map Int.toNat := by
  unfold mk
  rw [TL.join_eq]
  show TL.tl (Str.join (Str.ofString "") (cs.map sgn)) = _
  rw [TL.tl_join]
  show TL.joinL [] ((cs.map sgn).map TL.tl) = _
  rw [joinL_nil, List.map_map]
  induction cs with
  | nil => rfl
  | cons c cs ih => rw [List.map_cons, List.flatten_cons, ih]; rfl
theorem cps_mk (cs : List Int) (h : ∀ c ∈ cs, 0 ≤ c) : cps (mk cs) = cs := by
  unfold cps
  rw [mk_cps, List.map_map]
  induction cs with
  | nil => rfl
  | cons c cs ih =>
    rw [List.map_cons, ih fun x hx => h x (List.mem_cons_of_mem _ hx)]
    have := h c List.mem_cons_self
    show ((c.toNat : Nat) : Int) :: cs = _
    rw [show ((c.toNat : Nat) : Int) = c by omega]
theorem mk_inj {a b : List Int} (ha : ∀ c ∈ a, 0 ≤ c) (hb : ∀ c ∈ b, 0 ≤ c) (e : mk a = mk b) : a = b := by
  rw [← cps_mk a ha, ← cps_mk b hb, e]
theorem clean_rng (xs : List Int) : ∀ c ∈ clean xs, 32 ≤ c ∧ c ≤ 126 := by
  intro c hc
  obtain ⟨d, hd, rfl⟩ := List.mem_map.mp hc
  have h := (List.mem_filter.mp hd).2
  have h : 32 ≤ d ∧ d ≤ 126 ∧ d ≠ 37 := of_decide_eq_true h
  unfold low; split <;> omega
def okp (c : List Int) : Bool := !(decide (c = []) || decide (c = [46]) || decide (c = [46, 46]))
theorem mk0 : mk [] = Str.ofString "" := by decide +kernel
theorem mk1 : mk [46] = Str.ofString "." := by decide +kernel
theorem mk2 : mk [46, 46] = Str.ofString ".." := by decide +kernel
theorem beq_mk (a c : List Int) (ha : ∀ x ∈ a, 0 ≤ x) (hc : ∀ x ∈ c, 0 ≤ x) : (mk a == mk c) = decide (c = a) := by
  by_cases h : c = a
  · subst h; simp
  · rw [decide_eq_false h]
    exact beq_false_of_ne fun e => h (mk_inj ha hc e).symm
theorem in_parts (c : List Int) (hc : ∀ x ∈ c, 0 ≤ x) : gNotIn (.str (mk c)) (.tup [.str (Str.ofString ""), .str (Str.ofString "."), .str (Str.ofString "..")]) = some (.bl (okp c)) := by
  have e : inB (.str (mk c)) (.tup [.str (Str.ofString ""), .str (Str.ofString "."), .str (Str.ofString "..")]) = some ([Str.ofString "", Str.ofString ".", Str.ofString ".."].any (· == mk c)) := rfl
  unfold gNotIn
  rw [e]
  simp only [List.any_cons, List.any_nil, Bool.or_false, Option.map_some]
  rw [← mk0, ← mk1, ← mk2, beq_mk [] c (by simp) hc, beq_mk [46] c (by simp) hc, beq_mk [46, 46] c (by simp) hc]
  unfold okp
  rw [Bool.or_assoc]
/-- the parts that stay, as codes -/
def kept (xs : List Int) : List (List Int) := ((segs xs).map clean).filter okp
def okD : D → Bool
  | .str s => okp (cps s)
  | _ => false
theorem cps_clean (p : List Int) : cps (mk (clean p)) = clean p := cps_mk _ fun c hc => by have := clean_rng p c hc; omega
theorem np_test (x y z : Option D) (p : List Int) : eT (e2 gNotIn (eVar 2) (eTup (aO (eC (.str "")) (aO (eC (.str ".")) (aO (eC (.str "..")) (aNil)))))) [x, y, some (prt p), z] = .ok (okp (clean p)) := by
  have g := in_parts (clean p) fun c hc => by have := clean_rng p c hc; omega
  simp [prt, g]
theorem np_lc (x y z : Option D) (ps : List (List Int)) (hl : ps.length ≤ 1000000) : lcL (gNm 2) (eT (e2 gNotIn (eVar 2) (eTup (aO (eC (.str "")) (aO (eC (.str ".")) (aO (eC (.str "..")) (aNil))))))) (asOwn (eVar 2)) [x, y, none, z] (ps.map prt) [] = .ok (.lst true (((ps.map prt).filter okD).map id)) := by
  rw [lcL_of okD id (ps.map prt) [] (fun d hd => by
    obtain ⟨p, _, rfl⟩ := List.mem_map.mp hd
    refine ⟨_, rfl, ?_, fun _ => ?_⟩
    · show eT _ [x, y, some (prt p), z] = _
      rw [np_test]
      show _ = R.ok (okp (cps (mk (clean p))))
      rw [cps_clean]
    · simp [prt]) (by simp; omega), List.nil_append]
theorem kept_D : ∀ ps : List (List Int), ((ps.map prt).filter okD).map id = ((ps.map clean).filter okp).map fun c => D.str (mk c)
  | [] => rfl
  | p :: ps => by
    have ih := kept_D ps
    rw [List.map_cons, List.map_cons]
    have hk : okD (prt p) = okp (clean p) := by
      show okp (cps (mk (clean p))) = _
      rw [cps_clean]
    cases h : okp (clean p) with
    | true => rw [List.filter_cons_of_pos (by rw [hk, h]), List.filter_cons_of_pos h, List.map_cons, List.map_cons, ih]; rfl
    | false => rw [List.filter_cons_of_neg (by rw [hk, h]; exact Bool.false_ne_true), List.filter_cons_of_neg (by rw [h]; exact Bool.false_ne_true), ih]
theorem prt_pure : ∀ ps : List (List Int), D.pureL (ps.map prt) = true
  | [] => rfl
  | p :: ps => by rw [List.map_cons, pureL_cons, prt_pure ps]; rfl
theorem np_end (xs p : List Int) (P R : List D) (z : Option D) (pP : D.pureL P = true) (e : forL (gNm 3) lp_name_parts_1 (dInts (xs ++ [47])) [some (.lst false (dInts xs)), some (.lst true []), some (.lst true []), none] = .nx [some (.lst false (dInts xs)), some (.lst true P), some (.lst true (dInts p)), z]) (hl : xs.length + 1 ≤ 16777216)
    (c : lcL (gNm 2) (eT (e2 gNotIn (eVar 2) (eTup (aO (eC (.str "")) (aO (eC (.str ".")) (aO (eC (.str "..")) (aNil))))))) (asOwn (eVar 2)) [some (.lst false (dInts xs)), some (.lst false P), none, z] P [] = .ok (.lst true R)) : d_name_parts [.lst false (dInts xs)] = .ok (.lst true R) := by
  have f := D.pureL_frzL P pP
  have k := D.pureL_cold P pP
  have ap : dInts xs ++ [D.int 47] = dInts (xs ++ [47]) := dInts_app1 xs 47
  simp [d_name_parts, b_name_parts, fnD, items, ap, hl, e, frzAt, f, k, pP, c]
theorem m_name_parts (xs : List Int) (hl : xs.length ≤ 10000) : d_name_parts [.lst false (dInts xs)] = .ok (.lst true ((kept xs).map fun c => D.str (mk c))) := by
  obtain ⟨z, e⟩ := np_loop (some (.lst false (dInts xs))) (xs ++ [47]) (by rw [List.length_append]; simp; omega)
  have hs : (xs ++ [47]).foldl stp ([], []) = (segs xs, []) := by
    rw [List.foldl_append]
    have h : ∀ s, stp s 47 = (s.1 ++ [s.2], []) := fun s => by unfold stp; rw [if_pos (.inl rfl)]
    exact h _
  rw [hs] at e
  obtain ⟨l1, _⟩ := fold_len xs ([], [])
  have ls : (segs xs).length ≤ xs.length + 1 := by
    unfold segs
    rw [List.length_append]
    simp only [List.length_nil, Nat.zero_add] at l1
    simp; omega
  refine np_end xs [] ((segs xs).map prt) _ z (prt_pure _) e (by omega) ?_
  rw [np_lc _ _ _ (segs xs) (by omega), kept_D]
  rfl
/-- parts joined while they fit -/
def jn (name : List Int) : List (List Int) → List Int
  | [] => name
  | p :: ps => if name.length + 1 + p.length > 100 then name else jn (name ++ [47] ++ p) ps
/-- what the law says the name is -/
def nameF (xs : List Int) : List Int := match kept xs with
  | [] => cps (Str.ofString "part")
  | p :: ps => jn (p.take 100) ps
theorem mk_len (cs : List Int) : (mk cs).length = cs.length := by
  show (mk cs).cps.size = _
  rw [← Array.length_toList, mk_cps, List.length_map]
theorem mk_app (a b : List Int) : mk a ++ mk b = mk (a ++ b) := by
  have h : (mk a ++ mk b).cps.toList = (mk (a ++ b)).cps.toList := by
    show ((mk a).cps ++ (mk b).cps).toList = _
    rw [Array.toList_append, mk_cps, mk_cps, mk_cps, List.map_append]
  have : (mk a ++ mk b).cps = (mk (a ++ b)).cps := Array.toList_inj.mp h
  cases e1 : mk a ++ mk b with
  | mk x => cases e2 : mk (a ++ b) with
    | mk y => rw [e1, e2] at this; exact congrArg Str.mk this
theorem mk_slash : mk [47] = Str.ofString "/" := by decide +kernel
theorem pn_core (x0 x1 : Option D) (s t : Str) (n m : Int) (u : Str) (hs : s.length ≤ 16777216) (ht : t.length ≤ 16777216) (hn : (s.length : Int) = n) (hm : (t.length : Int) = m) (h1 : s.length + (Str.ofString "/").length ≤ 16777216) (h2 : (s ++ Str.ofString "/").length + t.length ≤ 16777216) (hu : s ++ Str.ofString "/" ++ t = u) :
    lp_plain_name_1 [x0, x1, some (.str s), some (.str t)] = if n + 1 + m > 100 then .bk [x0, x1, some (.str s), some (.str t)] else .nx [x0, x1, some (.str u), some (.str t)] := by
  by_cases h : n + 1 + m > 100
  · have h' : 100 < n + 1 + m := h
    simp [lp_plain_name_1, c_MOST_NAME, hs, ht, hn, hm, h']
  · have h' : ¬ 100 < n + 1 + m := h
    simp [lp_plain_name_1, c_MOST_NAME, hs, ht, hn, hm, h', h1, h2, hu]
theorem pn_loop (x0 x1 : Option D) : ∀ (ps : List (List Int)) (nm : List Int) (x3 : Option D), nm.length ≤ 100 → (∀ p ∈ ps, p.length ≤ 1000000) →
    ∃ z, forL (gNm 3) lp_plain_name_1 (ps.map fun p => .str (mk p)) [x0, x1, some (.str (mk nm)), x3] = .nx [x0, x1, some (.str (mk (jn nm ps))), z]
  | [], nm, x3, _, _ => ⟨x3, rfl⟩
  | p :: ps, nm, x3, hn, hp => by
    have hpl := hp p List.mem_cons_self
    have lsl : (Str.ofString "/").length = 1 := by decide +kernel
    have hu : mk nm ++ Str.ofString "/" ++ mk p = mk (nm ++ [47] ++ p) := by rw [← mk_slash, mk_app, mk_app]
    have e := pn_core x0 x1 (mk nm) (mk p) _ _ _ (by rw [mk_len]; omega) (by rw [mk_len]; omega) rfl rfl (by rw [mk_len, lsl]; omega) (by rw [← mk_slash, mk_app, mk_len, mk_len, List.length_append]; simp; omega) hu
    rw [mk_len, mk_len] at e
    have e1 : gNm 3 (.str (mk p)) [x0, x1, some (.str (mk nm)), x3] = some [x0, x1, some (.str (mk nm)), some (.str (mk p))] := rfl
    rw [List.map_cons, forL_cons, e1]
    by_cases h : nm.length + 1 + p.length > 100
    · rw [if_pos (by omega)] at e
      refine ⟨some (.str (mk p)), ?_⟩
      simp only [e]
      rw [jn, if_pos h]
    · rw [if_neg (by omega)] at e
      simp only [e]
      rw [jn, if_neg h]
      exact pn_loop x0 x1 ps (nm ++ [47] ++ p) (some (.str (mk p))) (by simp; omega) fun q hq => hp q (List.mem_cons_of_mem _ hq)
theorem jn_len : ∀ (ps : List (List Int)) (nm : List Int), nm.length ≤ 100 → nm.length ≤ (jn nm ps).length ∧ (jn nm ps).length ≤ 100
  | [], nm, h => ⟨Nat.le_refl _, h⟩
  | p :: ps, nm, h => by
    rw [jn]
    by_cases c : nm.length + 1 + p.length > 100
    · rw [if_pos c]; exact ⟨Nat.le_refl _, h⟩
    · rw [if_neg c]
      have hl : (nm ++ [47] ++ p).length = nm.length + 1 + p.length := by simp; omega
      obtain ⟨h1, h2⟩ := jn_len ps (nm ++ [47] ++ p) (by omega)
      exact ⟨by omega, h2⟩
def good (q : List Int) : Prop := ∀ c ∈ q, keep c = true ∧ low c = c ∧ c ≠ 47 ∧ c ≠ 92
def tail47 (ps : List (List Int)) : List Int := ps.flatMap fun p => 47 :: p
theorem clean_good {q : List Int} (h : good q) : clean q = q := by
  unfold clean
  induction q with
  | nil => rfl
  | cons c q ih =>
    obtain ⟨h1, h2, _, _⟩ := h c List.mem_cons_self
    rw [List.filter_cons_of_pos h1, List.map_cons, h2, ih fun x hx => h x (List.mem_cons_of_mem _ hx)]
theorem good_clean (p : List Int) (hp : ∀ c ∈ p, c ≠ 47 ∧ c ≠ 92) : good (clean p) := by
  intro c hc
  obtain ⟨d, hd, rfl⟩ := List.mem_map.mp hc
  obtain ⟨hd1, hd2⟩ := List.mem_filter.mp hd
  have hd2 : 32 ≤ d ∧ d ≤ 126 ∧ d ≠ 37 := of_decide_eq_true hd2
  obtain ⟨h1, h2⟩ := hp d hd1
  unfold low
  by_cases a : 65 ≤ d ∧ d ≤ 90
  · rw [if_pos a]
    exact ⟨decide_eq_true (by omega), if_neg (by omega), by omega, by omega⟩
  · rw [if_neg a, if_neg a]
    exact ⟨decide_eq_true (by omega), rfl, h1, h2⟩
theorem fold_no : ∀ (xs : List Int) (s : List (List Int) × List Int), (∀ p ∈ s.1, ∀ c ∈ p, c ≠ 47 ∧ c ≠ 92) → (∀ c ∈ s.2, c ≠ 47 ∧ c ≠ 92) → (∀ p ∈ (xs.foldl stp s).1, ∀ c ∈ p, c ≠ 47 ∧ c ≠ 92) ∧ ∀ c ∈ (xs.foldl stp s).2, c ≠ 47 ∧ c ≠ 92
  | [], _, h1, h2 => ⟨h1, h2⟩
  | x :: xs, s, h1, h2 => by
    rw [List.foldl_cons]
    refine fold_no xs (stp s x) ?_ ?_
    · unfold stp
      split
      · intro p hp
        rcases List.mem_append.mp hp with hp | hp
        · exact h1 p hp
        · rw [List.mem_singleton.mp hp]; exact h2
      · exact h1
    · unfold stp
      split
      · intro c hc; cases hc
      · intro c hc
        rcases List.mem_append.mp hc with hc | hc
        · exact h2 c hc
        · rw [List.mem_singleton.mp hc]; omega
theorem segs_no (xs : List Int) : ∀ p ∈ segs xs, ∀ c ∈ p, c ≠ 47 ∧ c ≠ 92 := by
  obtain ⟨h1, h2⟩ := fold_no xs ([], []) (by simp) (by simp)
  intro p hp
  rcases List.mem_append.mp hp with hp | hp
  · exact h1 p hp
  · rw [List.mem_singleton.mp hp]; exact h2
theorem kept_good (xs : List Int) : ∀ q ∈ kept xs, good q ∧ okp q = true := by
  intro q hq
  obtain ⟨h1, h2⟩ := List.mem_filter.mp hq
  obtain ⟨p, hp, rfl⟩ := List.mem_map.mp h1
  exact ⟨good_clean p (segs_no xs p hp), h2⟩
theorem fold_good : ∀ (q : List Int) (A : List (List Int)) (B : List Int), good q → q.foldl stp (A, B) = (A, B ++ q)
  | [], A, B, _ => by simp
  | c :: q, A, B, h => by
    obtain ⟨_, _, h1, h2⟩ := h c List.mem_cons_self
    rw [List.foldl_cons]
    have e : stp (A, B) c = (A, B ++ [c]) := by unfold stp; rw [if_neg (by omega)]
    rw [e, fold_good q A (B ++ [c]) fun x hx => h x (List.mem_cons_of_mem _ hx), List.append_assoc]; rfl
theorem fold_tail : ∀ (qs : List (List Int)) (A : List (List Int)) (B : List Int), (∀ q ∈ qs, good q) → ((tail47 qs).foldl stp (A, B)).1 ++ [((tail47 qs).foldl stp (A, B)).2] = A ++ B :: qs
  | [], A, B, _ => rfl
  | q :: qs, A, B, h => by
    have e : (tail47 (q :: qs)).foldl stp (A, B) = (tail47 qs).foldl stp (A ++ [B], q) := by
      show ((47 :: q) ++ tail47 qs).foldl stp (A, B) = _
      rw [List.foldl_append, List.foldl_cons]
      have e1 : stp (A, B) 47 = (A ++ [B], []) := by unfold stp; rw [if_pos (.inl rfl)]
      rw [e1, fold_good q _ _ (h q List.mem_cons_self)]; rfl
    rw [e, fold_tail qs _ _ fun x hx => h x (List.mem_cons_of_mem _ hx), List.append_assoc]; rfl
theorem segs_join (p : List Int) (qs : List (List Int)) (hp : good p) (h : ∀ q ∈ qs, good q) : segs (p ++ tail47 qs) = p :: qs := by
  have e : (p ++ tail47 qs).foldl stp ([], []) = (tail47 qs).foldl stp ([], p) := by
    rw [List.foldl_append, fold_good p _ _ hp]; rfl
  unfold segs
  rw [e, fold_tail qs _ _ h]; rfl
theorem map_clean_good : ∀ ps : List (List Int), (∀ q ∈ ps, good q) → ps.map clean = ps
  | [], _ => rfl
  | p :: ps, h => by rw [List.map_cons, clean_good (h p List.mem_cons_self), map_clean_good ps fun q hq => h q (List.mem_cons_of_mem _ hq)]
theorem kept_join (p : List Int) (qs : List (List Int)) (hp : good p ∧ okp p = true) (h : ∀ q ∈ qs, good q ∧ okp q = true) : kept (p ++ tail47 qs) = p :: qs := by
  have g : ∀ q ∈ p :: qs, good q ∧ okp q = true := by
    intro q hq
    rcases List.mem_cons.mp hq with rfl | hq
    · exact hp
    · exact h q hq
  unfold kept
  rw [segs_join p qs hp.1 fun q hq => (h q hq).1, map_clean_good _ fun q hq => (g q hq).1]
  exact List.filter_eq_self.mpr fun q hq => (g q hq).2
theorem jn_take : ∀ (ps : List (List Int)) (nm : List Int), ∃ k, jn nm ps = nm ++ tail47 (ps.take k) ∧ jn nm (ps.take k) = jn nm ps
  | [], nm => ⟨0, by simp [jn, tail47], rfl⟩
  | p :: ps, nm => by
    by_cases c : nm.length + 1 + p.length > 100
    · exact ⟨0, by rw [jn, if_pos c]; simp [tail47], by rw [jn, if_pos c]; rfl⟩
    · obtain ⟨k, h1, h2⟩ := jn_take ps (nm ++ [47] ++ p)
      refine ⟨k + 1, ?_, ?_⟩
      · rw [jn, if_neg c, h1]
        simp [tail47]
      · rw [List.take_succ_cons, jn, if_neg c, jn, if_neg c, h2]
theorem okp_take (p : List Int) (h : okp p = true) : okp (p.take 100) = true := by
  by_cases l : p.length ≤ 100
  · rw [List.take_of_length_le l]; exact h
  · have hl : (p.take 100).length = 100 := by rw [List.length_take]; omega
    unfold okp
    have n : ∀ q : List Int, q.length < 100 → p.take 100 ≠ q := fun q hq e => by rw [e] at hl; omega
    rw [decide_eq_false (n [] (by simp)), decide_eq_false (n [46] (by simp)), decide_eq_false (n [46, 46] (by simp))]; rfl
theorem part_cps : cps (Str.ofString "part") = [112, 97, 114, 116] := by decide +kernel
theorem okp_len (p : List Int) (h : okp p = true) : 1 ≤ p.length := by
  cases p with
  | nil => simp [okp] at h
  | cons x p => simp
theorem nameF_cons {xs : List Int} {p : List Int} {ps : List (List Int)} (e : kept xs = p :: ps) : nameF xs = jn (p.take 100) ps := by
  unfold nameF; rw [e]
theorem name_again (xs : List Int) : nameF (nameF xs) = nameF xs := by
  have hk := kept_good xs
  cases e : kept xs with
  | nil =>
    have : nameF xs = [112, 97, 114, 116] := by unfold nameF; rw [e]; exact part_cps
    rw [this]
    have k : kept [112, 97, 114, 116] = [[112, 97, 114, 116]] := by decide +kernel
    unfold nameF
    rw [k]; rfl
  | cons p ps =>
    rw [e] at hk
    have n1 : nameF xs = jn (p.take 100) ps := nameF_cons e
    obtain ⟨k, h1, h2⟩ := jn_take ps (p.take 100)
    obtain ⟨g1, g2⟩ := hk p List.mem_cons_self
    have kk : kept (nameF xs) = p.take 100 :: ps.take k := by
      rw [n1, h1]
      exact kept_join _ _ ⟨fun c hc => g1 c (List.mem_of_mem_take hc), okp_take p g2⟩ fun q hq => hk q (List.mem_cons_of_mem _ (List.mem_of_mem_take hq))
    have n2 : nameF (nameF xs) = jn ((p.take 100).take 100) (ps.take k) := nameF_cons kk
    rw [n2, n1, List.take_take, Nat.min_self, h2]
theorem name_len (xs : List Int) : 1 ≤ (nameF xs).length ∧ (nameF xs).length ≤ 100 := by
  have hk := kept_good xs
  unfold nameF
  cases e : kept xs with
  | nil => show 1 ≤ (cps (Str.ofString "part")).length ∧ _; rw [part_cps]; decide
  | cons p ps =>
    rw [e] at hk
    obtain ⟨g1, g2⟩ := hk p List.mem_cons_self
    have l := okp_len _ (okp_take p g2)
    obtain ⟨h1, h2⟩ := jn_len ps (p.take 100) (by rw [List.length_take]; omega)
    exact ⟨Nat.le_trans l h1, h2⟩
theorem tail_nn (ps : List (List Int)) (h : ∀ q ∈ ps, good q) : ∀ c ∈ tail47 ps, 0 ≤ c := by
  intro c hc
  obtain ⟨p, hp, hc⟩ := List.mem_flatMap.mp hc
  rcases List.mem_cons.mp hc with rfl | hc
  · omega
  · have : 32 ≤ c ∧ c ≤ 126 ∧ c ≠ 37 := of_decide_eq_true (h p hp c hc).1
    omega
theorem name_nn (xs : List Int) : ∀ c ∈ nameF xs, 0 ≤ c := by
  have hk := kept_good xs
  unfold nameF
  cases e : kept xs with
  | nil => show ∀ c ∈ cps (Str.ofString "part"), _; rw [part_cps]; decide
  | cons p ps =>
    rw [e] at hk
    obtain ⟨k, h1, _⟩ := jn_take ps (p.take 100)
    show ∀ c ∈ jn (p.take 100) ps, 0 ≤ c
    rw [h1]
    intro c hc
    rcases List.mem_append.mp hc with hc | hc
    · have : 32 ≤ c ∧ c ≤ 126 ∧ c ≠ 37 := of_decide_eq_true ((hk p List.mem_cons_self).1 c (List.mem_of_mem_take hc)).1
      omega
    · exact tail_nn _ (fun q hq => (hk q (List.mem_cons_of_mem _ (List.mem_of_mem_take hq))).1) c hc
theorem c_part : d__law_codes [.str (Str.ofString "part")] = .ok (.lst true (dInts [112, 97, 114, 116])) := by
  have h := m_codes (Str.ofString "part") (by decide +kernel)
  rw [part_cps] at h; exact h
theorem segs_len (xs : List Int) : (segs xs).length ≤ xs.length + 1 := by
  obtain ⟨l1, _⟩ := fold_len xs ([], [])
  unfold segs
  rw [List.length_append]
  simp only [List.length_nil, Nat.zero_add] at l1
  simp; omega
theorem seg_len : ∀ (xs : List Int) (s : List (List Int) × List Int) (B : Nat), (∀ p ∈ s.1, p.length ≤ B) → s.2.length + xs.length ≤ B → (∀ p ∈ (xs.foldl stp s).1, p.length ≤ B) ∧ (xs.foldl stp s).2.length ≤ B
  | [], s, B, h1, h2 => ⟨h1, h2⟩
  | c :: xs, s, B, h1, h2 => by
    rw [List.foldl_cons]
    rw [List.length_cons] at h2
    refine seg_len xs (stp s c) B ?_ ?_
    · unfold stp
      split
      · intro p hp
        rcases List.mem_append.mp hp with hp | hp
        · exact h1 p hp
        · rw [List.mem_singleton.mp hp]; omega
      · exact h1
    · obtain ⟨_, g2⟩ := stp_len s c; omega
theorem segs_le (xs : List Int) : ∀ p ∈ segs xs, p.length ≤ xs.length := by
  obtain ⟨h1, h2⟩ := seg_len xs ([], []) xs.length (by simp) (by simp)
  intro p hp
  rcases List.mem_append.mp hp with hp | hp
  · exact h1 p hp
  · rw [List.mem_singleton.mp hp]; exact h2
theorem kept_le (xs : List Int) : (∀ p ∈ kept xs, p.length ≤ xs.length) ∧ (kept xs).length ≤ xs.length + 1 := by
  constructor
  · intro q hq
    obtain ⟨h1, _⟩ := List.mem_filter.mp hq
    obtain ⟨p, hp, rfl⟩ := List.mem_map.mp h1
    exact Nat.le_trans (clean_len p) (segs_le xs p hp)
  · unfold kept
    refine Nat.le_trans (List.length_filter_le _ _) ?_
    rw [List.length_map]; exact segs_len xs
theorem pn_nil (xs : List Int) (e : d_name_parts [.lst false (dInts xs)] = .ok (.lst true [])) : d_plain_name [.lst false (dInts xs)] = .ok (.str (Str.ofString "part")) := by
  have g : gEq (.lst true []) (.lst true []) = some (.bl true) := rfl
  simp [d_plain_name, b_plain_name, fnD, callF, e, g]
theorem pn_cons (xs : List Int) (s t r : Str) (K : List D) (ne : gEq (.lst true (.str s :: K)) (.lst true []) = some (.bl false)) (e : d_name_parts [.lst false (dInts xs)] = .ok (.lst true (.str s :: K)))
    (pK : D.pureL K = true) (c1 : Dv.cutD (D.str s :: K) (some 1) none = K) (c2 : gSl (.str s) none (some 100) = some (.str t)) (z : Option D)
    (hr : forL (gNm 3) lp_plain_name_1 K [some (.lst false (dInts xs)), some (.lst true (.str s :: K)), some (.str t), none] = .nx [some (.lst false (dInts xs)), some (.lst true (.str s :: K)), some (.str r), z]) :
    d_plain_name [.lst false (dInts xs)] = .ok (.str r) := by
  have fK := D.pureL_frzL K pK
  have cK := D.pureL_cold K pK
  simp [d_plain_name, b_plain_name, fnD, callF, c_MOST_NAME, e, ne, ix0, c1, c2, pK, fK, cK, hr]
theorem str_ext {a b : Str} (h : a.cps.toList = b.cps.toList) : a = b := by
  cases a; cases b
  exact congrArg Str.mk (Array.toList_inj.mp h)
theorem mk_take (p : List Int) : cutS (mk p) none (some 100) = mk (p.take 100) := str_ext (by
  show (((mk p).cps.toList.drop (HT.sIx (mk p).length 0 none)).take (HT.sIx (mk p).length (mk p).length (some ((100 : Nat) : Int)) - HT.sIx (mk p).length 0 none)).toArray.toList = _
  rw [HT.sIx_nat, HT.sIx_none, mk_len, mk_cps, mk_cps, List.drop_zero, Nat.sub_zero]
  show (p.map Int.toNat).take (min 100 p.length) = _
  rw [List.map_take]
  by_cases h : 100 ≤ p.length
  · rw [show min 100 p.length = 100 by omega]
  · rw [List.take_of_length_le (by rw [List.length_map]; omega), List.take_of_length_le (by rw [List.length_map]; omega)])
theorem mk_ok (p : List Int) (h : ∀ c ∈ p, c ≤ 1000) : PyData.strOk (mk p) = true := by
  show (mk p).cps.all (· < 0x110000) = true
  rw [← Array.all_toList, mk_cps, List.all_eq_true]
  intro c hc
  obtain ⟨d, hd, rfl⟩ := List.mem_map.mp hc
  have := h d hd
  exact decide_eq_true (by omega)
theorem kept_rng (xs : List Int) : ∀ p ∈ kept xs, ∀ c ∈ p, 32 ≤ c ∧ c ≤ 126 := by
  intro q hq
  obtain ⟨h1, _⟩ := List.mem_filter.mp hq
  obtain ⟨p, hp, rfl⟩ := List.mem_map.mp h1
  exact clean_rng p
theorem m_plain_name (xs : List Int) (hl : xs.length ≤ 10000) : d_plain_name [.lst false (dInts xs)] = .ok (.str (mk (nameF xs))) := by
  have e := m_name_parts xs hl
  have kr := kept_rng xs
  obtain ⟨k1, k2⟩ := kept_le xs
  cases hk : kept xs with
  | nil =>
    rw [hk] at e
    have hn : nameF xs = [112, 97, 114, 116] := by unfold nameF; rw [hk]; exact part_cps
    rw [hn, show mk [112, 97, 114, 116] = Str.ofString "part" by decide +kernel]
    exact pn_nil xs e
  | cons p ps =>
    rw [hk] at e kr k1 k2
    rw [nameF_cons hk]
    have tl : (p.take 100).length ≤ 100 := by rw [List.length_take]; omega
    have pl := k1 p List.mem_cons_self
    have pK : ∀ ps : List (List Int), D.pureL (ps.map fun c => D.str (mk c)) = true := fun ps => by
      have := dStrs_pure (ps.map mk)
      unfold dStrs at this
      rwa [List.map_map] at this
    obtain ⟨z, hr⟩ := pn_loop (some (.lst false (dInts xs))) (some (.lst true (.str (mk p) :: ps.map fun c => D.str (mk c)))) ps (p.take 100) none tl (fun q hq => by have := k1 q (List.mem_cons_of_mem _ hq); omega)
    refine pn_cons xs (mk p) (mk (p.take 100)) _ (ps.map fun c => D.str (mk c)) ?_ e (pK ps) (cut_from _ 1) ?_ z hr
    · have g := gEq_strs true true ((p :: ps).map mk) [] (fun x hx => by
        obtain ⟨q, hq, rfl⟩ := List.mem_map.mp hx
        exact mk_ok q fun c hc => by have := kr q hq c hc; omega) (by simp)
      unfold dStrs at g
      rw [List.map_map] at g
      exact g
    · show (if (mk p).length ≤ 16777216 then some (D.str (cutS (mk p) none (some 100))) else none) = _
      rw [if_pos (by rw [mk_len]; omega), mk_take]


end
set_option maxRecDepth 100000
set_option maxHeartbeats 4000000
open PySem PySem.Spec PyProof.Rows L2 Dv
noncomputable section
/-! ## crates, plain -/
def Byt (xs : List Int) : Prop := ∀ x ∈ xs, 0 ≤ x ∧ x < 256
def lnum : List Int → Int
  | [] => 0
  | b :: bs => lnum bs * 256 + b
def sl (U : List Int) (a n : Nat) : List Int := (U.drop a).take n
def lw (U : List Int) (a n : Nat) : Nat := (lnum (sl U a n)).toNat
theorem Byt.sl {U : List Int} (h : Byt U) (a n : Nat) : Byt (sl U a n) := fun x hx => h x (List.mem_of_mem_drop (List.mem_of_mem_take hx))
theorem lnum_nn : ∀ bs : List Int, Byt bs → 0 ≤ lnum bs
  | [], _ => Int.le_refl _
  | b :: bs, h => by
    have := lnum_nn bs fun x hx => h x (List.mem_cons_of_mem _ hx)
    have := h b List.mem_cons_self
    rw [lnum]; omega
theorem lw_int {U : List Int} (h : Byt U) (a n : Nat) : lnum (sl U a n) = (lw U a n : Int) := by
  unfold lw
  have := lnum_nn _ (h.sl a n)
  omega
theorem lnum_lt : ∀ bs : List Int, Byt bs → lnum bs < 256 ^ bs.length
  | [], _ => by decide
  | b :: bs, h => by
    have := lnum_lt bs fun x hx => h x (List.mem_cons_of_mem _ hx)
    have hb := h b List.mem_cons_self
    rw [lnum, List.length_cons, Int.pow_succ]
    omega
theorem sl_len (U : List Int) (a n : Nat) : (sl U a n).length ≤ n := by unfold sl; rw [List.length_take]; omega
theorem sl_le (U : List Int) (a n : Nat) : (sl U a n).length ≤ U.length := by unfold sl; rw [List.length_take, List.length_drop]; omega
theorem lw_lt {U : List Int} (h : Byt U) (a n : Nat) (hn : n ≤ 4) : lw U a n < 4294967296 := by
  have h1 := lnum_lt _ (h.sl a n)
  have h2 := lw_int h a n
  have h3 : (256 : Int) ^ (sl U a n).length ≤ 256 ^ 4 := by
    have hh : (256 : Nat) ^ (sl U a n).length ≤ 256 ^ 4 := Nat.pow_le_pow_right (by decide) (by have := sl_len U a n; omega)
    have : (((256 : Nat) ^ (sl U a n).length : Nat) : Int) ≤ ((256 ^ 4 : Nat) : Int) := by omega
    rw [Int.natCast_pow, Int.natCast_pow] at this
    exact this
  have : (256 : Int) ^ 4 = 4294967296 := by decide
  omega
/-- an entry's parts: name, method, sizes, data; whether it is whole, where it ends -/
structure Hd where
  nm : List Int
  me : Int
  sz : Int
  tt : Int
  pt : List Int
  ok : Bool
  en : Nat
def hdr (U : List Int) (a : Nat) : Option Hd :=
  if sl U a 4 = [67, 82, 84, 49] ∧ a + 20 ≤ U.length then
    if a + 20 + lw U (a + 6) 2 ≤ U.length then
      some ⟨sl U (a + 20) (lw U (a + 6) 2), U.getD (a + 4) 0, lnum (sl U (a + 8) 4), lnum (sl U (a + 12) 4), sl U (a + 20 + lw U (a + 6) 2) (lw U (a + 16) 4), decide (a + 20 + lw U (a + 6) 2 + lw U (a + 16) 4 ≤ U.length), min (a + 20 + lw U (a + 6) 2 + lw U (a + 16) 4) U.length⟩
    else none
  else none
def hD : Option Hd → D
  | some h => .tup [.tup [.lst true (dInts h.nm), .int h.me, .int h.sz, .int h.tt, .tup (dInts h.pt)], .bl h.ok, .int h.en]
  | none => .non
def hL : Option Hd → D
  | some h => .tup [.lst true (dInts h.nm), .tup [.int h.me, .int h.sz, .int h.tt, .tup (dInts h.pt)], .bl h.ok, .int h.en]
  | none => .non
theorem cut_sl (U : List Int) (a n : Nat) (lo hi : Int) (h1 : lo = (a : Int)) (h2 : hi = ((a + n : Nat) : Int)) : Dv.cutD U (some lo) (some hi) = sl U a n := by
  subst h1
  exact cut_mid U a n hi (by omega)
/-! the walks -/
theorem ln_turn (x0 : Option D) (n b : Int) (x2 : Option D) : lp_low_number_1 [x0, some (.int n), some (.int b)] = .nx [x0, some (.int (n * 256 + b)), some (.int b)] := by
  have w : W64 (256 : Int) := w64 (by decide) (by decide)
  simp [lp_low_number_1]
theorem lnum_fold : ∀ xs : List Int, xs.reverse.foldl (fun n b => n * 256 + b) 0 = lnum xs
  | [] => rfl
  | b :: bs => by rw [List.reverse_cons, List.foldl_append, lnum_fold bs]; rfl
theorem dInts_rev (xs : List Int) : (dInts xs).reverse = dInts xs.reverse := by unfold dInts; rw [List.map_reverse]

end
set_option maxRecDepth 100000
set_option maxHeartbeats 4000000
open PySem PySem.Spec PyProof.Rows L2 Dv
noncomputable section
theorem ln_end (xs : List Int) (r : Int) (y2 : Option D) (h : forL (gNm 2) lp_low_number_1 (dInts xs.reverse) [some (.lst false (dInts xs)), some (.int 0), none] = .nx [some (.lst false (dInts xs)), some (.int r), y2]) : d_low_number [.lst false (dInts xs)] = .ok (.int r) := by
  have q := dInts_rev xs
  simp [d_low_number, b_low_number, fnD, q, h]
theorem m_low_number (xs : List Int) : d_low_number [.lst false (dInts xs)] = .ok (.int (lnum xs)) := by
  obtain ⟨ρ', e, y2, rfl⟩ := for_fold D.int (g := gNm 2) (b := lp_low_number_1) (fun n b => n * 256 + b) (fun n ρ => ∃ y2, ρ = [some (.lst false (dInts xs)), some (.int n), y2]) xs.reverse 0 [some (.lst false (dInts xs)), some (.int 0), none] (fun b _ n ρ h => by
    obtain ⟨y2, rfl⟩ := h
    exact ⟨_, _, rfl, .inl (ln_turn _ n b y2), _, rfl⟩) ⟨none, rfl⟩
  rw [lnum_fold] at e
  exact ln_end xs _ y2 e
/-! signs -/
theorem st_core (U P Q : List Int) (a a1 a4 s0 s1 s2 s3 : Int) (e1 : a + 1 = a1) (e4 : a + 4 = a4) (h1 : Dv.cutD U (some a) (some a1) = P) (h4 : Dv.cutD U (some a) (some a4) = Q) :
    d_stands_at [.lst false (dInts U), .tup [.int s0, .int s1, .int s2, .int s3], .int a] = .ok (.bl ((P == [s0]) && (Q == [s0, s1, s2, s3]))) := by
  have q1 : ∀ o p, gEq (.lst o (dInts P)) (.lst p [.int s0]) = some (.bl (P == [s0])) := fun o p => by
    have := gEq_ints o p P [s0]; rwa [show dInts [s0] = [D.int s0] from rfl] at this
  have q2 : ∀ o p, gEq (.lst o (dInts Q)) (.lst p [.int s0, .int s1, .int s2, .int s3]) = some (.bl (Q == [s0, s1, s2, s3])) := fun o p => by
    have := gEq_ints o p Q [s0, s1, s2, s3]; rwa [show dInts [s0, s1, s2, s3] = [D.int s0, .int s1, .int s2, .int s3] from rfl] at this
  cases hb : (P == [s0]) <;> simp [d_stands_at, b_stands_at, fnD, ixD, e1, e4, h1, h4, q1, q2, hb]
theorem m_stands (U : List Int) (a : Nat) (s0 s1 s2 s3 : Int) : d_stands_at [.lst false (dInts U), .tup [.int s0, .int s1, .int s2, .int s3], .int a] = .ok (.bl (sl U a 4 == [s0, s1, s2, s3])) := by
  rw [st_core U _ _ a _ _ s0 s1 s2 s3 rfl rfl (cut_sl U a 1 _ _ rfl (by omega)) (cut_sl U a 4 _ _ rfl (by omega))]
  congr 2
  have e : sl U a 1 = (sl U a 4).take 1 := by unfold sl; rw [List.take_take]; rfl
  rw [e]
  cases h : (sl U a 4 == [s0, s1, s2, s3]) with
  | false => rw [Bool.and_false]
  | true =>
    have := eq_of_beq h
    rw [this]
    simp
theorem m_lcodes4 (x : Str) (a b c d : Int) (h : cps x = [a, b, c, d]) : d__law_codes [.str x] = .ok (.lst true [.int a, .int b, .int c, .int d]) := by
  have e := m_codes x (by
    have : (cps x).length = 4 := by rw [h]; rfl
    unfold cps at this
    rw [List.length_map] at this
    omega)
  rw [h] at e
  exact e
theorem c_crt : d__law_codes [.str (Str.ofString "CRT1")] = .ok (.lst true [.int 67, .int 82, .int 84, .int 49]) := m_lcodes4 _ _ _ _ _ (by decide +kernel)
theorem c_end : d__law_codes [.str (Str.ofString "CEND")] = .ok (.lst true [.int 67, .int 69, .int 78, .int 68]) := m_lcodes4 _ _ _ _ _ (by decide +kernel)
theorem c_dir : d__law_codes [.str (Str.ofString "CDIR")] = .ok (.lst true [.int 67, .int 68, .int 73, .int 82]) := m_lcodes4 _ _ _ _ _ (by decide +kernel)

end
set_option maxRecDepth 100000
set_option maxHeartbeats 4000000
open PySem PySem.Spec PyProof.Rows L2 Dv
noncomputable section
theorem hd_no1 (U : List Int) (a : Int) (h : d_stands_at [.lst false (dInts U), .tup [.int 67, .int 82, .int 84, .int 49], .int a] = .ok (.bl false)) : d_head_at [.lst false (dInts U), .int a] = .ok .non := by
  simp [d_head_at, b_head_at, fnD, callF, c_CRATE_SIGN, h]
theorem hd_no2 (U : List Int) (a a20 n : Int) (h : d_stands_at [.lst false (dInts U), .tup [.int 67, .int 82, .int 84, .int 49], .int a] = .ok (.bl true)) (e : a + 20 = a20) (hn : (U.length : Int) = n) (g : n < a20) : d_head_at [.lst false (dInts U), .int a] = .ok .non := by
  simp [d_head_at, b_head_at, fnD, callF, c_CRATE_SIGN, c_HEAD_SIZE, h, e, hn, g]
theorem hd_no3 (U P6 : List Int) (a a6 a8 a20 n f l2 : Int) (h : d_stands_at [.lst false (dInts U), .tup [.int 67, .int 82, .int 84, .int 49], .int a] = .ok (.bl true)) (e : a + 20 = a20) (e6 : a + 6 = a6) (e8 : a + 8 = a8) (hn : (U.length : Int) = n) (g : ¬ n < a20) (h6 : Dv.cutD U (some a6) (some a8) = P6) (q6 : d_low_number [.lst false (dInts P6)] = .ok (.int l2)) (ef : a20 + l2 = f) (gf : n < f) : d_head_at [.lst false (dInts U), .int a] = .ok .non := by
  simp [d_head_at, b_head_at, fnD, callF, c_CRATE_SIGN, c_HEAD_SIZE, h, e, e6, e8, hn, g, h6, q6, ef, gf]
theorem hd_yes (U P6 P8 P12 P16 N T : List Int) (a a4 a6 a8 a12 a16 a20 n f l2 l4 l8 l12 en me mn : Int) (b : Bool) (h : d_stands_at [.lst false (dInts U), .tup [.int 67, .int 82, .int 84, .int 49], .int a] = .ok (.bl true)) (e : a + 20 = a20) (e4 : a + 4 = a4) (e6 : a + 6 = a6) (e8 : a + 8 = a8) (e12 : a + 12 = a12) (e16 : a + 16 = a16) (hn : (U.length : Int) = n) (g : ¬ n < a20)
    (h6 : Dv.cutD U (some a6) (some a8) = P6) (q6 : d_low_number [.lst false (dInts P6)] = .ok (.int l2)) (ef : a20 + l2 = f) (gf : ¬ n < f) (h16 : Dv.cutD U (some a16) (some a20) = P16) (q16 : d_low_number [.lst false (dInts P16)] = .ok (.int l4)) (ee : f + l4 = en)
    (h8 : Dv.cutD U (some a8) (some a12) = P8) (q8 : d_low_number [.lst false (dInts P8)] = .ok (.int l8)) (h12 : Dv.cutD U (some a12) (some a16) = P12) (q12 : d_low_number [.lst false (dInts P12)] = .ok (.int l12)) (hN : Dv.cutD U (some a20) (some f) = N) (hme : ixD (dInts U) a4 = some (.int me)) (hT : Dv.cutD U (some f) (some en) = T) (hb : decide (en ≤ n) = b) (hmn : (if n < en then n else en) = mn) :
    d_head_at [.lst false (dInts U), .int a] = .ok (.tup [.tup [.lst true (dInts N), .int me, .int l8, .int l12, .tup (dInts T)], .bl b, .int mn]) := by
  simp [d_head_at, b_head_at, fnD, callF, c_CRATE_SIGN, c_HEAD_SIZE, h, e, e4, e6, e8, e12, e16, hn, g, h6, q6, ef, gf, h16, q16, ee, h8, q8, h12, q12, hN, hme, hT, hb, hmn, frzAt]
theorem ixs (xs : List Int) (k : Nat) (h : k < xs.length) (i : Int) (hi : i = (k : Int)) : ixD (dInts xs) i = some (.int (xs.getD k 0)) := by
  subst hi
  rw [ixD_nat, dInts_get, List.getD_eq_getElem?_getD, List.getElem?_eq_getElem h]; rfl
theorem m_heads (U : List Int) (hU : Byt U) (a : Nat) : d_head_at [.lst false (dInts U), .int a] = .ok (hD (hdr U a)) ∧ True := by
  refine ⟨?_, trivial⟩
  have hs := m_stands U a 67 82 84 49
  have c6 := cut_sl U (a + 6) 2 ((a : Int) + 6) ((a : Int) + 8) (by omega) (by omega)
  have c8 := cut_sl U (a + 8) 4 ((a : Int) + 8) ((a : Int) + 12) (by omega) (by omega)
  have c12 := cut_sl U (a + 12) 4 ((a : Int) + 12) ((a : Int) + 16) (by omega) (by omega)
  have c16 := cut_sl U (a + 16) 4 ((a : Int) + 16) ((a : Int) + 20) (by omega) (by omega)
  have q6 := m_low_number (sl U (a + 6) 2)
  have q16 := m_low_number (sl U (a + 16) 4)
  rw [lw_int hU] at q6 q16
  unfold hdr
  by_cases hA : sl U a 4 = [67, 82, 84, 49]
  · have hA' : (sl U a 4 == [67, 82, 84, 49]) = true := by rw [hA]; rfl
    rw [hA'] at hs
    by_cases hB : a + 20 ≤ U.length
    · rw [if_pos ⟨hA, hB⟩]
      by_cases hC : a + 20 + lw U (a + 6) 2 ≤ U.length
      · rw [if_pos hC]
        have cN := cut_sl U (a + 20) (lw U (a + 6) 2) ((a : Int) + 20) ((a : Int) + 20 + (lw U (a + 6) 2 : Int)) (by omega) (by omega)
        have cT := cut_sl U (a + 20 + lw U (a + 6) 2) (lw U (a + 16) 4) ((a : Int) + 20 + (lw U (a + 6) 2 : Int)) ((a : Int) + 20 + (lw U (a + 6) 2 : Int) + (lw U (a + 16) 4 : Int)) (by omega) (by omega)
        have hb : decide ((a : Int) + 20 + (lw U (a + 6) 2 : Int) + (lw U (a + 16) 4 : Int) ≤ (U.length : Int)) = decide (a + 20 + lw U (a + 6) 2 + lw U (a + 16) 4 ≤ U.length) := decide_eq_decide.mpr (by omega)
        have hmn : (if (U.length : Int) < (a : Int) + 20 + (lw U (a + 6) 2 : Int) + (lw U (a + 16) 4 : Int) then (U.length : Int) else (a : Int) + 20 + (lw U (a + 6) 2 : Int) + (lw U (a + 16) 4 : Int)) = ((min (a + 20 + lw U (a + 6) 2 + lw U (a + 16) 4) U.length : Nat) : Int) := by split <;> omega
        exact hd_yes U _ _ _ _ _ _ a _ _ _ _ _ _ _ _ _ _ _ _ _ _ _ _ hs rfl rfl rfl rfl rfl rfl rfl (by omega) c6 q6 rfl (by omega) c16 q16 rfl c8 (m_low_number _) c12 (m_low_number _) cN (ixs U (a + 4) (by omega) _ (by omega)) cT hb hmn
      · rw [if_neg hC]
        exact hd_no3 U _ a _ _ _ _ _ _ hs rfl rfl rfl rfl (by omega) c6 q6 rfl (by omega)
    · rw [if_neg fun z => hB z.2]
      exact hd_no2 U a _ _ hs rfl rfl (by omega)
  · have hA' : (sl U a 4 == [67, 82, 84, 49]) = false := beq_eq_false_iff_ne.mpr hA
    rw [hA'] at hs
    rw [if_neg fun z => hA z.1]
    exact hd_no1 U a hs

end
set_option maxRecDepth 100000
set_option maxHeartbeats 4000000
open PySem PySem.Spec PyProof.Rows L2 Dv
noncomputable section
/-! the end sign -/
def isE (U : List Int) (a : Nat) : Bool := (sl U a 4 == [67, 69, 78, 68]) && decide (lw U (a + 6) 4 ≤ a)
def lastE (U : List Int) : Nat → Option Nat
  | 0 => none
  | n + 1 => if isE U n = true then some n else lastE U n
def eD : Option Nat → D
  | some n => .int n
  | none => .int (-1)
def rngD : Nat → List D
  | 0 => []
  | n + 1 => .int n :: rngD n
theorem rngC_succ (lo c : Int) (n : Nat) : rngC lo c (n + 1) = .int lo :: rngC (lo + c) c n := by
  unfold rngC
  rw [List.range_succ_eq_map, List.map_cons, List.map_map]
  refine congr (congrArg List.cons (by simp)) (List.map_congr_left fun i _ => ?_)
  show D.int (lo + ((i + 1 : Nat) : Int) * c) = D.int (lo + c + (i : Int) * c)
  congr 1
  rw [Int.natCast_add, Int.add_mul]
  omega
theorem rngC_down : ∀ (n : Nat) (lo : Int), lo = (n : Int) - 1 → rngC lo (-1) n = rngD n
  | 0, lo, _ => rfl
  | n + 1, lo, h => by rw [rngC_succ, rngC_down n (lo + -1) (by omega), rngD, show lo = (n : Int) by omega]
theorem r3_down (n : Int) (N : Nat) (h0 : -10 ≤ n) (h1 : n ≤ 1000000) (hN : N = (n + 1).toNat) : R3Ok n (-1) (-1) (cntC n (-1) (-1)) ∧ cntC n (-1) (-1) = N := by
  have e : Builtin.Range.rangeSize n (-1) (-1) = (N : Int) := by
    unfold Builtin.Range.rangeSize
    rw [if_neg (by decide)]
    split
    · rw [show (-(-1) : Int) = 1 by decide, Int.ediv_one]; omega
    · omega
  have c : cntC n (-1) (-1) = N := by
    unfold cntC
    rw [e, Int.toNat_natCast]
  refine ⟨⟨by decide, by decide, ?_, by rw [c]; exact e⟩, c⟩
  unfold Builtin.Range.small
  rw [e]
  simp only [Builtin.Range.rangeFitsLong, Bool.and_eq_true, Bool.or_eq_true, decide_eq_true_eq, beq_iff_eq, show ¬ ((-1 : Int) > 0) by decide, if_false]
  omega
theorem le_core (U P : List Int) (a a6 a10 l : Int) (b : Bool) (e6 : a + 6 = a6) (e10 : a + 10 = a10) (hs : d_stands_at [.lst false (dInts U), .tup [.int 67, .int 69, .int 78, .int 68], .int a] = .ok (.bl b)) (hP : Dv.cutD U (some a6) (some a10) = P) (hl : d_low_number [.lst false (dInts P)] = .ok (.int l)) :
    lp_last_end_1 [some (.lst false (dInts U)), some (.int a)] = if b = true ∧ l ≤ a then .rt (.int a) [some (.lst false (dInts U)), some (.int a)] else .nx [some (.lst false (dInts U)), some (.int a)] := by
  cases b with
  | false => simp [lp_last_end_1, c_END_SIGN, c_END_SIZE, e6, e10, callF, hs]
  | true => by_cases h : l ≤ a <;> simp [lp_last_end_1, c_END_SIGN, c_END_SIZE, e6, e10, callF, hs, hP, hl, h]
theorem le_turn (U : List Int) (hU : Byt U) (a : Nat) : lp_last_end_1 [some (.lst false (dInts U)), some (.int (a : Int))] = if isE U a = true then .rt (.int (a : Int)) [some (.lst false (dInts U)), some (.int (a : Int))] else .nx [some (.lst false (dInts U)), some (.int (a : Int))] := by
  have ql := m_low_number (sl U (a + 6) 4)
  rw [lw_int hU] at ql
  have e := le_core U _ a _ _ _ _ rfl rfl (m_stands U a 67 69 78 68) (cut_sl U (a + 6) 4 _ _ (by omega) (by omega)) ql
  rw [e]
  have : ((sl U a 4 == [67, 69, 78, 68]) = true ∧ (lw U (a + 6) 4 : Int) ≤ (a : Int)) ↔ isE U a = true := by
    unfold isE
    rw [Bool.and_eq_true, decide_eq_true_eq]
    refine and_congr Iff.rfl (by omega)
  by_cases h : isE U a = true
  · rw [if_pos h, if_pos (this.mpr h)]
  · rw [if_neg h, if_neg fun z => h (this.mp z)]
theorem le_loop (U : List Int) (hU : Byt U) : ∀ (n : Nat) (x1 : Option D), (∃ a ρ', lastE U n = some a ∧ forL (gNm 1) lp_last_end_1 (rngD n) [some (.lst false (dInts U)), x1] = .rt (.int (a : Int)) ρ') ∨ (lastE U n = none ∧ ∃ ρ', forL (gNm 1) lp_last_end_1 (rngD n) [some (.lst false (dInts U)), x1] = .nx ρ')
  | 0, x1 => .inr ⟨rfl, _, rfl⟩
  | n + 1, x1 => by
    have t := le_turn U hU n
    rw [lastE, rngD]
    by_cases h : isE U n = true
    · rw [if_pos h] at t ⊢
      exact .inl ⟨n, _, rfl, fl_rt (ρ1 := [some (.lst false (dInts U)), some (.int (n : Int))]) rfl t⟩
    · rw [if_neg h] at t ⊢
      rcases le_loop U hU n (some (.int (n : Int))) with ⟨a, ρ', e1, e2⟩ | ⟨e1, ρ', e2⟩
      · exact .inl ⟨a, ρ', e1, (fl_nx (ρ1 := [some (.lst false (dInts U)), some (.int (n : Int))]) rfl t).trans e2⟩
      · exact .inr ⟨e1, ρ', (fl_nx (ρ1 := [some (.lst false (dInts U)), some (.int (n : Int))]) rfl t).trans e2⟩
theorem le_end (U : List Int) (n m : Int) (N : Nat) (d : D) (r : SR) (hn : (U.length : Int) = n) (hm : n - 10 = m) (r3 : R3Ok m (-1) (-1) (cntC m (-1) (-1))) (hN : cntC m (-1) (-1) = N) (h : forL (gNm 1) lp_last_end_1 (rngC m (-1) N) [some (.lst false (dInts U)), none] = r) (hr : (∃ ρ', r = .rt d ρ') ∨ (d = .int (-1) ∧ ∃ ρ', r = .nx ρ')) : d_last_end [.lst false (dInts U)] = .ok d := by
  rw [hN] at r3
  rcases hr with ⟨ρ', rfl⟩ | ⟨rfl, ρ', rfl⟩ <;> simp [d_last_end, b_last_end, fnD, c_END_SIZE, hn, hm, r3, hN, h]
theorem m_last_end (U : List Int) (hU : Byt U) (lU : U.length ≤ 100000) : d_last_end [.lst false (dInts U)] = .ok (eD (lastE U (U.length - 9))) := by
  obtain ⟨r3, hN⟩ := r3_down ((U.length : Int) - 10) (U.length - 9) (by omega) (by omega) (by omega)
  rcases le_loop U hU (U.length - 9) none with ⟨a, ρ', e1, e2⟩ | ⟨e1, ρ', e2⟩
  · rw [e1]
    by_cases h : 9 ≤ U.length
    · rw [← rngC_down (U.length - 9) ((U.length : Int) - 10) (by omega)] at e2
      exact le_end U _ _ _ _ _ rfl rfl r3 hN e2 (.inl ⟨_, rfl⟩)
    · rw [show U.length - 9 = 0 by omega] at e1; cases e1
  · rw [e1]
    by_cases h : 9 ≤ U.length
    · rw [← rngC_down (U.length - 9) ((U.length : Int) - 10) (by omega)] at e2
      exact le_end U _ _ _ _ _ rfl rfl r3 hN e2 (.inr ⟨rfl, _, rfl⟩)
    · rw [show U.length - 9 = 0 by omega] at hN
      exact le_end U _ _ _ _ _ rfl rfl r3 hN rfl (.inr ⟨rfl, _, rfl⟩)
theorem isE_head (U : List Int) (a : Nat) (ha : a < U.length) : (U.getD a 0 = 67 ∧ (sl U a 4 == [67, 69, 78, 68]) = true ∧ (lw U (a + 6) 4 : Int) ≤ (a : Int)) ↔ isE U a = true := by
  unfold isE
  rw [Bool.and_eq_true, decide_eq_true_eq]
  refine ⟨fun z => ⟨z.2.1, by omega⟩, fun z => ⟨?_, z.1, by omega⟩⟩
  have h := eq_of_beq z.1
  unfold sl at h
  rw [List.drop_eq_getElem_cons ha, List.take_succ_cons] at h
  rw [List.getD_eq_getElem?_getD, List.getElem?_eq_getElem ha]
  exact (List.cons.inj h).1

end
set_option maxRecDepth 100000
set_option maxHeartbeats 4000000
open PySem PySem.Spec PyProof.Rows L2 Dv
noncomputable section
def pc_lp_directory_entries_1_1 : Dv.Env → SR := sIf (tNotF (eT (eCall 3 d_stands_at (aV (eVar 0) (aO (eC c_RECORD_SIGN) (aV (eVar 3) (aNil))))))) (sBrk) (sNil)
def pc_lp_directory_entries_1_2 : Dv.Env → SR := sAsg 5 (e2 gAdd (e2 gAdd (eVar 3) (eC c_RECORD_SIZE)) (eCall 1 d_low_number (aO (eSl (eVar 0) (oPt (e2 gAdd (eVar 3) (eC (.int 8)))) (oPt (e2 gAdd (eVar 3) (eC c_RECORD_SIZE)))) (aNil))))
def pc_lp_directory_entries_1_3 : Dv.Env → SR := sAsg 6 (eCall 1 d_low_number (aO (eSl (eVar 0) (oPt (e2 gAdd (eVar 3) (eC (.int 4)))) (oPt (e2 gAdd (eVar 3) (eC (.int 8))))) (aNil)))
def pc_lp_directory_entries_1_4 : Dv.Env → SR := sIf (tOrF (eT (e2 gGt (eVar 5) (eVar 1))) (tOrF (eT (e2 gGt (e2 gAdd (eVar 3) (eC c_RECORD_SIZE)) (eVar 1))) (eT (e2 gGt (eVar 6) (eVar 1))))) (sBrk) (sNil)
def pc_lp_directory_entries_1_5 : Dv.Env → SR := sAsg 7 (eCall 2 d_head_at (aV (eVar 0) (aO (e2 gSub (eVar 1) (eVar 6)) (aNil))))
def pc_lp_directory_entries_1_6 : Dv.Env → SR := sIf (tAndF (eT (e2 gIsNot (eVar 7) (eC .non))) (eT (e2 gIx (eVar 7) (eC (.int 1))))) (sq (sFz 7 (sAsg 8 (asOwn (e2 gIx (eVar 7) (eC (.int 0)))))) (sq (sAsg 9 (eSl (eVar 0) (oPt (e2 gAdd (eVar 3) (eC c_RECORD_SIZE))) (oPt (eVar 5)))) (sFz 7 (sFz 9 (sApp 2 (eTupM (mO (eTupM (mV (eVar 9) (mV (e2 gIx (eVar 8) (eC (.int 1))) (mV (e2 gIx (eVar 8) (eC (.int 2))) (mV (e2 gIx (eVar 8) (eC (.int 3))) (mV (e2 gIx (eVar 8) (eC (.int 4))) (mNil))))))) (mO (e2 gSub (eVar 1) (eVar 6)) (mV (e2 gIx (eVar 7) (eC (.int 2))) (mNil)))))))))) (sNil)
def pc_lp_directory_entries_1_7 : Dv.Env → SR := sAsg 3 (asOwn (eVar 5))
theorem pc_lp_directory_entries_1 : lp_directory_entries_1 = sq pc_lp_directory_entries_1_1 (sq pc_lp_directory_entries_1_2 (sq pc_lp_directory_entries_1_3 (sq pc_lp_directory_entries_1_4 (sq pc_lp_directory_entries_1_5 (sq pc_lp_directory_entries_1_6 (pc_lp_directory_entries_1_7)))))) := rfl

structure It where
  nm : List Int
  hd : Hd
  st : Nat
def entD (h : Hd) : List D := [.int h.me, .int h.sz, .int h.tt, .tup (dInts h.pt)]
def iP (o : Bool) (i : It) : D := .tup [.tup (.lst o (dInts i.nm) :: entD i.hd), .int i.st, .int i.hd.en]
def iL (o : Bool) (i : It) : D := .tup [.lst o (dInts i.nm), .tup (entD i.hd), .int i.st, .int i.hd.en]
def whole (U : List Int) (p a : Nat) : List It := match hdr U (p - lw U (a + 4) 4) with
  | some h => if h.ok = true then [⟨sl U (a + 10) (lw U (a + 8) 2), h, p - lw U (a + 4) 4⟩] else []
  | none => []
def fits (U : List Int) (p a : Nat) : Prop := sl U a 4 = [67, 68, 73, 82] ∧ a + 10 ≤ p ∧ a + 10 + lw U (a + 8) 2 ≤ p ∧ lw U (a + 4) 4 ≤ p
instance (U : List Int) (p a : Nat) : Decidable (fits U p a) := by unfold fits; infer_instance
def dir (U : List Int) (p : Nat) : Nat → Nat → List It → List It
  | 0, _, F => F
  | n + 1, a, F => if fits U p a then dir U p n (a + 10 + lw U (a + 8) 2) (F ++ whole U p a) else F
theorem de_bk1 (U : List Int) (a : Int) (x1 x2 x4 x5 x6 x7 x8 x9 : Option D) (hs : d_stands_at [.lst false (dInts U), .tup [.int 67, .int 68, .int 73, .int 82], .int a] = .ok (.bl false)) :
    lp_directory_entries_1 [some (.lst false (dInts U)), x1, x2, some (.int a), x4, x5, x6, x7, x8, x9] = .bk [some (.lst false (dInts U)), x1, x2, some (.int a), x4, x5, x6, x7, x8, x9] := by
  simp [lp_directory_entries_1, callF, c_RECORD_SIGN, hs]
theorem de_go (U P8 P4 : List Int) (a a4 a8 a10 l2 l4 be p : Int) (x2 x4 x5 x6 x7 x8 x9 : Option D) (T : Dv.Env → SR) (hs : d_stands_at [.lst false (dInts U), .tup [.int 67, .int 68, .int 73, .int 82], .int a] = .ok (.bl true)) (e4 : a + 4 = a4) (e8 : a + 8 = a8) (e10 : a + 10 = a10) (h8 : Dv.cutD U (some a8) (some a10) = P8) (q8 : d_low_number [.lst false (dInts P8)] = .ok (.int l2)) (eb : a10 + l2 = be) (h4 : Dv.cutD U (some a4) (some a8) = P4) (q4 : d_low_number [.lst false (dInts P4)] = .ok (.int l4)) :
    sq pc_lp_directory_entries_1_1 (sq pc_lp_directory_entries_1_2 (sq pc_lp_directory_entries_1_3 (sq pc_lp_directory_entries_1_4 T))) [some (.lst false (dInts U)), some (.int p), x2, some (.int a), x4, x5, x6, x7, x8, x9] = if p < be ∨ p < a10 ∨ p < l4 then .bk [some (.lst false (dInts U)), some (.int p), x2, some (.int a), x4, some (.int be), some (.int l4), x7, x8, x9] else T [some (.lst false (dInts U)), some (.int p), x2, some (.int a), x4, some (.int be), some (.int l4), x7, x8, x9] := by
  by_cases c1 : p < be
  · simp [pc_lp_directory_entries_1_1, pc_lp_directory_entries_1_2, pc_lp_directory_entries_1_3, pc_lp_directory_entries_1_4, callF, c_RECORD_SIGN, c_RECORD_SIZE, hs, e4, e8, e10, h8, q8, eb, h4, q4, c1]
  · by_cases c2 : p < a10
    · simp [pc_lp_directory_entries_1_1, pc_lp_directory_entries_1_2, pc_lp_directory_entries_1_3, pc_lp_directory_entries_1_4, callF, c_RECORD_SIGN, c_RECORD_SIZE, hs, e4, e8, e10, h8, q8, eb, h4, q4, c1, c2]
    · by_cases c3 : p < l4 <;> simp [pc_lp_directory_entries_1_1, pc_lp_directory_entries_1_2, pc_lp_directory_entries_1_3, pc_lp_directory_entries_1_4, callF, c_RECORD_SIGN, c_RECORD_SIZE, hs, e4, e8, e10, h8, q8, eb, h4, q4, c1, c2, c3]
theorem de_no (U : List Int) (a a10 be l4 p q : Int) (F : List D) (x4 x7 x8 x9 : Option D) (e : p - l4 = q) (hh : d_head_at [.lst false (dInts U), .int q] = .ok .non) :
    sq pc_lp_directory_entries_1_5 (sq pc_lp_directory_entries_1_6 pc_lp_directory_entries_1_7) [some (.lst false (dInts U)), some (.int p), some (.lst true F), some (.int a), x4, some (.int be), some (.int l4), x7, x8, x9] = .nx [some (.lst false (dInts U)), some (.int p), some (.lst true F), some (.int be), x4, some (.int be), some (.int l4), some .non, x8, x9] := by
  simp [pc_lp_directory_entries_1_5, pc_lp_directory_entries_1_6, pc_lp_directory_entries_1_7, callF, e, hh]
theorem de_half (U N T : List Int) (a a10 be l4 p q me l8 l12 mn : Int) (F : List D) (x4 x7 x8 x9 : Option D) (e : p - l4 = q) (hh : d_head_at [.lst false (dInts U), .int q] = .ok (.tup [.tup [.lst true (dInts N), .int me, .int l8, .int l12, .tup (dInts T)], .bl false, .int mn])) :
    ∃ y7, sq pc_lp_directory_entries_1_5 (sq pc_lp_directory_entries_1_6 pc_lp_directory_entries_1_7) [some (.lst false (dInts U)), some (.int p), some (.lst true F), some (.int a), x4, some (.int be), some (.int l4), x7, x8, x9] = .nx [some (.lst false (dInts U)), some (.int p), some (.lst true F), some (.int be), x4, some (.int be), some (.int l4), y7, x8, x9] := by
  simp [pc_lp_directory_entries_1_5, pc_lp_directory_entries_1_6, pc_lp_directory_entries_1_7, callF, e, hh, ixD]
theorem de_yes (U N T M : List Int) (a a10 be l4 p q me l8 l12 mn : Int) (F : List D) (x4 x7 x8 x9 : Option D) (e : p - l4 = q) (e10 : a + 10 = a10) (hM : Dv.cutD U (some a10) (some be) = M) (hF : F.length < 1000000) (hh : d_head_at [.lst false (dInts U), .int q] = .ok (.tup [.tup [.lst true (dInts N), .int me, .int l8, .int l12, .tup (dInts T)], .bl true, .int mn])) :
    ∃ y7 y8 y9, sq pc_lp_directory_entries_1_5 (sq pc_lp_directory_entries_1_6 pc_lp_directory_entries_1_7) [some (.lst false (dInts U)), some (.int p), some (.lst true F), some (.int a), x4, some (.int be), some (.int l4), x7, x8, x9] = .nx [some (.lst false (dInts U)), some (.int p), some (.lst true (F ++ [.tup [.tup [.lst false (dInts M), .int me, .int l8, .int l12, .tup (dInts T)], .int q, .int mn]])), some (.int be), x4, some (.int be), some (.int l4), y7, y8, y9] := by
  have z : F.length < 16777216 := by omega
  simp [pc_lp_directory_entries_1_5, pc_lp_directory_entries_1_6, pc_lp_directory_entries_1_7, callF, e, hh, ixD, frzAt, c_RECORD_SIZE, e10, hM, onL, z]

end
set_option maxRecDepth 100000
set_option maxHeartbeats 4000000
open PySem PySem.Spec PyProof.Rows L2 Dv
noncomputable section
theorem de_turn (U : List Int) (hU : Byt U) (p a : Nat) (F : List It) (lF : F.length < 100000) (x4 x5 x6 x7 x8 x9 : Option D) :
    (¬ fits U p a → ∃ y5 y6, lp_directory_entries_1 [some (.lst false (dInts U)), some (.int (p : Int)), some (.lst true (F.map (iP false))), some (.int (a : Int)), x4, x5, x6, x7, x8, x9] = .bk [some (.lst false (dInts U)), some (.int (p : Int)), some (.lst true (F.map (iP false))), some (.int (a : Int)), x4, y5, y6, x7, x8, x9]) ∧
    (fits U p a → ∃ y5 y6 y7 y8 y9, lp_directory_entries_1 [some (.lst false (dInts U)), some (.int (p : Int)), some (.lst true (F.map (iP false))), some (.int (a : Int)), x4, x5, x6, x7, x8, x9] = .nx [some (.lst false (dInts U)), some (.int (p : Int)), some (.lst true ((F ++ whole U p a).map (iP false))), some (.int ((a + 10 + lw U (a + 8) 2 : Nat) : Int)), x4, y5, y6, y7, y8, y9]) := by
  have hs := m_stands U a 67 68 73 82
  have c8 := cut_sl U (a + 8) 2 ((a : Int) + 8) ((a : Int) + 10) (by omega) (by omega)
  have c4 := cut_sl U (a + 4) 4 ((a : Int) + 4) ((a : Int) + 8) (by omega) (by omega)
  have q8 := m_low_number (sl U (a + 8) 2)
  have q4 := m_low_number (sl U (a + 4) 4)
  rw [lw_int hU] at q8 q4
  by_cases h1 : sl U a 4 = [67, 68, 73, 82]
  · have h1' : (sl U a 4 == [67, 68, 73, 82]) = true := by rw [h1]; rfl
    rw [h1'] at hs
    have go := fun T => de_go U _ _ a _ _ _ (lw U (a + 8) 2) (lw U (a + 4) 4) ((a + 10 + lw U (a + 8) 2 : Nat) : Int) p (some (.lst true (F.map (iP false)))) x4 x5 x6 x7 x8 x9 T hs rfl rfl rfl c8 q8 (by omega) c4 q4
    refine ⟨fun nf => ?_, fun f => ?_⟩
    · rw [pc_lp_directory_entries_1, go, if_pos (by
        by_cases g : (p : Int) < ((a + 10 + lw U (a + 8) 2 : Nat) : Int) ∨ (p : Int) < (a : Int) + 10 ∨ (p : Int) < (lw U (a + 4) 4 : Int)
        · exact g
        · exact absurd ⟨h1, by omega, by omega, by omega⟩ nf)]
      exact ⟨_, _, rfl⟩
    · obtain ⟨_, g1, g2, g3⟩ := f
      rw [pc_lp_directory_entries_1, go, if_neg (by omega)]
      have hh := (m_heads U hU (p - lw U (a + 4) 4)).1
      have eq : (p : Int) - (lw U (a + 4) 4 : Int) = ((p - lw U (a + 4) 4 : Nat) : Int) := by omega
      have cM := cut_sl U (a + 10) (lw U (a + 8) 2) ((a : Int) + 10) ((a + 10 + lw U (a + 8) 2 : Nat) : Int) (by omega) rfl
      have lF' : (F.map (iP false)).length < 1000000 := by rw [List.length_map]; omega
      unfold whole
      cases eh : hdr U (p - lw U (a + 4) 4) with
      | none =>
        rw [eh] at hh
        have e := de_no U a 0 ((a + 10 + lw U (a + 8) 2 : Nat) : Int) (lw U (a + 4) 4) p _ (F.map (iP false)) x4 x7 x8 x9 eq hh
        refine ⟨some (.int ((a + 10 + lw U (a + 8) 2 : Nat) : Int)), some (.int (lw U (a + 4) 4 : Int)), some .non, x8, x9, ?_⟩
        show _ = SR.nx [_, _, some (.lst true ((F ++ []).map (iP false))), _, _, _, _, _, _, _]
        rw [List.append_nil]
        exact e
      | some h =>
        rw [eh] at hh
        obtain ⟨nm, me, sz, tt, pt, ok, en⟩ := h
        cases ok with
        | false =>
          obtain ⟨y7, e⟩ := de_half U nm pt a 0 ((a + 10 + lw U (a + 8) 2 : Nat) : Int) (lw U (a + 4) 4) p _ me sz tt en (F.map (iP false)) x4 x7 x8 x9 eq hh
          refine ⟨some (.int ((a + 10 + lw U (a + 8) 2 : Nat) : Int)), some (.int (lw U (a + 4) 4 : Int)), y7, x8, x9, ?_⟩
          show _ = SR.nx [_, _, some (.lst true ((F ++ []).map (iP false))), _, _, _, _, _, _, _]
          rw [List.append_nil]
          exact e
        | true =>
          obtain ⟨y7, y8, y9, e⟩ := de_yes U nm pt _ a _ ((a + 10 + lw U (a + 8) 2 : Nat) : Int) (lw U (a + 4) 4) p _ me sz tt en (F.map (iP false)) x4 x7 x8 x9 eq rfl cM lF' hh
          refine ⟨some (.int ((a + 10 + lw U (a + 8) 2 : Nat) : Int)), some (.int (lw U (a + 4) 4 : Int)), y7, y8, y9, ?_⟩
          show _ = SR.nx [_, _, some (.lst true ((F ++ [It.mk (sl U (a + 10) (lw U (a + 8) 2)) (Hd.mk nm me sz tt pt true en) (p - lw U (a + 4) 4)]).map (iP false))), _, _, _, _, _, _, _]
          rw [List.map_append]
          exact e
  · have h1' : (sl U a 4 == [67, 68, 73, 82]) = false := beq_eq_false_iff_ne.mpr h1
    rw [h1'] at hs
    exact ⟨fun _ => ⟨_, _, de_bk1 U a _ _ x4 x5 x6 x7 x8 x9 hs⟩, fun f => absurd f.1 h1⟩
theorem whole_len (U : List Int) (p a : Nat) : (whole U p a).length ≤ 1 := by
  unfold whole
  split
  · split <;> simp
  · simp
theorem de_loop (U : List Int) (hU : Byt U) (p : Nat) : ∀ (n a : Nat) (F : List It) (lo : Int) (x4 x5 x6 x7 x8 x9 : Option D), F.length + n < 100000 →
    ∃ y3 y4 y5 y6 y7 y8 y9, forL (gNm 4) lp_directory_entries_1 (rngL lo n) [some (.lst false (dInts U)), some (.int (p : Int)), some (.lst true (F.map (iP false))), some (.int (a : Int)), x4, x5, x6, x7, x8, x9] = .nx [some (.lst false (dInts U)), some (.int (p : Int)), some (.lst true ((dir U p n a F).map (iP false))), y3, y4, y5, y6, y7, y8, y9]
  | 0, a, F, lo, x4, x5, x6, x7, x8, x9, _ => ⟨_, _, _, _, _, _, _, rfl⟩
  | n + 1, a, F, lo, x4, x5, x6, x7, x8, x9, hF => by
    rw [rng_succ, dir]
    obtain ⟨t1, t2⟩ := de_turn U hU p a F (by omega) (some (.int lo)) x5 x6 x7 x8 x9
    by_cases h : fits U p a
    · rw [if_pos h]
      obtain ⟨y5, y6, y7, y8, y9, e⟩ := t2 h
      have := whole_len U p a
      obtain ⟨z3, z4, z5, z6, z7, z8, z9, e2⟩ := de_loop U hU p n (a + 10 + lw U (a + 8) 2) (F ++ whole U p a) (lo + 1) (some (.int lo)) y5 y6 y7 y8 y9 (by rw [List.length_append]; omega)
      exact ⟨z3, z4, z5, z6, z7, z8, z9, (fl_nx rfl e).trans e2⟩
    · rw [if_neg h]
      obtain ⟨y5, y6, e⟩ := t1 h
      exact ⟨_, _, _, _, _, _, _, fl_bk rfl e⟩
theorem de_end (U P6 P4 : List Int) (p p4 p6 p10 l4 l2 a : Int) (N : Nat) (R : List D) (y3 y4 y5 y6 y7 y8 y9 : Option D) (e4 : p + 4 = p4) (e6 : p + 6 = p6) (e10 : p + 10 = p10) (h6 : Dv.cutD U (some p6) (some p10) = P6) (q6 : d_low_number [.lst false (dInts P6)] = .ok (.int l4)) (ea : p - l4 = a) (h4 : Dv.cutD U (some p4) (some p6) = P4) (q4 : d_low_number [.lst false (dInts P4)] = .ok (.int l2)) (wl : W62 l2) (hN : l2.toNat = N)
    (h : forL (gNm 4) lp_directory_entries_1 (rngL 0 N) [some (.lst false (dInts U)), some (.int p), some (.lst true []), some (.int a), none, none, none, none, none, none] = .nx [some (.lst false (dInts U)), some (.int p), some (.lst true R), y3, y4, y5, y6, y7, y8, y9]) : d_directory_entries [.lst false (dInts U), .int p] = .ok (.lst true R) := by
  simp [d_directory_entries, b_directory_entries, fnD, callF, c_RECORD_SIZE, e4, e6, e10, h6, q6, ea, h4, q4, wl, hN, h]
theorem lw_le {U : List Int} (h : Byt U) (a : Nat) : lw U a 2 ≤ 65535 := by
  have h1 := lnum_lt _ (h.sl a 2)
  have h2 := lw_int h a 2
  have hh : (256 : Nat) ^ (sl U a 2).length ≤ 256 ^ 2 := Nat.pow_le_pow_right (by decide) (sl_len U a 2)
  have : (((256 : Nat) ^ (sl U a 2).length : Nat) : Int) ≤ ((256 ^ 2 : Nat) : Int) := by omega
  rw [Int.natCast_pow, Int.natCast_pow] at this
  have e : ((256 : Nat) : Int) ^ 2 = 65536 := by decide
  rw [e] at this
  have e2 : (((256 : Nat) : Int)) = 256 := rfl
  rw [e2] at this
  omega
theorem m_directory (U : List Int) (hU : Byt U) (p : Nat) (hp : lw U (p + 6) 4 ≤ p) : d_directory_entries [.lst false (dInts U), .int (p : Int)] = .ok (.lst true ((dir U p (lw U (p + 4) 2) (p - lw U (p + 6) 4) []).map (iP false))) := by
  have c6 := cut_sl U (p + 6) 4 ((p : Int) + 6) ((p : Int) + 10) (by omega) (by omega)
  have c4 := cut_sl U (p + 4) 2 ((p : Int) + 4) ((p : Int) + 6) (by omega) (by omega)
  have q6 := m_low_number (sl U (p + 6) 4)
  have q4 := m_low_number (sl U (p + 4) 2)
  rw [lw_int hU] at q6 q4
  have l2 := lw_le hU (p + 4)
  obtain ⟨y3, y4, y5, y6, y7, y8, y9, e⟩ := de_loop U hU p (lw U (p + 4) 2) (p - lw U (p + 6) 4) [] 0 none none none none none none (by simp; omega)
  exact de_end U _ _ p _ _ _ _ _ _ _ _ y3 y4 y5 y6 y7 y8 y9 rfl rfl rfl c6 q6 (show (p : Int) - (lw U (p + 6) 4 : Int) = ((p - lw U (p + 6) 4 : Nat) : Int) by omega) c4 q4 (w62 (by omega) (by omega)) (Int.toNat_natCast _) e

end
set_option maxRecDepth 100000
set_option maxHeartbeats 4000000
open PySem PySem.Spec PyProof.Rows L2 Dv
noncomputable section
/-! searched -/
def eP (i : It) : D := .tup (.lst false (dInts i.nm) :: entD i.hd)
def srch (U : List Int) : Nat → Nat → List It
  | 0, _ => []
  | n + 1, a => if a < U.length then (match hdr U a with
    | some h => ⟨h.nm, h, a⟩ :: srch U n h.en
    | none => srch U n (a + 1)) else []
theorem hdr_en {U : List Int} {a : Nat} {h : Hd} (e : hdr U a = some h) : a + 1 ≤ h.en ∧ h.en ≤ U.length := by
  unfold hdr at e
  split at e
  · rename_i z
    split at e
    · cases e
      have := z.2
      show a + 1 ≤ min _ _ ∧ min _ _ ≤ _
      omega
    · cases e
  · cases e
theorem srch_len (U : List Int) : ∀ n a, (srch U n a).length ≤ n
  | 0, a => Nat.le_refl _
  | n + 1, a => by
    rw [srch]
    split
    · cases hdr U a with
      | none => exact Nat.le_succ_of_le (srch_len U n (a + 1))
      | some h => exact Nat.succ_le_succ (srch_len U n h.en)
    · exact Nat.zero_le _
theorem srch_out (U : List Int) (n a : Nat) (h : U.length ≤ a) : srch U n a = [] := by
  cases n with
  | zero => rfl
  | succ n => rw [srch, if_neg (by omega)]
theorem se_test (U : List Int) (a n : Int) (x1 x3 : Option D) (hn : (U.length : Int) = n) : tw_searched_entries_1 [some (.lst false (dInts U)), x1, some (.int a), x3] = .ok (decide (a < n)) := by
  simp [tw_searched_entries_1, hn]
theorem se_no (U : List Int) (a a1 : Int) (x1 x3 : Option D) (e : a + 1 = a1) (hh : d_head_at [.lst false (dInts U), .int a] = .ok .non) : lp_searched_entries_1 [some (.lst false (dInts U)), x1, some (.int a), x3] = .nx [some (.lst false (dInts U)), x1, some (.int a1), some .non] := by
  simp [lp_searched_entries_1, callF, hh, e]
theorem se_yes (U N T : List Int) (F : List D) (a me l8 l12 mn : Int) (b : Bool) (x3 : Option D) (hF : F.length < 1000000) (hh : d_head_at [.lst false (dInts U), .int a] = .ok (.tup [.tup [.lst true (dInts N), .int me, .int l8, .int l12, .tup (dInts T)], .bl b, .int mn])) :
    ∃ y3, lp_searched_entries_1 [some (.lst false (dInts U)), some (.lst true F), some (.int a), x3] = .nx [some (.lst false (dInts U)), some (.lst true (F ++ [.tup [.lst false (dInts N), .int me, .int l8, .int l12, .tup (dInts T)]])), some (.int mn), y3] := by
  have z : F.length < 16777216 := by omega
  simp [lp_searched_entries_1, callF, hh, frzAt, onL, z, ixD]
theorem se_loop (U : List Int) (hU : Byt U) : ∀ (n a : Nat) (F : List It) (x3 : Option D), U.length - a ≤ n → F.length + n < 100000 →
    ∃ y2 y3, sWhile tw_searched_entries_1 lp_searched_entries_1 [some (.lst false (dInts U)), some (.lst true (F.map eP)), some (.int (a : Int)), x3] = .nx [some (.lst false (dInts U)), some (.lst true ((F ++ srch U n a).map eP)), y2, y3]
  | n, a, F, x3, hn, hF => by
    have test := se_test U a _ (some (.lst true (F.map eP))) x3 rfl
    by_cases la : a < U.length
    · rw [decide_eq_true (by omega)] at test
      obtain ⟨n, rfl⟩ : ∃ m, n = m + 1 := ⟨n - 1, by omega⟩
      rw [srch, if_pos la]
      have hh := (m_heads U hU a).1
      cases eh : hdr U a with
      | none =>
        rw [eh] at hh
        have step := se_no U a ((a + 1 : Nat) : Int) (some (.lst true (F.map eP))) x3 (by omega) hh
        obtain ⟨y2, y3, e⟩ := se_loop U hU n (a + 1) F (some .non) (by omega) (by omega)
        exact ⟨y2, y3, (sw_nx test step).trans e⟩
      | some h =>
        rw [eh] at hh
        obtain ⟨g1, g2⟩ := hdr_en eh
        obtain ⟨nm, me, sz, tt, pt, ok, en⟩ := h
        obtain ⟨z3, step⟩ := se_yes U nm pt (F.map eP) a me sz tt en ok x3 (by rw [List.length_map]; omega) hh
        obtain ⟨y2, y3, e⟩ := se_loop U hU n en (F ++ [It.mk nm (Hd.mk nm me sz tt pt ok en) a]) z3 (by have : a + 1 ≤ en := g1; omega) (by rw [List.length_append, List.length_singleton]; omega)
        rw [List.map_append, List.append_assoc] at e
        exact ⟨y2, y3, (sw_nx test step).trans e⟩
    · rw [decide_eq_false (by omega)] at test
      rw [srch_out U n a (by omega), List.append_nil]
      exact ⟨_, _, sw_stop test⟩
theorem se_end (U : List Int) (R : List D) (y2 y3 : Option D) (h : sWhile tw_searched_entries_1 lp_searched_entries_1 [some (.lst false (dInts U)), some (.lst true []), some (.int 0), none] = .nx [some (.lst false (dInts U)), some (.lst true R), y2, y3]) : d_searched_entries [.lst false (dInts U)] = .ok (.lst true R) := by
  simp [d_searched_entries, b_searched_entries, fnD, h]
theorem m_searched (U : List Int) (hU : Byt U) (lU : U.length < 100000) : d_searched_entries [.lst false (dInts U)] = .ok (.lst true ((srch U U.length 0).map eP)) := by
  obtain ⟨y2, y3, e⟩ := se_loop U hU U.length 0 [] none (by omega) (by simp; omega)
  exact se_end U _ y2 y3 e

end
set_option maxRecDepth 100000
set_option maxHeartbeats 4000000
open PySem PySem.Spec PyProof.Rows L2 Dv
noncomputable section
/-! overlaps -/
def ovl (i k : It) : Bool := decide ((i.st : Int) < (k.hd.en : Int)) && decide ((k.st : Int) < (i.hd.en : Int))
def kst (K : List It) (i : It) : List It := if K.any (ovl i) = true then K else K ++ [i]
theorem kst_len (K : List It) (i : It) : (kst K i).length ≤ K.length + 1 := by unfold kst; split <;> simp
theorem iP_cold : ∀ K : List It, D.coldL (K.map (iP false)) = true ∧ D.frzL (K.map (iP false)) = K.map (iP false) ∧ D.pureL (K.map (iP false)) = true
  | [] => ⟨rfl, rfl, rfl⟩
  | i :: K => by
    obtain ⟨h1, h2, h3⟩ := iP_cold K
    refine ⟨?_, ?_, ?_⟩
    · show D.coldL (iP false i :: K.map (iP false)) = true
      simp [h1, iP, entD]
    · show D.frzL (iP false i :: K.map (iP false)) = iP false i :: K.map (iP false)
      simp [h2, iP, entD]
    · show D.pureL (iP false i :: K.map (iP false)) = true
      simp [D.pureL, D.pure, h3, iP, entD]
theorem iL_cold (o : Bool) : ∀ K : List It, D.coldL (K.map (iL o)) = true ∧ D.frzL (K.map (iL o)) = K.map (iL false) ∧ D.pureL (K.map (iL false)) = true
  | [] => ⟨rfl, rfl, rfl⟩
  | i :: K => by
    obtain ⟨h1, h2, h3⟩ := iL_cold o K
    refine ⟨?_, ?_, ?_⟩
    · show D.coldL (iL o i :: K.map (iL o)) = true
      cases o <;> simp [h1, iL, entD]
    · show D.frzL (iL o i :: K.map (iL o)) = iL false i :: K.map (iL false)
      cases o <;> simp [h2, iL, entD]
    · show D.pureL (iL false i :: K.map (iL false)) = true
      simp [D.pureL, D.pure, h3, iL, entD]
def ovD (s e : Int) : D → D
  | .tup [_, .int st, .int en] => .bl (decide (s < en) && decide (st < e))
  | d => d
theorem lBls_map {α : Type} (p : α → Bool) : ∀ K : List α, lBls (K.map fun k => D.bl (p k)) = some (K.map p)
  | [] => rfl
  | k :: K => by
    show (lBls (K.map fun k => D.bl (p k))).map (fun r => p k :: r) = _
    rw [lBls_map p K]; rfl
theorem ov_lc (i : It) (K : List It) (hK : K.length ≤ 1000000) (x0 x1 x2 x5 : Option D) : lcL (gNm 6) tYes (asOwn (eAnd (e2 gLt (eVar 3) (e2 gIx (eVar 6) (eC (.int 2)))) (e2 gLt (e2 gIx (eVar 6) (eC (.int 1))) (eVar 4)))) [x0, x1, x2, some (.int i.st), some (.int i.hd.en), x5, none] (K.map (iP false)) [] = .ok (.lst true (K.map fun k => .bl (ovl i k))) := by
  have h := lcL_map (g := gNm 6) (t := tYes) (f := asOwn (eAnd (e2 gLt (eVar 3) (e2 gIx (eVar 6) (eC (.int 2)))) (e2 gLt (e2 gIx (eVar 6) (eC (.int 1))) (eVar 4)))) (ρ := [x0, x1, x2, some (.int i.st), some (.int i.hd.en), x5, none]) (ovD i.st i.hd.en) (K.map (iP false)) (fun u hd => by
    obtain ⟨k, _, rfl⟩ := List.mem_map.mp hd
    refine ⟨_, rfl, rfl, ?_⟩
    show asOwn _ [x0, x1, x2, some (.int i.st), some (.int i.hd.en), x5, some (iP false k)] = .ok (.bl (ovl i k))
    unfold ovl iP
    by_cases h1 : (i.st : Int) < (k.hd.en : Int)
    · simp [ixD, h1]
    · simp [ixD, h1]) (by rw [List.length_map]; omega)
  rw [h, List.map_map]
  rfl
theorem wo_turn (x0 x5 : Option D) (K : List It) (i : It) (hK : K.length < 100000) : lp_without_overlaps_1 [x0, some (.lst true (K.map (iP false))), some (.tup (.lst false (dInts i.nm) :: entD i.hd)), some (.int i.st), some (.int i.hd.en), x5, none] = .nx [x0, some (.lst true ((kst K i).map (iP false))), some (.tup (.lst false (dInts i.nm) :: entD i.hd)), some (.int i.st), some (.int i.hd.en), x5, none] := by
  obtain ⟨c1, c2, c3⟩ := iP_cold K
  have h := ov_lc i K (by omega) x0 (some (.lst false (K.map (iP false)))) (some (.tup (.lst false (dInts i.nm) :: entD i.hd))) x5
  have hb := lBls_map (ovl i) K
  have ha : (K.map (ovl i)).any id = K.any (ovl i) := by rw [List.any_map]; rfl
  have lK : (K.map (iP false)).length < 16777216 := by rw [List.length_map]; omega
  unfold kst
  have hi : iP false i = .tup [.tup (.lst false (dInts i.nm) :: entD i.hd), .int i.st, .int i.hd.en] := rfl
  generalize hE : D.tup (.lst false (dInts i.nm) :: entD i.hd) = E at h hi ⊢
  have pE : E.pure = true := by rw [← hE]; simp [D.pure, D.pureL, entD]
  generalize hl : (K.map fun k => D.bl (ovl i k)) = L at h hb
  generalize hb2 : K.map (ovl i) = B at hb ha
  generalize hP : K.map (iP false) = P at c1 c2 c3 h lK ⊢
  cases hc : K.any (ovl i) with
  | true =>
    rw [hc] at ha
    simp [lp_without_overlaps_1, frzAt, c1, c2, c3, wipeE, h, gAny, hb, ha, hP]
  | false =>
    rw [hc] at ha
    simp [lp_without_overlaps_1, frzAt, c1, c2, c3, wipeE, h, gAny, hb, ha, hP, onL, lK, hi, pE]

end
set_option maxRecDepth 100000
set_option maxHeartbeats 4000000
open PySem PySem.Spec PyProof.Rows L2 Dv
noncomputable section
def keepF (L : List It) : List It := L.foldl kst []
theorem fold_kst_len : ∀ (L K : List It), (L.foldl kst K).length ≤ K.length + L.length
  | [], K => Nat.le_refl _
  | i :: L, K => by
    rw [List.foldl_cons, List.length_cons]
    have := fold_kst_len L (kst K i)
    have := kst_len K i
    omega
theorem eP_lc (x0 x1 x2 x3 x4 x6 : Option D) (K : List It) (hK : K.length ≤ 1000000) : lcL (gNm 5) tYes (asOwn (e2 gIx (eVar 5) (eC (.int 0)))) [x0, x1, x2, x3, x4, none, x6] (K.map (iP false)) [] = .ok (.lst true (K.map eP)) := by
  have h := lcL_map (g := gNm 5) (t := tYes) (f := asOwn (e2 gIx (eVar 5) (eC (.int 0)))) (ρ := [x0, x1, x2, x3, x4, none, x6]) (fun d => match d with | .tup (e :: _) => e | d => d) (K.map (iP false)) (fun u hd => by
    obtain ⟨k, _, rfl⟩ := List.mem_map.mp hd
    refine ⟨_, rfl, rfl, ?_⟩
    show asOwn _ [x0, x1, x2, x3, x4, some (iP false k), x6] = .ok (eP k)
    unfold eP iP
    simp [ixD, D.pure, D.pureL, entD]) (by rw [List.length_map]; omega)
  rw [h, List.map_map]
  rfl
theorem wo_end (L K : List It) (P Q : List D) (hP : L.map (iP false) = P) (pP : D.pureL P = true) (hK : K.map (iP false) = Q) (c1 : D.coldL Q = true) (c2 : D.frzL Q = Q) (c3 : D.pureL Q = true) (lK : K.length ≤ 1000000) (x2 x3 x4 : Option D) (h : forL (gTp (gsCons (gNm 2) (gsCons (gNm 3) (gsCons (gNm 4) gsNil)))) lp_without_overlaps_1 P [some (.lst false P), some (.lst true []), none, none, none, none, none] = .nx [some (.lst false P), some (.lst true Q), x2, x3, x4, none, none]) :
    d_without_overlaps [.lst false P] = .ok (.lst true (K.map eP)) := by
  have e := eP_lc (some (.lst false P)) (some (.lst false Q)) x2 x3 x4 none K lK
  rw [hK] at e
  simp [d_without_overlaps, b_without_overlaps, fnD, pP, h, frzAt, c1, c2, c3, wipeE, e]
theorem m_overlaps (L : List It) (lL : L.length < 100000) : d_without_overlaps [.lst false (L.map (iP false))] = .ok (.lst true ((keepF L).map eP)) := by
  have go : ∀ (M K : List It) (x2 x3 x4 : Option D), K.length + M.length < 100000 → ∃ y2 y3 y4, forL (gTp (gsCons (gNm 2) (gsCons (gNm 3) (gsCons (gNm 4) gsNil)))) lp_without_overlaps_1 (M.map (iP false)) [some (.lst false (L.map (iP false))), some (.lst true (K.map (iP false))), x2, x3, x4, none, none] = .nx [some (.lst false (L.map (iP false))), some (.lst true ((M.foldl kst K).map (iP false))), y2, y3, y4, none, none] := by
    intro M
    induction M with
    | nil => intro K x2 x3 x4 _; exact ⟨x2, x3, x4, rfl⟩
    | cons i M ih =>
      intro K x2 x3 x4 h
      rw [List.length_cons] at h
      have := kst_len K i
      obtain ⟨y2, y3, y4, e⟩ := ih (kst K i) (some (.tup (.lst false (dInts i.nm) :: entD i.hd))) (some (.int i.st)) (some (.int i.hd.en)) (by omega)
      exact ⟨y2, y3, y4, (fl_nx rfl (wo_turn (some (.lst false (L.map (iP false)))) none K i (by omega))).trans e⟩
  obtain ⟨y2, y3, y4, e⟩ := go L [] none none none (by simpa using lL)
  obtain ⟨c1, c2, c3⟩ := iP_cold (keepF L)
  have hk := fold_kst_len L []
  exact wo_end L (keepF L) _ _ rfl (iP_cold L).2.2 rfl c1 c2 c3 (by unfold keepF; simp at hk; omega) y2 y3 y4 e
/-! the law's -/
def ovL (i : It) : D → Bool
  | .tup [_, _, .int st, .int en] => decide ((i.st : Int) < en) && decide (st < (i.hd.en : Int))
  | _ => false
theorem lk_lc (i : It) (K : List It) (hK : K.length ≤ 1000000) (x0 x1 : Option D) : lcL (gNm 3) (tAndF (eT (e2 gLt (e2 gIx (eVar 2) (eC (.int 2))) (e2 gIx (eVar 3) (eC (.int 3))))) (eT (e2 gLt (e2 gIx (eVar 3) (eC (.int 2))) (e2 gIx (eVar 2) (eC (.int 3)))))) (asOwn (eVar 3)) [x0, x1, some (iL false i), none] (K.map (iL false)) [] = .ok (.lst true (((K.map (iL false)).filter (ovL i)).map id)) := by
  have h := lcL_of (g := gNm 3) (t := tAndF (eT (e2 gLt (e2 gIx (eVar 2) (eC (.int 2))) (e2 gIx (eVar 3) (eC (.int 3))))) (eT (e2 gLt (e2 gIx (eVar 3) (eC (.int 2))) (e2 gIx (eVar 2) (eC (.int 3)))))) (f := asOwn (eVar 3)) (ρ := [x0, x1, some (iL false i), none]) (ovL i) id (K.map (iL false)) [] (fun u hd => by
    obtain ⟨k, _, rfl⟩ := List.mem_map.mp hd
    refine ⟨[x0, x1, some (iL false i), some (iL false k)], rfl, ?_, fun _ => ?_⟩
    · unfold iL ovL
      by_cases h1 : (i.st : Int) < (k.hd.en : Int)
      · by_cases h2 : (k.st : Int) < (i.hd.en : Int) <;> simp [ixD, h1, h2]
      · simp [ixD, h1]
    · simp [iL, D.pure, D.pureL, entD]) (by rw [List.length_map]; simp; omega)
  rw [h, List.nil_append]
theorem ovL_len (i : It) : ∀ K : List It, (((K.map (iL false)).filter (ovL i)).map id).length = 0 ↔ K.any (ovl i) = false
  | [] => by simp
  | k :: K => by
    have ih := ovL_len i K
    rw [List.length_map] at ih ⊢
    rw [List.map_cons, List.any_cons, List.filter_cons]
    have e : ovL i (iL false k) = ovl i k := rfl
    rw [e]
    cases ovl i k with
    | true => simp
    | false => simpa using ih

end
set_option maxRecDepth 100000
set_option maxHeartbeats 4000000
open PySem PySem.Spec PyProof.Rows L2 Dv
noncomputable section
def pc_b_open_crate_1 : Dv.Env → SR := sUnO (gTp (gsCons (gNm 1) (gsCons (gNm 7) (gsNil)))) (eCall 2 d_spend (aV (eVar 1) (aO (e2 gAdd (eC (.int 1)) (eB gLen (aV (eVar 0) (aNil)))) (aNil))))
def pc_b_open_crate_2 : Dv.Env → SR := sIf (tNotF (eT (eVar 7))) (sRet (eTupM (mO (eLstM (mNil)) (mM 1 (mNil))))) (sNil)
def pc_b_open_crate_3 : Dv.Env → SR := sAsg 2 (eCall 1 d_last_end (aV (eVar 0) (aNil)))
def pc_b_open_crate_4 : Dv.Env → SR := sAsg 3 (eLstM (mNil))
def pc_b_open_crate_5 : Dv.Env → SR := sIf (eT (e2 gGe (eVar 2) (eC (.int 0)))) (sAsg 3 (eCall 2 d_directory_entries (aV (eVar 0) (aV (eVar 2) (aNil))))) (sNil)
def pc_b_open_crate_6 : Dv.Env → SR := sFz 3 (sAsg 4 (eIf (eT (e2 gNe (eVar 3) (eLst (aNil)))) (eCall 1 d_without_overlaps (aV (eVar 3) (aNil))) (eCall 1 d_searched_entries (aV (eVar 0) (aNil)))))
def pc_b_open_crate_7 : Dv.Env → SR := sFz 4 (sAsg 4 (eLc (iW (eVar 4)) (gTp (gsCons (gNm 9) (gsCons (gNm 10) (gsCons (gNm 11) (gsCons (gNm 12) (gsCons (gNm 13) (gsNil))))))) (tYes) (eTupM (mO (eCall 1 d_plain_name (aV (eVar 9) (aNil))) (mV (eVar 10) (mV (eVar 11) (mV (eVar 12) (mV (eVar 13) (mNil))))))) [9, 10, 11, 12, 13]))
def pc_b_open_crate_8 : Dv.Env → SR := sFz 4 (sAsg 5 (eLc (iW (eVar 4)) (gNm 8) (tYes) (asOwn (e2 gIx (eVar 8) (eC (.int 0)))) [8]))
def pc_b_open_crate_9 : Dv.Env → SR := sFz 4 (sAsg 6 (eLc (iA enum1 (aV (eVar 4) (aNil))) (gTp (gsCons (gNm 14) (gsCons (gNm 8) (gsNil)))) (eT (e2 gNotIn (e2 gIx (eVar 8) (eC (.int 0))) (eSl (eVar 5) (oPt (e2 gAdd (eVar 14) (eC (.int 1)))) (oNo)))) (asOwn (eVar 8)) [14, 8]))
def pc_b_open_crate_10 : Dv.Env → SR := sRet (eTupM (mO (eSl (eVar 6) (oNo) (oPt (eC c_MOST_ENTRIES))) (mM 1 (mNil))))
theorem pc_b_open_crate : b_open_crate = sq pc_b_open_crate_1 (sq pc_b_open_crate_2 (sq pc_b_open_crate_3 (sq pc_b_open_crate_4 (sq pc_b_open_crate_5 (sq pc_b_open_crate_6 (sq pc_b_open_crate_7 (sq pc_b_open_crate_8 (sq pc_b_open_crate_9 (pc_b_open_crate_10))))))))) := rfl

/-! opening -/
def nmS (i : It) : Str := mk (nameF i.nm)
def fP (i : It) : D := .tup (.str (nmS i) :: entD i.hd)
def gP (i : It) : D := .tup [.str (nmS i), .tup (entD i.hd)]
/-- entries whose name does not come again behind -/
def dd (W : List Str) : Nat → List It → List D
  | _, [] => []
  | n, i :: is => if (W.drop (n + 1)).any (· == nmS i) = true then dd W (n + 1) is else fP i :: dd W (n + 1) is
theorem eP_pure : ∀ K : List It, D.coldL (K.map eP) = true ∧ D.frzL (K.map eP) = K.map eP ∧ D.pureL (K.map eP) = true
  | [] => ⟨rfl, rfl, rfl⟩
  | i :: K => by
    obtain ⟨h1, h2, h3⟩ := eP_pure K
    refine ⟨?_, ?_, ?_⟩
    · show D.coldL (eP i :: K.map eP) = true
      simp [h1, eP, entD]
    · show D.frzL (eP i :: K.map eP) = eP i :: K.map eP
      simp [h2, eP, entD]
    · show D.pureL (eP i :: K.map eP) = true
      simp [D.pureL, D.pure, h3, eP, entD]
theorem fP_pure : ∀ K : List It, D.coldL (K.map fP) = true ∧ D.frzL (K.map fP) = K.map fP ∧ D.pureL (K.map fP) = true
  | [] => ⟨rfl, rfl, rfl⟩
  | i :: K => by
    obtain ⟨h1, h2, h3⟩ := fP_pure K
    refine ⟨?_, ?_, ?_⟩
    · show D.coldL (fP i :: K.map fP) = true
      simp [h1, fP, entD]
    · show D.frzL (fP i :: K.map fP) = fP i :: K.map fP
      simp [h2, fP, entD]
    · show D.pureL (fP i :: K.map fP) = true
      simp [D.pureL, D.pure, h3, fP, entD]
theorem gP_pure : ∀ K : List It, D.coldL (K.map gP) = true ∧ D.frzL (K.map gP) = K.map gP ∧ D.pureL (K.map gP) = true
  | [] => ⟨rfl, rfl, rfl⟩
  | i :: K => by
    obtain ⟨h1, h2, h3⟩ := gP_pure K
    refine ⟨?_, ?_, ?_⟩
    · show D.coldL (gP i :: K.map gP) = true
      simp [h1, gP, entD]
    · show D.frzL (gP i :: K.map gP) = gP i :: K.map gP
      simp [h2, gP, entD]
    · show D.pureL (gP i :: K.map gP) = true
      simp [D.pureL, D.pure, h3, gP, entD]
theorem txs_strs : ∀ W : List Str, txs (dStrs W) = some W
  | [] => rfl
  | w :: W => by
    show txs (.str w :: dStrs W) = _
    rw [txs_cons, txs_strs W]; rfl
theorem in_lst (o : Bool) (W : List Str) (s : Str) : gIn (.str s) (.lst o (dStrs W)) = some (.bl (W.any (· == s))) ∧ gNotIn (.str s) (.lst o (dStrs W)) = some (.bl (!W.any (· == s))) := by
  have : inB (.str s) (.lst o (dStrs W)) = some (W.any (· == s)) := by
    show (match D.str s, txs (dStrs W) with
      | .str x, some ss => some (ss.any (· == x))
      | _, _ => _) = _
    rw [txs_strs]
  unfold gIn gNotIn
  rw [this]
  exact ⟨rfl, rfl⟩
theorem oc_7 (x0 x1 x2 x3 x5 x6 x7 : Option D) (K : List It) (hK : K.length ≤ 1000000) (hn : ∀ i ∈ K, i.nm.length ≤ 10000) (T : Dv.Env → SR) :
    sq pc_b_open_crate_7 T [x0, x1, x2, x3, some (.lst true (K.map eP)), x5, x6, x7, none, none, none, none, none, none, none] = T [x0, x1, x2, x3, some (.lst true (K.map fP)), x5, x6, x7, none, none, none, none, none, none, none] := by
  obtain ⟨c1, c2, c3⟩ := eP_pure K
  have h := lcL_map (g := gTp (gsCons (gNm 9) (gsCons (gNm 10) (gsCons (gNm 11) (gsCons (gNm 12) (gsCons (gNm 13) (gsNil))))))) (t := tYes) (f := eTupM (mO (eCall 1 d_plain_name (aV (eVar 9) (aNil))) (mV (eVar 10) (mV (eVar 11) (mV (eVar 12) (mV (eVar 13) (mNil))))))) (ρ := [x0, x1, x2, x3, some (.lst false (K.map eP)), x5, x6, x7, none, none, none, none, none, none, none]) (fun d => match d with | .tup [n, a, b, c, e] => .tup [.str (mk (nameF ((lInts n).getD []))), a, b, c, e] | d => d) (K.map eP) (fun u hd => by
    obtain ⟨k, hk, rfl⟩ := List.mem_map.mp hd
    have e := m_plain_name k.nm (hn k hk)
    refine ⟨_, rfl, rfl, ?_⟩
    show eTupM _ [x0, x1, x2, x3, some (.lst false (K.map eP)), x5, x6, x7, none, some (.lst false (dInts k.nm)), some (.int k.hd.me), some (.int k.hd.sz), some (.int k.hd.tt), some (.tup (dInts k.hd.pt)), none] = _
    simp [callF, e, eP, entD]) (by rw [List.length_map]; omega)
  have e2 : (K.map eP).map (fun d => match d with | .tup [n, a, b, c, e] => D.tup [.str (mk (nameF ((lInts n).getD []))), a, b, c, e] | d => d) = K.map fP := by
    rw [List.map_map]
    refine List.map_congr_left fun i _ => ?_
    show D.tup [.str (mk (nameF ((dInts? (dInts i.nm)).getD []))), _, _, _, _] = _
    rw [dIntsO_dInts]; rfl
  rw [e2] at h
  generalize K.map eP = P at c1 c2 c3 h ⊢
  simp [pc_b_open_crate_7, frzAt, c1, c2, c3, wipeE, h]
theorem oc_8 (x0 x1 x2 x3 x5 x6 x7 : Option D) (K : List It) (hK : K.length ≤ 1000000) (T : Dv.Env → SR) :
    sq pc_b_open_crate_8 T [x0, x1, x2, x3, some (.lst true (K.map fP)), x5, x6, x7, none, none, none, none, none, none, none] = T [x0, x1, x2, x3, some (.lst false (K.map fP)), some (.lst true (dStrs (K.map nmS))), x6, x7, none, none, none, none, none, none, none] := by
  obtain ⟨c1, c2, c3⟩ := fP_pure K
  have h := lcL_map (g := gNm 8) (t := tYes) (f := asOwn (e2 gIx (eVar 8) (eC (.int 0)))) (ρ := [x0, x1, x2, x3, some (.lst false (K.map fP)), x5, x6, x7, none, none, none, none, none, none, none]) (fun d => match d with | .tup (n :: _) => n | d => d) (K.map fP) (fun u hd => by
    obtain ⟨k, hk, rfl⟩ := List.mem_map.mp hd
    exact ⟨_, rfl, rfl, by simp [fP, ixD]⟩) (by rw [List.length_map]; omega)
  have e2 : (K.map fP).map (fun d => match d with | .tup (n :: _) => n | d => d) = dStrs (K.map nmS) := by
    unfold dStrs
    rw [List.map_map, List.map_map]; rfl
  rw [e2] at h
  generalize K.map fP = P at c1 c2 c3 h ⊢
  simp [pc_b_open_crate_8, frzAt, c1, c2, c3, wipeE, h]

end
set_option maxRecDepth 100000
set_option maxHeartbeats 4000000
open PySem PySem.Spec PyProof.Rows L2 Dv
noncomputable section
def tyE (W : List Str) : D → Bool
  | .tup [.int n, .tup (.str s :: _)] => !((W.drop (n.toNat + 1)).any (· == s))
  | _ => false
def snd : D → D
  | .tup [_, e] => e
  | d => d
theorem dd_enum (W : List Str) : ∀ (is : List It) (n : Nat), ((enumD n (is.map fP)).filter (tyE W)).map snd = dd W n is
  | [], n => rfl
  | i :: is, n => by
    have ih := dd_enum W is (n + 1)
    rw [List.map_cons, enumD_cons, List.filter_cons, dd]
    have e : tyE W (.tup [.int (n : Nat), fP i]) = !((W.drop (n + 1)).any (· == nmS i)) := by
      show (!((W.drop ((n : Int).toNat + 1)).any (· == nmS i))) = _
      rw [Int.toNat_natCast]
    rw [e]
    cases (W.drop (n + 1)).any (· == nmS i) with
    | true => simpa using ih
    | false =>
      simp only [Bool.not_false, if_true, List.map_cons, if_neg Bool.false_ne_true]
      rw [ih]; rfl
theorem dd_pure (W : List Str) : ∀ (is : List It) (n : Nat), D.pureL (dd W n is) = true
  | [], n => rfl
  | i :: is, n => by
    have ih := dd_pure W is (n + 1)
    rw [dd]
    split
    · exact ih
    · show D.pureL (fP i :: dd W (n + 1) is) = true
      simp [D.pureL, D.pure, ih, fP, entD]
theorem dd_len (W : List Str) : ∀ (is : List It) (n : Nat), (dd W n is).length ≤ is.length
  | [], n => Nat.le_refl _
  | i :: is, n => by
    have ih := dd_len W is (n + 1)
    rw [dd]
    split
    · rw [List.length_cons]; omega
    · rw [List.length_cons, List.length_cons]; omega
theorem enum_mem : ∀ (is : List It) (n : Nat) (d : D), d ∈ enumD n (is.map fP) → ∃ k i, d = .tup [.int ((k : Nat) : Int), fP i] ∧ i ∈ is
  | [], n, d, h => nomatch h
  | i :: is, n, d, h => by
    rw [List.map_cons, enumD_cons] at h
    rcases List.mem_cons.mp h with rfl | h
    · exact ⟨n, i, rfl, List.mem_cons_self⟩
    · obtain ⟨k, j, e, hj⟩ := enum_mem is (n + 1) d h
      exact ⟨k, j, e, List.mem_cons_of_mem _ hj⟩
theorem oc_test (x0 x1 x2 x3 x4 x6 x7 x9 x10 x11 x12 x13 : Option D) (W : List Str) (k : Nat) (i : It) : eT (e2 gNotIn (e2 gIx (eVar 8) (eC (.int 0))) (eSl (eVar 5) (oPt (e2 gAdd (eVar 14) (eC (.int 1)))) (oNo))) [x0, x1, x2, x3, x4, some (.lst true (dStrs W)), x6, x7, some (fP i), x9, x10, x11, x12, x13, some (.int (k : Int))] = .ok (tyE W (.tup [.int (k : Int), fP i])) := by
  have e : tyE W (.tup [.int (k : Nat), fP i]) = !((W.drop (k + 1)).any (· == nmS i)) := by
    show (!((W.drop ((k : Int).toNat + 1)).any (· == nmS i))) = _
    rw [Int.toNat_natCast]
  have hc : Dv.cutD (dStrs W) (some ((k : Int) + 1)) none = dStrs (W.drop (k + 1)) := by
    rw [show (k : Int) + 1 = ((k + 1 : Nat) : Int) by omega, cut_from]
    unfold dStrs
    rw [List.map_drop]
  have hi := fun o => (in_lst o (W.drop (k + 1)) (nmS i)).2
  have pw := dStrs_pure W
  rw [e]
  unfold fP
  simp [ixD, hc, hi, pw]
theorem oc_9 (x0 x1 x2 x3 x6 x7 : Option D) (K : List It) (W : List Str) (hK : K.length ≤ 1000000) (T : Dv.Env → SR) :
    sq pc_b_open_crate_9 T [x0, x1, x2, x3, some (.lst false (K.map fP)), some (.lst true (dStrs W)), x6, x7, none, none, none, none, none, none, none] = T [x0, x1, x2, x3, some (.lst false (K.map fP)), some (.lst true (dStrs W)), some (.lst true (dd W 0 K)), x7, none, none, none, none, none, none, none] := by
  obtain ⟨c1, c2, c3⟩ := fP_pure K
  have h := lcL_of (g := gTp (gsCons (gNm 14) (gsCons (gNm 8) (gsNil)))) (t := eT (e2 gNotIn (e2 gIx (eVar 8) (eC (.int 0))) (eSl (eVar 5) (oPt (e2 gAdd (eVar 14) (eC (.int 1)))) (oNo)))) (f := asOwn (eVar 8)) (ρ := [x0, x1, x2, x3, some (.lst false (K.map fP)), some (.lst true (dStrs W)), x6, x7, none, none, none, none, none, none, none]) (tyE W) snd (enumD 0 (K.map fP)) [] (fun u hd => by
    obtain ⟨k, i, rfl, _⟩ := enum_mem K 0 u hd
    refine ⟨_, rfl, oc_test x0 x1 x2 x3 _ x6 x7 none none none none none W k i, fun _ => ?_⟩
    show asOwn (eVar 8) [x0, x1, x2, x3, _, _, x6, x7, some (fP i), none, none, none, none, none, some (.int (k : Int))] = .ok (fP i)
    simp [fP, D.pure, D.pureL, entD]) (by rw [enumD_len, List.length_map]; simp; omega)
  rw [dd_enum, List.nil_append] at h
  generalize K.map fP = P at c1 c2 c3 h ⊢
  simp [pc_b_open_crate_9, frzAt, c1, c2, c3, wipeE, h]
theorem oc_tail (x0 x2 x3 x7 : Option D) (l : Int) (K : List It) (hK : K.length ≤ 1000000) (hn : ∀ i ∈ K, i.nm.length ≤ 10000) (x5 x6 : Option D) :
    (sq pc_b_open_crate_7 (sq pc_b_open_crate_8 (sq pc_b_open_crate_9 pc_b_open_crate_10)) [x0, some (.int l), x2, x3, some (.lst true (K.map eP)), x5, x6, x7, none, none, none, none, none, none, none]).out = .ok (.tup [.lst true ((dd (K.map nmS) 0 K).take 64), .int l]) := by
  rw [oc_7 x0 _ x2 x3 x5 x6 x7 K hK hn, oc_8 x0 _ x2 x3 x5 x6 x7 K hK, oc_9 x0 _ x2 x3 x6 x7 K _ hK]
  have p := dd_pure (K.map nmS) K 0
  have hc : Dv.cutD (dd (K.map nmS) 0 K) none (some 64) = (dd (K.map nmS) 0 K).take 64 := cut_to _ 64
  generalize dd (K.map nmS) 0 K = Q at p hc ⊢
  simp [pc_b_open_crate_10, p, hc, c_MOST_ENTRIES]

end
set_option maxRecDepth 100000
set_option maxHeartbeats 4000000
open PySem PySem.Spec PyProof.Rows L2 Dv
noncomputable section
theorem iP_lay : ∀ K : List It, D.layL 59 (K.map (iP false)) = true
  | [] => rfl
  | i :: K => by
    have ih := iP_lay K
    show (D.lay 59 (iP false i) && D.layL 59 (K.map (iP false))) = true
    rw [ih, Bool.and_true]
    simp [iP, entD, D.lay, D.layL, dInts_lay]
theorem ne_nil (o p : Bool) (K : List It) : gNe (.lst o (K.map (iP false))) (.lst p []) = some (.bl (!K.isEmpty)) := by
  have h1 : ∀ o, D.lay 60 (.lst o (K.map (iP false))) = true := fun o => iP_lay K
  have h2 : ∀ p, D.lay 60 (.lst p []) = true := fun p => rfl
  simp only [gNe, h1, h2, and_self, if_true]
  cases K with
  | nil => rfl
  | cons i K => rfl
def drs (U : List Int) : List It := match lastE U (U.length - 9) with
  | some p => dir U p (lw U (p + 4) 2) (p - lw U (p + 6) 4) []
  | none => []
def opn (U : List Int) : List It := if (drs U).isEmpty = true then srch U U.length 0 else keepF (drs U)
theorem m_spend (l c : Int) (hc : 0 ≤ c) : d_spend [.int l, .int c] = .ok (if c > l then .tup [.int 0, .bl false] else .tup [.int (l - c), .bl true]) := by
  have e : (if (0 : Int) > c then 0 else c) = c := if_neg (by omega)
  by_cases h : c > l
  · have h' : l < c := h
    simp [d_spend, b_spend, fnD, e, h']
  · have h' : ¬ l < c := h
    simp [d_spend, b_spend, fnD, e, h']
theorem oc_no (U : List Int) (l n n1 l2 : Int) (hn : (U.length : Int) = n) (e : 1 + n = n1) (hs : d_spend [.int l, .int n1] = .ok (.tup [.int l2, .bl false])) : d_open_crate [.lst false (dInts U), .int l] = .ok (.tup [.lst true [], .int l2]) := by
  simp [d_open_crate, b_open_crate, fnD, callF, hn, e, hs]
theorem oc_1 (U : List Int) (l n n1 l2 : Int) (d : D) (hn : (U.length : Int) = n) (e : 1 + n = n1) (hs : d_spend [.int l, .int n1] = .ok (.tup [.int l2, .bl true])) (hd : d_last_end [.lst false (dInts U)] = .ok d) (T : Dv.Env → SR) :
    sq pc_b_open_crate_1 (sq pc_b_open_crate_2 (sq pc_b_open_crate_3 (sq pc_b_open_crate_4 T))) [some (.lst false (dInts U)), some (.int l), none, none, none, none, none, none, none, none, none, none, none, none, none] = T [some (.lst false (dInts U)), some (.int l2), some d, some (.lst true []), none, none, none, some (.bl true), none, none, none, none, none, none, none] := by
  simp [pc_b_open_crate_1, pc_b_open_crate_2, pc_b_open_crate_3, pc_b_open_crate_4, callF, hn, e, hs, hd]
theorem oc_5n (x0 x1 x3 x4 x5 x6 x7 : Option D) (T : Dv.Env → SR) :
    sq pc_b_open_crate_5 T [x0, x1, some (.int (-1)), x3, x4, x5, x6, x7, none, none, none, none, none, none, none] = T [x0, x1, some (.int (-1)), x3, x4, x5, x6, x7, none, none, none, none, none, none, none] := by
  simp [pc_b_open_crate_5]
theorem oc_5s (U : List Int) (p : Int) (h0 : 0 ≤ p) (d : D) (x1 x3 x4 x5 x6 x7 : Option D) (hd : d_directory_entries [.lst false (dInts U), .int p] = .ok d) (T : Dv.Env → SR) :
    sq pc_b_open_crate_5 T [some (.lst false (dInts U)), x1, some (.int p), x3, x4, x5, x6, x7, none, none, none, none, none, none, none] = T [some (.lst false (dInts U)), x1, some (.int p), some d, x4, x5, x6, x7, none, none, none, none, none, none, none] := by
  simp [pc_b_open_crate_5, h0, callF, hd]
theorem oc_6n (U : List Int) (x1 x2 x4 x5 x6 x7 : Option D) (d : D) (hd : d_searched_entries [.lst false (dInts U)] = .ok d) (T : Dv.Env → SR) :
    sq pc_b_open_crate_6 T [some (.lst false (dInts U)), x1, x2, some (.lst true []), x4, x5, x6, x7, none, none, none, none, none, none, none] = T [some (.lst false (dInts U)), x1, x2, some (.lst false []), some d, x5, x6, x7, none, none, none, none, none, none, none] := by
  have q := fun o p => ne_nil o p []
  simp only [List.map_nil, List.isEmpty_nil, Bool.not_true] at q
  simp [pc_b_open_crate_6, q, callF, frzAt, hd]
theorem oc_6s (x0 x1 x2 x4 x5 x6 x7 : Option D) (K : List It) (hK : K.isEmpty = false) (d : D) (hd : d_without_overlaps [.lst false (K.map (iP false))] = .ok d) (T : Dv.Env → SR) :
    sq pc_b_open_crate_6 T [x0, x1, x2, some (.lst true (K.map (iP false))), x4, x5, x6, x7, none, none, none, none, none, none, none] = T [x0, x1, x2, some (.lst false (K.map (iP false))), some d, x5, x6, x7, none, none, none, none, none, none, none] := by
  have q := fun o p => ne_nil o p K
  rw [hK] at q
  obtain ⟨c1, c2, c3⟩ := iP_cold K
  generalize K.map (iP false) = P at q c1 c2 c3 hd ⊢
  simp [pc_b_open_crate_6, q, callF, c1, c2, c3, frzAt, hd]
theorem lastE_spec (U : List Int) : ∀ n p, lastE U n = some p → lw U (p + 6) 4 ≤ p
  | 0, p, h => nomatch h
  | n + 1, p, h => by
    rw [lastE] at h
    split at h
    · rename_i z
      cases h
      unfold isE at z
      rw [Bool.and_eq_true, decide_eq_true_eq] at z
      exact z.2
    · exact lastE_spec U n p h
theorem whole_nm (U : List Int) (p a : Nat) : ∀ i ∈ whole U p a, i.nm.length ≤ U.length := by
  intro i hi
  unfold whole at hi
  split at hi
  · split at hi
    · rw [List.mem_singleton.mp hi]; exact sl_le ..
    · cases hi
  · cases hi
theorem dir_nm (U : List Int) (p : Nat) : ∀ n a F, (∀ i ∈ F, i.nm.length ≤ U.length) → ∀ i ∈ dir U p n a F, i.nm.length ≤ U.length
  | 0, a, F, h => h
  | n + 1, a, F, h => by
    rw [dir]
    split
    · exact dir_nm U p n _ _ fun i hi => (List.mem_append.mp hi).elim (h i) (whole_nm U p a i)
    · exact h
theorem dir_len (U : List Int) (p : Nat) : ∀ n a F, (dir U p n a F).length ≤ F.length + n
  | 0, a, F => Nat.le_refl _
  | n + 1, a, F => by
    rw [dir]
    split
    · have := dir_len U p n (a + 10 + lw U (a + 8) 2) (F ++ whole U p a)
      have := whole_len U p a
      rw [List.length_append] at *
      omega
    · omega
theorem kst_sub (K : List It) (i j : It) (h : j ∈ kst K i) : j ∈ K ∨ j = i := by
  unfold kst at h
  split at h
  · exact .inl h
  · exact (List.mem_append.mp h).imp_right List.mem_singleton.mp
theorem keep_sub : ∀ (L K : List It) (j : It), j ∈ L.foldl kst K → j ∈ K ∨ j ∈ L
  | [], K, j, h => .inl h
  | i :: L, K, j, h => by
    rw [List.foldl_cons] at h
    rcases keep_sub L _ j h with h | h
    · rcases kst_sub K i j h with h | h
      · exact .inl h
      · exact .inr (by rw [h]; exact List.mem_cons_self)
    · exact .inr (List.mem_cons_of_mem _ h)
theorem srch_nm (U : List Int) : ∀ n a, ∀ i ∈ srch U n a, i.nm.length ≤ U.length
  | 0, a, i, h => nomatch h
  | n + 1, a, i, h => by
    rw [srch] at h
    split at h
    · cases eh : hdr U a with
      | none => rw [eh] at h; exact srch_nm U n _ i h
      | some hd =>
        rw [eh] at h
        rcases List.mem_cons.mp h with rfl | h
        · unfold hdr at eh
          split at eh
          · split at eh
            · cases eh; exact sl_le ..
            · cases eh
          · cases eh
        · exact srch_nm U n _ i h
    · cases h
theorem drs_ok (U : List Int) (hU : Byt U) : (drs U).length ≤ 65535 ∧ ∀ i ∈ drs U, i.nm.length ≤ U.length := by
  unfold drs
  cases lastE U (U.length - 9) with
  | none => exact ⟨Nat.zero_le _, fun _ h => nomatch h⟩
  | some p =>
    have h1 := dir_len U p (lw U (p + 4) 2) (p - lw U (p + 6) 4) []
    have h2 := lw_le hU (p + 4)
    exact ⟨by simp at h1; show (dir U p (lw U (p + 4) 2) (p - lw U (p + 6) 4) []).length ≤ _; omega, dir_nm U p _ _ _ fun _ h => nomatch h⟩
theorem opn_ok (U : List Int) (hU : Byt U) (lU : U.length ≤ 10000) : (opn U).length ≤ 100000 ∧ ∀ i ∈ opn U, i.nm.length ≤ 10000 := by
  obtain ⟨h1, h2⟩ := drs_ok U hU
  unfold opn
  split
  · exact ⟨by have := srch_len U U.length 0; omega, fun i hi => by have := srch_nm U U.length 0 i hi; omega⟩
  · refine ⟨by have := fold_kst_len (drs U) []; unfold keepF; simp at this; omega, fun i hi => ?_⟩
    rcases keep_sub (drs U) [] i hi with h | h
    · cases h
    · have := h2 i h; omega
theorem m_open (U : List Int) (hU : Byt U) (lU : U.length ≤ 10000) (l : Int) (hl : 1 + (U.length : Int) ≤ l) : d_open_crate [.lst false (dInts U), .int l] = .ok (.tup [.lst true ((dd ((opn U).map nmS) 0 (opn U)).take 64), .int (l - (1 + (U.length : Int)))]) := by
  have hs := m_spend l (1 + (U.length : Int)) (by omega)
  rw [if_neg (by omega)] at hs
  have hd := m_last_end U hU (by omega)
  obtain ⟨k1, k2⟩ := opn_ok U hU lU
  have hm := m_searched U hU (by omega)
  show (b_open_crate [some (.lst false (dInts U)), some (.int l), none, none, none, none, none, none, none, none, none, none, none, none, none]).out = _
  rw [pc_b_open_crate, oc_1 U l _ _ _ _ rfl rfl hs hd]
  unfold opn at k1 k2 ⊢
  unfold drs at k1 k2 ⊢
  cases hE : lastE U (U.length - 9) with
  | none =>
    rw [hE] at k1 k2
    simp only [List.isEmpty_nil, if_true] at k1 k2 ⊢
    show (sq pc_b_open_crate_5 _ [_, _, some (.int (-1)), _, _, _, _, _, _, _, _, _, _, _, _]).out = _
    rw [oc_5n, oc_6n U _ _ none none none (some (.bl true)) _ hm]
    exact oc_tail _ _ _ _ _ _ (by omega) k2 none none
  | some p =>
    rw [hE] at k1 k2
    have hp := lastE_spec U _ p hE
    show (sq pc_b_open_crate_5 _ [_, _, some (.int (p : Int)), _, _, _, _, _, _, _, _, _, _, _, _]).out = _
    rw [oc_5s U p (by omega) _ _ _ none none none (some (.bl true)) (m_directory U hU p hp)]
    simp only at k1 k2 ⊢
    generalize hL : dir U p (lw U (p + 4) 2) (p - lw U (p + 6) 4) [] = L at k1 k2 ⊢
    have ll : L.length < 100000 := by
      have h1 := dir_len U p (lw U (p + 4) 2) (p - lw U (p + 6) 4) []
      have h2 := lw_le hU (p + 4)
      rw [hL, List.length_nil] at h1
      omega
    cases hK : L.isEmpty with
    | true =>
      rw [hK] at k1 k2
      simp only [if_true] at k1 k2 ⊢
      have : L = [] := List.isEmpty_iff.mp hK
      subst this
      rw [List.map_nil, oc_6n U _ _ none none none (some (.bl true)) _ hm]
      exact oc_tail _ _ _ _ _ _ (by omega) k2 none none
    | false =>
      rw [hK] at k1 k2
      simp only [if_neg Bool.false_ne_true] at k1 k2 ⊢
      rw [oc_6s _ _ _ none none none (some (.bl true)) L hK _ (m_overlaps L ll)]
      exact oc_tail _ _ _ _ _ _ (by omega) k2 none none

end
set_option maxRecDepth 100000
set_option maxHeartbeats 4000000
open PySem PySem.Spec PyProof.Rows L2 Dv
noncomputable section
/-! the law's crate: some bytes -/
theorem Byt.app {a b : List Int} (h : Byt a) (g : Byt b) : Byt (a ++ b) := fun x hx => (List.mem_append.mp hx).elim (h x) (g x)
theorem Byt.nil : Byt [] := fun _ z => nomatch z
theorem m255 (x : Int) : ∃ r, Builtin.bitAnd x 255 = r ∧ 0 ≤ r ∧ r < 256 := by
  refine ⟨_, rfl, ?_⟩
  by_cases h : 0 ≤ x
  · rw [show (255 : Int) = 2 ^ 8 - 1 by decide, Bits.bitAnd_mask 8 h]
    have : (2 : Int) ^ 8 = 256 := by decide
    rw [this]; omega
  · unfold Builtin.bitAnd
    rw [decide_eq_false h, decide_eq_true (show (0 : Int) ≤ 255 by omega)]
    show 0 ≤ (255 : Int) - ((255 &&& (Builtin.bitNot x).toNat : Nat) : Int) ∧ (255 : Int) - ((255 &&& (Builtin.bitNot x).toNat : Nat) : Int) < 256
    have := Nat.and_le_left (n := 255) (m := (Builtin.bitNot x).toNat)
    omega
theorem m_rowB (c : Int) (n : Nat) (hn : n ≤ 1000) : ∃ bs : List Int, d__law_row [.int c, .int n] = .ok (.lst true (dInts bs)) ∧ bs.length = n ∧ Byt bs := by
  by_cases hc : (10 : Int) ^ 18 ≤ (if c < 0 then -c else c)
  · obtain ⟨ρ', e, bs, l, b, d, rfl, h1, h2⟩ := for_rng (g := gNm 5) (b := lp__law_row_1) (fun j ρ => ∃ (bs : List Int) (l : Int) (b d : Option D), ρ = [some (.int c), some (.int n), some (.lst true (dInts bs)), some (.int l), b, d] ∧ bs.length = j ∧ Byt bs)
      n [some (.int c), some (.int n), some (.lst true []), some (.int (if c < 0 then -c else c)), none, none] (fun j ρ hj H => by
        obtain ⟨bs, l, b, d, rfl, h1, h2⟩ := H
        obtain ⟨r, hr, r0, r1⟩ := m255 l
        exact ⟨_, _, rfl, .inl (row1_core c n l j bs b r hr (by omega)), _, _, _, _, rfl, by rw [List.length_append, h1]; rfl, h2.app fun x hx => by rw [List.mem_singleton.mp hx]; exact ⟨r0, r1⟩⟩) ⟨[], _, none, none, rfl, rfl, Byt.nil⟩
    exact ⟨bs, row_end1 c n _ n rfl (w62 (by omega) (by omega)) (Int.toNat_natCast n) hc bs _ b d e, h1, h2⟩
  · obtain ⟨ρ', e, bs, s, d, rfl, h1, h2⟩ := for_rng (g := gNm 5) (b := lp__law_row_2) (fun j ρ => ∃ (bs : List Int) (s : Int) (d : Option D), ρ = [some (.int c), some (.int n), some (.lst true (dInts bs)), some (.int (if c < 0 then -c else c)), some (.int s), d] ∧ bs.length = j ∧ Byt bs)
      n [some (.int c), some (.int n), some (.lst true []), some (.int (if c < 0 then -c else c)), some (.int ((if c < 0 then -c else c) % 2147483629 + 1)), none] (fun j ρ hj H => by
        obtain ⟨bs, s, d, rfl, h1, h2⟩ := H
        obtain ⟨r, hr, r0, r1⟩ := m255 (s * 48271 % 2147483647 / 7 + s * 48271 % 2147483647)
        exact ⟨_, _, rfl, .inl (row2_core c n _ s j _ r bs rfl hr (by omega)), _, _, _, rfl, by rw [List.length_append, h1]; rfl, h2.app fun x hx => by rw [List.mem_singleton.mp hx]; exact ⟨r0, r1⟩⟩) ⟨[], _, none, rfl, rfl, Byt.nil⟩
    exact ⟨bs, row_end2 c n _ _ n rfl rfl (w62 (by omega) (by omega)) (Int.toNat_natCast n) hc bs _ _ d e, h1, h2⟩
theorem low_turn (x1 x3 : Option D) (n r : Int) (F : List Int) (hr : Builtin.bitAnd n 255 = r) (hF : F.length < 1000000) : lp__law_low_1 [some (.int n), x1, some (.lst true (dInts F)), x3] = .nx [some (.int (n / 256)), x1, some (.lst true (dInts (F ++ [r]))), x3] := by
  have z : F.length < 16777216 := by omega
  simp [lp__law_low_1, hr, onL, z]
theorem low_end (n s : Int) (N : Nat) (R : List Int) (y0 y3 : Option D) (ws : W62 s) (hN : s.toNat = N) (h : forL (gNm 3) lp__law_low_1 (rngL 0 N) [some (.int n), some (.int s), some (.lst true []), none] = .nx [y0, some (.int s), some (.lst true (dInts R)), y3]) : d__law_low [.int n, .int s] = .ok (.lst true (dInts R)) := by
  simp [d__law_low, b__law_low, fnD, ws, hN, h]
theorem m_low (n : Int) (s : Nat) (hs : s ≤ 1000) : ∃ bs : List Int, d__law_low [.int n, .int (s : Int)] = .ok (.lst true (dInts bs)) ∧ bs.length = s ∧ Byt bs := by
  obtain ⟨ρ', e, m, R, y3, rfl, h1, h2⟩ := for_rng (g := gNm 3) (b := lp__law_low_1) (fun j ρ => ∃ (m : Int) (R : List Int) (y3 : Option D), ρ = [some (.int m), some (.int (s : Int)), some (.lst true (dInts R)), y3] ∧ R.length = j ∧ Byt R) s [some (.int n), some (.int (s : Int)), some (.lst true []), none] (fun j ρ hj H => by
    obtain ⟨m, R, y3, rfl, h1, h2⟩ := H
    obtain ⟨r, hr, r0, r1⟩ := m255 m
    exact ⟨_, _, rfl, .inl (low_turn _ _ m r R hr (by omega)), _, _, _, rfl, by rw [List.length_append, h1]; rfl, h2.app fun x hx => by rw [List.mem_singleton.mp hx]; exact ⟨r0, r1⟩⟩) ⟨n, [], none, rfl, rfl, Byt.nil⟩
  exact ⟨R, low_end n s s R _ y3 (w62 (by omega) (by omega)) (Int.toNat_natCast s) e, h1, h2⟩

end
set_option maxRecDepth 100000
set_option maxHeartbeats 4000000
open PySem PySem.Spec PyProof.Rows L2 Dv
noncomputable section
/-! ## what is written, plain -/
structure Ent where
  nm : List Int
  me : Int
  sz : Int
  tt : Int
  pt : List Int
def lowB : Nat → Int → List Int
  | 0, _ => []
  | k + 1, n => n % 256 :: lowB k (n / 256)
theorem lowB_len : ∀ (k : Nat) (n : Int), (lowB k n).length = k
  | 0, _ => rfl
  | k + 1, n => by rw [lowB, List.length_cons, lowB_len k]
theorem lowB_byt : ∀ (k : Nat) (n : Int), Byt (lowB k n)
  | 0, _ => fun _ z => nomatch z
  | k + 1, n => fun x hx => by
    rw [lowB] at hx
    rcases List.mem_cons.mp hx with rfl | h
    · omega
    · exact lowB_byt k _ x h
theorem lnum_lowB : ∀ (k : Nat) (n : Int), 0 ≤ n → n < 256 ^ k → lnum (lowB k n) = n
  | 0, n, h0, h1 => by
    rw [Int.pow_zero] at h1
    show (0 : Int) = n
    omega
  | k + 1, n, h0, h1 => by
    rw [Int.pow_succ] at h1
    rw [lowB, lnum, lnum_lowB k (n / 256) (by omega) (by omega)]
    omega
def headB (e : Ent) : List Int := 67 :: 82 :: 84 :: 49 :: e.me :: 0 :: (lowB 2 e.nm.length ++ (lowB 4 e.sz ++ (lowB 4 e.tt ++ (lowB 4 e.pt.length ++ (e.nm ++ e.pt)))))
def recB (d : Int) (nm : List Int) : List Int := 67 :: 68 :: 73 :: 82 :: (lowB 4 d ++ (lowB 2 nm.length ++ nm))
def headsB : List Ent → List Int
  | [] => []
  | e :: es => headB e ++ headsB es
def recsB (p : Nat) : Nat → List Ent → List Int
  | _, [] => []
  | a, e :: es => recB ((p : Int) - (a : Int)) e.nm ++ recsB p (a + (headB e).length) es
def rsum : List Ent → Nat
  | [] => 0
  | e :: es => 10 + e.nm.length + rsum es
def writB (es : List Ent) : List Int := headsB es ++ (recsB ((headsB es).length + rsum es) 0 es ++ (67 :: 69 :: 78 :: 68 :: (lowB 2 es.length ++ lowB 4 (rsum es))))
theorem headB_len (e : Ent) : (headB e).length = 20 + e.nm.length + e.pt.length := by
  unfold headB
  simp only [List.length_cons, List.length_append, lowB_len]
  omega
theorem recB_len (d : Int) (nm : List Int) : (recB d nm).length = 10 + nm.length := by
  unfold recB
  simp only [List.length_cons, List.length_append, lowB_len]
  omega
theorem recsB_len (p : Nat) : ∀ (es : List Ent) (a : Nat), (recsB p a es).length = rsum es
  | [], _ => rfl
  | e :: es, a => by rw [recsB, List.length_append, recB_len, recsB_len p es, rsum]
theorem writB_len (es : List Ent) : (writB es).length = (headsB es).length + rsum es + 10 := by
  unfold writB
  simp only [List.length_append, recsB_len, List.length_cons, lowB_len]
  omega
structure EntOk (e : Ent) : Prop where
  nb : Byt e.nm
  mb : 0 ≤ e.me ∧ e.me < 256
  sb : 0 ≤ e.sz ∧ e.sz < 4294967296
  tb : 0 ≤ e.tt ∧ e.tt < 4294967296
  pb : Byt e.pt
  nl : e.nm.length ≤ 100
  pl : e.pt.length ≤ 100000
theorem Byt.ap {a b : List Int} (h : Byt a) (g : Byt b) : Byt (a ++ b) := fun x hx => (List.mem_append.mp hx).elim (h x) (g x)
theorem Byt.cn {a : Int} {b : List Int} (h : 0 ≤ a ∧ a < 256) (g : Byt b) : Byt (a :: b) := fun x hx => (List.mem_cons.mp hx).elim (fun e => e ▸ h) (g x)
theorem headB_byt {e : Ent} (h : EntOk e) : Byt (headB e) :=
  .cn (by omega) (.cn (by omega) (.cn (by omega) (.cn (by omega) (.cn h.mb (.cn (by omega) ((lowB_byt _ _).ap ((lowB_byt _ _).ap ((lowB_byt _ _).ap ((lowB_byt _ _).ap (h.nb.ap h.pb))))))))))
theorem recB_byt (d : Int) {nm : List Int} (h : Byt nm) : Byt (recB d nm) :=
  .cn (by omega) (.cn (by omega) (.cn (by omega) (.cn (by omega) ((lowB_byt _ _).ap ((lowB_byt _ _).ap h)))))
theorem headsB_byt : ∀ {es : List Ent}, (∀ e ∈ es, EntOk e) → Byt (headsB es)
  | [], _ => fun _ z => nomatch z
  | e :: es, h => (headB_byt (h e List.mem_cons_self)).ap (headsB_byt fun x hx => h x (List.mem_cons_of_mem _ hx))
theorem recsB_byt (p : Nat) : ∀ {es : List Ent} (a : Nat), (∀ e ∈ es, EntOk e) → Byt (recsB p a es)
  | [], _, _ => fun _ z => nomatch z
  | e :: es, a, h => (recB_byt _ (h e List.mem_cons_self).nb).ap (recsB_byt p _ fun x hx => h x (List.mem_cons_of_mem _ hx))
theorem writB_byt {es : List Ent} (h : ∀ e ∈ es, EntOk e) : Byt (writB es) :=
  (headsB_byt h).ap ((recsB_byt _ _ h).ap (.cn (by omega) (.cn (by omega) (.cn (by omega) (.cn (by omega) ((lowB_byt _ _).ap (lowB_byt _ _)))))))
/-! ## reading it -/
theorem sl_skip (P Y : List Int) (k n : Nat) : sl (P ++ Y) (P.length + k) n = sl Y k n := by
  unfold sl
  rw [List.drop_append, List.drop_eq_nil_of_le (by omega), List.nil_append, show P.length + k - P.length = k by omega]
theorem sl_front (M S : List Int) (n : Nat) (h : n = M.length) : sl (M ++ S) 0 n = M := by
  unfold sl
  rw [List.drop_zero, h, List.take_left']
  rfl
theorem lw_skip (P Y : List Int) (k n : Nat) : lw (P ++ Y) (P.length + k) n = lw Y k n := by unfold lw; rw [sl_skip]
theorem lw_of {Y : List Int} {k n : Nat} {v : Int} (h : sl Y k n = lowB n v) (h0 : 0 ≤ v) (h1 : v < 256 ^ n) : lw Y k n = v.toNat := by
  unfold lw
  rw [h, lnum_lowB n v h0 h1]
def hdOf (s : Nat) (e : Ent) : Hd := ⟨e.nm, e.me, e.sz, e.tt, e.pt, true, s + (headB e).length⟩
theorem hdr_at (P S : List Int) (e : Ent) (h : EntOk e) : hdr (P ++ (headB e ++ S)) P.length = some (hdOf P.length e) := by
  have Y : ∀ k n, sl (P ++ (headB e ++ S)) (P.length + k) n = sl (headB e ++ S) k n := fun k n => sl_skip P _ k n
  have L : ∀ k n, lw (P ++ (headB e ++ S)) (P.length + k) n = lw (headB e ++ S) k n := fun k n => lw_skip P _ k n
  have f0 : sl (headB e ++ S) 0 4 = [67, 82, 84, 49] := rfl
  have f6 : sl (headB e ++ S) 6 2 = lowB 2 e.nm.length := rfl
  have f8 : sl (headB e ++ S) 8 4 = lowB 4 e.sz := rfl
  have f12 : sl (headB e ++ S) 12 4 = lowB 4 e.tt := rfl
  have f16 : sl (headB e ++ S) 16 4 = lowB 4 e.pt.length := rfl
  have w6 := lw_of f6 (by omega) (by have := h.nl; show (e.nm.length : Int) < 65536; omega)
  have w16 := lw_of f16 (by omega) (by have := h.pl; show (e.pt.length : Int) < 4294967296; omega)
  rw [Int.toNat_natCast] at w6 w16
  have fN : sl (headB e ++ S) 20 e.nm.length = e.nm := by
    show sl ((e.nm ++ e.pt) ++ S) 0 e.nm.length = e.nm
    rw [List.append_assoc]
    exact sl_front _ _ _ rfl
  have fT : sl (headB e ++ S) (20 + e.nm.length) e.pt.length = e.pt := by
    have : sl (headB e ++ S) (20 + e.nm.length) e.pt.length = sl (e.nm ++ (e.pt ++ S)) (e.nm.length + 0) e.pt.length := by
      unfold sl
      rw [← List.drop_drop]
      show List.take _ (List.drop e.nm.length ((e.nm ++ e.pt) ++ S)) = _
      rw [List.append_assoc]; rfl
    rw [this, sl_skip]
    exact sl_front _ _ _ rfl
  have fm : (P ++ (headB e ++ S)).getD (P.length + 4) 0 = e.me := by
    rw [List.getD_eq_getElem?_getD, List.getElem?_append_right (by omega), show P.length + 4 - P.length = 4 by omega]
    rfl
  have lX : (P ++ (headB e ++ S)).length = P.length + (20 + e.nm.length + e.pt.length) + S.length := by
    rw [List.length_append, List.length_append, headB_len]; omega
  unfold hdr
  have y0 := Y 0 4
  rw [Nat.add_zero] at y0
  rw [y0, f0, L 6 2, w6, L 16 4, w16, if_pos ⟨rfl, by omega⟩, if_pos (by omega), Y 20, fN, fm, Y 8, f8, Y 12, f12, show P.length + 20 + e.nm.length = P.length + (20 + e.nm.length) by omega, Y, fT]
  have g8 := lnum_lowB 4 e.sz h.sb.1 (by have := h.sb.2; show e.sz < 4294967296; omega)
  have g12 := lnum_lowB 4 e.tt h.tb.1 (by have := h.tb.2; show e.tt < 4294967296; omega)
  rw [g8, g12, decide_eq_true (by omega), Nat.min_eq_left (by omega)]
  unfold hdOf
  rw [headB_len]
  congr 2
  omega
def itsOf : Nat → List Ent → List It
  | _, [] => []
  | s, e :: es => ⟨e.nm, hdOf s e, s⟩ :: itsOf (s + (headB e).length) es
/-- the directory -/
theorem dir_read (X : List Int) (E b p : Nat) (hE : E = b + p) (lE : E < 4294967296) : ∀ (es : List Ent) (P1 S1 P2 S2 : List Int) (a q : Nat) (F : List It), (∀ e ∈ es, EntOk e) →
    X = P1 ++ (headsB es ++ S1) → P1.length = b + a → X = P2 ++ (recsB p a es ++ S2) → P2.length = q → q + rsum es ≤ E → a + (headsB es).length ≤ p →
    dir X E es.length q F = F ++ itsOf (b + a) es
  | [], P1, S1, P2, S2, a, q, F, _, _, _, _, _, _, _ => by rw [itsOf, List.append_nil]; rfl
  | e :: es, P1, S1, P2, S2, a, q, F, h, e1, l1, e2, l2, hq, ha => by
    have he := h e List.mem_cons_self
    have e1' : X = P1 ++ (headB e ++ (headsB es ++ S1)) := by rw [e1, headsB, List.append_assoc]
    have e2' : X = P2 ++ (recB ((p : Int) - (a : Int)) e.nm ++ (recsB p (a + (headB e).length) es ++ S2)) := by rw [e2, recsB, List.append_assoc]
    have Y : ∀ k n, sl X (q + k) n = sl (recB ((p : Int) - (a : Int)) e.nm ++ (recsB p (a + (headB e).length) es ++ S2)) k n := fun k n => by rw [e2', ← l2]; exact sl_skip _ _ _ _
    have f0 : sl X (q + 0) 4 = [67, 68, 73, 82] := (Y 0 4).trans rfl
    have f4 : sl X (q + 4) 4 = lowB 4 ((p : Int) - (a : Int)) := (Y 4 4).trans rfl
    have f8 : sl X (q + 8) 2 = lowB 2 e.nm.length := (Y 8 2).trans rfl
    have fN : sl X (q + 10) e.nm.length = e.nm := (Y 10 _).trans (sl_front e.nm _ _ rfl)
    have w4 := lw_of f4 (by omega) (by show (p : Int) - (a : Int) < 4294967296; omega)
    have w8 := lw_of f8 (by omega) (by have := he.nl; show (e.nm.length : Int) < 65536; omega)
    rw [Int.toNat_natCast] at w8
    rw [show ((p : Int) - (a : Int)).toNat = p - a by omega] at w4
    rw [Nat.add_zero] at f0
    rw [rsum] at hq
    rw [headsB, List.length_append] at ha
    have hw : whole X E q = [⟨e.nm, hdOf (b + a) e, b + a⟩] := by
      unfold whole
      rw [w4, w8, fN]
      have : hdr X (E - (p - a)) = some (hdOf (b + a) e) := by
        rw [show E - (p - a) = P1.length by omega, e1', hdr_at P1 _ e he, l1]
      rw [this, show E - (p - a) = b + a by omega]
      rfl
    show dir X E (es.length + 1) q F = _
    rw [dir, if_pos ⟨f0, by omega, by rw [w8]; omega, by rw [w4]; omega⟩, hw, w8]
    rw [dir_read X E b p hE lE es (P1 ++ headB e) S1 (P2 ++ recB ((p : Int) - (a : Int)) e.nm) S2 (a + (headB e).length) (q + 10 + e.nm.length) _ (fun x hx => h x (List.mem_cons_of_mem _ hx)) (by rw [e1', List.append_assoc]) (by rw [List.length_append]; omega) (by rw [e2', List.append_assoc]) (by rw [List.length_append, recB_len]; omega) (by omega) (by omega), itsOf, List.append_assoc, Nat.add_assoc b]
    rfl
theorem lastE_top (X : List Int) (E : Nat) (h : isE X E = true) : ∀ n, E < n → (∀ a, E < a → a < n → isE X a = false) → lastE X n = some E
  | 0, hn, _ => absurd hn (by omega)
  | n + 1, hn, no => by
    rw [lastE]
    by_cases e : n = E
    · rw [e, h, if_pos rfl]
    · rw [no n (by omega) (by omega), if_neg Bool.false_ne_true]
      exact lastE_top X E h n (by omega) fun a h1 h2 => no a h1 (by omega)
theorem tail_no (n r : Int) (Z : List Int) (n0 : 0 ≤ n) (n1 : n < 256) (n2 : n ≠ 67) (r0 : 0 ≤ r) (r1 : r < 17152) (hZ : ∀ z ∈ Z, z ≠ 67) (k : Nat) (hk : 1 ≤ k) : sl (67 :: 69 :: 78 :: 68 :: (lowB 2 n ++ (lowB 4 r ++ Z))) k 4 ≠ [67, 69, 78, 68] := by
  have big : ∀ j, sl (67 :: 69 :: 78 :: 68 :: (lowB 2 n ++ (lowB 4 r ++ Z))) (10 + j) 4 = sl Z j 4 := fun j => by
    unfold sl
    rw [← List.drop_drop]
    rfl
  by_cases h10 : 10 ≤ k
  · obtain ⟨j, rfl⟩ : ∃ j, k = 10 + j := ⟨k - 10, by omega⟩
    rw [big]
    intro h
    have : (67 : Int) ∈ sl Z j 4 := by rw [h]; simp
    exact hZ 67 (List.mem_of_mem_drop (List.mem_of_mem_take this)) rfl
  · match k, hk, h10 with
    | 1, _, _ => intro h; injection h with h1 _; revert h1; decide
    | 2, _, _ => intro h; injection h with h1 _; revert h1; decide
    | 3, _, _ => intro h; injection h with h1 _; revert h1; decide
    | 4, _, _ => intro h; injection h with h1 _; omega
    | 5, _, _ => intro h; injection h with h1 _; omega
    | 6, _, _ => intro h; injection h with _ h1; injection h1 with h2 _; omega
    | 7, _, _ => intro h; injection h with h1 _; omega
    | 8, _, _ => intro h; injection h with h1 _; omega
    | 9, _, _ => intro h; injection h with h1 _; omega
    | k + 10, _, h => exact absurd (by omega) h
theorem kst_its : ∀ (es : List Ent) (s : Nat) (K : List It), (∀ k ∈ K, k.hd.en ≤ s) → (itsOf s es).foldl kst K = K ++ itsOf s es
  | [], s, K, _ => by rw [itsOf, List.append_nil]; rfl
  | e :: es, s, K, h => by
    rw [itsOf, List.foldl_cons]
    have hn : K.any (ovl ⟨e.nm, hdOf s e, s⟩) = false := by
      rw [List.any_eq_false]
      intro k hk
      have := h k hk
      unfold ovl
      rw [Bool.and_eq_true, decide_eq_true_eq, decide_eq_true_eq]
      intro z
      have z1 : ((s : Nat) : Int) < (k.hd.en : Int) := z.1
      omega
    have e1 : kst K ⟨e.nm, hdOf s e, s⟩ = K ++ [⟨e.nm, hdOf s e, s⟩] := by
      unfold kst
      rw [hn, if_neg Bool.false_ne_true]
    rw [e1, kst_its es _ _ fun k hk => ?_, List.append_assoc]
    · rfl
    · rcases List.mem_append.mp hk with hk | hk
      · have := h k hk; omega
      · rw [List.mem_singleton.mp hk]; exact Nat.le_refl _
def entP (e : Ent) : D := .tup [.str (mk e.nm), .int e.me, .int e.sz, .int e.tt, .tup (dInts e.pt)]
theorem its_fP : ∀ (es : List Ent) (s : Nat), (∀ e ∈ es, nameF e.nm = e.nm) → (itsOf s es).map fP = es.map entP ∧ (itsOf s es).map nmS = es.map fun e => mk e.nm
  | [], s, _ => ⟨rfl, rfl⟩
  | e :: es, s, h => by
    obtain ⟨h1, h2⟩ := its_fP es (s + (headB e).length) fun x hx => h x (List.mem_cons_of_mem _ hx)
    have hn := h e List.mem_cons_self
    rw [itsOf, List.map_cons, List.map_cons, List.map_cons, List.map_cons, h1, h2]
    have e1 : nmS ⟨e.nm, hdOf s e, s⟩ = mk e.nm := by show mk (nameF e.nm) = _; rw [hn]
    refine ⟨?_, by rw [e1]⟩
    congr 1
    show D.tup (.str (nmS ⟨e.nm, hdOf s e, s⟩) :: _) = _
    rw [e1]; rfl
theorem dd_all (W : List Str) : ∀ (is : List It) (n : Nat), W.drop n = is.map nmS → (is.map nmS).Nodup → dd W n is = is.map fP
  | [], n, _, _ => rfl
  | i :: is, n, h, nd => by
    rw [List.map_cons, List.nodup_cons] at nd
    have h1 : W.drop (n + 1) = is.map nmS := by
      rw [← List.drop_drop, h]; rfl
    rw [dd, h1]
    have : ((is.map nmS).any (· == nmS i)) = false := by
      rw [List.any_eq_false]
      intro s hs z
      exact nd.1 (eq_of_beq z ▸ hs)
    rw [this, if_neg Bool.false_ne_true, dd_all W is (n + 1) h1 nd.2]
    rfl
/-- what is written is read -/
theorem opn_writ (B Z : List Int) (es : List Ent) (h : ∀ e ∈ es, EntOk e) (h0 : 1 ≤ es.length) (h1 : es.length < 256) (h2 : es.length ≠ 67) (hr : rsum es < 17152) (hZ : ∀ z ∈ Z, z ≠ 67) (hl : B.length + (writB es).length + Z.length < 1000000) :
    opn (B ++ (writB es ++ Z)) = itsOf B.length es := by
  have lW := writB_len es
  have lX : (B ++ (writB es ++ Z)).length = B.length + (headsB es).length + rsum es + 10 + Z.length := by
    rw [List.length_append, List.length_append, lW]; omega
  have eX1 : B ++ (writB es ++ Z) = B ++ (headsB es ++ ((recsB ((headsB es).length + rsum es) 0 es ++ (67 :: 69 :: 78 :: 68 :: (lowB 2 es.length ++ lowB 4 (rsum es)))) ++ Z)) := by
    unfold writB
    rw [List.append_assoc (headsB es)]
  have eX2 : B ++ (writB es ++ Z) = (B ++ headsB es) ++ (recsB ((headsB es).length + rsum es) 0 es ++ ((67 :: 69 :: 78 :: 68 :: (lowB 2 es.length ++ lowB 4 (rsum es))) ++ Z)) := by
    rw [eX1]
    simp only [List.append_assoc]
  have eX3 : B ++ (writB es ++ Z) = ((B ++ headsB es) ++ recsB ((headsB es).length + rsum es) 0 es) ++ (67 :: 69 :: 78 :: 68 :: (lowB 2 es.length ++ (lowB 4 (rsum es) ++ Z))) := by
    rw [eX2]
    simp only [List.append_assoc, List.cons_append]
  have lP : ((B ++ headsB es) ++ recsB ((headsB es).length + rsum es) 0 es).length = B.length + (headsB es).length + rsum es := by
    rw [List.length_append, List.length_append, recsB_len]
  generalize hE : B.length + (headsB es).length + rsum es = E at lP
  have Y : ∀ k n, sl (B ++ (writB es ++ Z)) (E + k) n = sl (67 :: 69 :: 78 :: 68 :: (lowB 2 es.length ++ (lowB 4 (rsum es) ++ Z))) k n := fun k n => by rw [eX3, ← lP]; exact sl_skip _ _ _ _
  have f4 : sl (B ++ (writB es ++ Z)) (E + 4) 2 = lowB 2 es.length := (Y 4 2).trans rfl
  have f6 : sl (B ++ (writB es ++ Z)) (E + 6) 4 = lowB 4 (rsum es) := (Y 6 4).trans rfl
  have w4 := lw_of f4 (by omega) (by show (es.length : Int) < 65536; omega)
  have w6 := lw_of f6 (by omega) (by show (rsum es : Int) < 4294967296; omega)
  rw [Int.toNat_natCast] at w4 w6
  have f0 : sl (B ++ (writB es ++ Z)) E 4 = [67, 69, 78, 68] := (Y 0 4).trans rfl
  have hE1 : isE (B ++ (writB es ++ Z)) E = true := by
    unfold isE
    rw [f0, w6, decide_eq_true (by omega)]; rfl
  have hlast : lastE (B ++ (writB es ++ Z)) ((B ++ (writB es ++ Z)).length - 9) = some E := lastE_top _ E hE1 _ (by rw [lX]; omega) fun a ha _ => by
    obtain ⟨k, rfl⟩ : ∃ k, a = E + k := ⟨a - E, by omega⟩
    unfold isE
    rw [Y k 4]
    have := tail_no (es.length : Int) (rsum es : Int) Z (by omega) (by omega) (by omega) (by omega) (by omega) hZ k (by omega)
    rw [beq_eq_false_iff_ne.mpr this]; rfl
  have hd := dir_read (B ++ (writB es ++ Z)) E B.length ((headsB es).length + rsum es) (by omega) (by omega) es B _ (B ++ headsB es) _ 0 (B.length + (headsB es).length) [] h eX1 rfl eX2 (List.length_append ..) (by omega) (by omega)
  have hdr : drs (B ++ (writB es ++ Z)) = itsOf B.length es := by
    unfold drs
    rw [hlast]
    show dir _ E (lw _ (E + 4) 2) (E - lw _ (E + 6) 4) [] = _
    rw [w4, w6, show E - rsum es = B.length + (headsB es).length by omega]
    exact hd
  unfold opn
  rw [hdr]
  have ne : (itsOf B.length es).isEmpty = false := by
    cases es with
    | nil => simp at h0
    | cons e es => rfl
  rw [ne, if_neg Bool.false_ne_true]
  exact kst_its es B.length [] fun _ z => nomatch z
theorem res_writ (B Z : List Int) (es : List Ent) (h : ∀ e ∈ es, EntOk e) (h0 : 1 ≤ es.length) (h1 : es.length < 256) (h2 : es.length ≠ 67) (hr : rsum es < 17152) (hZ : ∀ z ∈ Z, z ≠ 67) (hl : B.length + (writB es).length + Z.length < 1000000) (hn : ∀ e ∈ es, nameF e.nm = e.nm) (nd : (es.map fun e => mk e.nm).Nodup) :
    (dd ((opn (B ++ (writB es ++ Z))).map nmS) 0 (opn (B ++ (writB es ++ Z)))).take 64 = (es.map entP).take 64 := by
  obtain ⟨e1, e2⟩ := its_fP es B.length hn
  rw [opn_writ B Z es h h0 h1 h2 hr hZ hl, dd_all _ _ 0 rfl (by rw [e2]; exact nd), e1]

end
set_option maxRecDepth 100000
set_option maxHeartbeats 4000000
open PySem PySem.Spec PyProof.Rows L2 Dv
noncomputable section
def pc_lp_write_crate_1_1 : Dv.Env → SR := sAsg 10 (eLc (iW (eVar 5)) (gNm 12) (tYes) (eB gOrd (aV (eVar 12) (aNil))) [12])
def pc_lp_write_crate_1_2 : Dv.Env → SR := sIf (eT (e2 gNe (eCall 1 d_plain_name (aV (eVar 10) (aNil))) (eVar 5))) (sRaise 1) (sNil)
def pc_lp_write_crate_1_3 : Dv.Env → SR := sFz 10 (sApp 2 (eTupM (mO (eB gLen (aV (eVar 1) (aNil))) (mV (eVar 10) (mNil)))))
def pc_lp_write_crate_1_4 : Dv.Env → SR := sExt 1 (eLst (aS (eC c_CRATE_SIGN) (aV (eVar 6) (aO (eC (.int 0)) (aS (eCall 2 d_to_low (aO (eB gLen (aV (eVar 10) (aNil))) (aO (eC (.int 2)) (aNil)))) (aS (eCall 2 d_to_low (aV (eVar 7) (aO (eC (.int 4)) (aNil)))) (aS (eCall 2 d_to_low (aV (eVar 8) (aO (eC (.int 4)) (aNil)))) (aNil))))))))
def pc_lp_write_crate_1_5 : Dv.Env → SR := sExt 1 (eLst (aS (eCall 2 d_to_low (aO (eB gLen (aV (eVar 9) (aNil))) (aO (eC (.int 4)) (aNil)))) (aS (eVar 10) (aS (eVar 9) (aNil)))))
theorem pc_lp_write_crate_1 : lp_write_crate_1 = sq pc_lp_write_crate_1_1 (sq pc_lp_write_crate_1_2 (sq pc_lp_write_crate_1_3 (sq pc_lp_write_crate_1_4 (pc_lp_write_crate_1_5)))) := rfl

def plD (o : Bool) (p : Int × List Int) : D := .tup [.int p.1, .lst o (dInts p.2)]
theorem plD_pureL : ∀ ps : List (Int × List Int), D.pureL (ps.map (plD false)) = true
  | [] => rfl
  | p :: ps => by
    have ih := plD_pureL ps
    rw [List.map_cons]
    show ((plD false p).pure && D.pureL (ps.map (plD false))) = true
    rw [ih]
    simp [plD, D.pure, D.pureL]
theorem tl_turn (x1 x3 : Option D) (n r : Int) (F : List Int) (hr : Builtin.bitAnd n 255 = r) (hF : F.length < 1000000) : lp_to_low_1 [some (.int n), x1, some (.lst true (dInts F)), x3] = .nx [some (.int (n / 256)), x1, some (.lst true (dInts (F ++ [r]))), x3] := by
  have z : F.length < 16777216 := by omega
  simp [lp_to_low_1, hr, onL, z]
theorem tl_end (n s : Int) (N : Nat) (R : List Int) (y0 y3 : Option D) (ws : W62 s) (hN : s.toNat = N) (h : forL (gNm 3) lp_to_low_1 (rngL 0 N) [some (.int n), some (.int s), some (.lst true []), none] = .nx [y0, some (.int s), some (.lst true (dInts R)), y3]) : d_to_low [.int n, .int s] = .ok (.lst true (dInts R)) := by
  simp [d_to_low, b_to_low, fnD, ws, hN, h]
theorem and255 (n : Int) : Builtin.bitAnd n 255 = n % 256 := by
  by_cases h : 0 ≤ n
  · rw [show (255 : Int) = 2 ^ 8 - 1 by decide, Bits.bitAnd_mask 8 h]; rfl
  · rw [bitAnd_m8]
theorem lowB_snoc : ∀ (k : Nat) (n : Int), lowB (k + 1) n = lowB k n ++ [n / 256 ^ k % 256]
  | 0, n => by simp [lowB]
  | k + 1, n => by
    rw [lowB, lowB_snoc k (n / 256), lowB, List.cons_append, Int.pow_succ, Int.mul_comm, ← Int.ediv_ediv_of_nonneg (by decide)]
theorem tl_loop (n s : Int) (b : Dv.Env → SR) (hb : ∀ (x1 x3 : Option D) (n r : Int) (F : List Int), Builtin.bitAnd n 255 = r → F.length < 1000000 → b [some (.int n), x1, some (.lst true (dInts F)), x3] = .nx [some (.int (n / 256)), x1, some (.lst true (dInts (F ++ [r]))), x3]) (k : Nat) (hk : k ≤ 1000) :
    ∃ y0 y3, forL (gNm 3) b (rngL 0 k) [some (.int n), some (.int s), some (.lst true []), none] = .nx [y0, some (.int s), some (.lst true (dInts (lowB k n))), y3] := by
  obtain ⟨ρ', e, y3, rfl⟩ := for_rng (g := gNm 3) (b := b) (fun j ρ => ∃ (y3 : Option D), ρ = [some (.int (n / 256 ^ j)), some (.int s), some (.lst true (dInts (lowB j n))), y3]) k [some (.int n), some (.int s), some (.lst true []), none] (fun j ρ hj H => by
    obtain ⟨y3, rfl⟩ := H
    refine ⟨_, _, rfl, .inl (hb _ (some (.int (j : Int))) _ _ _ (and255 _) (by rw [lowB_len]; omega)), some (.int (j : Int)), ?_⟩
    rw [lowB_snoc, Int.pow_succ, ← Int.ediv_ediv_of_nonneg (Int.le_of_lt (Int.pow_pos (by decide)))]) ⟨none, by simp [lowB]⟩
  exact ⟨_, y3, e⟩
theorem m_to_low (n : Int) (k : Nat) (hk : k ≤ 1000) : d_to_low [.int n, .int (k : Int)] = .ok (.lst true (dInts (lowB k n))) := by
  obtain ⟨y0, y3, e⟩ := tl_loop n (k : Int) lp_to_low_1 (fun x1 x3 n r F h1 h2 => tl_turn x1 x3 n r F h1 h2) k hk
  exact tl_end n k k _ y0 y3 (w62 (by omega) (by omega)) (Int.toNat_natCast k) e
theorem m_lowX (n : Int) (k : Nat) (hk : k ≤ 1000) : d__law_low [.int n, .int (k : Int)] = .ok (.lst true (dInts (lowB k n))) := by
  obtain ⟨y0, y3, e⟩ := tl_loop n (k : Int) lp__law_low_1 (fun x1 x3 n r F h1 h2 => low_turn x1 x3 n r F h1 h2) k hk
  exact low_end n k k _ y0 y3 (w62 (by omega) (by omega)) (Int.toNat_natCast k) e
/-! ## write_crate: one entry -/
theorem ord_lcv (v : Nat) (ρ : Dv.Env) (hρ : v < ρ.length) (x : Str) (hl : x.cps.toList.length ≤ 16777216) : lcL (gNm v) tYes (eB gOrd (aV (eVar v) (aNil))) ρ (x.cps.toList.map fun c => .str ⟨#[c]⟩) [] = .ok (.lst true (dInts (cps x))) := by
  rw [lcL_map ordD _ (fun d hd => by
    obtain ⟨c, _, rfl⟩ := List.mem_map.mp hd
    refine ⟨_, rfl, rfl, ?_⟩
    have e : (ρ.set v (some (.str ⟨#[c]⟩)))[v]?.getD none = some (.str ⟨#[c]⟩) := by rw [List.getElem?_set_self hρ]; rfl
    simp [e, sign_len, ordD]) (by rw [List.length_map]; exact hl), List.map_map]
  unfold cps dInts
  rw [List.map_map]
  rfl
theorem wc_a (x0 x1 x2 x3 x4 x6 x7 x8 x9 x10 x11 x13 : Option D) (x y : Str) (hl : x.cps.toList.length ≤ 16777216) (hp : d_plain_name [.lst false (dInts (cps x))] = .ok (.str y)) (T : Dv.Env → SR) :
    sq pc_lp_write_crate_1_1 (sq pc_lp_write_crate_1_2 T) [x0, x1, x2, x3, x4, some (.str x), x6, x7, x8, x9, x10, x11, none, x13] = if y = x then T [x0, x1, x2, x3, x4, some (.str x), x6, x7, x8, x9, some (.lst true (dInts (cps x))), x11, none, x13] else .ex 1 [x0, x1, x2, x3, x4, some (.str x), x6, x7, x8, x9, some (.lst true (dInts (cps x))), x11, none, x13] := by
  have q := fun (ρ : Dv.Env) (h : 12 < ρ.length) => ord_lcv 12 ρ h x hl
  by_cases h : y = x
  · rw [if_pos h]
    simp [pc_lp_write_crate_1_1, pc_lp_write_crate_1_2, callF, wipeE, q, hp, h]
  · rw [if_neg h]
    have hb : (y == x) = false := beq_eq_false_iff_ne.mpr h
    simp [pc_lp_write_crate_1_1, pc_lp_write_crate_1_2, callF, wipeE, q, hp, hb]
theorem wc_b (x0 x3 x4 x5 x6 x7 x8 x9 x11 x12 x13 : Option D) (A C : List Int) (P : List D) (n : Int) (hn : (A.length : Int) = n) (hl : P.length < 1000) (T : Dv.Env → SR) :
    sq pc_lp_write_crate_1_3 T [x0, some (.lst true (dInts A)), some (.lst true P), x3, x4, x5, x6, x7, x8, x9, some (.lst true (dInts C)), x11, x12, x13] = T [x0, some (.lst true (dInts A)), some (.lst true (P ++ [plD false (n, C)])), x3, x4, x5, x6, x7, x8, x9, some (.lst false (dInts C)), x11, x12, x13] := by
  have hl' : P.length < 16777216 := by omega
  simp [pc_lp_write_crate_1_3, frzAt, hn, onL, hl', plD]
theorem wc_c (x0 x2 x3 x4 x5 x9 x11 x12 x13 : Option D) (A C L2 S4 T4 : List Int) (me sz tt n : Int) (hn : (C.length : Int) = n) (h2 : d_to_low [.int n, .int 2] = .ok (.lst true (dInts L2))) (h4 : d_to_low [.int sz, .int 4] = .ok (.lst true (dInts S4))) (h4' : d_to_low [.int tt, .int 4] = .ok (.lst true (dInts T4))) (lA : A.length ≤ 1000000) (l2 : L2.length = 2) (l4 : S4.length = 4) (l4' : T4.length = 4) (T : Dv.Env → SR) :
    sq pc_lp_write_crate_1_4 T [x0, some (.lst true (dInts A)), x2, x3, x4, x5, some (.int me), some (.int sz), some (.int tt), x9, some (.lst false (dInts C)), x11, x12, x13] = T [x0, some (.lst true (dInts (A ++ (67 :: 82 :: 84 :: 49 :: me :: 0 :: (L2 ++ (S4 ++ T4)))))), x2, x3, x4, x5, some (.int me), some (.int sz), some (.int tt), x9, some (.lst false (dInts C)), x11, x12, x13] := by
  have z : A.length ≤ 16777200 := by omega
  have e : dInts A ++ D.int 67 :: D.int 82 :: D.int 84 :: D.int 49 :: D.int me :: D.int 0 :: dInts (L2 ++ (S4 ++ T4)) = dInts (A ++ (67 :: 82 :: 84 :: 49 :: me :: 0 :: (L2 ++ (S4 ++ T4)))) := dInts_app A (67 :: 82 :: 84 :: 49 :: me :: 0 :: (L2 ++ (S4 ++ T4)))
  simp [pc_lp_write_crate_1_4, callF, c_CRATE_SIGN, hn, h2, h4, h4', items, onL, l2, l4, l4', z, e]
theorem wc_d (x0 x2 x3 x4 x5 x6 x7 x8 x11 x12 x13 : Option D) (A C L4 Q : List Int) (n : Int) (hn : (Q.length : Int) = n) (h4 : d_to_low [.int n, .int 4] = .ok (.lst true (dInts L4))) (lA : A.length ≤ 1000000) (l4 : L4.length = 4) (lC : C.length ≤ 1000) (lQ : Q.length ≤ 1000000) :
    pc_lp_write_crate_1_5 [x0, some (.lst true (dInts A)), x2, x3, x4, x5, x6, x7, x8, some (.tup (dInts Q)), some (.lst false (dInts C)), x11, x12, x13] = .nx [x0, some (.lst true (dInts (A ++ (L4 ++ (C ++ Q))))), x2, x3, x4, x5, x6, x7, x8, some (.tup (dInts Q)), some (.lst false (dInts C)), x11, x12, x13] := by
  have z1 : 4 + (C.length + Q.length) ≤ 16777216 := by omega
  have z2 : A.length + (4 + (C.length + Q.length)) ≤ 16777216 := by omega
  simp [pc_lp_write_crate_1_5, callF, hn, h4, items, onL, l4, z1, z2, lstD]

end
set_option maxRecDepth 100000
set_option maxHeartbeats 4000000
open PySem PySem.Spec PyProof.Rows L2 Dv
noncomputable section
def pc_b_write_crate_1 : Dv.Env → SR := sAsg 1 (eLstM (mNil))
def pc_b_write_crate_2 : Dv.Env → SR := sAsg 2 (eLstM (mNil))
def pc_b_write_crate_3 : Dv.Env → SR := sFor (iW (eVar 0)) (gTp (gsCons (gNm 5) (gsCons (gNm 6) (gsCons (gNm 7) (gsCons (gNm 8) (gsCons (gNm 9) (gsNil))))))) lp_write_crate_1
def pc_b_write_crate_4 : Dv.Env → SR := sFz 2 (sAsg 3 (eB gSum (aV (eLc (iW (eVar 2)) (gTp (gsCons (gNm 13) (gsCons (gNm 10) (gsNil)))) (tYes) (e2 gAdd (eC c_RECORD_SIZE) (eB gLen (aV (eVar 10) (aNil)))) [13, 10]) (aNil))))
def pc_b_write_crate_5 : Dv.Env → SR := sAsg 4 (e2 gAdd (eB gLen (aV (eVar 1) (aNil))) (eVar 3))
def pc_b_write_crate_6 : Dv.Env → SR := sFz 2 (sFor (iW (eVar 2)) (gTp (gsCons (gNm 11) (gsCons (gNm 10) (gsNil)))) lp_write_crate_2)
def pc_b_write_crate_7 : Dv.Env → SR := sExt 1 (eLst (aS (eC c_END_SIGN) (aS (eCall 2 d_to_low (aO (eB gLen (aV (eVar 2) (aNil))) (aO (eC (.int 2)) (aNil)))) (aS (eCall 2 d_to_low (aV (eVar 3) (aO (eC (.int 4)) (aNil)))) (aNil)))))
def pc_b_write_crate_8 : Dv.Env → SR := sRet (eVar 1)
theorem pc_b_write_crate : b_write_crate = sq pc_b_write_crate_1 (sq pc_b_write_crate_2 (sq pc_b_write_crate_3 (sq pc_b_write_crate_4 (sq pc_b_write_crate_5 (sq pc_b_write_crate_6 (sq pc_b_write_crate_7 (pc_b_write_crate_8))))))) := rfl

/-- where each head begins, with its name -/
def plOf : Nat → List Ent → List (Int × List Int)
  | _, [] => []
  | a, e :: es => ((a : Int), e.nm) :: plOf (a + (headB e).length) es
structure EntW (e : Ent) : Prop where
  ok : EntOk e
  pn : nameF e.nm = e.nm
theorem EntW.nn {e : Ent} (h : EntW e) : ∀ c ∈ e.nm, 0 ≤ c := fun c hc => (h.ok.nb c hc).1
theorem ent_cps {e : Ent} (h : EntW e) : cps (mk e.nm) = e.nm := cps_mk _ h.nn
theorem ent_cl {e : Ent} (h : EntW e) : (mk e.nm).cps.toList.length ≤ 16777216 := by
  rw [mk_cps, List.length_map]
  have := h.ok.nl
  omega
theorem wc1_turn (x0 x3 x4 x10 x11 x13 : Option D) (A : List Int) (P : List D) (e : Ent) (he : EntW e) (lA : A.length ≤ 900000) (lP : P.length < 1000) :
    lp_write_crate_1 [x0, some (.lst true (dInts A)), some (.lst true P), x3, x4, some (.str (mk e.nm)), some (.int e.me), some (.int e.sz), some (.int e.tt), some (.tup (dInts e.pt)), x10, x11, none, x13] =
      .nx [x0, some (.lst true (dInts (A ++ headB e))), some (.lst true (P ++ [plD false ((A.length : Int), e.nm)])), x3, x4, some (.str (mk e.nm)), some (.int e.me), some (.int e.sz), some (.int e.tt), some (.tup (dInts e.pt)), some (.lst false (dInts e.nm)), x11, none, x13] := by
  have nl := he.ok.nl
  have pl := he.ok.pl
  have hp := m_plain_name e.nm (by omega)
  rw [he.pn] at hp
  have hp' : d_plain_name [.lst false (dInts (cps (mk e.nm)))] = .ok (.str (mk e.nm)) := by rw [ent_cps he]; exact hp
  rw [pc_lp_write_crate_1, wc_a _ _ _ _ _ _ _ _ _ _ _ _ (mk e.nm) (mk e.nm) (ent_cl he) hp', if_pos rfl, ent_cps he, wc_b _ _ _ _ _ _ _ _ _ _ _ A e.nm P _ rfl lP,
    wc_c _ _ _ _ _ _ _ _ _ A e.nm _ _ _ e.me e.sz e.tt _ rfl (m_to_low _ 2 (by omega)) (m_to_low _ 4 (by omega)) (m_to_low _ 4 (by omega)) (by omega) (lowB_len ..) (lowB_len ..) (lowB_len ..),
    wc_d _ _ _ _ _ _ _ _ _ _ _ _ e.nm _ e.pt _ rfl (m_to_low _ 4 (by omega)) (by simp only [List.length_append, List.length_cons, lowB_len]; omega) (lowB_len ..) (by omega) (by omega)]
  have : A ++ (67 :: 82 :: 84 :: 49 :: e.me :: 0 :: (lowB 2 e.nm.length ++ (lowB 4 e.sz ++ lowB 4 e.tt))) ++ (lowB 4 e.pt.length ++ (e.nm ++ e.pt)) = A ++ headB e := by
    unfold headB
    simp only [List.append_assoc, List.cons_append]
  rw [this]
theorem wc1_loop (x0 x3 x4 x11 x13 : Option D) : ∀ (es : List Ent) (A : List Int) (P : List D) (x5 x6 x7 x8 x9 x10 : Option D), (∀ e ∈ es, EntW e) → A.length + (headsB es).length ≤ 900000 → P.length + es.length < 1000 →
    ∃ y5 y6 y7 y8 y9 y10, forL (gTp (gsCons (gNm 5) (gsCons (gNm 6) (gsCons (gNm 7) (gsCons (gNm 8) (gsCons (gNm 9) gsNil)))))) lp_write_crate_1 (es.map entP) [x0, some (.lst true (dInts A)), some (.lst true P), x3, x4, x5, x6, x7, x8, x9, x10, x11, none, x13] =
      .nx [x0, some (.lst true (dInts (A ++ headsB es))), some (.lst true (P ++ (plOf A.length es).map (plD false))), x3, x4, y5, y6, y7, y8, y9, y10, x11, none, x13]
  | [], A, P, x5, x6, x7, x8, x9, x10, _, _, _ => ⟨x5, x6, x7, x8, x9, x10, by simp only [headsB, plOf, List.append_nil, List.map_nil]; rfl⟩
  | e :: es, A, P, x5, x6, x7, x8, x9, x10, h, hA, hP => by
    rw [headsB, List.length_append] at hA
    rw [List.length_cons] at hP
    obtain ⟨y5, y6, y7, y8, y9, y10, ih⟩ := wc1_loop x0 x3 x4 x11 x13 es (A ++ headB e) (P ++ [plD false ((A.length : Int), e.nm)]) (some (.str (mk e.nm))) (some (.int e.me)) (some (.int e.sz)) (some (.int e.tt)) (some (.tup (dInts e.pt))) (some (.lst false (dInts e.nm))) (fun x hx => h x (List.mem_cons_of_mem _ hx)) (by rw [List.length_append]; omega) (by rw [List.length_append, List.length_singleton]; omega)
    refine ⟨y5, y6, y7, y8, y9, y10, (fl_nx rfl (wc1_turn x0 x3 x4 x10 x11 x13 A P e (h e List.mem_cons_self) (by omega) (by omega))).trans ?_⟩
    rw [ih, headsB, plOf, List.map_cons, List.length_append]
    simp only [List.append_assoc, List.cons_append, List.nil_append]
theorem wc2_turn (x0 x2 x3 x5 x6 x7 x8 x9 x12 x13 : Option D) (A C L4 L2 : List Int) (p a d n : Int) (hd : p - a = d) (hn : (C.length : Int) = n) (h4 : d_to_low [.int d, .int 4] = .ok (.lst true (dInts L4))) (h2 : d_to_low [.int n, .int 2] = .ok (.lst true (dInts L2))) (l4 : L4.length = 4) (l2 : L2.length = 2) (lA : A.length ≤ 1000000) (lC : C.length ≤ 1000) :
    lp_write_crate_2 [x0, some (.lst true (dInts A)), x2, x3, some (.int p), x5, x6, x7, x8, x9, some (.lst false (dInts C)), some (.int a), x12, x13] = .nx [x0, some (.lst true (dInts (A ++ (67 :: 68 :: 73 :: 82 :: (L4 ++ (L2 ++ C)))))), x2, x3, some (.int p), x5, x6, x7, x8, x9, some (.lst false (dInts C)), some (.int a), x12, x13] := by
  have z1 : 4 + (2 + C.length) + 1 + 1 + 1 + 1 ≤ 16777216 := by omega
  have z2 : A.length + (4 + (2 + C.length) + 1 + 1 + 1 + 1) ≤ 16777216 := by omega
  have e : dInts A ++ D.int 67 :: D.int 68 :: D.int 73 :: D.int 82 :: dInts (L4 ++ (L2 ++ C)) = dInts (A ++ (67 :: 68 :: 73 :: 82 :: (L4 ++ (L2 ++ C)))) := dInts_app A (67 :: 68 :: 73 :: 82 :: (L4 ++ (L2 ++ C)))
  simp [lp_write_crate_2, callF, c_RECORD_SIGN, hd, hn, h4, h2, items, onL, l4, l2, z1, z2, e, lstD]
theorem wc2_loop (x0 x2 x3 x5 x6 x7 x8 x9 x12 x13 : Option D) (p : Nat) : ∀ (es : List Ent) (a : Nat) (A : List Int) (x10 x11 : Option D), (∀ e ∈ es, EntW e) → A.length + rsum es ≤ 1000000 →
    ∃ y10 y11, forL (gTp (gsCons (gNm 11) (gsCons (gNm 10) gsNil))) lp_write_crate_2 ((plOf a es).map (plD false)) [x0, some (.lst true (dInts A)), x2, x3, some (.int (p : Int)), x5, x6, x7, x8, x9, x10, x11, x12, x13] =
      .nx [x0, some (.lst true (dInts (A ++ recsB p a es))), x2, x3, some (.int (p : Int)), x5, x6, x7, x8, x9, y10, y11, x12, x13]
  | [], a, A, x10, x11, _, _ => ⟨x10, x11, by rw [plOf, recsB, List.append_nil]; rfl⟩
  | e :: es, a, A, x10, x11, h, hA => by
    rw [rsum] at hA
    have he := h e List.mem_cons_self
    have nl := he.ok.nl
    obtain ⟨y10, y11, ih⟩ := wc2_loop x0 x2 x3 x5 x6 x7 x8 x9 x12 x13 p es (a + (headB e).length) (A ++ recB ((p : Int) - (a : Int)) e.nm) (some (.lst false (dInts e.nm))) (some (.int a)) (fun x hx => h x (List.mem_cons_of_mem _ hx)) (by rw [List.length_append, recB_len]; omega)
    refine ⟨y10, y11, (fl_nx rfl (wc2_turn x0 x2 x3 x5 x6 x7 x8 x9 x12 x13 A e.nm _ _ (p : Int) a _ _ rfl rfl (m_to_low _ 4 (by omega)) (m_to_low _ 2 (by omega)) (lowB_len ..) (lowB_len ..) (by omega) (by omega))).trans ?_⟩
    rw [recsB, ← List.append_assoc A]
    exact ih

end
set_option maxRecDepth 100000
set_option maxHeartbeats 4000000
open PySem PySem.Spec PyProof.Rows L2 Dv
noncomputable section
theorem gAdd_dI (o p : Bool) (a b : List Int) (h : a.length + b.length ≤ 16777216) : gAdd (.lst o (dInts a)) (.lst p (dInts b)) = some (.lst true (dInts (a ++ b))) := by
  rw [gAdd_lst, if_pos ⟨dInts_pure _, dInts_pure _, by rw [dInts_len, dInts_len]; exact h⟩, dInts_app]
theorem rs_lc (ρ : Dv.Env) (hρ : ρ.length = 14) : ∀ (es : List Ent) (a : Nat), es.length ≤ 1000 → ∃ zs : List Int, lcL (gTp (gsCons (gNm 13) (gsCons (gNm 10) (gsNil)))) tYes (e2 gAdd (eC c_RECORD_SIZE) (eB gLen (aV (eVar 10) (aNil)))) ρ ((plOf a es).map (plD false)) [] = .ok (.lst true (dInts zs)) ∧ zs.sum = (rsum es : Int) := by
  intro es a hl
  have hlen : ∀ (es : List Ent) (a : Nat), (plOf a es).length = es.length := by
    intro es
    induction es with
    | nil => intro a; rfl
    | cons e es ih => intro a; rw [plOf, List.length_cons, ih, List.length_cons]
  have h := lcL_map (g := gTp (gsCons (gNm 13) (gsCons (gNm 10) (gsNil)))) (t := tYes) (f := e2 gAdd (eC c_RECORD_SIZE) (eB gLen (aV (eVar 10) (aNil)))) (ρ := ρ) (fun d => match d with | .tup [_, .lst _ xs] => .int (10 + (xs.length : Int)) | d => d) ((plOf a es).map (plD false)) (fun u hd => by
    obtain ⟨p, _, rfl⟩ := List.mem_map.mp hd
    refine ⟨(ρ.set 13 (some (.int p.1))).set 10 (some (.lst false (dInts p.2))), rfl, rfl, ?_⟩
    have e10 : ((ρ.set 13 (some (.int p.1))).set 10 (some (.lst false (dInts p.2))))[10]?.getD none = some (.lst false (dInts p.2)) := by
      rw [List.getElem?_set_self (by rw [List.length_set]; omega)]; rfl
    simp only [e2_eq, eC_eq, eB_eq, aV_eq, aNil_eq, eVar_eq, e10, R.opt_some, R.bind_ok, gLen_lst]
    simp [c_RECORD_SIZE, plD]) (by rw [List.length_map, hlen]; omega)
  refine ⟨(plOf a es).map fun p => 10 + (p.2.length : Int), ?_, ?_⟩
  · rw [h]
    congr 2
    unfold dInts
    rw [List.map_map, List.map_map]
    refine List.map_congr_left fun p _ => ?_
    simp [plD]
  · clear h hl
    induction es generalizing a with
    | nil => rfl
    | cons e es ih => rw [plOf, List.map_cons, List.sum_cons, ih (a + (headB e).length), rsum]; simp only [Int.natCast_add]; omega
theorem wcr_1 (P : List D) (pP : D.pureL P = true) (ρ : Dv.Env) (h : forL (gTp (gsCons (gNm 5) (gsCons (gNm 6) (gsCons (gNm 7) (gsCons (gNm 8) (gsCons (gNm 9) gsNil)))))) lp_write_crate_1 P [some (.lst false P), some (.lst true []), some (.lst true []), none, none, none, none, none, none, none, none, none, none, none] = .nx ρ) (T : Dv.Env → SR) :
    sq pc_b_write_crate_1 (sq pc_b_write_crate_2 (sq pc_b_write_crate_3 T)) [some (.lst false P), none, none, none, none, none, none, none, none, none, none, none, none, none] = T ρ := by
  simp [pc_b_write_crate_1, pc_b_write_crate_2, pc_b_write_crate_3, pP, h]
theorem wcr_4 (x0 x5 x6 x7 x8 x9 x10 : Option D) (A zs : List Int) (P : List D) (r n p : Int) (c1 : D.coldL P = true) (c2 : D.frzL P = P) (c3 : D.pureL P = true) (hlc : lcL (gTp (gsCons (gNm 13) (gsCons (gNm 10) (gsNil)))) tYes (e2 gAdd (eC c_RECORD_SIZE) (eB gLen (aV (eVar 10) (aNil)))) [x0, some (.lst true (dInts A)), some (.lst false P), none, none, x5, x6, x7, x8, x9, none, none, none, none] P [] = .ok (.lst true (dInts zs))) (hr : zs.sum = r) (hn : (A.length : Int) = n) (hp : n + r = p) (T : Dv.Env → SR) :
    sq pc_b_write_crate_4 (sq pc_b_write_crate_5 T) [x0, some (.lst true (dInts A)), some (.lst true P), none, none, x5, x6, x7, x8, x9, x10, none, none, none] = T [x0, some (.lst true (dInts A)), some (.lst false P), some (.int r), some (.int p), x5, x6, x7, x8, x9, x10, none, none, none] := by
  simp [pc_b_write_crate_4, pc_b_write_crate_5, frzAt, c1, c2, c3, wipeE, hlc, hr, hn, hp]
theorem wcr_6 (x0 x1 x3 x4 x5 x6 x7 x8 x9 x10 : Option D) (P : List D) (c1 : D.coldL P = true) (c2 : D.frzL P = P) (c3 : D.pureL P = true) (ρ : Dv.Env) (h : forL (gTp (gsCons (gNm 11) (gsCons (gNm 10) gsNil))) lp_write_crate_2 P [x0, x1, some (.lst false P), x3, x4, x5, x6, x7, x8, x9, x10, none, none, none] = .nx ρ) (T : Dv.Env → SR) :
    sq pc_b_write_crate_6 T [x0, x1, some (.lst false P), x3, x4, x5, x6, x7, x8, x9, x10, none, none, none] = T ρ := by
  simp [pc_b_write_crate_6, frzAt, c1, c2, c3, h]
theorem wcr_7 (x0 x4 x5 x6 x7 x8 x9 x10 x11 x12 x13 : Option D) (A L2 L4 : List Int) (P : List D) (r n : Int) (hn : (P.length : Int) = n) (h2 : d_to_low [.int n, .int 2] = .ok (.lst true (dInts L2))) (h4 : d_to_low [.int r, .int 4] = .ok (.lst true (dInts L4))) (l2 : L2.length = 2) (l4 : L4.length = 4) (lA : A.length ≤ 1000000) :
    (sq pc_b_write_crate_7 pc_b_write_crate_8 [x0, some (.lst true (dInts A)), some (.lst false P), some (.int r), x4, x5, x6, x7, x8, x9, x10, x11, x12, x13]).out = .ok (.lst true (dInts (A ++ (67 :: 69 :: 78 :: 68 :: (L2 ++ L4))))) := by
  have e : dInts A ++ D.int 67 :: D.int 69 :: D.int 78 :: D.int 68 :: dInts (L2 ++ L4) = dInts (A ++ (67 :: 69 :: 78 :: 68 :: (L2 ++ L4))) := dInts_app A (67 :: 69 :: 78 :: 68 :: (L2 ++ L4))
  have z : A.length + 10 ≤ 16777216 := by omega
  have z2 : A.length ≤ 16777206 := by omega
  simp [pc_b_write_crate_7, pc_b_write_crate_8, callF, c_END_SIGN, hn, h2, h4, items, onL, l2, l4, e, lstD, z, z2]
theorem plOf_len : ∀ (es : List Ent) (a : Nat), (plOf a es).length = es.length
  | [], a => rfl
  | e :: es, a => by rw [plOf, List.length_cons, plOf_len es, List.length_cons]
theorem entP_pure : ∀ es : List Ent, D.pureL (es.map entP) = true
  | [] => rfl
  | e :: es => by
    rw [List.map_cons]
    show ((entP e).pure && D.pureL (es.map entP)) = true
    rw [entP_pure es]
    simp [entP, D.pure, D.pureL]
theorem m_write (es : List Ent) (h : ∀ e ∈ es, EntW e) (hl : (headsB es).length + rsum es ≤ 900000) (hn : es.length < 900) : d_write_crate [.lst false (es.map entP)] = .ok (.lst true (dInts (writB es))) := by
  obtain ⟨y5, y6, y7, y8, y9, y10, e1⟩ := wc1_loop (some (.lst false (es.map entP))) none none none none es [] [] none none none none none none h (by simpa using by omega) (by simpa using by omega)
  rw [List.nil_append, List.nil_append] at e1
  obtain ⟨zs, hlc, hz⟩ := rs_lc [some (.lst false (es.map entP)), some (.lst true (dInts (headsB es))), some (.lst false ((plOf 0 es).map (plD false))), none, none, y5, y6, y7, y8, y9, none, none, none, none] rfl es 0 (by omega)
  obtain ⟨z10, z11, e2⟩ := wc2_loop (some (.lst false (es.map entP))) (some (.lst false ((plOf 0 es).map (plD false)))) (some (.int (rsum es : Int))) y5 y6 y7 y8 y9 none none ((headsB es).length + rsum es) es 0 (headsB es) y10 none h (by omega)
  have pP := plD_pureL (plOf 0 es)
  show (b_write_crate [some (.lst false (es.map entP)), none, none, none, none, none, none, none, none, none, none, none, none, none]).out = _
  rw [pc_b_write_crate, wcr_1 _ (entP_pure es) _ e1]
  show (sq pc_b_write_crate_4 _ [_, _, some (.lst true ((plOf 0 es).map (plD false))), _, _, _, _, _, _, _, _, _, _, _]).out = _
  rw [wcr_4 _ _ _ _ _ _ _ _ zs _ _ _ _ (D.pureL_cold _ pP) (D.pureL_frzL _ pP) pP hlc hz rfl (show ((headsB es).length : Int) + (rsum es : Int) = (((headsB es).length + rsum es : Nat) : Int) by omega), wcr_6 _ _ _ _ _ _ _ _ _ _ _ (D.pureL_cold _ pP) (D.pureL_frzL _ pP) pP _ e2,
    wcr_7 _ _ _ _ _ _ _ _ _ _ _ _ _ _ _ _ _ (show (((plOf 0 es).map (plD false)).length : Int) = (es.length : Int) by rw [List.length_map, plOf_len]) (m_to_low _ 2 (by omega)) (m_to_low _ 4 (by omega)) (lowB_len ..) (lowB_len ..) (by rw [List.length_append, recsB_len]; omega)]
  unfold writB
  rw [List.append_assoc]

end
set_option maxRecDepth 100000
set_option maxHeartbeats 4000000
open PySem PySem.Spec PyProof.Rows L2 Dv
noncomputable section
namespace Cr
/-! the law's crate: some bytes -/
theorem Byt.app {a b : List Int} (h : Byt a) (g : Byt b) : Byt (a ++ b) := fun x hx => (List.mem_append.mp hx).elim (h x) (g x)
theorem Byt.nil : Byt [] := fun _ z => nomatch z
theorem m255 (x : Int) : ∃ r, Builtin.bitAnd x 255 = r ∧ 0 ≤ r ∧ r < 256 := by
  refine ⟨_, rfl, ?_⟩
  by_cases h : 0 ≤ x
  · rw [show (255 : Int) = 2 ^ 8 - 1 by decide, Bits.bitAnd_mask 8 h]
    have : (2 : Int) ^ 8 = 256 := by decide
    rw [this]; omega
  · unfold Builtin.bitAnd
    rw [decide_eq_false h, decide_eq_true (show (0 : Int) ≤ 255 by omega)]
    show 0 ≤ (255 : Int) - ((255 &&& (Builtin.bitNot x).toNat : Nat) : Int) ∧ (255 : Int) - ((255 &&& (Builtin.bitNot x).toNat : Nat) : Int) < 256
    have := Nat.and_le_left (n := 255) (m := (Builtin.bitNot x).toNat)
    omega
theorem m_rowB (c : Int) (n : Nat) (hn : n ≤ 1000) : ∃ bs : List Int, d__law_row [.int c, .int n] = .ok (.lst true (dInts bs)) ∧ bs.length = n ∧ Byt bs := by
  by_cases hc : (10 : Int) ^ 18 ≤ (if c < 0 then -c else c)
  · obtain ⟨ρ', e, bs, l, b, d, rfl, h1, h2⟩ := for_rng (g := gNm 5) (b := lp__law_row_1) (fun j ρ => ∃ (bs : List Int) (l : Int) (b d : Option D), ρ = [some (.int c), some (.int n), some (.lst true (dInts bs)), some (.int l), b, d] ∧ bs.length = j ∧ Byt bs)
      n [some (.int c), some (.int n), some (.lst true []), some (.int (if c < 0 then -c else c)), none, none] (fun j ρ hj H => by
        obtain ⟨bs, l, b, d, rfl, h1, h2⟩ := H
        obtain ⟨r, hr, r0, r1⟩ := m255 l
        exact ⟨_, _, rfl, .inl (row1_core c n l j bs b r hr (by omega)), _, _, _, _, rfl, by rw [List.length_append, h1]; rfl, h2.app fun x hx => by rw [List.mem_singleton.mp hx]; exact ⟨r0, r1⟩⟩) ⟨[], _, none, none, rfl, rfl, Byt.nil⟩
    exact ⟨bs, row_end1 c n _ n rfl (w62 (by omega) (by omega)) (Int.toNat_natCast n) hc bs _ b d e, h1, h2⟩
  · obtain ⟨ρ', e, bs, s, d, rfl, h1, h2⟩ := for_rng (g := gNm 5) (b := lp__law_row_2) (fun j ρ => ∃ (bs : List Int) (s : Int) (d : Option D), ρ = [some (.int c), some (.int n), some (.lst true (dInts bs)), some (.int (if c < 0 then -c else c)), some (.int s), d] ∧ bs.length = j ∧ Byt bs)
      n [some (.int c), some (.int n), some (.lst true []), some (.int (if c < 0 then -c else c)), some (.int ((if c < 0 then -c else c) % 2147483629 + 1)), none] (fun j ρ hj H => by
        obtain ⟨bs, s, d, rfl, h1, h2⟩ := H
        obtain ⟨r, hr, r0, r1⟩ := m255 (s * 48271 % 2147483647 / 7 + s * 48271 % 2147483647)
        exact ⟨_, _, rfl, .inl (row2_core c n _ s j _ r bs rfl hr (by omega)), _, _, _, rfl, by rw [List.length_append, h1]; rfl, h2.app fun x hx => by rw [List.mem_singleton.mp hx]; exact ⟨r0, r1⟩⟩) ⟨[], _, none, rfl, rfl, Byt.nil⟩
    exact ⟨bs, row_end2 c n _ _ n rfl rfl (w62 (by omega) (by omega)) (Int.toNat_natCast n) hc bs _ _ d e, h1, h2⟩
theorem low_turn (x1 x3 : Option D) (n r : Int) (F : List Int) (hr : Builtin.bitAnd n 255 = r) (hF : F.length < 1000000) : lp__law_low_1 [some (.int n), x1, some (.lst true (dInts F)), x3] = .nx [some (.int (n / 256)), x1, some (.lst true (dInts (F ++ [r]))), x3] := by
  have z : F.length < 16777216 := by omega
  simp [lp__law_low_1, hr, onL, z]
theorem low_end (n s : Int) (N : Nat) (R : List Int) (y0 y3 : Option D) (ws : W62 s) (hN : s.toNat = N) (h : forL (gNm 3) lp__law_low_1 (rngL 0 N) [some (.int n), some (.int s), some (.lst true []), none] = .nx [y0, some (.int s), some (.lst true (dInts R)), y3]) : d__law_low [.int n, .int s] = .ok (.lst true (dInts R)) := by
  simp [d__law_low, b__law_low, fnD, ws, hN, h]
theorem m_low (n : Int) (s : Nat) (hs : s ≤ 1000) : ∃ bs : List Int, d__law_low [.int n, .int (s : Int)] = .ok (.lst true (dInts bs)) ∧ bs.length = s ∧ Byt bs := by
  obtain ⟨ρ', e, m, R, y3, rfl, h1, h2⟩ := for_rng (g := gNm 3) (b := lp__law_low_1) (fun j ρ => ∃ (m : Int) (R : List Int) (y3 : Option D), ρ = [some (.int m), some (.int (s : Int)), some (.lst true (dInts R)), y3] ∧ R.length = j ∧ Byt R) s [some (.int n), some (.int (s : Int)), some (.lst true []), none] (fun j ρ hj H => by
    obtain ⟨m, R, y3, rfl, h1, h2⟩ := H
    obtain ⟨r, hr, r0, r1⟩ := m255 m
    exact ⟨_, _, rfl, .inl (low_turn _ _ m r R hr (by omega)), _, _, _, rfl, by rw [List.length_append, h1]; rfl, h2.app fun x hx => by rw [List.mem_singleton.mp hx]; exact ⟨r0, r1⟩⟩) ⟨n, [], none, rfl, rfl, Byt.nil⟩
  exact ⟨R, low_end n s s R _ y3 (w62 (by omega) (by omega)) (Int.toNat_natCast s) e, h1, h2⟩
end Cr

end
set_option maxRecDepth 100000
set_option maxHeartbeats 4000000
open PySem PySem.Spec PyProof.Rows L2 Dv
noncomputable section
namespace Cr
instance (xs : List Int) : Decidable (Byt xs) := by unfold Byt; infer_instance
def small (x : Str) : Prop := Byt (cps x) ∧ (cps x).length ≤ 5 ∧ x.cps.toList.length ≤ 16777216
instance (x : Str) : Decidable (small x) := by unfold small; infer_instance
theorem x5_ok : SrOk (Str.ofString "x") 5 := by decide +kernel
theorem x5_small : small (srep (Str.ofString "x") 5) := by decide +kernel
theorem nine (k : Nat) (h : k < 9) : ∃ x : Str, ixD [D.str (Str.ofString "a"), .str (Str.ofString "b"), .str (Str.ofString "A"), .str (Str.ofString "dir/a"), .str (Str.ofString "../a"), .str (Str.ofString ""), .str (srep (Str.ofString "x") 5), .str (Str.ofString "b.txt"), .str (Str.ofString "c")] (k : Int) = some (.str x) ∧ small x := by
  rw [ixD_nat]
  match k, h with
  | 0, _ => exact ⟨_, rfl, by decide +kernel⟩
  | 1, _ => exact ⟨_, rfl, by decide +kernel⟩
  | 2, _ => exact ⟨_, rfl, by decide +kernel⟩
  | 3, _ => exact ⟨_, rfl, by decide +kernel⟩
  | 4, _ => exact ⟨_, rfl, by decide +kernel⟩
  | 5, _ => exact ⟨_, rfl, by decide +kernel⟩
  | 6, _ => exact ⟨_, rfl, x5_small⟩
  | 7, _ => exact ⟨_, rfl, by decide +kernel⟩
  | 8, _ => exact ⟨_, rfl, by decide +kernel⟩
theorem mn_core (n r : Int) (x : Str) (R : List Int) (hr : n % 9 = r) (hx : ixD [D.str (Str.ofString "a"), .str (Str.ofString "b"), .str (Str.ofString "A"), .str (Str.ofString "dir/a"), .str (Str.ofString "../a"), .str (Str.ofString ""), .str (srep (Str.ofString "x") 5), .str (Str.ofString "b.txt"), .str (Str.ofString "c")] r = some (.str x)) (hc : d__law_codes [.str x] = .ok (.lst true (dInts R))) : d__law_make_name [.int n] = .ok (.lst true (dInts R)) := by
  have h5 := x5_ok
  simp [d__law_make_name, b__law_make_name, fnD, hr, h5, hx, callF, hc]
theorem m_make_name (n : Int) : ∃ R, d__law_make_name [.int n] = .ok (.lst true (dInts R)) ∧ Byt R ∧ R.length ≤ 5 := by
  obtain ⟨k, hk⟩ := Int.eq_ofNat_of_zero_le (Int.emod_nonneg n (show (9 : Int) ≠ 0 by decide))
  have lk : k < 9 := by have := Int.emod_lt_of_pos n (show (0 : Int) < 9 by decide); omega
  obtain ⟨x, hx, h1, h2, h3⟩ := nine k lk
  exact ⟨cps x, mn_core n k x _ hk hx (m_codes x h3), h1, h2⟩
end Cr

end
set_option maxRecDepth 100000
set_option maxHeartbeats 4000000
open PySem PySem.Spec PyProof.Rows L2 Dv
noncomputable section
namespace Cr
theorem Byt4 (a b c d : Int) (h : (0 ≤ a ∧ a < 256) ∧ (0 ≤ b ∧ b < 256) ∧ (0 ≤ c ∧ c < 256) ∧ 0 ≤ d ∧ d < 256) : Byt [a, b, c, d] := fun x hx => by
  simp only [List.mem_cons, List.not_mem_nil, or_false] at hx
  rcases hx with rfl | rfl | rfl | rfl
  · exact h.1
  · exact h.2.1
  · exact h.2.2.1
  · exact h.2.2.2
theorem mr_core (d n : Int) (N L4 L2 : List Int) (hn : (N.length : Int) = n) (h4 : d__law_low [.int d, .int 4] = .ok (.lst true (dInts L4))) (h2 : d__law_low [.int n, .int 2] = .ok (.lst true (dInts L2))) (l4 : L4.length = 4) (l2 : L2.length = 2) (lN : N.length ≤ 10000) :
    d__law_make_record [.int d, .lst false (dInts N)] = .ok (.lst true (dInts ([67, 68, 73, 82] ++ L4 ++ L2 ++ N))) := by
  have c : d__law_codes [.str (Str.ofString "CDIR")] = .ok (.lst true (dInts [67, 68, 73, 82])) := c_dir
  have z1 : 4 + L4.length ≤ 16777216 := by omega
  have z2 : 4 + L4.length + L2.length ≤ 16777216 := by omega
  have z3 : 4 + L4.length + L2.length + N.length ≤ 16777216 := by omega
  simp only [dInts_cons, dInts_nil] at c
  have z4 : 4 + (4 + (2 + N.length)) ≤ 16777216 := by omega
  have z5 : 4 + 4 + 2 + N.length ≤ 16777216 := by omega
  have z6 : 10 + n ≤ 16777216 := by omega
  have z7 : 10 + N.length ≤ 16777216 := by omega
  simp [d__law_make_record, b__law_make_record, fnD, callF, c, hn, h4, h2, l4, l2, z4, z5, z6, z7]
  done
end Cr

end
set_option maxRecDepth 100000
set_option maxHeartbeats 4000000
open PySem PySem.Spec PyProof.Rows L2 Dv
noncomputable section
namespace Cr
theorem mh_core (n ln ld sz a b c8 c16 cnt : Int) (N T L2 L8 L16 L4 : List Int) (hn : (N.length : Int) = ln) (hd : (T.length : Int) = ld) (ha : n / 9 % 6 = a) (hb : Builtin.bitAnd (n / 54) 1 = b) (h8 : Builtin.bitAnd (n / 108) 255 = c8) (h16 : Builtin.bitAnd (n / 27648) 65535 = c16) (hc : (if n % 9 = 1 then sz else ld) = cnt)
    (q2 : d__law_low [.int ln, .int 2] = .ok (.lst true (dInts L2))) (q8 : d__law_low [.int c8, .int 4] = .ok (.lst true (dInts L8))) (q16 : d__law_low [.int c16, .int 4] = .ok (.lst true (dInts L16))) (q4 : d__law_low [.int cnt, .int 4] = .ok (.lst true (dInts L4)))
    (l2 : L2.length = 2) (l8 : L8.length = 4) (l16 : L16.length = 4) (l4 : L4.length = 4) (lN : N.length ≤ 10000) (lT : T.length ≤ 10000) :
    d__law_make_head [.int n, .lst false (dInts N), .lst false (dInts T), .int sz] = .ok (.lst true (dInts ([67, 82, 84, 49] ++ [a, b] ++ L2 ++ L8 ++ L16 ++ L4 ++ N ++ T))) := by
  have c : d__law_codes [.str (Str.ofString "CRT1")] = .ok (.lst true (dInts [67, 82, 84, 49])) := c_crt
  simp only [dInts_cons, dInts_nil] at c
  have z1 : 20 + N.length ≤ 16777216 := by omega
  have z2 : 20 + N.length + T.length ≤ 16777216 := by omega
  have z3 : 2 + (4 + (4 + (4 + N.length))) + 1 + 1 + 1 + 1 + 1 + 1 + T.length ≤ 16777216 := by omega
  by_cases h : n % 9 = 1
  · rw [if_pos h] at hc
    subst hc
    simp [d__law_make_head, b__law_make_head, fnD, callF, c, hn, hd, h, ha, hb, h8, h16, q2, q8, q16, q4, l2, l8, l16, l4, z1, z2, z3]
  · rw [if_neg h] at hc
    subst hc
    simp [d__law_make_head, b__law_make_head, fnD, callF, c, hn, hd, h, ha, hb, h8, h16, q2, q8, q16, q4, l2, l8, l16, l4, z1, z2, z3]
theorem m_make_head (n sz : Int) (N T : List Int) (bN : Byt N) (bT : Byt T) (lN : N.length ≤ 1000) (lT : T.length ≤ 1000) : ∃ R, d__law_make_head [.int n, .lst false (dInts N), .lst false (dInts T), .int sz] = .ok (.lst true (dInts R)) ∧ Byt R ∧ R.length = 20 + N.length + T.length := by
  obtain ⟨L2, q2, l2, b2⟩ := m_low (N.length : Int) 2 (by omega)
  obtain ⟨c8, h8, c0, c1⟩ := m255 (n / 108)
  obtain ⟨L8, q8, l8, b8⟩ := m_low c8 4 (by omega)
  obtain ⟨L16, q16, l16, b16⟩ := m_low (Builtin.bitAnd (n / 27648) 65535) 4 (by omega)
  obtain ⟨L4, q4, l4, b4⟩ := m_low (if n % 9 = 1 then sz else (T.length : Int)) 4 (by omega)
  have hb : 0 ≤ Builtin.bitAnd (n / 54) 1 ∧ Builtin.bitAnd (n / 54) 1 < 256 := by rw [bitAnd_m1]; omega
  refine ⟨_, mh_core n _ _ sz _ _ c8 _ _ N T L2 L8 L16 L4 rfl rfl rfl rfl h8 rfl rfl q2 q8 q16 q4 l2 l8 l16 l4 (by omega) (by omega), ?_, ?_⟩
  · refine (((((((Byt4 67 82 84 49 (by decide)).app ?_).app b2).app b8).app b16).app b4).app bN).app bT
    intro x hx
    have := Int.emod_nonneg (n / 9) (show (6 : Int) ≠ 0 by decide)
    have := Int.emod_lt_of_pos (n / 9) (show (0 : Int) < 6 by decide)
    simp only [List.mem_cons, List.not_mem_nil, or_false] at hx
    rcases hx with rfl | rfl
    · omega
    · exact hb
  · simp only [List.length_append, List.length_cons, List.length_nil, l2, l8, l16, l4]
end Cr

end
set_option maxRecDepth 100000
set_option maxHeartbeats 4000000
open PySem PySem.Spec PyProof.Rows L2 Dv
noncomputable section
namespace Cr
/-! the law's crate: its loops -/
def plD (o : Bool) (p : Int × List Int) : D := .tup [.int p.1, .lst o (dInts p.2)]
theorem plD_coldL (o : Bool) : ∀ ps : List (Int × List Int), D.coldL (ps.map (plD o)) = true
  | [] => rfl
  | p :: ps => by
    have ih := plD_coldL o ps
    simp [plD, D.coldL, D.cold] at ih ⊢
    exact ih
theorem plD_frzL (o : Bool) : ∀ ps : List (Int × List Int), D.frzL (ps.map (plD o)) = ps.map (plD false)
  | [] => rfl
  | p :: ps => by
    have ih := plD_frzL o ps
    rw [List.map_cons, List.map_cons]
    show (plD o p).frz :: D.frzL (ps.map (plD o)) = _
    rw [ih]
    simp [plD, D.frz, D.frzL]
theorem plD_pureL : ∀ ps : List (Int × List Int), D.pureL (ps.map (plD false)) = true
  | [] => rfl
  | p :: ps => by
    have ih := plD_pureL ps
    rw [List.map_cons]
    show ((plD false p).pure && D.pureL (ps.map (plD false))) = true
    rw [ih]
    simp [plD, D.pure, D.pureL]
theorem cr1_core (x0 : D) (U T N Hd R : List Int) (P : List D) (x3 x11 x12 : Option D) (k k2 c a r14 s60 lu b m : Int) (M : Nat) (pX : x0.pure = true)
    (e2 : 2 + k = k2) (hc : d__law_cell [x0, .int k2] = .ok (.int c)) (ha : (if c < 0 then -c else c) = a)
    (hr : a / 31 % 14 = r14) (hrow : d__law_row [.int (a / 977), .int r14] = .ok (.lst true (dInts T)))
    (hn : d__law_make_name [.int (a / 7)] = .ok (.lst true (dInts N)))
    (hu : (U.length : Int) = lu) (hs : a / 5 % 60 = s60)
    (hh : d__law_make_head [.int a, .lst false (dInts N), .lst false (dInts T), .int s60] = .ok (.lst true (dInts Hd)))
    (hb : Builtin.bitAnd a 255 = b) (hm : a / 11 % 3 = m) (hM : m.toNat = M) (wm : RpOk 1 m) (hR : (List.replicate M [D.int b]).flatten = dInts R)
    (lP : P.length < 16777216) (l1 : U.length + Hd.length ≤ 16777216) (l2 : (U ++ Hd).length + R.length ≤ 16777216) :
    lp__law_crate_1 [some x0, some (.lst true (dInts U)), some (.lst true P), x3, some (.int k), none, none, none, none, none, none, x11, x12, none, none, none] =
      .nx [some x0, some (.lst true (dInts (U ++ Hd ++ R))), some (.lst true (P ++ [plD true (lu, N)])), x3, some (.int k), none, none, none, none, none, none, some (.int a), some (.lst true (dInts T)), none, none, none] := by
  rw [List.length_append] at l2
  simp [lp__law_crate_1, callF, e2, hc, ha, pX, hr, hrow, hn, hu, hs, hh, hb, hm, hM, wm, hR, lP, l1, l2, onL, plD, -List.append_assoc]
theorem rep_flat (b : Int) : ∀ M : Nat, (List.replicate M [D.int b]).flatten = dInts (List.replicate M b)
  | 0 => rfl
  | M + 1 => by rw [List.replicate_succ, List.flatten_cons, rep_flat b M]; rfl
theorem cr1 (ns : List Int) (U : List Int) (ps : List (Int × List Int)) (x3 x11 x12 : Option D) (k : Nat) (hU : Byt U) (lU : U.length ≤ 12 + 60 * k) (hk : k < 6) (lp : ps.length = k) (hp : ∀ p ∈ ps, Byt p.2 ∧ p.2.length ≤ 5) :
    ∃ (U' : List Int) (ps' : List (Int × List Int)) (y11 y12 : Option D), lp__law_crate_1 [some (.scr (dInts ns)), some (.lst true (dInts U)), some (.lst true (ps.map (plD true))), x3, some (.int k), none, none, none, none, none, none, x11, x12, none, none, none] =
      .nx [some (.scr (dInts ns)), some (.lst true (dInts U')), some (.lst true (ps'.map (plD true))), x3, some (.int k), none, none, none, none, none, none, y11, y12, none, none, none]
      ∧ Byt U' ∧ U'.length ≤ 12 + 60 * (k + 1) ∧ ps'.length = k + 1 ∧ ∀ p ∈ ps', Byt p.2 ∧ p.2.length ≤ 5 := by
  have hc := m_cellI ns (2 + (k : Int)) (by omega)
  generalize cell ns (2 + (k : Int)).toNat = c at hc
  have a0 := iabs_nn c
  have ea := iabs_eq c
  generalize iabs c = a at a0 ea
  obtain ⟨r14, h14⟩ := Int.eq_ofNat_of_zero_le (Int.emod_nonneg (a / 31) (show (14 : Int) ≠ 0 by decide))
  have l14 := Int.emod_lt_of_pos (a / 31) (show (0 : Int) < 14 by decide)
  obtain ⟨T, hrow, lT, bT⟩ := m_rowB (a / 977) r14 (by omega)
  obtain ⟨N, hn, bN, lN⟩ := m_make_name (a / 7)
  obtain ⟨Hd, hh, bH, lH⟩ := m_make_head a (a / 5 % 60) N T bN bT (by omega) (by omega)
  obtain ⟨b, hb, b0, b1⟩ := m255 a
  obtain ⟨m, hm⟩ := Int.eq_ofNat_of_zero_le (Int.emod_nonneg (a / 11) (show (3 : Int) ≠ 0 by decide))
  have lm := Int.emod_lt_of_pos (a / 11) (show (0 : Int) < 3 by decide)
  refine ⟨_, ps ++ [((U.length : Int), N)], _, _, (cr1_core _ U T N Hd (List.replicate m b) _ x3 x11 x12 k _ c a _ _ _ b _ m (by simp [D.pure]) rfl hc ea h14 hrow hn rfl rfl hh hb hm (by omega) (rpOk (by omega) (by omega) (by omega)) (rep_flat b m) (by rw [List.length_map]; omega) (by omega) (by rw [List.length_append, List.length_replicate]; omega)).trans (by rw [List.map_append]; rfl), ?_, ?_, ?_, ?_⟩
  · exact (hU.app bH).app fun x hx => by rw [List.eq_of_mem_replicate hx]; exact ⟨b0, b1⟩
  · rw [List.length_append, List.length_append, List.length_replicate]; omega
  · rw [List.length_append, lp]; rfl
  · intro p hp'
    rcases List.mem_append.mp hp' with h | h
    · exact hp p h
    · rw [List.mem_singleton.mp h]; exact ⟨bN, lN⟩
theorem cr1_loop (ns : List Int) (U : List Int) (x3 : Option D) (n : Nat) (hn : n ≤ 5) (hU : Byt U) (lU : U.length ≤ 12) :
    ∃ (U' : List Int) (ps' : List (Int × List Int)) (y4 y11 y12 : Option D), forL (gNm 4) lp__law_crate_1 (rngL 0 n) [some (.scr (dInts ns)), some (.lst true (dInts U)), some (.lst true []), x3, none, none, none, none, none, none, none, none, none, none, none, none] =
      .nx [some (.scr (dInts ns)), some (.lst true (dInts U')), some (.lst true (ps'.map (plD true))), x3, y4, none, none, none, none, none, none, y11, y12, none, none, none]
      ∧ Byt U' ∧ U'.length ≤ 312 ∧ ps'.length = n ∧ ∀ p ∈ ps', Byt p.2 ∧ p.2.length ≤ 5 := by
  obtain ⟨ρ', e, U', ps', y4, y11, y12, rfl, h1, h2, h3, h4⟩ := for_rng (g := gNm 4) (b := lp__law_crate_1) (fun j ρ => ∃ (U' : List Int) (ps' : List (Int × List Int)) (y4 y11 y12 : Option D), ρ = [some (.scr (dInts ns)), some (.lst true (dInts U')), some (.lst true (ps'.map (plD true))), x3, y4, none, none, none, none, none, none, y11, y12, none, none, none] ∧ Byt U' ∧ U'.length ≤ 12 + 60 * j ∧ ps'.length = j ∧ ∀ p ∈ ps', Byt p.2 ∧ p.2.length ≤ 5) n [some (.scr (dInts ns)), some (.lst true (dInts U)), some (.lst true []), x3, none, none, none, none, none, none, none, none, none, none, none, none] (fun j ρ hj H => by
    obtain ⟨U1, ps1, y4, y11, y12, rfl, h1, h2, h3, h4⟩ := H
    obtain ⟨U2, ps2, z11, z12, e, g1, g2, g3, g4⟩ := cr1 ns U1 ps1 x3 y11 y12 j h1 h2 (by omega) h3 h4
    exact ⟨_, _, rfl, .inl e, U2, ps2, _, z11, z12, rfl, g1, g2, g3, g4⟩) ⟨U, [], none, none, none, rfl, hU, by omega, rfl, fun _ z => nomatch z⟩
  exact ⟨U', ps', y4, y11, y12, e, h1, by omega, h3, h4⟩
end Cr

end
set_option maxRecDepth 100000
set_option maxHeartbeats 4000000
open PySem PySem.Spec PyProof.Rows L2 Dv
noncomputable section
namespace Cr
theorem cr2_core (x0 : D) (U N N1 : List Int) (o : Bool) (P Q R : List D) (x3 x11 x12 x13 x14 : Option D) (k k8 c a at0 lu l1 : Int) (pX : x0.pure = true)
    (e8 : 8 + k = k8) (hc : d__law_cell [x0, .int k8] = .ok (.int c)) (ha : (if c < 0 then -c else c) = a) (c1 : D.coldL P = true) (c2 : D.frzL P = Q)
    (hix : ixD Q k = some (.tup [.int at0, .lst false (dInts N)])) (hn : d__law_make_name [.int (a / 7)] = .ok (.lst true (dInts N1)))
    (hu : (U.length : Int) = lu) (hl : lu + 1 = l1) (h0 : 0 < l1) (lR : R.length < 16777216) :
    lp__law_crate_2 [some x0, some (.lst true (dInts U)), some (.lst o P), x3, some (.int k), some (.lst true R), none, none, none, none, none, x11, x12, x13, x14, none] =
      .nx [some x0, some (.lst true (dInts U)), some (.lst false Q), x3, some (.int k), some (.lst true (R ++ [plD false (if a % 7 = 2 then a / 7 % l1 else at0, if a % 7 = 1 then N1 else N)])), none, none, none, none, none, some (.int a), x12, some (.int (if a % 7 = 2 then a / 7 % l1 else at0)), some (.lst false (dInts (if a % 7 = 1 then N1 else N))), none] := by
  by_cases h1 : a % 7 = 1
  · have h2 : ¬ a % 7 = 2 := by omega
    rw [if_pos h1, if_neg h2]
    simp [lp__law_crate_2, callF, e8, hc, ha, pX, c1, c2, frzAt, hix, hn, h1, onL, lR, plD]
  · rw [if_neg h1]
    by_cases h2 : a % 7 = 2
    · rw [if_pos h2]
      simp [lp__law_crate_2, callF, e8, hc, ha, pX, c1, c2, frzAt, hix, hn, h2, hu, hl, h0, onL, lR, plD]
    · rw [if_neg h2]
      simp [lp__law_crate_2, callF, e8, hc, ha, pX, c1, c2, frzAt, hix, hn, h1, h2, onL, lR, plD]
theorem cr2_loop (ns : List Int) (U : List Int) (ps : List (Int × List Int)) (x3 x4 x11 x12 : Option D) (hp : ∀ p ∈ ps, Byt p.2 ∧ p.2.length ≤ 5) (lp : ps.length ≤ 5) :
    ∃ (rs : List (Int × List Int)) (x2 y4 y11 y13 y14 : Option D), forL (gNm 4) lp__law_crate_2 (rngL 0 ps.length) [some (.scr (dInts ns)), some (.lst true (dInts U)), some (.lst true (ps.map (plD true))), x3, x4, some (.lst true []), none, none, none, none, none, x11, x12, none, none, none] =
      .nx [some (.scr (dInts ns)), some (.lst true (dInts U)), x2, x3, y4, some (.lst true (rs.map (plD false))), none, none, none, none, none, y11, x12, y13, y14, none]
      ∧ rs.length = ps.length ∧ ∀ p ∈ rs, Byt p.2 ∧ p.2.length ≤ 5 := by
  obtain ⟨ρ', e, o, rs, y4, y11, y13, y14, rfl, h3, h4⟩ := for_rng (g := gNm 4) (b := lp__law_crate_2) (fun j ρ => ∃ (o : Bool) (rs : List (Int × List Int)) (y4 y11 y13 y14 : Option D), ρ = [some (.scr (dInts ns)), some (.lst true (dInts U)), some (.lst o (ps.map (plD o))), x3, y4, some (.lst true (rs.map (plD false))), none, none, none, none, none, y11, x12, y13, y14, none] ∧ rs.length = j ∧ ∀ p ∈ rs, Byt p.2 ∧ p.2.length ≤ 5) ps.length
    [some (.scr (dInts ns)), some (.lst true (dInts U)), some (.lst true (ps.map (plD true))), x3, x4, some (.lst true []), none, none, none, none, none, x11, x12, none, none, none] (fun j ρ hj H => by
    obtain ⟨o, rs, y4, y11, y13, y14, rfl, h3, h4⟩ := H
    have hc := m_cellI ns (8 + (j : Int)) (by omega)
    generalize cell ns (8 + (j : Int)).toNat = c at hc
    have a0 := iabs_nn c
    have ea := iabs_eq c
    generalize iabs c = a at a0 ea
    obtain ⟨N1, hn, bN, lN⟩ := m_make_name (a / 7)
    have hix : ixD (ps.map (plD false)) (j : Int) = some (.tup [.int ps[j].1, .lst false (dInts ps[j].2)]) := by
      rw [ixD_nat, List.getElem?_map, List.getElem?_eq_getElem hj]; rfl
    have hpj := hp ps[j] (List.getElem_mem hj)
    refine ⟨_, _, rfl, .inl ((cr2_core _ U ps[j].2 N1 o _ _ _ x3 y11 x12 y13 y14 j _ c a ps[j].1 _ _ (by simp [D.pure]) rfl hc ea (plD_coldL o ps) (plD_frzL o ps) hix hn rfl rfl (by omega) (by rw [List.length_map]; omega))), false, rs ++ [(if a % 7 = 2 then a / 7 % ((U.length : Int) + 1) else ps[j].1, if a % 7 = 1 then N1 else ps[j].2)], _, _, _, _, by rw [List.map_append]; rfl, by rw [List.length_append, h3]; rfl, ?_⟩
    intro p hp'
    rcases List.mem_append.mp hp' with h | h
    · exact h4 p h
    · rw [List.mem_singleton.mp h]
      show Byt (if a % 7 = 1 then N1 else ps[j].2) ∧ (if a % 7 = 1 then N1 else ps[j].2).length ≤ 5
      split
      · exact ⟨bN, lN⟩
      · exact hpj) ⟨true, [], x4, x11, none, none, rfl, rfl, fun _ z => nomatch z⟩
  exact ⟨rs, _, y4, y11, y13, y14, e, h3, h4⟩
/-! the sum, the records -/
def rsz (p : Int × List Int) : Int := 10 + (p.2.length : Int)
theorem rs_lc (ρ : Dv.Env) (hρ : ρ.length = 16) (rs : List (Int × List Int)) (hl : rs.length ≤ 1000) : lcL (gNm 15) tYes (e2 gAdd (eC (.int 10)) (eB gLen (aV (e2 gIx (eVar 15) (eC (.int 1))) (aNil)))) ρ (rs.map (plD false)) [] = .ok (.lst true (dInts (rs.map rsz))) := by
  have h := lcL_map (g := gNm 15) (t := tYes) (f := e2 gAdd (eC (.int 10)) (eB gLen (aV (e2 gIx (eVar 15) (eC (.int 1))) (aNil)))) (ρ := ρ) (fun d => match d with | .tup [_, .lst _ xs] => .int (10 + (xs.length : Int)) | d => d) (rs.map (plD false)) (fun u hd => by
    obtain ⟨k, _, rfl⟩ := List.mem_map.mp hd
    refine ⟨_, rfl, rfl, ?_⟩
    have e15 : (ρ.set 15 (some (plD false k)))[15]?.getD none = some (plD false k) := by
      rw [List.getElem?_set_self (by omega)]; rfl
    simp [e15]
    simp [plD, ixD]) (by rw [List.length_map]; omega)
  rw [h, List.map_map]
  refine congrArg (fun z => R.ok (D.lst true z)) ?_
  unfold dInts
  rw [List.map_map]
  refine List.map_congr_left fun k _ => ?_
  simp [plD, rsz]
theorem cr3_core (x0 x2 x3 x4 x5 x7 x8 x9 x10 x11 x12 x15 : Option D) (U N R : List Int) (p a d : Int) (e : p - a = d) (hm : d__law_make_record [.int d, .lst false (dInts N)] = .ok (.lst true (dInts R))) (hl : U.length + R.length ≤ 16777216) :
    lp__law_crate_3 [x0, some (.lst true (dInts U)), x2, x3, x4, x5, some (.int p), x7, x8, x9, x10, x11, x12, some (.int a), some (.lst false (dInts N)), x15] = .nx [x0, some (.lst true (dInts (U ++ R))), x2, x3, x4, x5, some (.int p), x7, x8, x9, x10, x11, x12, some (.int a), some (.lst false (dInts N)), x15] := by
  simp [lp__law_crate_3, callF, e, hm, hl]
theorem m_make_record (d : Int) (N : List Int) (bN : Byt N) (lN : N.length ≤ 1000) : ∃ R, d__law_make_record [.int d, .lst false (dInts N)] = .ok (.lst true (dInts R)) ∧ Byt R ∧ R.length = 10 + N.length := by
  obtain ⟨L4, q4, l4, b4⟩ := m_low d 4 (by omega)
  obtain ⟨L2, q2, l2, b2⟩ := m_low (N.length : Int) 2 (by omega)
  refine ⟨_, mr_core d _ N L4 L2 rfl q4 q2 l4 l2 (by omega), (((Byt4 67 68 73 82 (by decide)).app b4).app b2).app bN, ?_⟩
  simp only [List.length_append, List.length_cons, List.length_nil, l2, l4]
theorem cr3_loop (x0 x2 x3 x4 x5 x7 x8 x9 x10 x11 x12 x15 : Option D) (p : Int) : ∀ (rs : List (Int × List Int)) (U : List Int) (x13 x14 : Option D), (∀ q ∈ rs, Byt q.2 ∧ q.2.length ≤ 5) → Byt U → U.length + 15 * rs.length ≤ 1000 →
    ∃ (U' : List Int) (y13 y14 : Option D), forL (gTp (gsCons (gNm 13) (gsCons (gNm 14) gsNil))) lp__law_crate_3 (rs.map (plD false)) [x0, some (.lst true (dInts U)), x2, x3, x4, x5, some (.int p), x7, x8, x9, x10, x11, x12, x13, x14, x15] = .nx [x0, some (.lst true (dInts U')), x2, x3, x4, x5, some (.int p), x7, x8, x9, x10, x11, x12, y13, y14, x15] ∧ Byt U' ∧ U'.length ≤ U.length + 15 * rs.length
  | [], U, x13, x14, _, hU, _ => ⟨U, x13, x14, rfl, hU, by omega⟩
  | r :: rs, U, x13, x14, hr, hU, lU => by
    obtain ⟨bN, lN⟩ := hr r List.mem_cons_self
    obtain ⟨R, hm, bR, lR⟩ := m_make_record (p - r.1) r.2 bN (by omega)
    rw [List.length_cons] at lU
    obtain ⟨U', y13, y14, e, h1, h2⟩ := cr3_loop x0 x2 x3 x4 x5 x7 x8 x9 x10 x11 x12 x15 p rs (U ++ R) (some (.int r.1)) (some (.lst false (dInts r.2))) (fun q hq => hr q (List.mem_cons_of_mem _ hq)) (hU.app bR) (by rw [List.length_append]; omega)
    refine ⟨U', y13, y14, (fl_nx rfl (cr3_core x0 x2 x3 x4 x5 x7 x8 x9 x10 x11 x12 x15 U r.2 R p r.1 _ rfl hm (by omega))).trans e, h1, ?_⟩
    rw [List.length_append] at h2
    rw [List.length_cons]
    omega
end Cr

end
set_option maxRecDepth 100000
set_option maxHeartbeats 4000000
open PySem PySem.Spec PyProof.Rows L2 Dv
noncomputable section
namespace Cr
def pc_b__law_crate_1 : Dv.Env → SR := sAsg 1 (eCall 2 d__law_row (aO (eCall 2 d__law_cell (aV (eVar 0) (aO (eC (.int 1)) (aNil)))) (aO (e2 gMod (eB gInt (aV (eB gAbs (aV (eCall 2 d__law_cell (aV (eVar 0) (aO (eC (.int 0)) (aNil)))) (aNil))) (aNil))) (eC (.int 12))) (aNil))))
def pc_b__law_crate_2 : Dv.Env → SR := sAsg 2 (eLstM (mNil))
def pc_b__law_crate_3 : Dv.Env → SR := sAsg 3 (e2 gMod (eB gInt (aV (e2 gDiv (eB gAbs (aV (eCall 2 d__law_cell (aV (eVar 0) (aO (eC (.int 0)) (aNil)))) (aNil))) (eC (.int 12))) (aNil))) (eC (.int 6)))
def pc_b__law_crate_4 : Dv.Env → SR := sFor (iA rng1 (aV (eVar 3) (aNil))) (gNm 4) lp__law_crate_1
def pc_b__law_crate_5 : Dv.Env → SR := sAsg 5 (eLstM (mNil))
def pc_b__law_crate_6 : Dv.Env → SR := sFor (iA rng1 (aV (eB gLen (aV (eVar 2) (aNil))) (aNil))) (gNm 4) lp__law_crate_2
def pc_b__law_crate_7 : Dv.Env → SR := sFz 5 (sAsg 6 (e2 gAdd (eB gLen (aV (eVar 1) (aNil))) (eB gSum (aV (eLc (iW (eVar 5)) (gNm 15) (tYes) (e2 gAdd (eC (.int 10)) (eB gLen (aV (e2 gIx (eVar 15) (eC (.int 1))) (aNil)))) [15]) (aNil)))))
def pc_b__law_crate_8 : Dv.Env → SR := sAsg 7 (eB gLen (aV (eVar 1) (aNil)))
def pc_b__law_crate_9 : Dv.Env → SR := sFz 5 (sFor (iW (eVar 5)) (gTp (gsCons (gNm 13) (gsCons (gNm 14) (gsNil)))) lp__law_crate_3)
def pc_b__law_crate_10 : Dv.Env → SR := sAsg 8 (eB gAbs (aV (eCall 2 d__law_cell (aV (eVar 0) (aO (eC (.int 14)) (aNil)))) (aNil)))
def pc_b__law_crate_11 : Dv.Env → SR := sAsg 9 (eB gLen (aV (eVar 5) (aNil)))
def pc_b__law_crate_12 : Dv.Env → SR := sIf (eT (e2 gEq (e2 gMod (eB gInt (aV (eVar 8) (aNil))) (eC (.int 6))) (eC (.int 1)))) (sAsg 9 (e2 gMod (eB gInt (aV (e2 gDiv (eVar 8) (eC (.int 6))) (aNil))) (eC (.int 9)))) (sNil)
def pc_b__law_crate_13 : Dv.Env → SR := sAsg 10 (e2 gSub (eVar 6) (eVar 7))
def pc_b__law_crate_14 : Dv.Env → SR := sIf (eT (e2 gEq (e2 gMod (eB gInt (aV (eVar 8) (aNil))) (eC (.int 6))) (eC (.int 2)))) (sAsg 10 (e2 gMod (eB gInt (aV (e2 gDiv (eVar 8) (eC (.int 6))) (aNil))) (e2 gAdd (eVar 6) (eC (.int 4))))) (sNil)
def pc_b__law_crate_15 : Dv.Env → SR := sIf (eT (e2 gNe (e2 gMod (eB gInt (aV (eVar 8) (aNil))) (eC (.int 6))) (eC (.int 3)))) (sAsg 1 (e2 gAdd (e2 gAdd (e2 gAdd (eVar 1) (eCall 1 d__law_codes (aO (eC (.str "CEND")) (aNil)))) (eCall 2 d__law_low (aV (eVar 9) (aO (eC (.int 2)) (aNil))))) (eCall 2 d__law_low (aV (eVar 10) (aO (eC (.int 4)) (aNil)))))) (sNil)
def pc_b__law_crate_16 : Dv.Env → SR := sRet (e2 gAdd (eVar 1) (eCall 2 d__law_row (aO (eCall 2 d__law_cell (aV (eVar 0) (aO (eC (.int 15)) (aNil)))) (aO (e2 gMod (eB gInt (aV (e2 gDiv (eVar 8) (eC (.int 60))) (aNil))) (eC (.int 14))) (aNil)))))
theorem pc_b__law_crate : b__law_crate = sq pc_b__law_crate_1 (sq pc_b__law_crate_2 (sq pc_b__law_crate_3 (sq pc_b__law_crate_4 (sq pc_b__law_crate_5 (sq pc_b__law_crate_6 (sq pc_b__law_crate_7 (sq pc_b__law_crate_8 (sq pc_b__law_crate_9 (sq pc_b__law_crate_10 (sq pc_b__law_crate_11 (sq pc_b__law_crate_12 (sq pc_b__law_crate_13 (sq pc_b__law_crate_14 (sq pc_b__law_crate_15 (pc_b__law_crate_16))))))))))))))) := rfl

theorem ce_a (x0 : D) (x1 x2 x3 x4 x6 x7 x11 x12 x13 x14 x15 : Option D) (Q : List D) (n c e : Int) (pX : x0.pure = true) (hc : d__law_cell [x0, .int 14] = .ok (.int c)) (he : (if c < 0 then -c else c) = e) (hn : (Q.length : Int) = n) (T : Dv.Env → SR) :
    sq pc_b__law_crate_10 (sq pc_b__law_crate_11 (sq pc_b__law_crate_12 T)) [some x0, x1, x2, x3, x4, some (.lst false Q), x6, x7, none, none, none, x11, x12, x13, x14, x15] = T [some x0, x1, x2, x3, x4, some (.lst false Q), x6, x7, some (.int e), some (.int (if e % 6 = 1 then e / 6 % 9 else n)), none, x11, x12, x13, x14, x15] := by
  by_cases h : e % 6 = 1
  · rw [if_pos h]
    simp [pc_b__law_crate_10, pc_b__law_crate_11, pc_b__law_crate_12, callF, pX, hc, he, hn, h]
  · rw [if_neg h]
    simp [pc_b__law_crate_10, pc_b__law_crate_11, pc_b__law_crate_12, callF, pX, hc, he, hn, h]
theorem ce_b (x0 x1 x2 x3 x4 x5 x9 x11 x12 x13 x14 x15 : Option D) (p s e p4 : Int) (hp : p + 4 = p4) (h0 : 0 < p4) (T : Dv.Env → SR) :
    sq pc_b__law_crate_13 (sq pc_b__law_crate_14 T) [x0, x1, x2, x3, x4, x5, some (.int p), some (.int s), some (.int e), x9, none, x11, x12, x13, x14, x15] = T [x0, x1, x2, x3, x4, x5, some (.int p), some (.int s), some (.int e), x9, some (.int (if e % 6 = 2 then e / 6 % p4 else p - s)), x11, x12, x13, x14, x15] := by
  by_cases h : e % 6 = 2
  · rw [if_pos h]
    simp [pc_b__law_crate_13, pc_b__law_crate_14, hp, h0, h]
  · rw [if_neg h]
    simp [pc_b__law_crate_13, pc_b__law_crate_14, hp, h0, h]
theorem ce_c (x0 x2 x3 x4 x5 x6 x7 x11 x12 x13 x14 x15 : Option D) (U L2 L4 : List Int) (e n b : Int) (h2 : d__law_low [.int n, .int 2] = .ok (.lst true (dInts L2))) (h4 : d__law_low [.int b, .int 4] = .ok (.lst true (dInts L4))) (l1 : U.length + 4 ≤ 16777216) (l2 : U.length + 4 + L2.length ≤ 16777216) (l3 : U.length + 4 + L2.length + L4.length ≤ 16777216) (T : Dv.Env → SR) :
    sq pc_b__law_crate_15 T [x0, some (.lst true (dInts U)), x2, x3, x4, x5, x6, x7, some (.int e), some (.int n), some (.int b), x11, x12, x13, x14, x15] = T [x0, some (.lst true (dInts (if e % 6 = 3 then U else U ++ [67, 69, 78, 68] ++ L2 ++ L4))), x2, x3, x4, x5, x6, x7, some (.int e), some (.int n), some (.int b), x11, x12, x13, x14, x15] := by
  by_cases h : e % 6 = 3
  · rw [if_pos h]
    simp [pc_b__law_crate_15, h]
  · rw [if_neg h]
    have c : d__law_codes [.str (Str.ofString "CEND")] = .ok (.lst true (dInts [67, 69, 78, 68])) := c_end
    have z1 : (dInts U).length + (dInts [67, 69, 78, 68]).length ≤ 16777216 := by rw [dInts_len]; exact l1
    have z2 : (dInts (U ++ [67, 69, 78, 68])).length + (dInts L2).length ≤ 16777216 := by rw [dInts_len, dInts_len, List.length_append]; exact l2
    have z3 : (dInts (U ++ [67, 69, 78, 68] ++ L2)).length + (dInts L4).length ≤ 16777216 := by rw [dInts_len, dInts_len, List.length_append, List.length_append]; exact l3
    have a1 : gAdd (.lst true (dInts U)) (.lst true (dInts [67, 69, 78, 68])) = some (.lst true (dInts (U ++ [67, 69, 78, 68]))) := by rw [gAdd_lst, if_pos ⟨dInts_pure _, dInts_pure _, z1⟩, dInts_app]
    have a2 : gAdd (.lst true (dInts (U ++ [67, 69, 78, 68]))) (.lst true (dInts L2)) = some (.lst true (dInts (U ++ [67, 69, 78, 68] ++ L2))) := by rw [gAdd_lst, if_pos ⟨dInts_pure _, dInts_pure _, z2⟩, dInts_app]
    have a3 : gAdd (.lst true (dInts (U ++ [67, 69, 78, 68] ++ L2))) (.lst true (dInts L4)) = some (.lst true (dInts (U ++ [67, 69, 78, 68] ++ L2 ++ L4))) := by rw [gAdd_lst, if_pos ⟨dInts_pure _, dInts_pure _, z3⟩, dInts_app]
    generalize U ++ [67, 69, 78, 68] ++ L2 ++ L4 = V3 at a3 ⊢
    generalize U ++ [67, 69, 78, 68] ++ L2 = V2 at a2 a3
    generalize U ++ [67, 69, 78, 68] = V1 at a1 a2
    generalize ([67, 69, 78, 68] : List Int) = V0 at c a1
    simp [pc_b__law_crate_15, h, callF, c, h2, h4, a1, a2, a3, -gAdd_lst]
theorem ce_d (x0 : D) (x2 x3 x4 x5 x6 x7 x9 x10 x11 x12 x13 x14 x15 : Option D) (U R : List Int) (c e r : Int) (pX : x0.pure = true) (hc : d__law_cell [x0, .int 15] = .ok (.int c)) (he : e / 60 % 14 = r) (hr : d__law_row [.int c, .int r] = .ok (.lst true (dInts R))) (hl : U.length + R.length ≤ 16777216) :
    (pc_b__law_crate_16 [some x0, some (.lst true (dInts U)), x2, x3, x4, x5, x6, x7, some (.int e), x9, x10, x11, x12, x13, x14, x15]).out = .ok (.lst true (dInts (U ++ R))) := by
  simp [pc_b__law_crate_16, callF, pX, hc, he, hr, hl]
theorem ce_tail (ns : List Int) (x2 x3 x4 x11 x12 x13 x14 x15 : Option D) (U : List Int) (Q : List D) (p s : Int) (hU : Byt U) (lU : U.length ≤ 1000) (hp : 0 ≤ p) : ∃ R,
    (sq pc_b__law_crate_10 (sq pc_b__law_crate_11 (sq pc_b__law_crate_12 (sq pc_b__law_crate_13 (sq pc_b__law_crate_14 (sq pc_b__law_crate_15 pc_b__law_crate_16))))) [some (.scr (dInts ns)), some (.lst true (dInts U)), x2, x3, x4, some (.lst false Q), some (.int p), some (.int s), none, none, none, x11, x12, x13, x14, x15]).out = .ok (.lst true (dInts R)) ∧ Byt R ∧ R.length ≤ 2000 := by
  have hc := m_cellI ns 14 (by omega)
  generalize cell ns (14 : Int).toNat = c at hc
  have ee := iabs_eq c
  generalize iabs c = e at ee
  rw [ce_a _ _ _ _ _ _ _ _ _ _ _ _ Q _ c e (by simp [D.pure]) hc ee rfl, ce_b _ _ _ _ _ _ _ _ _ _ _ _ p s e _ rfl (by omega)]
  generalize (if e % 6 = 1 then e / 6 % 9 else (Q.length : Int)) = n
  generalize (if e % 6 = 2 then e / 6 % (p + 4) else p - s) = b
  obtain ⟨L2, q2, l2, b2⟩ := m_low n 2 (by omega)
  obtain ⟨L4, q4, l4, b4⟩ := m_low b 4 (by omega)
  rw [ce_c _ _ _ _ _ _ _ _ _ _ _ _ U L2 L4 e n b q2 q4 (by omega) (by omega) (by omega)]
  have hc' := m_cellI ns 15 (by omega)
  generalize cell ns (15 : Int).toNat = c' at hc'
  obtain ⟨r, hr⟩ := Int.eq_ofNat_of_zero_le (Int.emod_nonneg (e / 60) (show (14 : Int) ≠ 0 by decide))
  have lr := Int.emod_lt_of_pos (e / 60) (show (0 : Int) < 14 by decide)
  obtain ⟨T, hrow, lT, bT⟩ := m_rowB c' r (by omega)
  have hV : Byt (if e % 6 = 3 then U else U ++ [67, 69, 78, 68] ++ L2 ++ L4) ∧ (if e % 6 = 3 then U else U ++ [67, 69, 78, 68] ++ L2 ++ L4).length ≤ 1010 := by
    split
    · exact ⟨hU, by omega⟩
    · refine ⟨((hU.app (Byt4 67 69 78 68 (by decide))).app b2).app b4, ?_⟩
      simp only [List.length_append, List.length_cons, List.length_nil, l2, l4]
      omega
  generalize (if e % 6 = 3 then U else U ++ [67, 69, 78, 68] ++ L2 ++ L4) = V at hV
  exact ⟨V ++ T, ce_d _ _ _ _ _ _ _ _ _ _ _ _ _ _ V T c' e _ (by simp [D.pure]) hc' hr hrow (by omega), hV.1.app bT, by rw [List.length_append]; omega⟩
theorem ce_1 (x0 : D) (c1 c0 a r m : Int) (T : List Int) (pX : x0.pure = true) (h1 : d__law_cell [x0, .int 1] = .ok (.int c1)) (h0 : d__law_cell [x0, .int 0] = .ok (.int c0)) (ha : (if c0 < 0 then -c0 else c0) = a) (hr : a % 12 = r) (hm : a / 12 % 6 = m) (hrow : d__law_row [.int c1, .int r] = .ok (.lst true (dInts T))) (K : Dv.Env → SR) :
    sq pc_b__law_crate_1 (sq pc_b__law_crate_2 (sq pc_b__law_crate_3 K)) [some x0, none, none, none, none, none, none, none, none, none, none, none, none, none, none, none] = K [some x0, some (.lst true (dInts T)), some (.lst true []), some (.int m), none, none, none, none, none, none, none, none, none, none, none, none] := by
  simp [pc_b__law_crate_1, pc_b__law_crate_2, pc_b__law_crate_3, callF, pX, h1, h0, ha, hr, hm, hrow]
theorem ce_4 (x0 x1 x2 x4 : Option D) (m : Int) (M : Nat) (hM : m.toNat = M) (wm : W62 m) (ρ : Dv.Env) (h : forL (gNm 4) lp__law_crate_1 (rngL 0 M) [x0, x1, x2, some (.int m), x4, none, none, none, none, none, none, none, none, none, none, none] = .nx ρ) (K : Dv.Env → SR) :
    sq pc_b__law_crate_4 K [x0, x1, x2, some (.int m), x4, none, none, none, none, none, none, none, none, none, none, none] = K ρ := by
  simp [pc_b__law_crate_4, hM, wm, h]
theorem ce_5 (x0 x1 x3 x4 x11 x12 : Option D) (P : List D) (m : Int) (M : Nat) (hm : (P.length : Int) = m) (hM : m.toNat = M) (wm : W62 m) (ρ : Dv.Env) (h : forL (gNm 4) lp__law_crate_2 (rngL 0 M) [x0, x1, some (.lst true P), x3, x4, some (.lst true []), none, none, none, none, none, x11, x12, none, none, none] = .nx ρ) (K : Dv.Env → SR) :
    sq pc_b__law_crate_5 (sq pc_b__law_crate_6 K) [x0, x1, some (.lst true P), x3, x4, none, none, none, none, none, none, x11, x12, none, none, none] = K ρ := by
  simp [pc_b__law_crate_5, pc_b__law_crate_6, hm, hM, wm, h]
theorem ce_7 (x0 x2 x3 x4 x11 x12 x13 x14 : Option D) (U : List Int) (Q : List D) (zs : List Int) (lu p : Int) (c1 : D.coldL Q = true) (c2 : D.frzL Q = Q) (c3 : D.pureL Q = true) (hu : (U.length : Int) = lu) (hlc : lcL (gNm 15) tYes (e2 gAdd (eC (.int 10)) (eB gLen (aV (e2 gIx (eVar 15) (eC (.int 1))) (aNil)))) [x0, some (.lst true (dInts U)), x2, x3, x4, some (.lst false Q), none, none, none, none, none, x11, x12, x13, x14, none] Q [] = .ok (.lst true (dInts zs))) (hp : lu + zs.sum = p) (K : Dv.Env → SR) :
    sq pc_b__law_crate_7 (sq pc_b__law_crate_8 K) [x0, some (.lst true (dInts U)), x2, x3, x4, some (.lst true Q), none, none, none, none, none, x11, x12, x13, x14, none] = K [x0, some (.lst true (dInts U)), x2, x3, x4, some (.lst false Q), some (.int p), some (.int lu), none, none, none, x11, x12, x13, x14, none] := by
  simp [pc_b__law_crate_7, pc_b__law_crate_8, frzAt, c1, c2, c3, hu, wipeE, hlc, hp]
theorem ce_9 (x0 x1 x2 x3 x4 x6 x7 x11 x12 x13 x14 : Option D) (Q : List D) (c1 : D.coldL Q = true) (c2 : D.frzL Q = Q) (ρ : Dv.Env) (h : forL (gTp (gsCons (gNm 13) (gsCons (gNm 14) gsNil))) lp__law_crate_3 Q [x0, x1, x2, x3, x4, some (.lst false Q), x6, x7, none, none, none, x11, x12, x13, x14, none] = .nx ρ) (c3 : D.pureL Q = true) (K : Dv.Env → SR) :
    sq pc_b__law_crate_9 K [x0, x1, x2, x3, x4, some (.lst false Q), x6, x7, none, none, none, x11, x12, x13, x14, none] = K ρ := by
  simp [pc_b__law_crate_9, frzAt, c1, c2, c3, h]
theorem sum_nn : ∀ rs : List (Int × List Int), 0 ≤ (rs.map rsz).sum
  | [] => Int.le_refl _
  | r :: rs => by
    have := sum_nn rs
    rw [List.map_cons, List.sum_cons]
    unfold rsz at *
    omega
theorem m_crate (ns : List Int) : ∃ U, d__law_crate [.scr (dInts ns)] = .ok (.lst true (dInts U)) ∧ Byt U ∧ U.length ≤ 2000 := by
  have h1 := m_cellI ns 1 (by omega)
  generalize cell ns (1 : Int).toNat = c1 at h1
  have h0 := m_cellI ns 0 (by omega)
  generalize cell ns (0 : Int).toNat = c0 at h0
  have ha := iabs_eq c0
  generalize iabs c0 = a at ha
  obtain ⟨r, hr⟩ := Int.eq_ofNat_of_zero_le (Int.emod_nonneg a (show (12 : Int) ≠ 0 by decide))
  have lr := Int.emod_lt_of_pos a (show (0 : Int) < 12 by decide)
  obtain ⟨m, hm⟩ := Int.eq_ofNat_of_zero_le (Int.emod_nonneg (a / 12) (show (6 : Int) ≠ 0 by decide))
  have lm := Int.emod_lt_of_pos (a / 12) (show (0 : Int) < 6 by decide)
  obtain ⟨T, hrow, lT, bT⟩ := m_rowB c1 r (by omega)
  obtain ⟨U1, ps, y4, y11, y12, e1, b1, l1, n1, k1⟩ := cr1_loop ns T (some (.int m)) m (by omega) bT (by omega)
  obtain ⟨rs, y2, z4, z11, z13, z14, e2, n2, k2⟩ := cr2_loop ns U1 ps (some (.int m)) y4 y11 y12 k1 (by omega)
  have hQ : D.coldL (rs.map (plD false)) = true ∧ D.frzL (rs.map (plD false)) = rs.map (plD false) ∧ D.pureL (rs.map (plD false)) = true := ⟨plD_coldL _ _, plD_frzL _ _, plD_pureL _⟩
  have hlc := rs_lc [some (.scr (dInts ns)), some (.lst true (dInts U1)), y2, some (.int m), z4, some (.lst false (rs.map (plD false))), none, none, none, none, none, z11, y12, z13, z14, none] rfl rs (by omega)
  have sn := sum_nn rs
  obtain ⟨U2, w13, w14, e3, b2, l2⟩ := cr3_loop (some (.scr (dInts ns))) y2 (some (.int m)) z4 (some (.lst false (rs.map (plD false)))) (some (.int (U1.length : Int))) none none none z11 y12 none ((U1.length : Int) + (rs.map rsz).sum) rs U1 z13 z14 k2 b1 (by omega)
  obtain ⟨R, eR, bR, lR⟩ := ce_tail ns y2 (some (.int m)) z4 z11 y12 w13 w14 none U2 (rs.map (plD false)) ((U1.length : Int) + (rs.map rsz).sum) (U1.length : Int) b2 (by omega) (by omega)
  refine ⟨R, ?_, bR, lR⟩
  show (b__law_crate [some (.scr (dInts ns)), none, none, none, none, none, none, none, none, none, none, none, none, none, none, none]).out = _
  rw [pc_b__law_crate, ce_1 _ c1 c0 a _ _ T (by simp [D.pure]) h1 h0 ha hr hm hrow, ce_4 _ _ _ _ _ m (by omega) (w62 (by omega) (by omega)) _ e1, ce_5 _ _ _ _ _ _ _ _ ps.length rfl (by rw [List.length_map]; omega) (w62 (by rw [List.length_map]; omega) (by rw [List.length_map]; omega)) _ e2,
    ce_7 _ _ _ _ _ _ _ _ U1 _ _ _ _ hQ.1 hQ.2.1 hQ.2.2 rfl hlc rfl, ce_9 _ _ _ _ _ _ _ _ _ _ _ _ hQ.1 hQ.2.1 _ e3 hQ.2.2]
  exact eR
end Cr

end
set_option maxRecDepth 100000
set_option maxHeartbeats 4000000
open PySem PySem.Spec PyProof.Rows L2 Dv
noncomputable section
/-! ## what an opened list has: heads that stand there, apart from each other -/
structure ItOk (U : List Int) (i : It) : Prop where
  hd : hdr U i.st = some i.hd
  nb : Byt i.nm
theorem hdr_nm {U : List Int} (hU : Byt U) {a : Nat} {h : Hd} (e : hdr U a = some h) : Byt h.nm := by
  unfold hdr at e
  split at e
  · split at e
    · cases e; exact hU.sl _ _
    · cases e
  · cases e
theorem whole_it {U : List Int} (hU : Byt U) (p a : Nat) : ∀ i ∈ whole U p a, ItOk U i := by
  intro i hi
  unfold whole at hi
  cases e : hdr U (p - lw U (a + 4) 4) with
  | none => rw [e] at hi; cases hi
  | some h =>
    rw [e] at hi
    replace hi : i ∈ (if h.ok = true then [(⟨sl U (a + 10) (lw U (a + 8) 2), h, p - lw U (a + 4) 4⟩ : It)] else []) := hi
    split at hi
    · rw [List.mem_singleton.mp hi]; exact ⟨e, hU.sl _ _⟩
    · cases hi
theorem dir_it {U : List Int} (hU : Byt U) (p : Nat) : ∀ n a F, (∀ i ∈ F, ItOk U i) → ∀ i ∈ dir U p n a F, ItOk U i
  | 0, a, F, h => h
  | n + 1, a, F, h => by
    rw [dir]
    split
    · exact dir_it hU p n _ _ fun i hi => (List.mem_append.mp hi).elim (h i) (whole_it hU p a i)
    · exact h
theorem srch_it {U : List Int} (hU : Byt U) : ∀ n a, ∀ i ∈ srch U n a, ItOk U i ∧ a ≤ i.st
  | 0, a, i, h => nomatch h
  | n + 1, a, i, h => by
    rw [srch] at h
    split at h
    · cases eh : hdr U a with
      | none =>
        rw [eh] at h
        have := srch_it hU n (a + 1) i h
        exact ⟨this.1, by omega⟩
      | some hd =>
        rw [eh] at h
        rcases List.mem_cons.mp h with rfl | h
        · exact ⟨⟨eh, hdr_nm hU eh⟩, Nat.le_refl _⟩
        · have := srch_it hU n _ i h
          have := hdr_en eh
          exact ⟨this.1 |> fun _ => (srch_it hU n _ i h).1, by omega⟩
    · cases h
theorem opn_it {U : List Int} (hU : Byt U) : ∀ i ∈ opn U, ItOk U i := by
  intro i hi
  unfold opn at hi
  split at hi
  · exact (srch_it hU _ _ i hi).1
  · rcases keep_sub (drs U) [] i hi with h | h
    · cases h
    · unfold drs at h
      cases e : lastE U (U.length - 9) with
      | none => rw [e] at h; cases h
      | some p => rw [e] at h; exact dir_it hU p _ _ [] (fun _ z => nomatch z) i h
def sep (i k : It) : Prop := i.hd.en ≤ k.st ∨ k.hd.en ≤ i.st
theorem kst_pw (K : List It) (i : It) (h : K.Pairwise sep) : (kst K i).Pairwise sep := by
  unfold kst
  split
  · exact h
  · rename_i z
    rw [List.pairwise_append]
    refine ⟨h, List.pairwise_singleton _ _, fun k hk j hj => ?_⟩
    rw [List.mem_singleton.mp hj]
    have : ¬ ovl i k = true := fun q => z (List.any_eq_true.mpr ⟨k, hk, q⟩)
    unfold ovl at this
    rw [Bool.and_eq_true, decide_eq_true_eq, decide_eq_true_eq] at this
    unfold sep
    omega
theorem keep_pw : ∀ (L K : List It), K.Pairwise sep → (L.foldl kst K).Pairwise sep
  | [], K, h => h
  | i :: L, K, h => by rw [List.foldl_cons]; exact keep_pw L _ (kst_pw K i h)
theorem srch_pw {U : List Int} (hU : Byt U) : ∀ n a, (srch U n a).Pairwise sep
  | 0, a => List.Pairwise.nil
  | n + 1, a => by
    rw [srch]
    split
    · cases eh : hdr U a with
      | none => exact srch_pw hU n (a + 1)
      | some hd => exact List.Pairwise.cons (fun k hk => .inl (srch_it hU n _ k hk).2) (srch_pw hU n _)
    · exact List.Pairwise.nil
theorem opn_pw {U : List Int} (hU : Byt U) : (opn U).Pairwise sep := by
  unfold opn
  split
  · exact srch_pw hU _ _
  · exact keep_pw _ [] List.Pairwise.nil
theorem sl_length (U : List Int) (a n : Nat) : (sl U a n).length = min n (U.length - a) := by unfold sl; rw [List.length_take, List.length_drop]
theorem hdr_pt {U : List Int} {a : Nat} {h : Hd} (e : hdr U a = some h) : a + 20 + h.pt.length ≤ h.en ∧ h.en ≤ U.length := by
  unfold hdr at e
  split at e
  · split at e
    · cases e
      refine ⟨?_, by show min _ _ ≤ _; omega⟩
      show a + 20 + (sl U _ _).length ≤ min _ _
      rw [sl_length]; omega
    · cases e
  · cases e
/-! the lengths of intervals apart from each other -/
def ind (i : It) (p : Nat) : Nat := if i.st ≤ p ∧ p < i.hd.en then 1 else 0
theorem ind_sum (i : It) : ∀ N, ((List.range N).map (ind i)).sum = min N i.hd.en - i.st
  | 0 => by simp
  | N + 1 => by
    rw [List.range_succ, List.map_append, List.sum_append, ind_sum i N]
    show _ + (ind i N + 0) = _
    unfold ind
    split <;> omega
theorem sum_swap (N : Nat) : ∀ S : List It, (S.map fun i => ((List.range N).map (ind i)).sum).sum = ((List.range N).map fun p => (S.map fun i => ind i p).sum).sum
  | [] => by
    have : ∀ l : List Nat, (l.map fun _ : Nat => (0 : Nat)).sum = 0 := by
      intro l; induction l with
      | nil => rfl
      | cons a l ih => rw [List.map_cons, List.sum_cons, ih]
    exact (this _).symm
  | i :: S => by
    have add : ∀ (l : List Nat) (f g : Nat → Nat), (l.map fun p => f p + g p).sum = (l.map f).sum + (l.map g).sum := by
      intro l f g; induction l with
      | nil => rfl
      | cons a l ih => rw [List.map_cons, List.sum_cons, ih, List.map_cons, List.sum_cons, List.map_cons, List.sum_cons]; omega
    rw [List.map_cons, List.sum_cons, sum_swap N S, ← add]
    rfl
theorem ind_one (p : Nat) : ∀ S : List It, S.Pairwise sep → (S.map fun i => ind i p).sum ≤ 1
  | [], _ => Nat.zero_le _
  | i :: S, h => by
    rw [List.pairwise_cons] at h
    have ih := ind_one p S h.2
    rw [List.map_cons, List.sum_cons]
    by_cases c : i.st ≤ p ∧ p < i.hd.en
    · have z : (S.map fun k => ind k p).sum = 0 := by
        have : ∀ T : List It, (∀ k ∈ T, sep i k) → (T.map fun k => ind k p).sum = 0 := by
          intro T hT; induction T with
          | nil => rfl
          | cons k T ih =>
            rw [List.map_cons, List.sum_cons, ih fun x hx => hT x (List.mem_cons_of_mem _ hx)]
            have := hT k List.mem_cons_self
            unfold sep at this
            unfold ind
            rw [if_neg (by omega)]
        exact this S h.1
      rw [z]; unfold ind; split <;> omega
    · unfold ind at ih ⊢
      rw [if_neg c]; omega
theorem sum_le (N : Nat) (S : List It) (h : S.Pairwise sep) (he : ∀ i ∈ S, i.st + i.hd.pt.length ≤ i.hd.en ∧ i.hd.en ≤ N) : (S.map fun i => i.hd.pt.length).sum ≤ N := by
  have a : (S.map fun i => i.hd.pt.length).sum ≤ (S.map fun i => ((List.range N).map (ind i)).sum).sum := by
    have : ∀ T : List It, (∀ i ∈ T, i.st + i.hd.pt.length ≤ i.hd.en ∧ i.hd.en ≤ N) → (T.map fun i => i.hd.pt.length).sum ≤ (T.map fun i => ((List.range N).map (ind i)).sum).sum := by
      intro T hT; induction T with
      | nil => exact Nat.le_refl _
      | cons i T ih =>
        have ih := ih fun x hx => hT x (List.mem_cons_of_mem _ hx)
        have := hT i List.mem_cons_self
        rw [List.map_cons, List.sum_cons, List.map_cons, List.sum_cons, ind_sum]
        omega
    exact this S he
  rw [sum_swap] at a
  refine Nat.le_trans a ?_
  have : ∀ (n : Nat) (f : Nat → Nat), (∀ p, f p ≤ 1) → ((List.range n).map f).sum ≤ n := by
    intro n f hf; induction n with
    | zero => exact Nat.le_refl _
    | succ n ih => rw [List.range_succ, List.map_append, List.sum_append]; have := hf n; show _ + (f n + 0) ≤ _; omega
  exact this N _ fun p => ind_one p S h
/-! what is kept of equal names -/
def sel : List It → List It
  | [] => []
  | i :: is => if (is.map nmS).any (· == nmS i) = true then sel is else i :: sel is
theorem dd_sel (W : List Str) : ∀ (is : List It) (n : Nat), W.drop n = is.map nmS → dd W n is = (sel is).map fP
  | [], _, _ => rfl
  | i :: is, n, h => by
    have h2 : W.drop (n + 1) = is.map nmS := by
      rw [← List.drop_drop, h, List.map_cons]; rfl
    rw [dd, sel, h2]
    split
    · exact dd_sel W is (n + 1) h2
    · rw [List.map_cons, dd_sel W is (n + 1) h2]
theorem sel_sub : ∀ is : List It, (sel is).Sublist is
  | [] => List.Sublist.slnil
  | i :: is => by
    rw [sel]
    split
    · exact (sel_sub is).cons _
    · exact (sel_sub is).cons₂ _
theorem sel_nd : ∀ is : List It, ((sel is).map nmS).Nodup
  | [] => List.nodup_nil
  | i :: is => by
    rw [sel]
    split
    · exact sel_nd is
    · rename_i z
      rw [List.map_cons, List.nodup_cons]
      refine ⟨fun h => z ?_, sel_nd is⟩
      obtain ⟨k, hk, e⟩ := List.mem_map.mp h
      exact List.any_eq_true.mpr ⟨nmS k, List.mem_map.mpr ⟨k, (sel_sub is).subset hk, rfl⟩, by simp [e]⟩
def pik (U : List Int) : List It := (sel (opn U)).take 64
theorem res_pik (U : List Int) : (dd ((opn U).map nmS) 0 (opn U)).take 64 = (pik U).map fP := by
  rw [dd_sel _ _ 0 rfl]
  unfold pik
  rw [List.map_take]
theorem pik_sub (U : List Int) : (pik U).Sublist (opn U) := (List.take_sublist _ _).trans (sel_sub _)
theorem pik_nd (U : List Int) : ((pik U).map nmS).Nodup := by
  unfold pik
  rw [List.map_take]
  exact (sel_nd (opn U)).sublist (List.take_sublist _ _)
theorem pik_len (U : List Int) : (pik U).length ≤ 64 := by unfold pik; rw [List.length_take]; omega
theorem pik_it {U : List Int} (hU : Byt U) : ∀ i ∈ pik U, ItOk U i := fun i hi => opn_it hU i ((pik_sub U).subset hi)
theorem pik_sum {U : List Int} (hU : Byt U) : ((pik U).map fun i => i.hd.pt.length).sum ≤ U.length := by
  refine sum_le U.length _ ((opn_pw hU).sublist (pik_sub U)) fun i hi => ?_
  have := hdr_pt (pik_it hU i hi).hd
  omega
/-! written again -/
theorem tail_le (ps : List (List Int)) (h : ∀ q ∈ ps, good q) : ∀ c ∈ tail47 ps, c ≤ 255 := by
  intro c hc
  unfold tail47 at hc
  obtain ⟨p, hp, hc⟩ := List.mem_flatMap.mp hc
  rcases List.mem_cons.mp hc with rfl | hc
  · decide
  · have := (h p hp c hc).1
    unfold keep at this
    have := of_decide_eq_true this
    omega
theorem name_le (xs : List Int) : ∀ c ∈ nameF xs, c ≤ 255 := by
  have hk := kept_good xs
  unfold nameF
  cases e : kept xs with
  | nil => show ∀ c ∈ cps (Str.ofString "part"), _; rw [part_cps]; decide
  | cons p ps =>
    rw [e] at hk
    obtain ⟨k, h1, _⟩ := jn_take ps (p.take 100)
    show ∀ c ∈ jn (p.take 100) ps, c ≤ 255
    rw [h1]
    intro c hc
    rcases List.mem_append.mp hc with hc | hc
    · have : 32 ≤ c ∧ c ≤ 126 ∧ c ≠ 37 := of_decide_eq_true ((hk p List.mem_cons_self).1 c (List.mem_of_mem_take hc)).1
      omega
    · exact tail_le _ (fun q hq => (hk q (List.mem_cons_of_mem _ (List.mem_of_mem_take hq))).1) c hc
def ent (i : It) : Ent := ⟨nameF i.nm, i.hd.me, i.hd.sz, i.hd.tt, i.hd.pt⟩
theorem ent_P (i : It) : fP i = entP (ent i) := rfl
theorem hdr_rng {U : List Int} (hU : Byt U) {a : Nat} {h : Hd} (e : hdr U a = some h) : (0 ≤ h.me ∧ h.me < 256) ∧ (0 ≤ h.sz ∧ h.sz < 4294967296) ∧ (0 ≤ h.tt ∧ h.tt < 4294967296) ∧ Byt h.pt := by
  have lt4 : ∀ k, 0 ≤ lnum (sl U k 4) ∧ lnum (sl U k 4) < 4294967296 := fun k => by
    have h1 := lw_int hU k 4
    have h2 := lw_lt hU k 4 (by omega)
    omega
  unfold hdr at e
  split at e
  · rename_i z
    split at e
    · cases e
      refine ⟨?_, lt4 _, lt4 _, hU.sl _ _⟩
      show 0 ≤ U.getD (a + 4) 0 ∧ U.getD (a + 4) 0 < 256
      rw [List.getD_eq_getElem?_getD, List.getElem?_eq_getElem (by omega), Option.getD_some]
      exact hU _ (List.getElem_mem _)
    · cases e
  · cases e
theorem ent_ok {U : List Int} (hU : Byt U) (lU : U.length ≤ 100000) {i : It} (h : ItOk U i) : EntW (ent i) := by
  obtain ⟨h1, h2, h3, h4⟩ := hdr_rng hU h.hd
  have h5 := hdr_pt h.hd
  have h6 := name_len i.nm
  exact ⟨⟨fun c hc => ⟨name_nn _ c hc, by have := name_le _ c hc; omega⟩, h1, h2, h3, h4, h6.2, by show i.hd.pt.length ≤ _; omega⟩, name_again _⟩

end
set_option maxRecDepth 100000
set_option maxHeartbeats 4000000
open PySem PySem.Spec PyProof.Rows L2 Dv
noncomputable section
/-! ## the law: spoilt -/
theorem sp_ret (s : List Int) (k c : Int) (x3 x4 x5 x6 : Option D) (hix : ixD (dInts s) k = some (.int c)) :
    ∃ ρ, lp__law_spoilt_1 [some (.scr (dInts s)), some (.lst true []), some (.int k), x3, x4, x5, x6] = .rt (.lst true []) ρ := by
  obtain ⟨q, hq⟩ : ∃ q, (if c < 0 then -c else c) = q := ⟨_, rfl⟩
  refine ⟨[some (.scr (dInts s)), some (.lst true []), some (.int k), some (.int q), x4, x5, x6], ?_⟩
  simp [lp__law_spoilt_1, hix, hq]
theorem sp_core (s U A B C C2 : List Int) (k c q n a e w v y : Int) (j : Nat) (x3 x4 x5 x6 : Option D) (hix : ixD (dInts s) k = some (.int c)) (hq : (if c < 0 then -c else c) = q) (hn : (U.length : Int) = n) (n0 : 0 < n) (ha : q / 5 % n = a) (he : a + q / 5000 % 60 = e) (hw : q % 5 = w) (wa : W62 a) (we : W62 e)
    (hA : Dv.cutD U none (some a) = A) (hB : Dv.cutD U (some a) (some e) = B) (hC : Dv.cutD U (some e) none = C) (hC2 : Dv.cutD U (some a) none = C2) (hv : ixD (dInts U) a = some (.int v)) (hj : L2.ixN U.length a = some j) (hy : Builtin.bitXor v (1 + q / 7 % 255) = y)
    (lA : A.length ≤ 1000000) (lB : B.length ≤ 1000000) (lC : C.length ≤ 1000000) (lC2 : C2.length ≤ 1000000) (lU : U.length ≤ 1000000) :
    ∃ z4 z5 z6, lp__law_spoilt_1 [some (.scr (dInts s)), some (.lst true (dInts U)), some (.int k), x3, x4, x5, x6] =
      .nx [some (.scr (dInts s)), some (.lst true (dInts (if w = 0 then A ++ C else if w = 1 then U ++ B else if w = 2 then A ++ B ++ C2 else if w = 3 then U.set j y else U))), some (.int k), some (.int q), z4, z5, z6] := by
  refine ⟨some (.int a), some (.int e), some (.int w), ?_⟩
  have n1 : ¬ n = 0 := by omega
  have l1 : A.length + C.length ≤ 16777216 := by omega
  have l2 : U.length + B.length ≤ 16777216 := by omega
  have l3 : A.length + B.length ≤ 16777216 := by omega
  have l4 : A.length + (B.length + C2.length) ≤ 16777216 := by omega
  have l5 : A.length + B.length + C2.length ≤ 16777216 := by omega
  have sD : ∀ R : List Int, (dInts R).set j (.int y) = dInts (R.set j y) := fun R => by unfold dInts; rw [List.map_set]
  have aD : ∀ R S : List Int, dInts R ++ dInts S = dInts (R ++ S) := fun R S => (dInts_app R S)
  by_cases w0 : w = 0
  · simp [lp__law_spoilt_1, hix, hq, hn, n0, n1, ha, he, hw, wa, we, hA, hC, l1, w0, aD]
  · by_cases w1 : w = 1
    · simp [lp__law_spoilt_1, hix, hq, hn, n0, n1, ha, he, hw, wa, we, hB, l2, w1, aD]
    · by_cases w2 : w = 2
      · simp [lp__law_spoilt_1, hix, hq, hn, n0, n1, ha, he, hw, wa, we, hA, hB, hC2, l3, l4, l5, w2, aD]
      · by_cases w3 : w = 3
        · simp [lp__law_spoilt_1, hix, hq, hn, n0, n1, ha, he, hw, w3, hv, hj, hy, onL, sD]
        · simp [lp__law_spoilt_1, hix, hq, hn, n0, n1, ha, he, hw, w0, w1, w2, w3]

theorem cut_sub {α : Type} (xs : List α) (lo hi : Option Int) : ∀ x ∈ Dv.cutD xs lo hi, x ∈ xs := by
  intro x hx
  unfold Dv.cutD at hx
  exact List.mem_of_mem_drop (List.mem_of_mem_take hx)

end
set_option maxRecDepth 100000
set_option maxHeartbeats 4000000
open PySem PySem.Spec PyProof.Rows L2 Dv
noncomputable section
theorem xN (a b : Nat) : Builtin.bitXor (a : Int) (b : Int) = ((a ^^^ b : Nat) : Int) := by
  rw [Bits.bitXor_pp (by omega) (by omega), Int.toNat_natCast, Int.toNat_natCast]
theorem xor_byte (v w : Int) (h0 : 0 ≤ v) (h1 : v < 256) (h2 : 0 ≤ w) (h3 : w < 256) : 0 ≤ Builtin.bitXor v w ∧ Builtin.bitXor v w < 256 := by
  obtain ⟨a, rfl⟩ := Int.eq_ofNat_of_zero_le h0
  obtain ⟨b, rfl⟩ := Int.eq_ofNat_of_zero_le h2
  rw [xN]
  have := Nat.xor_lt_two_pow (n := 8) (show a < 2 ^ 8 by omega) (show b < 2 ^ 8 by omega)
  omega
theorem Byt.set {U : List Int} (h : Byt U) (k : Nat) (w : Int) (hw : 0 ≤ w ∧ w < 256) : Byt (U.set k w) := fun x hx => (List.mem_or_eq_of_mem_set hx).elim (h x) fun e => by rw [e]; exact hw
theorem Byt.cut {U : List Int} (h : Byt U) (lo hi : Option Int) : Byt (Dv.cutD U lo hi) := fun x hx => h x (cut_sub U lo hi x hx)
theorem cut_len {α : Type} (xs : List α) (lo hi : Option Int) : (Dv.cutD xs lo hi).length ≤ xs.length := by
  unfold Dv.cutD
  rw [List.length_take, List.length_drop]; omega
theorem sp_turn (s U : List Int) (k c : Int) (x3 x4 x5 x6 : Option D) (hix : ixD (dInts s) k = some (.int c)) (hU : Byt U) (ne : U ≠ []) (lU : U.length ≤ 100000) :
    ∃ V z3 z4 z5 z6, lp__law_spoilt_1 [some (.scr (dInts s)), some (.lst true (dInts U)), some (.int k), x3, x4, x5, x6] = .nx [some (.scr (dInts s)), some (.lst true (dInts V)), some (.int k), z3, z4, z5, z6] ∧ Byt V ∧ V.length ≤ U.length + 60 := by
  obtain ⟨q, hq⟩ : ∃ q, (if c < 0 then -c else c) = q := ⟨_, rfl⟩
  have q0 : 0 ≤ q := by rw [← hq]; split <;> omega
  have n0 : 0 < U.length := List.length_pos_iff.mpr ne
  obtain ⟨a, ha⟩ := Int.eq_ofNat_of_zero_le (Int.emod_nonneg (q / 5) (show (U.length : Int) ≠ 0 by omega))
  have ha2 := Int.emod_lt_of_pos (q / 5) (show (0 : Int) < U.length by omega)
  have ha1 : a < U.length := by omega
  obtain ⟨m, hm⟩ := Int.eq_ofNat_of_zero_le (show 0 ≤ q / 5000 % 60 by omega)
  have m1 : m < 60 := by omega
  have iv := ixD_nat (dInts U) a
  rw [dInts_get, List.getElem?_eq_getElem ha1] at iv
  have bv := hU _ (List.getElem_mem ha1)
  have hx := xor_byte _ (1 + q / 7 % 255) bv.1 bv.2 (by omega) (by omega)
  have e1 := cut_to U a
  have e2 := cut_mid U a m ((a : Int) + (m : Int)) rfl
  have e3 := cut_from U (a + m)
  have e4 := cut_from U a
  rw [Int.natCast_add] at e3
  obtain ⟨z4, z5, z6, h⟩ := sp_core s U _ _ _ _ k c q U.length a ((a : Int) + (m : Int)) _ _ _ a x3 x4 x5 x6 hix hq rfl (by omega) ha (by rw [hm]) rfl (w62 (by omega) (by omega)) (w62 (by omega) (by omega)) e1 e2 e3 e4 iv (ixN_lt ha1) rfl
    (by rw [List.length_take]; omega) (by rw [List.length_take, List.length_drop]; omega) (by rw [List.length_drop]; omega) (by rw [List.length_drop]; omega) (by omega)
  refine ⟨_, _, z4, z5, z6, h, ?_, ?_⟩
  · split
    · exact Byt.app (fun x hx => hU x (List.mem_of_mem_take hx)) fun x hx => hU x (List.mem_of_mem_drop hx)
    · split
      · exact Byt.app hU fun x hx => hU x (List.mem_of_mem_drop (List.mem_of_mem_take hx))
      · split
        · exact Byt.app (Byt.app (fun x hx => hU x (List.mem_of_mem_take hx)) fun x hx => hU x (List.mem_of_mem_drop (List.mem_of_mem_take hx))) fun x hx => hU x (List.mem_of_mem_drop hx)
        · split
          · exact hU.set _ _ hx
          · exact hU
  · split
    · rw [List.length_append, List.length_take, List.length_drop]; omega
    · split
      · rw [List.length_append, List.length_take, List.length_drop]; omega
      · split
        · rw [List.length_append, List.length_append, List.length_take, List.length_take, List.length_drop]; omega
        · split
          · rw [List.length_set]; omega
          · omega
theorem rng_cons (lo n : Nat) : rngL (lo : Int) (n + 1) = .int (lo : Int) :: rngL ((lo + 1 : Nat) : Int) n := by
  have h1 : D.int ((lo : Int) + ((0 : Nat) : Int)) = .int (lo : Int) := by rw [show (lo : Int) + ((0 : Nat) : Int) = lo by omega]
  have h2 : ∀ j : Nat, D.int ((lo : Int) + ((j + 1 : Nat) : Int)) = .int (((lo + 1 : Nat) : Int) + (j : Int)) := fun j => by rw [show (lo : Int) + ((j + 1 : Nat) : Int) = ((lo + 1 : Nat) : Int) + (j : Int) by omega]
  unfold rngL
  rw [List.range_succ_eq_map, List.map_cons, List.map_map, h1]
  exact congrArg _ (List.map_congr_left fun j _ => h2 j)
theorem sp_loop (s : List Int) : ∀ (n : Nat) (lo : Nat) (U : List Int) (x2 x3 x4 x5 x6 : Option D), (n = 0 ∨ lo + n ≤ s.length) → Byt U → U.length + 60 * n ≤ 100000 →
    (∃ ρ, forL (gNm 2) lp__law_spoilt_1 (rngL (lo : Int) n) [some (.scr (dInts s)), some (.lst true (dInts U)), x2, x3, x4, x5, x6] = .rt (.lst true []) ρ) ∨
    (∃ (V : List Int) (z2 z3 z4 z5 z6 : Option D), forL (gNm 2) lp__law_spoilt_1 (rngL (lo : Int) n) [some (.scr (dInts s)), some (.lst true (dInts U)), x2, x3, x4, x5, x6] = .nx [some (.scr (dInts s)), some (.lst true (dInts V)), z2, z3, z4, z5, z6] ∧ Byt V ∧ V.length ≤ 100000)
  | 0, lo, U, x2, x3, x4, x5, x6, _, hU, hl => .inr ⟨U, x2, x3, x4, x5, x6, rfl, hU, by omega⟩
  | n + 1, lo, U, x2, x3, x4, x5, x6, hs, hU, hl => by
    have hk : lo < s.length := by omega
    have ix := ixD_nat (dInts s) lo
    rw [dInts_get, List.getElem?_eq_getElem hk] at ix
    rw [rng_cons]
    by_cases ne : U = []
    · subst ne
      obtain ⟨ρ, h⟩ : ∃ ρ, lp__law_spoilt_1 [some (.scr (dInts s)), some (.lst true []), some (.int (lo : Int)), x3, x4, x5, x6] = .rt (.lst true []) ρ := sp_ret s (lo : Int) s[lo] x3 x4 x5 x6 ix
      refine .inl ⟨ρ, ?_⟩
      rw [forL_cons, show gNm 2 (.int (lo : Int)) [some (.scr (dInts s)), some (.lst true (dInts [])), x2, x3, x4, x5, x6] = some [some (.scr (dInts s)), some (.lst true []), some (.int (lo : Int)), x3, x4, x5, x6] from rfl]
      simp only [h]
    · obtain ⟨V, z3, z4, z5, z6, h, bV, lV⟩ := sp_turn s U (lo : Int) s[lo] x3 x4 x5 x6 ix hU ne (by omega)
      have f := forL_nx (g := gNm 2) (b := lp__law_spoilt_1) (d := .int (lo : Int)) (ds := rngL ((lo + 1 : Nat) : Int) n) (ρ := [some (.scr (dInts s)), some (.lst true (dInts U)), x2, x3, x4, x5, x6]) rfl h rfl
      rw [f]
      exact sp_loop s n (lo + 1) V _ z3 z4 z5 z6 (by omega) bV (by omega)
theorem sps_rt (s U : List Int) (n m : Int) (N : Nat) (ρ : Dv.Env) (hn : (s.length : Int) = n) (hm : (if n < 22 then n else 22) = m) (wm : W62 m) (hN : (m - 16).toNat = N) (h : forL (gNm 2) lp__law_spoilt_1 (rngL 16 N) [some (.scr (dInts s)), some (.lst true (dInts U)), none, none, none, none, none] = .rt (.lst true []) ρ) :
    d__law_spoilt [.scr (dInts s), .lst true (dInts U)] = .ok (.lst true []) := by
  simp [d__law_spoilt, b__law_spoilt, fnD, hn, hm, wm, hN, h]
theorem sps_nx (s U V W : List Int) (n m : Int) (N : Nat) (z2 z3 z4 z5 z6 : Option D) (hn : (s.length : Int) = n) (hm : (if n < 22 then n else 22) = m) (wm : W62 m) (hN : (m - 16).toNat = N) (hW : Dv.cutD V none (some 1500) = W) (h : forL (gNm 2) lp__law_spoilt_1 (rngL 16 N) [some (.scr (dInts s)), some (.lst true (dInts U)), none, none, none, none, none] = .nx [some (.scr (dInts s)), some (.lst true (dInts V)), z2, z3, z4, z5, z6]) :
    d__law_spoilt [.scr (dInts s), .lst true (dInts U)] = .ok (.lst true (dInts W)) := by
  simp [d__law_spoilt, b__law_spoilt, fnD, hn, hm, wm, hN, h, hW]
theorem m_spoilt (s U : List Int) (hU : Byt U) (lU : U.length ≤ 2000) (ls : s.length ≤ 1000) : ∃ V, d__law_spoilt [.scr (dInts s), .lst true (dInts U)] = .ok (.lst true (dInts V)) ∧ Byt V ∧ V.length ≤ 1500 := by
  obtain ⟨m, hm⟩ : ∃ m, (if (s.length : Int) < 22 then (s.length : Int) else 22) = m := ⟨_, rfl⟩
  have m1 : m ≤ s.length ∧ m ≤ 22 ∧ 0 ≤ m := by rw [← hm]; split <;> omega
  rcases sp_loop s (m - 16).toNat 16 U none none none none none (by omega) hU (by omega) with ⟨ρ, h⟩ | ⟨V, z2, z3, z4, z5, z6, h, bV, lV⟩
  · exact ⟨[], sps_rt s U _ m _ ρ rfl hm (w62 (by omega) (by omega)) rfl h, Byt.nil, by simp⟩
  · exact ⟨_, sps_nx s U V _ _ m _ z2 z3 z4 z5 z6 rfl hm (w62 (by omega) (by omega)) rfl rfl h, bV.cut _ _, by
      have := cut_to V 1500
      rw [show ((1500 : Nat) : Int) = 1500 from rfl] at this
      rw [this, List.length_take]; omega⟩
/-! stands -/
theorem lowB_lnum : ∀ bs : List Int, Byt bs → lowB bs.length (lnum bs) = bs
  | [], _ => rfl
  | b :: bs, h => by
    have h0 := h b List.mem_cons_self
    have ih := lowB_lnum bs fun x hx => h x (List.mem_cons_of_mem _ hx)
    rw [List.length_cons, lowB, lnum, show (lnum bs * 256 + b) % 256 = b by omega, show (lnum bs * 256 + b) / 256 = lnum bs by omega, ih]
theorem lln_turn (x0 : Option D) (n b : Int) (x2 : Option D) : lp__law_number_1 [x0, some (.int n), some (.int b)] = .nx [x0, some (.int (256 * n + b)), some (.int b)] := by
  simp [lp__law_number_1]
theorem lnum_fold2 : ∀ xs : List Int, xs.reverse.foldl (fun n b => 256 * n + b) 0 = lnum xs
  | [] => rfl
  | x :: xs => by rw [List.reverse_cons, List.foldl_append, lnum_fold2 xs]; show 256 * lnum xs + x = lnum xs * 256 + x; omega
theorem lln_end (xs : List Int) (r : Int) (y2 : Option D) (h : forL (gNm 2) lp__law_number_1 (dInts xs.reverse) [some (.lst false (dInts xs)), some (.int 0), none] = .nx [some (.lst false (dInts xs)), some (.int r), y2]) : d__law_number [.lst false (dInts xs)] = .ok (.int r) := by
  have e := dInts_rev xs
  simp [d__law_number, b__law_number, fnD, e, h]
theorem m_lnumber (xs : List Int) : d__law_number [.lst false (dInts xs)] = .ok (.int (lnum xs)) := by
  obtain ⟨ρ', e, z, rfl⟩ := for_fold D.int (g := gNm 2) (b := lp__law_number_1) (fun n b => 256 * n + b) (fun n ρ => ∃ z, ρ = [some (.lst false (dInts xs)), some (.int n), z]) xs.reverse 0 [some (.lst false (dInts xs)), some (.int 0), none] (fun b _ n ρ H => by
    obtain ⟨z, rfl⟩ := H
    exact ⟨_, _, rfl, .inl (lln_turn _ n b (some (.int b))), _, rfl⟩) ⟨none, rfl⟩
  rw [lnum_fold2] at e
  exact lln_end xs _ z e

end
set_option maxRecDepth 100000
set_option maxHeartbeats 4000000
open PySem PySem.Spec PyProof.Rows L2 Dv
noncomputable section
theorem st1_core (U S L PT P Q N2 R : List Int) (x1 x5 x6 x7 x8 x10 : Option D) (k k5 k8 k16 k6 v nn f pl fe n : Int) (hv : ixD (dInts U) k = some (.int v)) (e5 : k + 5 = k5) (e8 : k + 8 = k8) (e16 : k + 16 = k16) (e6 : k + 6 = k6)
    (hP : Dv.cutD U (some k) (some k5) = P) (hQ : Dv.cutD U (some k8) (some k16) = Q) (hN : Dv.cutD U (some k6) (some k8) = N2) (hn : d__law_number [.lst false (dInts N2)] = .ok (.int nn)) (hf : k + 20 + nn = f) (hpl : (PT.length : Int) = pl) (hfe : f + pl = fe) (hR : Dv.cutD U (some f) (some fe) = R) (hl : (U.length : Int) = n)
    (wk : W62 k) (w5 : W62 k5) (w8 : W62 k8) (w16 : W62 k16) (w6 : W62 k6) (wf : W62 f) (wfe : W62 fe) (c : Bool) (hc : decide (v = 67 ∧ P = S ∧ Q = L ∧ f ≤ n ∧ R = PT) = c) :
    ∃ z10, lp__law_stands_1 [some (.lst false (dInts U)), x1, some (.lst true (dInts S)), some (.lst true (dInts L)), some (.int k), x5, x6, x7, x8, some (.tup (dInts PT)), x10] =
      if c = true then .rt (.bl true) [some (.lst false (dInts U)), x1, some (.lst true (dInts S)), some (.lst true (dInts L)), some (.int k), x5, x6, x7, x8, some (.tup (dInts PT)), z10]
      else .nx [some (.lst false (dInts U)), x1, some (.lst true (dInts S)), some (.lst true (dInts L)), some (.int k), x5, x6, x7, x8, some (.tup (dInts PT)), z10] := by
  subst hc
  by_cases c1 : v = 67
  · by_cases c2 : P = S
    · by_cases c3 : Q = L
      · refine ⟨some (.int f), ?_⟩
        by_cases c4 : f ≤ n
        · by_cases c5 : R = PT
          · simp [lp__law_stands_1, callF, hv, e5, e8, e16, e6, hP, hQ, hN, hn, hf, hpl, hfe, hR, hl, wk, w5, w8, w16, w6, wf, wfe, c1, c2, c3, c4, c5, items]
          · have c5' : (R == PT) = false := by simpa using c5
            simp [lp__law_stands_1, callF, hv, e5, e8, e16, e6, hP, hQ, hN, hn, hf, hpl, hfe, hR, hl, wk, w5, w8, w16, w6, wf, wfe, c1, c2, c3, c4, c5, c5', items]
        · simp [lp__law_stands_1, callF, hv, e5, e8, e16, e6, hP, hQ, hN, hn, hf, hpl, hfe, hR, hl, wk, w5, w8, w16, w6, wf, wfe, c1, c2, c3, c4]
      · have c3' : (Q == L) = false := by simpa using c3
        exact ⟨x10, by simp [lp__law_stands_1, callF, hv, e5, e8, e16, hP, hQ, wk, w5, w8, w16, c1, c2, c3, c3']⟩
    · have c2' : (P == S) = false := by simpa using c2
      exact ⟨x10, by simp [lp__law_stands_1, callF, hv, e5, hP, wk, w5, c1, c2, c2']⟩
  · exact ⟨x10, by simp [lp__law_stands_1, hv, c1]⟩
theorem sta_end (U L4 L5 PT : List Int) (me sz tt n m : Int) (N : Nat) (x : Str) (h4 : d__law_low [.int sz, .int 4] = .ok (.lst true (dInts L4))) (h5 : d__law_low [.int tt, .int 4] = .ok (.lst true (dInts L5))) (hl4 : L4.length = 4) (hl5 : L5.length = 4) (hn : (U.length : Int) = n) (hm : n - 19 = m) (wm : W62 m) (hN : m.toNat = N) (ρ : Dv.Env)
    (h : forL (gNm 4) lp__law_stands_1 (rngL 0 N) [some (.lst false (dInts U)), some (.tup [.str x, .int me, .int sz, .int tt, .tup (dInts PT)]), some (.lst true [.int 67, .int 82, .int 84, .int 49, .int me]), some (.lst true (dInts (L4 ++ L5))), none, some (.str x), some (.int me), some (.int sz), some (.int tt), some (.tup (dInts PT)), none] = .rt (.bl true) ρ) :
    d__law_stands [.lst false (dInts U), .tup [.str x, .int me, .int sz, .int tt, .tup (dInts PT)]] = .ok (.bl true) := by
  have e : gAdd (.lst true [.int 67, .int 82, .int 84, .int 49]) (.lst true [.int me]) = some (.lst true [.int 67, .int 82, .int 84, .int 49, .int me]) := by
    rw [gAdd_lst, if_pos ⟨rfl, rfl, by simp⟩]; rfl
  have e2 : gAdd (.lst true (dInts L4)) (.lst true (dInts L5)) = some (.lst true (dInts (L4 ++ L5))) := gAdd_dI true true L4 L5 (by omega)
  have hc := c_crt
  simp [d__law_stands, b__law_stands, fnD, callF, frzAt, hc, h4, h5, e, e2, hn, hm, wm, hN, h]
def cndJ (U : List Int) (i : It) (j : Nat) : Bool := decide (U.getD j 0 = 67 ∧ sl U j 5 = [67, 82, 84, 49, i.hd.me] ∧ sl U (j + 8) 8 = lowB 4 i.hd.sz ++ lowB 4 i.hd.tt ∧ (j : Int) + 20 + lnum (sl U (j + 6) 2) ≤ (U.length : Int) ∧ sl U (j + 20 + lw U (j + 6) 2) i.hd.pt.length = i.hd.pt)
theorem m_stands5 (U : List Int) (hU : Byt U) (lU : U.length ≤ 100000) (i : It) (hi : ItOk U i) : d__law_stands [.lst false (dInts U), fP i] = .ok (.bl true) := by
  obtain ⟨st, en⟩ : ∃ st, i.st = st := ⟨_, rfl⟩
  have eh := hi.hd
  rw [en] at eh
  have hp := hdr_pt eh
  have hr := hdr_rng hU eh
  unfold hdr at eh
  split at eh
  · rename_i z
    split at eh
    · rename_i z2
      injection eh with eh
      have q1 : i.hd.me = U.getD (st + 4) 0 := by rw [← eh]
      have q2 : i.hd.sz = lnum (sl U (st + 8) 4) := by rw [← eh]
      have q3 : i.hd.tt = lnum (sl U (st + 12) 4) := by rw [← eh]
      have q4 : i.hd.pt = sl U (st + 20 + lw U (st + 6) 2) (lw U (st + 16) 4) := by rw [← eh]
      clear eh
      have s4 : sl U st 4 = [67, 82, 84, 49] := z.1
      have l8 : (sl U (st + 8) 4).length = 4 := by rw [sl_length]; omega
      have l12 : (sl U (st + 12) 4).length = 4 := by rw [sl_length]; omega
      have t1 : lowB 4 i.hd.sz = sl U (st + 8) 4 := by
        have := lowB_lnum _ (hU.sl (st + 8) 4)
        rw [l8] at this; rw [q2]; exact this
      have t2 : lowB 4 i.hd.tt = sl U (st + 12) 4 := by
        have := lowB_lnum _ (hU.sl (st + 12) 4)
        rw [l12] at this; rw [q3]; exact this
      have tl : sl U (st + 8) 8 = lowB 4 i.hd.sz ++ lowB 4 i.hd.tt := by
        rw [t1, t2]
        unfold sl
        rw [show (8 : Nat) = 4 + 4 from rfl, List.take_add, List.drop_drop]
      have sg : sl U st 5 = [67, 82, 84, 49, i.hd.me] := by
        have : sl U st 5 = sl U st 4 ++ sl U (st + 4) 1 := by
          unfold sl
          rw [show (5 : Nat) = 4 + 1 from rfl, List.take_add, List.drop_drop]
        rw [this, s4, q1]
        have : sl U (st + 4) 1 = [U.getD (st + 4) 0] := by
          unfold sl
          rw [List.getD_eq_getElem?_getD, List.getElem?_eq_getElem (by omega), List.drop_eq_getElem_cons (by omega)]
          rfl
        rw [this]; rfl
      have v67 : U.getD st 0 = 67 := by
        have h := congrArg (fun l => l.getD 0 0) s4
        simp only [sl] at h
        rw [List.getD_eq_getElem?_getD, List.getElem?_take_of_lt (by omega), List.getElem?_drop, Nat.add_zero] at h
        rw [List.getD_eq_getElem?_getD]; exact h
      have cond : ∀ j : Nat, (j : Nat) < U.length - 19 → ∀ (x1 x5 x6 x7 x8 x10 : Option D), ∃ z10, lp__law_stands_1 [some (.lst false (dInts U)), x1, some (.lst true (dInts [67, 82, 84, 49, i.hd.me])), some (.lst true (dInts (lowB 4 i.hd.sz ++ lowB 4 i.hd.tt))), some (.int (j : Int)), x5, x6, x7, x8, some (.tup (dInts i.hd.pt)), x10] =
          if cndJ U i j = true then .rt (.bl true) [some (.lst false (dInts U)), x1, some (.lst true (dInts [67, 82, 84, 49, i.hd.me])), some (.lst true (dInts (lowB 4 i.hd.sz ++ lowB 4 i.hd.tt))), some (.int (j : Int)), x5, x6, x7, x8, some (.tup (dInts i.hd.pt)), z10]
          else .nx [some (.lst false (dInts U)), x1, some (.lst true (dInts [67, 82, 84, 49, i.hd.me])), some (.lst true (dInts (lowB 4 i.hd.sz ++ lowB 4 i.hd.tt))), some (.int (j : Int)), x5, x6, x7, x8, some (.tup (dInts i.hd.pt)), z10] := fun j hj x1 x5 x6 x7 x8 x10 => by
        have lb := lw_le hU (j + 6)
        have li := lw_int hU (j + 6) 2
        exact st1_core U _ _ _ _ _ _ _ x1 x5 x6 x7 x8 x10 (j : Int) _ _ _ _ _ _ _ _ _ _ (ixs U j (by omega) _ rfl) rfl rfl rfl rfl (cut_sl U j 5 _ _ rfl (by omega)) (cut_sl U (j + 8) 8 _ _ (by omega) (by omega)) (cut_sl U (j + 6) 2 _ _ (by omega) (by omega)) (m_lnumber _) rfl rfl rfl (cut_sl U (j + 20 + lw U (j + 6) 2) i.hd.pt.length _ _ (by omega) (by omega)) rfl
          (w62 (by omega) (by omega)) (w62 (by omega) (by omega)) (w62 (by omega) (by omega)) (w62 (by omega) (by omega)) (w62 (by omega) (by omega)) (w62 (by omega) (by omega)) (w62 (by omega) (by omega)) _ rfl
      have at_st : (U.getD st 0 = 67 ∧ sl U st 5 = [67, 82, 84, 49, i.hd.me] ∧ sl U (st + 8) 8 = lowB 4 i.hd.sz ++ lowB 4 i.hd.tt ∧ (st : Int) + 20 + lnum (sl U (st + 6) 2) ≤ (U.length : Int) ∧ sl U (st + 20 + lw U (st + 6) 2) i.hd.pt.length = i.hd.pt) := by
        have li := lw_int hU (st + 6) 2
        refine ⟨v67, sg, tl, by omega, ?_⟩
        rw [q4]
        rw [sl_length]
        unfold sl
        rw [List.take_eq_take_iff, List.length_drop]
        omega
      have hf := for_find (fun j : Nat => D.int (0 + (j : Int))) (g := gNm 4) (b := lp__law_stands_1) (cndJ U i) (fun _ => .bl true)
        (fun ρ => ∃ z4 z10, ρ = [some (.lst false (dInts U)), some (fP i), some (.lst true (dInts [67, 82, 84, 49, i.hd.me])), some (.lst true (dInts (lowB 4 i.hd.sz ++ lowB 4 i.hd.tt))), z4, some (.str (nmS i)), some (.int i.hd.me), some (.int i.hd.sz), some (.int i.hd.tt), some (.tup (dInts i.hd.pt)), z10]) (List.range (U.length - 19))
        [some (.lst false (dInts U)), some (fP i), some (.lst true (dInts [67, 82, 84, 49, i.hd.me])), some (.lst true (dInts (lowB 4 i.hd.sz ++ lowB 4 i.hd.tt))), none, some (.str (nmS i)), some (.int i.hd.me), some (.int i.hd.sz), some (.int i.hd.tt), some (.tup (dInts i.hd.pt)), none] (fun j hj ρ H => by
          obtain ⟨z4, z10, rfl⟩ := H
          have hj := List.mem_range.mp hj
          obtain ⟨y10, h⟩ := cond j hj (some (fP i)) (some (.str (nmS i))) (some (.int i.hd.me)) (some (.int i.hd.sz)) (some (.int i.hd.tt)) z10
          rw [Int.zero_add]
          refine ⟨_, [some (.lst false (dInts U)), some (fP i), some (.lst true (dInts [67, 82, 84, 49, i.hd.me])), some (.lst true (dInts (lowB 4 i.hd.sz ++ lowB 4 i.hd.tt))), some (.int (j : Int)), some (.str (nmS i)), some (.int i.hd.me), some (.int i.hd.sz), some (.int i.hd.tt), some (.tup (dInts i.hd.pt)), y10], rfl, ?_⟩
          generalize cndJ U i j = c at h ⊢
          cases c with
          | true => exact .inl ⟨rfl, h⟩
          | false => exact .inr ⟨rfl, .inl h, _, _, rfl⟩) ⟨_, _, rfl⟩
      rcases hf with ⟨a, ρ', _, h⟩ | ⟨h, _⟩
      · exact sta_end U _ _ i.hd.pt i.hd.me i.hd.sz i.hd.tt _ _ _ (nmS i) (m_lowX _ 4 (by omega)) (m_lowX _ 4 (by omega)) (lowB_len ..) (lowB_len ..) rfl rfl (w62 (by omega) (by omega)) rfl ρ' (by
          rw [show ((U.length : Int) - 19).toNat = U.length - 19 by omega]; exact h)
      · have := List.find?_eq_none.mp h st (List.mem_range.mpr (by omega))
        exact absurd (decide_eq_true at_st) this
    · cases eh
  · cases eh

end
set_option maxRecDepth 100000
set_option maxHeartbeats 4000000
open PySem PySem.Spec PyProof.Rows L2 Dv
noncomputable section
theorem lc1_core (x0 x2 x6 x7 x8 x9 : Option D) (U : List Int) (W : List Str) (t m s2 tt n : Int) (PT : List Int) (x : Str) (hin : gIn (.str x) (.lst false (dStrs W)) = some (.bl false)) (hW : D.frzL (dStrs W) = dStrs W) (cW : D.coldL (dStrs W) = true) (pW : D.pureL (dStrs W) = true) (hst : d__law_stands [.lst false (dInts U), .tup [.str x, .int m, .int s2, .int tt, .tup (dInts PT)]] = .ok (.bl true))
    (hc : d__law_codes [.str x] = .ok (.lst true (dInts (cps x)))) (hp : d_plain_name [.lst false (dInts (cps x))] = .ok (.str x)) (ox : PyData.strOk x = true) (hn : (PT.length : Int) = n) (lW : (dStrs W).length < 16777216) :
    lp_law_1 [x0, some (.lst true (dInts U)), x2, some (.lst true (dStrs W)), some (.int t), some (.tup [.str x, .int m, .int s2, .int tt, .tup (dInts PT)]), x6, x7, x8, x9] =
      .nx [x0, some (.lst true (dInts U)), x2, some (.lst true (dStrs W ++ [.str x])), some (.int (t + n)), some (.tup [.str x, .int m, .int s2, .int tt, .tup (dInts PT)]), x6, x7, x8, x9] := by
  have hin2 : gIn (.str x) (.lst true (dStrs W)) = some (.bl false) := hin
  have i0 : ∀ p q r s u : D, ixD [p, q, r, s, u] 0 = some p := fun _ _ _ _ _ => rfl
  have i4 : ∀ p q r s u : D, ixD [p, q, r, s, u] 4 = some u := fun _ _ _ _ _ => rfl
  simp [lp_law_1, callF, i0, i4, hin, hin2, hst, hc, hp, hn, onL, lW, ox]
theorem nmS_ok (i : It) : PyData.strOk (nmS i) = true := mk_ok _ fun c hc => by have := name_le i.nm c hc; omega
theorem nmS_cps (i : It) : cps (nmS i) = nameF i.nm := cps_mk _ (name_nn i.nm)
theorem lawloop (U : List Int) (hU : Byt U) (lU : U.length ≤ 100000) (x0 x2 x6 x7 x8 x9 : Option D) : ∀ (is : List It) (W : List Str) (t : Int) (x5 : Option D), (W ++ is.map nmS).Nodup → (∀ i ∈ is, ItOk U i) → W.length + is.length ≤ 1000 →
    ∃ W' z5, forL (gNm 5) lp_law_1 (is.map fP) [x0, some (.lst true (dInts U)), x2, some (.lst true (dStrs W)), some (.int t), x5, x6, x7, x8, x9] =
      .nx [x0, some (.lst true (dInts U)), x2, some (.lst true (dStrs W')), some (.int (t + ((is.map fun i => i.hd.pt.length).sum : Nat))), z5, x6, x7, x8, x9]
  | [], W, t, x5, _, _, _ => ⟨W, x5, by simp⟩
  | i :: is, W, t, x5, nd, hi, hl => by
    rw [List.length_cons] at hl
    have h0 := hi i List.mem_cons_self
    have nin : W.any (· == nmS i) = false := by
      rw [List.any_eq_false]
      intro w hw e
      rw [List.nodup_append] at nd
      exact nd.2.2 w hw (nmS i) (by rw [List.map_cons]; exact List.mem_cons_self) (by simpa using e)
    have hin := (in_lst false W (nmS i)).1
    rw [nin] at hin
    have sp : D.frzL (dStrs W) = dStrs W ∧ D.coldL (dStrs W) = true ∧ D.pureL (dStrs W) = true := by
      have : ∀ W : List Str, D.pureL (dStrs W) = true := fun W => by
        induction W with
        | nil => rfl
        | cons w W ih => show D.pureL (.str w :: dStrs W) = true; rw [pureL_cons, ih]; rfl
      exact ⟨D.pureL_frzL _ (this W), D.pureL_cold _ (this W), this W⟩
    have hst := m_stands5 U hU lU i h0
    have hc := m_codes (nmS i) (by
      show (mk (nameF i.nm)).cps.toList.length ≤ _
      rw [mk_cps, List.length_map]; have := (name_len i.nm).2; omega)
    have hp := m_plain_name (nameF i.nm) (by have := (name_len i.nm).2; omega)
    rw [name_again] at hp
    have c := lc1_core x0 x2 x6 x7 x8 x9 U W t i.hd.me i.hd.sz i.hd.tt i.hd.pt.length i.hd.pt (nmS i) hin sp.1 sp.2.1 sp.2.2 hst hc (by rw [nmS_cps]; exact hp) (nmS_ok i) rfl (by unfold dStrs; rw [List.length_map]; omega)
    have e : dStrs W ++ [D.str (nmS i)] = dStrs (W ++ [nmS i]) := by unfold dStrs; rw [List.map_append]; rfl
    rw [e] at c
    obtain ⟨W', z5, ih⟩ := lawloop U hU lU x0 x2 x6 x7 x8 x9 is (W ++ [nmS i]) (t + (i.hd.pt.length : Int)) (some (fP i)) (by rw [List.append_assoc]; exact nd) (fun k hk => hi k (List.mem_cons_of_mem _ hk)) (by rw [List.length_append, List.length_singleton]; omega)
    refine ⟨W', z5, forL_nx rfl c ?_⟩
    refine ih.trans ?_
    rw [List.map_cons, List.sum_cons, Int.natCast_add, Int.add_assoc]
theorem lay_fP (m : Nat) : ∀ is : List It, D.layL (m + 2) (is.map fP) = true
  | [] => rfl
  | e :: es => by
    have ih := lay_fP m es
    rw [List.map_cons]
    show (D.lay (m + 2) (fP e) && D.layL (m + 2) (es.map fP)) = true
    rw [ih, Bool.and_true]
    show D.layL (m + 1) [.str (nmS e), .int e.hd.me, .int e.hd.sz, .int e.hd.tt, .tup (dInts e.hd.pt)] = true
    have h1 := nmS_ok e
    have h2 : D.lay (m + 1) (.tup (dInts e.hd.pt)) = true := dInts_lay m e.hd.pt
    simp [D.layL, D.lay, h1]
theorem eqv_self {n : Nat} {d : D} (h : d.lay n = true) : d.eqv d = true := SeqAt.eqv_refl _ (D.lay_can n d h).1
theorem eq_pair (is : List It) (d : Int) : gEq (.tup [.lst true (is.map fP), .int d]) (.tup [.lst false (is.map fP), .int d]) = some (.bl true) := by
  have h1 : ∀ o, D.lay 60 (.tup [.lst o (is.map fP), .int d]) = true := fun o => by
    show (D.layL 58 (is.map fP) && _) = true
    rw [lay_fP 56 is]; rfl
  have e : D.eqv (.tup [.lst true (is.map fP), .int d]) (.tup [.lst false (is.map fP), .int d]) = true := by
    have e2 : D.toP (.tup [.lst false (is.map fP), .int d]) = D.toP (.tup [.lst true (is.map fP), .int d]) := rfl
    unfold D.eqv
    rw [e2]
    exact eqv_self (h1 true)
  unfold gEq
  simp only [h1, and_self, if_true, e]

end
set_option maxRecDepth 100000
set_option maxHeartbeats 4000000
open PySem PySem.Spec PyProof.Rows L2 Dv
noncomputable section
/-! how long all that is written is: names come out of the bytes -/
def wsum (ps : List (List Int)) : Nat := (ps.map fun p => 1 + p.length).sum
theorem wsum_app (a b : List (List Int)) : wsum (a ++ b) = wsum a + wsum b := by unfold wsum; rw [List.map_append, List.sum_append]
theorem wsum_sub {a b : List (List Int)} (h : a.Sublist b) : wsum a ≤ wsum b := by
  induction h with
  | slnil => exact Nat.le_refl _
  | cons x _ ih => unfold wsum at *; rw [List.map_cons, List.sum_cons]; omega
  | cons_cons x _ ih => unfold wsum at *; rw [List.map_cons, List.sum_cons, List.map_cons, List.sum_cons]; omega
theorem stp_w (s : List (List Int) × List Int) (c : Int) : wsum (stp s c).1 + (stp s c).2.length = wsum s.1 + s.2.length + 1 := by
  unfold stp
  split
  · rw [wsum_app]; show wsum s.1 + (1 + s.2.length + 0) + 0 = _; omega
  · show wsum s.1 + (s.2 ++ [c]).length = _; rw [List.length_append, List.length_singleton]; omega
theorem fold_w : ∀ (xs : List Int) (s : List (List Int) × List Int), wsum (xs.foldl stp s).1 + (xs.foldl stp s).2.length = wsum s.1 + s.2.length + xs.length
  | [], s => rfl
  | x :: xs, s => by rw [List.foldl_cons, fold_w xs, stp_w, List.length_cons]; omega
theorem segs_w (xs : List Int) : wsum (segs xs) = xs.length + 1 := by
  have h := fold_w xs ([], [])
  unfold segs
  rw [wsum_app]
  have e : wsum [(xs.foldl stp ([], [])).2] = 1 + (xs.foldl stp ([], [])).2.length + 0 := rfl
  have e0 : wsum (([] : List (List Int)), ([] : List Int)).1 = 0 := rfl
  rw [e0] at h
  simp at h
  omega
theorem clean_w : ∀ ps : List (List Int), wsum (ps.map clean) ≤ wsum ps
  | [] => Nat.le_refl _
  | p :: ps => by
    have := clean_w ps
    have := clean_len p
    unfold wsum at *
    rw [List.map_cons, List.map_cons, List.sum_cons, List.map_cons, List.sum_cons]; omega
theorem kept_w (xs : List Int) : wsum (kept xs) ≤ xs.length + 1 := by
  unfold kept
  have h1 : ((segs xs).map clean |>.filter okp).Sublist ((segs xs).map clean) := List.filter_sublist
  have := wsum_sub h1
  have := clean_w (segs xs)
  rw [segs_w] at this
  omega
theorem tail_w : ∀ ps : List (List Int), (tail47 ps).length = wsum ps
  | [] => rfl
  | p :: ps => by
    have ih := tail_w ps
    unfold tail47 wsum at *
    rw [List.flatMap_cons, List.length_append, ih, List.map_cons, List.sum_cons, List.length_cons]; omega
theorem nameF_w (xs : List Int) : (nameF xs).length ≤ 4 + xs.length := by
  have hk := kept_w xs
  unfold nameF
  cases e : kept xs with
  | nil => show (cps (Str.ofString "part")).length ≤ _; rw [part_cps]; show 4 ≤ _; omega
  | cons p ps =>
    rw [e] at hk
    obtain ⟨k, h1, _⟩ := jn_take ps (p.take 100)
    show (jn (p.take 100) ps).length ≤ _
    have h2 := wsum_sub (List.take_sublist k ps)
    have h3 : wsum (p :: ps) = 1 + p.length + wsum ps := by unfold wsum; rw [List.map_cons, List.sum_cons]
    rw [h1, List.length_append, tail_w, List.length_take]
    omega
def nsum (L : List It) : Nat := (L.map fun i => i.nm.length).sum
theorem nsum_app (a b : List It) : nsum (a ++ b) = nsum a + nsum b := by unfold nsum; rw [List.map_append, List.sum_append]
theorem nsum_sub {a b : List It} (h : a.Sublist b) : nsum a ≤ nsum b := by
  induction h with
  | slnil => exact Nat.le_refl _
  | cons x _ ih => unfold nsum at *; rw [List.map_cons, List.sum_cons]; omega
  | cons_cons x _ ih => unfold nsum at *; rw [List.map_cons, List.sum_cons, List.map_cons, List.sum_cons]; omega
theorem whole_ns (U : List Int) (p a : Nat) : nsum (whole U p a) ≤ lw U (a + 8) 2 := by
  unfold whole
  cases hdr U (p - lw U (a + 4) 4) with
  | none => exact Nat.zero_le _
  | some h =>
    show nsum (if h.ok = true then [(⟨sl U (a + 10) (lw U (a + 8) 2), h, p - lw U (a + 4) 4⟩ : It)] else []) ≤ _
    split
    · show (sl U (a + 10) (lw U (a + 8) 2)).length + 0 ≤ _
      have := sl_len U (a + 10) (lw U (a + 8) 2); omega
    · exact Nat.zero_le _
theorem dir_ns (U : List Int) (p : Nat) : ∀ n a F, nsum (dir U p n a F) ≤ nsum F + (p - a)
  | 0, a, F => by rw [dir]; omega
  | n + 1, a, F => by
    rw [dir]
    split
    · rename_i z
      have h1 := dir_ns U p n (a + 10 + lw U (a + 8) 2) (F ++ whole U p a)
      have h2 := whole_ns U p a
      rw [nsum_app] at h1
      have := z.2.2.1
      omega
    · omega
theorem srch_ns {U : List Int} : ∀ n a, nsum (srch U n a) ≤ U.length - a
  | 0, a => Nat.zero_le _
  | n + 1, a => by
    rw [srch]
    split
    · cases eh : hdr U a with
      | none => have := srch_ns (U := U) n (a + 1); show nsum (srch U n (a + 1)) ≤ _; omega
      | some hd =>
        have h1 := srch_ns (U := U) n hd.en
        show hd.nm.length + nsum (srch U n hd.en) ≤ _
        have h2 : a + hd.nm.length ≤ hd.en ∧ hd.en ≤ U.length := by
          unfold hdr at eh
          split at eh
          · split at eh
            · cases eh
              refine ⟨?_, by show min _ _ ≤ _; omega⟩
              show a + (sl U _ _).length ≤ min _ _
              rw [sl_length]; omega
            · cases eh
          · cases eh
        omega
    · exact Nat.zero_le _
theorem lastE_lt (U : List Int) : ∀ n p, lastE U n = some p → p < n
  | 0, p, h => nomatch h
  | n + 1, p, h => by
    rw [lastE] at h
    split at h
    · cases h; omega
    · have := lastE_lt U n p h; omega
theorem keep_sl : ∀ (L K : List It), (L.foldl kst K).Sublist (K ++ L)
  | [], K => by rw [List.append_nil]; exact List.Sublist.refl _
  | i :: L, K => by
    rw [List.foldl_cons]
    have h := keep_sl L (kst K i)
    unfold kst at h ⊢
    split at h <;> rename_i z
    · rw [if_pos z]
      exact h.trans (List.Sublist.append (List.Sublist.refl _) (List.sublist_cons_self _ _))
    · rw [if_neg z]
      rw [List.append_assoc] at h
      exact h
theorem opn_ns (U : List Int) : nsum (opn U) ≤ U.length := by
  unfold opn
  split
  · have := srch_ns (U := U) U.length 0; omega
  · have h := keep_sl (drs U) []
    have h2 := nsum_sub h
    rw [List.nil_append] at h2
    unfold keepF
    refine Nat.le_trans h2 ?_
    unfold drs
    cases e : lastE U (U.length - 9) with
    | none => exact Nat.zero_le _
    | some p =>
      have h3 := lastE_lt U _ p e
      have h4 := dir_ns U p (lw U (p + 4) 2) (p - lw U (p + 6) 4) []
      have e0 : nsum [] = 0 := rfl
      rw [e0] at h4
      show nsum (dir U p (lw U (p + 4) 2) (p - lw U (p + 6) 4) []) ≤ _
      omega
theorem pik_ns (U : List Int) : nsum (pik U) ≤ U.length := Nat.le_trans (nsum_sub (pik_sub U)) (opn_ns U)

end
set_option maxRecDepth 100000
set_option maxHeartbeats 4000000
open PySem PySem.Spec PyProof.Rows L2 Dv
noncomputable section
def pc_b_law_1 : Dv.Env → SR := sAsg 1 (eCallM 2 d__law_spoilt (mV (eVar 0) (mO (eCall 1 d__law_crate (aV (eVar 0) (aNil))) (mNil))))
def pc_b_law_2 : Dv.Env → SR := sAsg 2 (eB gList (aV (eVar 1) (aNil)))
def pc_b_law_3 : Dv.Env → SR := sUnO (gTp (gsCons (gNm 8) (gsCons (gNm 9) (gsNil)))) (eCall 2 d_open_crate (aV (eVar 2) (aO (eC (.int 5000)) (aNil))))
def pc_b_law_4 : Dv.Env → SR := sIf (tOrF (eT (e2 gNe (eVar 2) (eVar 1))) (tOrF (eT (e2 gNe (eVar 9) (e2 gSub (eC (.int 4999)) (eB gLen (aV (eVar 1) (aNil)))))) (eT (e2 gGt (eB gLen (aV (eVar 8) (aNil))) (eC (.int 64)))))) (sRet (eC (.bl false))) (sNil)
def pc_b_law_5 : Dv.Env → SR := sAsg 3 (eLstM (mNil))
def pc_b_law_6 : Dv.Env → SR := sAsg 4 (eC (.int 0))
def pc_b_law_7 : Dv.Env → SR := sFz 8 (sFor (iW (eVar 8)) (gNm 5) lp_law_1)
def pc_b_law_8 : Dv.Env → SR := sIf (eT (e2 gGt (eVar 4) (eB gLen (aV (eVar 1) (aNil))))) (sRet (eC (.bl false))) (sNil)
def pc_b_law_9 : Dv.Env → SR := sIf (eT (e2 gEq (eB gLen (aV (eVar 8) (aNil))) (eC (.int 0)))) (sRet (eC (.bl true))) (sNil)
def pc_b_law_10 : Dv.Env → SR := sAsg 6 (eCall 2 d__law_row (aO (eCall 2 d__law_cell (aV (eVar 0) (aO (eC (.int 22)) (aNil)))) (aO (e2 gMod (eB gInt (aV (eB gAbs (aV (eCall 2 d__law_cell (aV (eVar 0) (aO (eC (.int 23)) (aNil)))) (aNil))) (aNil))) (eC (.int 9))) (aNil))))
def pc_b_law_11 : Dv.Env → SR := sAsg 7 (e2 gAdd (eVar 6) (eCall 1 d_write_crate (aO (eB gList (aV (eVar 8) (aNil))) (aNil))))
def pc_b_law_12 : Dv.Env → SR := sRet (e2 gEq (eCall 2 d_open_crate (aV (eVar 7) (aO (eC (.int 9000)) (aNil)))) (eTup (aV (eVar 8) (aO (e2 gSub (eC (.int 8999)) (eB gLen (aV (eVar 7) (aNil)))) (aNil)))))
theorem pc_b_law : b_law = sq pc_b_law_1 (sq pc_b_law_2 (sq pc_b_law_3 (sq pc_b_law_4 (sq pc_b_law_5 (sq pc_b_law_6 (sq pc_b_law_7 (sq pc_b_law_8 (sq pc_b_law_9 (sq pc_b_law_10 (sq pc_b_law_11 (pc_b_law_12))))))))))) := rfl

theorem ll_a (T : Dv.Env → SR) (s U V : List Int) (E : List D) (n d : Int) (hU : d__law_crate [.scr (dInts s)] = .ok (.lst true (dInts U))) (hV : d__law_spoilt [.scr (dInts s), .lst true (dInts U)] = .ok (.lst true (dInts V))) (hn : (V.length : Int) = n) (hd : 4999 - n = d) (ho : d_open_crate [.lst false (dInts V), .int 5000] = .ok (.tup [.lst true E, .int d])) (lE : E.length ≤ 64) (pE : D.pureL E = true) (fE : D.frzL E = E) (cE : D.coldL E = true) (nE : D.noFzL E = true) :
    sq pc_b_law_1 (sq pc_b_law_2 (sq pc_b_law_3 (sq pc_b_law_4 (sq pc_b_law_5 (sq pc_b_law_6 T))))) [some (.scr (dInts s)), none, none, none, none, none, none, none, none, none] =
      T [some (.scr (dInts s)), some (.lst true (dInts V)), some (.lst true (dInts V)), some (.lst true []), some (.int 0), none, none, none, some (.lst false E), some (.int d)] := by
  have l1 : ¬ (64 : Int) < (E.length : Int) := by omega
  have l2 : ¬ 64 < E.length := by omega
  simp [pc_b_law_1, pc_b_law_2, pc_b_law_3, pc_b_law_4, pc_b_law_5, pc_b_law_6, callF, hU, hV, hn, hd, ho, l1, l2, pE, fE, cE, nE]
theorem ll_b (T : Dv.Env → SR) (x0 x1 x2 x3 x4 x5 x6 x7 x9 : Option D) (E : List D) (pE : D.pureL E = true) (fE : D.frzL E = E) (cE : D.coldL E = true) (ρ : Dv.Env) (h : forL (gNm 5) lp_law_1 E [x0, x1, x2, x3, x4, x5, x6, x7, some (.lst false E), x9] = .nx ρ) :
    sq pc_b_law_7 T [x0, x1, x2, x3, x4, x5, x6, x7, some (.lst false E), x9] = T ρ := by
  simp [pc_b_law_7, frzAt, fE, cE, pE, h]
theorem ll_no (s : List Int) (x2 x3 x5 x6 x7 x9 : Option D) (V : List Int) (t n : Int) (hn : (V.length : Int) = n) (ht : t ≤ n) :
    (sq pc_b_law_8 (sq pc_b_law_9 (sq pc_b_law_10 (sq pc_b_law_11 pc_b_law_12))) [some (.scr (dInts s)), some (.lst true (dInts V)), x2, x3, some (.int t), x5, x6, x7, some (.lst false []), x9]).out = .ok (.bl true) := by
  have h : ¬ n < t := by omega
  simp [pc_b_law_8, pc_b_law_9, pc_b_law_10, pc_b_law_11, pc_b_law_12, hn, h]
theorem ll_yes (s : List Int) (x2 x3 x5 x6 x7 x9 : Option D) (V B W X : List Int) (E : List D) (t n c c2 q r e w d : Int) (hn : (V.length : Int) = n) (ht : t ≤ n) (he : (E.length : Int) = e) (e0 : 0 < e) (fE : D.frzL E = E) (cE : D.coldL E = true) (pE : D.pureL E = true) (nE : D.noFzL E = true) (h22 : d__law_cell [.scr (dInts s), .int 22] = .ok (.int c)) (h23 : d__law_cell [.scr (dInts s), .int 23] = .ok (.int c2)) (hq : (if c2 < 0 then -c2 else c2) = q) (hr : q % 9 = r)
    (hB : d__law_row [.int c, .int r] = .ok (.lst true (dInts B))) (hW : d_write_crate [.lst false E] = .ok (.lst true (dInts W))) (hX : gAdd (.lst true (dInts B)) (.lst true (dInts W)) = some (.lst true (dInts X))) (hw : (X.length : Int) = w) (hd : 8999 - w = d) (ho : d_open_crate [.lst false (dInts X), .int 9000] = .ok (.tup [.lst true E, .int d])) (hg : gEq (.tup [.lst true E, .int d]) (.tup [.lst false E, .int d]) = some (.bl true)) :
    (sq pc_b_law_8 (sq pc_b_law_9 (sq pc_b_law_10 (sq pc_b_law_11 pc_b_law_12))) [some (.scr (dInts s)), some (.lst true (dInts V)), x2, x3, some (.int t), x5, x6, x7, some (.lst false E), x9]).out = .ok (.bl true) := by
  have h : ¬ n < t := by omega
  have h2 : ¬ e = 0 := by omega
  simp [pc_b_law_8, pc_b_law_9, pc_b_law_10, pc_b_law_11, pc_b_law_12, callF, hn, h, he, h2, h22, h23, hq, hr, hB, hW, hX, hw, hd, ho, hg, fE, cE, pE, nE]
theorem fP_noFz : ∀ K : List It, D.noFzL (K.map fP) = true
  | [] => rfl
  | i :: K => by
    rw [List.map_cons, noFzL_cons, fP_noFz K]
    have := dInts_noFz i.hd.pt
    simp [fP, entD, this]
theorem hb_len : ∀ is : List It, (headsB (is.map ent)).length + rsum (is.map ent) ≤ 38 * is.length + 2 * nsum is + (is.map fun i => i.hd.pt.length).sum
  | [] => by simp [headsB, rsum]
  | e :: es => by
    have ih := hb_len es
    have h1 : (ent e).nm.length ≤ 4 + e.nm.length := nameF_w e.nm
    have h2 : (ent e).pt.length = e.hd.pt.length := rfl
    have h3 : nsum (e :: es) = e.nm.length + nsum es := by unfold nsum; rw [List.map_cons, List.sum_cons]
    rw [List.map_cons, headsB, List.length_append, rsum, headB_len, List.length_cons, List.map_cons, List.sum_cons, h3]
    omega
theorem rs_len : ∀ is : List It, (∀ i ∈ is, (nameF i.nm).length ≤ 100) → rsum (is.map ent) ≤ 110 * is.length
  | [], _ => by simp [rsum]
  | e :: es, h => by
    have ih := rs_len es fun x hx => h x (List.mem_cons_of_mem _ hx)
    have h1 : (ent e).nm.length ≤ 100 := h e List.mem_cons_self
    rw [List.map_cons, rsum, List.length_cons]
    omega
theorem law_true (ns : List Int) (hl : ns.length ≤ 63) : d_law [.scr (dInts ns)] = .ok (.bl true) := by
  obtain ⟨U, hU, bU, lU⟩ := Cr.m_crate ns
  obtain ⟨V, hV, bV, lV⟩ := m_spoilt ns U bU lU (by omega)
  have ho := m_open V bV (by omega) 5000 (by omega)
  rw [res_pik] at ho
  have lP := pik_len V
  have oks := pik_it bV
  have nd := pik_nd V
  have sm := pik_sum bV
  obtain ⟨P, hP⟩ : ∃ P, pik V = P := ⟨_, rfl⟩
  rw [hP] at ho lP oks nd sm
  obtain ⟨cE, fE, pE⟩ := fP_pure P
  have nE := fP_noFz P
  obtain ⟨W', z5, hL⟩ := lawloop V bV (by omega) (some (.scr (dInts ns))) (some (.lst true (dInts V))) none none (some (.lst false (P.map fP))) (some (.int (5000 - (1 + (V.length : Int))))) P [] 0 none (by simpa using nd) oks (by simp; omega)
  rw [Int.zero_add, show dStrs [] = ([] : List D) from rfl] at hL
  show (fnD 1 10 b_law) [.scr (dInts ns)] = .ok (.bl true)
  have key : (b_law [some (.scr (dInts ns)), none, none, none, none, none, none, none, none, none]).out = .ok (.bl true) := by
    rw [pc_b_law, ll_a _ ns U V (P.map fP) _ _ hU hV rfl (by omega) ho (by rw [List.length_map]; omega) pE fE cE nE, ll_b _ _ _ _ _ _ _ _ _ _ (P.map fP) pE fE cE _ hL]
    by_cases ne : P = []
    · subst ne
      exact ll_no ns _ _ _ _ _ _ V _ _ rfl (by simp)
    · have p0 : 0 < P.length := List.length_pos_iff.mpr ne
      obtain ⟨B, hB, lB, bB⟩ := m_rowB (cell ns 22) ((if cell ns 23 < 0 then -cell ns 23 else cell ns 23) % 9).toNat (by omega)
      have hr0 : 0 ≤ (if cell ns 23 < 0 then -cell ns 23 else cell ns 23) % 9 := by omega
      rw [Int.toNat_of_nonneg hr0] at hB
      have ew : ∀ e ∈ P.map ent, EntW e := fun e he => by
        obtain ⟨i, hi, rfl⟩ := List.mem_map.mp he
        exact ent_ok bV (by omega) (oks i hi)
      have eo : ∀ e ∈ P.map ent, EntOk e := fun e he => (ew e he).ok
      have eP : (P.map ent).map entP = P.map fP := by rw [List.map_map]; rfl
      have nl : ∀ i ∈ P, (nameF i.nm).length ≤ 100 := fun i _ => (name_len i.nm).2
      have h1 := hb_len P
      have h3 := pik_ns V
      rw [hP] at h3
      have h2 := rs_len P nl
      have lW := writB_len (P.map ent)
      have hW := m_write (P.map ent) ew (by omega) (by rw [List.length_map]; omega)
      rw [eP] at hW
      have bW : Byt (B ++ writB (P.map ent)) := bB.ap (writB_byt eo)
      have lX : (B ++ writB (P.map ent)).length ≤ 8000 := by rw [List.length_append]; omega
      have hR := res_writ B [] (P.map ent) eo (by rw [List.length_map]; omega) (by rw [List.length_map]; omega) (by rw [List.length_map]; omega) (by omega) (fun _ z => nomatch z) (by rw [List.length_nil]; rw [List.length_append] at lX; omega) (fun e he => (ew e he).pn) (by rw [List.map_map]; exact nd)
      rw [List.append_nil] at hR
      have ho2 := m_open (B ++ writB (P.map ent)) bW (by omega) 9000 (by omega)
      rw [hR, eP, List.take_of_length_le (by rw [List.length_map]; omega)] at ho2
      rw [show (9000 : Int) - (1 + ((B ++ writB (P.map ent)).length : Int)) = 8999 - ((B ++ writB (P.map ent)).length : Int) by omega] at ho2
      exact ll_yes ns _ _ _ _ _ _ V B (writB (P.map ent)) (B ++ writB (P.map ent)) (P.map fP) _ _ _ _ _ _ _ _ _ rfl (by omega) rfl (by rw [List.length_map]; omega) fE cE pE nE (m_cellI ns 22 (by omega)) (m_cellI ns 23 (by omega)) rfl rfl hB hW (gAdd_dI true true B _ (by rw [List.length_append] at lX; omega)) rfl rfl ho2 (eq_pair P _)
  simp [fnD, key]

end
theorem end_ok {K : PySem.W.Frag} {P : Program} {w : World} {mg : Str → Option Value} {base : Heap} {A : Ad} (T : Txt K mg A) : FnOk P w K mg base (L2.CX P w) 5 A.a_law A.fd_law ["_law_script"] (spLaw K) := end_of (kx := kx K A) (ok_law T) rfl law_true
theorem all_mk {l : PySem.W.OpenLaw} {w : World} {K : PySem.W.Frag} {h : Heap} {mg : Str → Option Value} {fa f0 f1 f2 f3 f4 f5 f6 f7 f8 f9 f10 f11 f12 f13 f14 f15 f16 f17 f18 f19 f20 f21 f22 f23 f24 f25 x0 : Addr} {od0 an0 od1 an1 od2 an2 od3 an3 od4 an4 od5 an5 od6 an6 od7 an7 od8 an8 od9 an9 od10 an10 od11 an11 od12 an12 od13 an13 od14 an14 od15 an15 od16 an16 od17 an17 od18 an18 od19 an19 od20 an20 od21 an21 od22 an22 od23 an23 od24 an24 od25 an25 : Option Addr} {sl0 sl1 sl2 sl3 sl4 sl5 sl6 sl7 sl8 sl9 sl10 sl11 sl12 sl13 sl14 sl15 sl16 sl17 sl18 sl19 sl20 sl21 sl22 sl23 sl24 sl25 : Array (Option Value)} {oc0 kV0 dc0 pm0 cd0 ct0 oc1 kV1 dc1 pm1 cd1 ct1 oc2 kV2 dc2 pm2 cd2 ct2 oc3 kV3 dc3 pm3 cd3 ct3 oc4 kV4 dc4 pm4 cd4 ct4 oc5 kV5 dc5 pm5 cd5 ct5 oc6 kV6 dc6 pm6 cd6 ct6 oc7 kV7 dc7 pm7 cd7 ct7 oc8 kV8 dc8 pm8 cd8 ct8 oc9 kV9 dc9 pm9 cd9 ct9 oc10 kV10 dc10 pm10 cd10 ct10 oc11 kV11 dc11 pm11 cd11 ct11 oc12 kV12 dc12 pm12 cd12 ct12 oc13 kV13 dc13 pm13 cd13 ct13 oc14 kV14 dc14 pm14 cd14 ct14 oc15 kV15 dc15 pm15 cd15 ct15 oc16 kV16 dc16 pm16 cd16 ct16 oc17 kV17 dc17 pm17 cd17 ct17 oc18 kV18 dc18 pm18 cd18 ct18 oc19 kV19 dc19 pm19 cd19 ct19 oc20 kV20 dc20 pm20 cd20 ct20 oc21 kV21 dc21 pm21 cd21 ct21 oc22 kV22 dc22 pm22 cd22 ct22 oc23 kV23 dc23 pm23 cd23 ct23 oc24 kV24 dc24 pm24 cd24 ct24 oc25 kV25 dc25 pm25 cd25 ct25 : Value} {t1_CRATE_SIGN : Tok} {t2_CRATE_SIGN : Tok} {t3_CRATE_SIGN : Tok} {t4_CRATE_SIGN : Tok} {q0_CRATE_SIGN : Addr} {n0_CRATE_SIGN : Nat} {sl0_CRATE_SIGN : Array (Option Value)} {od0_CRATE_SIGN : Option Addr} {t1_END_SIGN : Tok} {t2_END_SIGN : Tok} {t3_END_SIGN : Tok} {t4_END_SIGN : Tok} {q0_END_SIGN : Addr} {n0_END_SIGN : Nat} {sl0_END_SIGN : Array (Option Value)} {od0_END_SIGN : Option Addr} {t_END_SIZE : Tok} {t_HEAD_SIZE : Tok} {t_MOST_ENTRIES : Tok} {t_MOST_NAME : Tok} {t1_RECORD_SIGN : Tok} {t2_RECORD_SIGN : Tok} {t3_RECORD_SIGN : Tok} {t4_RECORD_SIGN : Tok} {q0_RECORD_SIGN : Addr} {n0_RECORD_SIGN : Nat} {sl0_RECORD_SIGN : Array (Option Value)} {od0_RECORD_SIGN : Option Addr} {t_RECORD_SIZE : Tok} {t_SIGNS : Tok} (X : K.In h) (G : h.Ns mainGlobals mg) (hfa : mg "law" = some (.ref fa)) (a0 : PySem.W.nsIn K mainGlobals "_law_spoilt" = some (some (.ref f0))) (l0 : K.lookup f0 = some ⟨oc0, od0, .func (PySem.W.fnOf "_law_spoilt" "_law_spoilt" (defArgs s__law_spoilt) (defBody s__law_spoilt) (defScope s__law_spoilt) .none kV0 dc0 pm0 an0 cd0 ct0), sl0⟩) (c0 : PySem.W.codeIn K cd0 "_law_spoilt" = true) (k0 : PySem.W.keepIn K (.ref f0) = true) (a1 : PySem.W.nsIn K mainGlobals "spend" = some (some (.ref f1))) (l1 : K.lookup f1 = some ⟨oc1, od1, .func (PySem.W.fnOf "spend" "spend" (defArgs s_spend) (defBody s_spend) (defScope s_spend) .none kV1 dc1 pm1 an1 cd1 ct1), sl1⟩) (c1 : PySem.W.codeIn K cd1 "spend" = true) (k1 : PySem.W.keepIn K (.ref f1) = true) (a2 : PySem.W.nsIn K mainGlobals "stands_at" = some (some (.ref f2))) (l2 : K.lookup f2 = some ⟨oc2, od2, .func (PySem.W.fnOf "stands_at" "stands_at" (defArgs s_stands_at) (defBody s_stands_at) (defScope s_stands_at) .none kV2 dc2 pm2 an2 cd2 ct2), sl2⟩) (c2 : PySem.W.codeIn K cd2 "stands_at" = true) (k2 : PySem.W.keepIn K (.ref f2) = true) (a3 : PySem.W.nsIn K mainGlobals "low_number" = some (some (.ref f3))) (l3 : K.lookup f3 = some ⟨oc3, od3, .func (PySem.W.fnOf "low_number" "low_number" (defArgs s_low_number) (defBody s_low_number) (defScope s_low_number) .none kV3 dc3 pm3 an3 cd3 ct3), sl3⟩) (c3 : PySem.W.codeIn K cd3 "low_number" = true) (k3 : PySem.W.keepIn K (.ref f3) = true) (a4 : PySem.W.nsIn K mainGlobals "last_end" = some (some (.ref f4))) (l4 : K.lookup f4 = some ⟨oc4, od4, .func (PySem.W.fnOf "last_end" "last_end" (defArgs s_last_end) (defBody s_last_end) (defScope s_last_end) .none kV4 dc4 pm4 an4 cd4 ct4), sl4⟩) (c4 : PySem.W.codeIn K cd4 "last_end" = true) (k4 : PySem.W.keepIn K (.ref f4) = true) (a5 : PySem.W.nsIn K mainGlobals "head_at" = some (some (.ref f5))) (l5 : K.lookup f5 = some ⟨oc5, od5, .func (PySem.W.fnOf "head_at" "head_at" (defArgs s_head_at) (defBody s_head_at) (defScope s_head_at) .none kV5 dc5 pm5 an5 cd5 ct5), sl5⟩) (c5 : PySem.W.codeIn K cd5 "head_at" = true) (k5 : PySem.W.keepIn K (.ref f5) = true) (a6 : PySem.W.nsIn K mainGlobals "directory_entries" = some (some (.ref f6))) (l6 : K.lookup f6 = some ⟨oc6, od6, .func (PySem.W.fnOf "directory_entries" "directory_entries" (defArgs s_directory_entries) (defBody s_directory_entries) (defScope s_directory_entries) .none kV6 dc6 pm6 an6 cd6 ct6), sl6⟩) (c6 : PySem.W.codeIn K cd6 "directory_entries" = true) (k6 : PySem.W.keepIn K (.ref f6) = true) (a7 : PySem.W.nsIn K mainGlobals "without_overlaps" = some (some (.ref f7))) (l7 : K.lookup f7 = some ⟨oc7, od7, .func (PySem.W.fnOf "without_overlaps" "without_overlaps" (defArgs s_without_overlaps) (defBody s_without_overlaps) (defScope s_without_overlaps) .none kV7 dc7 pm7 an7 cd7 ct7), sl7⟩) (c7 : PySem.W.codeIn K cd7 "without_overlaps" = true) (k7 : PySem.W.keepIn K (.ref f7) = true) (a8 : PySem.W.nsIn K mainGlobals "searched_entries" = some (some (.ref f8))) (l8 : K.lookup f8 = some ⟨oc8, od8, .func (PySem.W.fnOf "searched_entries" "searched_entries" (defArgs s_searched_entries) (defBody s_searched_entries) (defScope s_searched_entries) .none kV8 dc8 pm8 an8 cd8 ct8), sl8⟩) (c8 : PySem.W.codeIn K cd8 "searched_entries" = true) (k8 : PySem.W.keepIn K (.ref f8) = true) (a9 : PySem.W.nsIn K mainGlobals "plain_part" = some (some (.ref f9))) (l9 : K.lookup f9 = some ⟨oc9, od9, .func (PySem.W.fnOf "plain_part" "plain_part" (defArgs s_plain_part) (defBody s_plain_part) (defScope s_plain_part) .none kV9 dc9 pm9 an9 cd9 ct9), sl9⟩) (c9 : PySem.W.codeIn K cd9 "plain_part" = true) (k9 : PySem.W.keepIn K (.ref f9) = true) (a10 : PySem.W.nsIn K mainGlobals "name_parts" = some (some (.ref f10))) (l10 : K.lookup f10 = some ⟨oc10, od10, .func (PySem.W.fnOf "name_parts" "name_parts" (defArgs s_name_parts) (defBody s_name_parts) (defScope s_name_parts) .none kV10 dc10 pm10 an10 cd10 ct10), sl10⟩) (c10 : PySem.W.codeIn K cd10 "name_parts" = true) (k10 : PySem.W.keepIn K (.ref f10) = true) (a11 : PySem.W.nsIn K mainGlobals "plain_name" = some (some (.ref f11))) (l11 : K.lookup f11 = some ⟨oc11, od11, .func (PySem.W.fnOf "plain_name" "plain_name" (defArgs s_plain_name) (defBody s_plain_name) (defScope s_plain_name) .none kV11 dc11 pm11 an11 cd11 ct11), sl11⟩) (c11 : PySem.W.codeIn K cd11 "plain_name" = true) (k11 : PySem.W.keepIn K (.ref f11) = true) (a12 : PySem.W.nsIn K mainGlobals "open_crate" = some (some (.ref f12))) (l12 : K.lookup f12 = some ⟨oc12, od12, .func (PySem.W.fnOf "open_crate" "open_crate" (defArgs s_open_crate) (defBody s_open_crate) (defScope s_open_crate) .none kV12 dc12 pm12 an12 cd12 ct12), sl12⟩) (c12 : PySem.W.codeIn K cd12 "open_crate" = true) (k12 : PySem.W.keepIn K (.ref f12) = true) (a13 : PySem.W.nsIn K mainGlobals "_law_row" = some (some (.ref f13))) (l13 : K.lookup f13 = some ⟨oc13, od13, .func (PySem.W.fnOf "_law_row" "_law_row" (defArgs s__law_row) (defBody s__law_row) (defScope s__law_row) .none kV13 dc13 pm13 an13 cd13 ct13), sl13⟩) (c13 : PySem.W.codeIn K cd13 "_law_row" = true) (k13 : PySem.W.keepIn K (.ref f13) = true) (a14 : PySem.W.nsIn K mainGlobals "_law_cell" = some (some (.ref f14))) (l14 : K.lookup f14 = some ⟨oc14, od14, .func (PySem.W.fnOf "_law_cell" "_law_cell" (defArgs s__law_cell) (defBody s__law_cell) (defScope s__law_cell) .none kV14 dc14 pm14 an14 cd14 ct14), sl14⟩) (c14 : PySem.W.codeIn K cd14 "_law_cell" = true) (k14 : PySem.W.keepIn K (.ref f14) = true) (a15 : PySem.W.nsIn K mainGlobals "_law_low" = some (some (.ref f15))) (l15 : K.lookup f15 = some ⟨oc15, od15, .func (PySem.W.fnOf "_law_low" "_law_low" (defArgs s__law_low) (defBody s__law_low) (defScope s__law_low) .none kV15 dc15 pm15 an15 cd15 ct15), sl15⟩) (c15 : PySem.W.codeIn K cd15 "_law_low" = true) (k15 : PySem.W.keepIn K (.ref f15) = true) (a16 : PySem.W.nsIn K mainGlobals "_law_codes" = some (some (.ref f16))) (l16 : K.lookup f16 = some ⟨oc16, od16, .func (PySem.W.fnOf "_law_codes" "_law_codes" (defArgs s__law_codes) (defBody s__law_codes) (defScope s__law_codes) .none kV16 dc16 pm16 an16 cd16 ct16), sl16⟩) (c16 : PySem.W.codeIn K cd16 "_law_codes" = true) (k16 : PySem.W.keepIn K (.ref f16) = true) (a17 : PySem.W.nsIn K mainGlobals "_law_make_head" = some (some (.ref f17))) (l17 : K.lookup f17 = some ⟨oc17, od17, .func (PySem.W.fnOf "_law_make_head" "_law_make_head" (defArgs s__law_make_head) (defBody s__law_make_head) (defScope s__law_make_head) .none kV17 dc17 pm17 an17 cd17 ct17), sl17⟩) (c17 : PySem.W.codeIn K cd17 "_law_make_head" = true) (k17 : PySem.W.keepIn K (.ref f17) = true) (a18 : PySem.W.nsIn K mainGlobals "_law_make_name" = some (some (.ref f18))) (l18 : K.lookup f18 = some ⟨oc18, od18, .func (PySem.W.fnOf "_law_make_name" "_law_make_name" (defArgs s__law_make_name) (defBody s__law_make_name) (defScope s__law_make_name) .none kV18 dc18 pm18 an18 cd18 ct18), sl18⟩) (c18 : PySem.W.codeIn K cd18 "_law_make_name" = true) (k18 : PySem.W.keepIn K (.ref f18) = true) (a19 : PySem.W.nsIn K mainGlobals "_law_make_record" = some (some (.ref f19))) (l19 : K.lookup f19 = some ⟨oc19, od19, .func (PySem.W.fnOf "_law_make_record" "_law_make_record" (defArgs s__law_make_record) (defBody s__law_make_record) (defScope s__law_make_record) .none kV19 dc19 pm19 an19 cd19 ct19), sl19⟩) (c19 : PySem.W.codeIn K cd19 "_law_make_record" = true) (k19 : PySem.W.keepIn K (.ref f19) = true) (a20 : PySem.W.nsIn K mainGlobals "_law_crate" = some (some (.ref f20))) (l20 : K.lookup f20 = some ⟨oc20, od20, .func (PySem.W.fnOf "_law_crate" "_law_crate" (defArgs s__law_crate) (defBody s__law_crate) (defScope s__law_crate) .none kV20 dc20 pm20 an20 cd20 ct20), sl20⟩) (c20 : PySem.W.codeIn K cd20 "_law_crate" = true) (k20 : PySem.W.keepIn K (.ref f20) = true) (a21 : PySem.W.nsIn K mainGlobals "to_low" = some (some (.ref f21))) (l21 : K.lookup f21 = some ⟨oc21, od21, .func (PySem.W.fnOf "to_low" "to_low" (defArgs s_to_low) (defBody s_to_low) (defScope s_to_low) .none kV21 dc21 pm21 an21 cd21 ct21), sl21⟩) (c21 : PySem.W.codeIn K cd21 "to_low" = true) (k21 : PySem.W.keepIn K (.ref f21) = true) (a22 : PySem.W.nsIn K mainGlobals "write_crate" = some (some (.ref f22))) (l22 : K.lookup f22 = some ⟨oc22, od22, .func (PySem.W.fnOf "write_crate" "write_crate" (defArgs s_write_crate) (defBody s_write_crate) (defScope s_write_crate) .none kV22 dc22 pm22 an22 cd22 ct22), sl22⟩) (c22 : PySem.W.codeIn K cd22 "write_crate" = true) (k22 : PySem.W.keepIn K (.ref f22) = true) (a23 : PySem.W.nsIn K mainGlobals "_law_number" = some (some (.ref f23))) (l23 : K.lookup f23 = some ⟨oc23, od23, .func (PySem.W.fnOf "_law_number" "_law_number" (defArgs s__law_number) (defBody s__law_number) (defScope s__law_number) .none kV23 dc23 pm23 an23 cd23 ct23), sl23⟩) (c23 : PySem.W.codeIn K cd23 "_law_number" = true) (k23 : PySem.W.keepIn K (.ref f23) = true) (a24 : PySem.W.nsIn K mainGlobals "_law_stands" = some (some (.ref f24))) (l24 : K.lookup f24 = some ⟨oc24, od24, .func (PySem.W.fnOf "_law_stands" "_law_stands" (defArgs s__law_stands) (defBody s__law_stands) (defScope s__law_stands) .none kV24 dc24 pm24 an24 cd24 ct24), sl24⟩) (c24 : PySem.W.codeIn K cd24 "_law_stands" = true) (k24 : PySem.W.keepIn K (.ref f24) = true) (a25 : PySem.W.nsIn K mainGlobals "law" = some (some (.ref f25))) (l25 : K.lookup f25 = some ⟨oc25, od25, .func (PySem.W.fnOf "law" "law" (defArgs s_law) (defBody s_law) (defScope s_law) .none kV25 dc25 pm25 an25 cd25 ct25), sl25⟩) (c25 : PySem.W.codeIn K cd25 "law" = true) (k25 : PySem.W.keepIn K (.ref f25) = true) (z_abs : PySem.W.nsIn K mainGlobals "abs" = some none) (z_any : PySem.W.nsIn K mainGlobals "any" = some none) (z_enumerate : PySem.W.nsIn K mainGlobals "enumerate" = some none) (z_int : PySem.W.nsIn K mainGlobals "int" = some none) (z_isinstance : PySem.W.nsIn K mainGlobals "isinstance" = some none) (z_len : PySem.W.nsIn K mainGlobals "len" = some none) (z_list : PySem.W.nsIn K mainGlobals "list" = some none) (z_max : PySem.W.nsIn K mainGlobals "max" = some none) (z_min : PySem.W.nsIn K mainGlobals "min" = some none) (z_ord : PySem.W.nsIn K mainGlobals "ord" = some none) (z_range : PySem.W.nsIn K mainGlobals "range" = some none) (z_reversed : PySem.W.nsIn K mainGlobals "reversed" = some none) (z_sum : PySem.W.nsIn K mainGlobals "sum" = some none) (z_tuple : PySem.W.nsIn K mainGlobals "tuple" = some none) (xa0 : PySem.W.nsIn K mainGlobals "Malformed" = some (some (.ref x0))) (xk0 : PySem.W.keepIn K (.ref x0) = true) (xx0 : PySem.W.excIn K x0 [.type "ValueError", .type "Exception", .type "BaseException", .type "object"] "ValueError.__new__" = true) (xb0 : PySem.W.subIn K (.ref x0) (.type "BaseException") = some true) (xt0 : PySem.W.typeIn K (.ref x0) = some (.type "type")) (g_CRATE_SIGN : PySem.W.nsIn K mainGlobals "CRATE_SIGN" = some (some (.ref q0_CRATE_SIGN))) (g0_CRATE_SIGN : K.lookup q0_CRATE_SIGN = some ⟨.type "tuple", od0_CRATE_SIGN, .seq #[.int 67 t1_CRATE_SIGN, .int 82 t2_CRATE_SIGN, .int 84 t3_CRATE_SIGN, .int 49 t4_CRATE_SIGN] n0_CRATE_SIGN, sl0_CRATE_SIGN⟩) (g_END_SIGN : PySem.W.nsIn K mainGlobals "END_SIGN" = some (some (.ref q0_END_SIGN))) (g0_END_SIGN : K.lookup q0_END_SIGN = some ⟨.type "tuple", od0_END_SIGN, .seq #[.int 67 t1_END_SIGN, .int 69 t2_END_SIGN, .int 78 t3_END_SIGN, .int 68 t4_END_SIGN] n0_END_SIGN, sl0_END_SIGN⟩) (g_END_SIZE : PySem.W.nsIn K mainGlobals "END_SIZE" = some (some (.int 10 t_END_SIZE))) (g_HEAD_SIZE : PySem.W.nsIn K mainGlobals "HEAD_SIZE" = some (some (.int 20 t_HEAD_SIZE))) (g_MOST_ENTRIES : PySem.W.nsIn K mainGlobals "MOST_ENTRIES" = some (some (.int 64 t_MOST_ENTRIES))) (g_MOST_NAME : PySem.W.nsIn K mainGlobals "MOST_NAME" = some (some (.int 100 t_MOST_NAME))) (g_RECORD_SIGN : PySem.W.nsIn K mainGlobals "RECORD_SIGN" = some (some (.ref q0_RECORD_SIGN))) (g0_RECORD_SIGN : K.lookup q0_RECORD_SIGN = some ⟨.type "tuple", od0_RECORD_SIGN, .seq #[.int 67 t1_RECORD_SIGN, .int 68 t2_RECORD_SIGN, .int 73 t3_RECORD_SIGN, .int 82 t4_RECORD_SIGN] n0_RECORD_SIGN, sl0_RECORD_SIGN⟩) (g_RECORD_SIZE : PySem.W.nsIn K mainGlobals "RECORD_SIZE" = some (some (.int 10 t_RECORD_SIZE))) (g_SIGNS : PySem.W.nsIn K mainGlobals "SIGNS" = some (some (.str " !\"#$?&'()*+,-./0123456789:;<=>?@abcdefghijklmnopqrstuvwxyz[\\]^_`abcdefghijklmnopqrstuvwxyz{|}~" t_SIGNS))) :
    ∃ fd : FuncData, (∀ (s : Shared) (v : Value), BindsTo s fd ⟨[v], []⟩ [("_law_script", v)]) ∧ ∀ base : Heap, K.In base → base.Ns mainGlobals mg → FnOk l.prog w K mg base (L2.CX l.prog w) 5 fa fd ["_law_script"] (spLaw K) := by
  have e := hfa.symm.trans (PySem.W.mg_of X G a25)
  cases e
  have F0 := fun_mk (st := s__law_spoilt) l0 c0 k0
  have B0 := F0.binds (ps := ["_law_script", "_law_data"]) fun _ _ _ _ _ _ us hl => match us, hl with | [_, _], _ => rfl
  have F1 := fun_mk (st := s_spend) l1 c1 k1
  have B1 := F1.binds (ps := ["left", "cost"]) fun _ _ _ _ _ _ us hl => match us, hl with | [_, _], _ => rfl
  have F2 := fun_mk (st := s_stands_at) l2 c2 k2
  have B2 := F2.binds (ps := ["data", "sign", "at"]) fun _ _ _ _ _ _ us hl => match us, hl with | [_, _, _], _ => rfl
  have F3 := fun_mk (st := s_low_number) l3 c3 k3
  have B3 := F3.binds (ps := ["data"]) fun _ _ _ _ _ _ us hl => match us, hl with | [_], _ => rfl
  have F4 := fun_mk (st := s_last_end) l4 c4 k4
  have B4 := F4.binds (ps := ["data"]) fun _ _ _ _ _ _ us hl => match us, hl with | [_], _ => rfl
  have F5 := fun_mk (st := s_head_at) l5 c5 k5
  have B5 := F5.binds (ps := ["data", "at"]) fun _ _ _ _ _ _ us hl => match us, hl with | [_, _], _ => rfl
  have F6 := fun_mk (st := s_directory_entries) l6 c6 k6
  have B6 := F6.binds (ps := ["data", "place"]) fun _ _ _ _ _ _ us hl => match us, hl with | [_, _], _ => rfl
  have F7 := fun_mk (st := s_without_overlaps) l7 c7 k7
  have B7 := F7.binds (ps := ["found"]) fun _ _ _ _ _ _ us hl => match us, hl with | [_], _ => rfl
  have F8 := fun_mk (st := s_searched_entries) l8 c8 k8
  have B8 := F8.binds (ps := ["data"]) fun _ _ _ _ _ _ us hl => match us, hl with | [_], _ => rfl
  have F9 := fun_mk (st := s_plain_part) l9 c9 k9
  have B9 := F9.binds (ps := ["data"]) fun _ _ _ _ _ _ us hl => match us, hl with | [_], _ => rfl
  have F10 := fun_mk (st := s_name_parts) l10 c10 k10
  have B10 := F10.binds (ps := ["data"]) fun _ _ _ _ _ _ us hl => match us, hl with | [_], _ => rfl
  have F11 := fun_mk (st := s_plain_name) l11 c11 k11
  have B11 := F11.binds (ps := ["data"]) fun _ _ _ _ _ _ us hl => match us, hl with | [_], _ => rfl
  have F12 := fun_mk (st := s_open_crate) l12 c12 k12
  have B12 := F12.binds (ps := ["data", "left"]) fun _ _ _ _ _ _ us hl => match us, hl with | [_, _], _ => rfl
  have F13 := fun_mk (st := s__law_row) l13 c13 k13
  have B13 := F13.binds (ps := ["_law_cell_here", "_law_count"]) fun _ _ _ _ _ _ us hl => match us, hl with | [_, _], _ => rfl
  have F14 := fun_mk (st := s__law_cell) l14 c14 k14
  have B14 := F14.binds (ps := ["_law_script", "_law_k"]) fun _ _ _ _ _ _ us hl => match us, hl with | [_, _], _ => rfl
  have F15 := fun_mk (st := s__law_low) l15 c15 k15
  have B15 := F15.binds (ps := ["_law_number_here", "_law_size"]) fun _ _ _ _ _ _ us hl => match us, hl with | [_, _], _ => rfl
  have F16 := fun_mk (st := s__law_codes) l16 c16 k16
  have B16 := F16.binds (ps := ["_law_text"]) fun _ _ _ _ _ _ us hl => match us, hl with | [_], _ => rfl
  have F17 := fun_mk (st := s__law_make_head) l17 c17 k17
  have B17 := F17.binds (ps := ["_law_cell_here", "_law_name", "_law_data", "_law_size"]) fun _ _ _ _ _ _ us hl => match us, hl with | [_, _, _, _], _ => rfl
  have F18 := fun_mk (st := s__law_make_name) l18 c18 k18
  have B18 := F18.binds (ps := ["_law_cell_here"]) fun _ _ _ _ _ _ us hl => match us, hl with | [_], _ => rfl
  have F19 := fun_mk (st := s__law_make_record) l19 c19 k19
  have B19 := F19.binds (ps := ["_law_distance", "_law_name"]) fun _ _ _ _ _ _ us hl => match us, hl with | [_, _], _ => rfl
  have F20 := fun_mk (st := s__law_crate) l20 c20 k20
  have B20 := F20.binds (ps := ["_law_script"]) fun _ _ _ _ _ _ us hl => match us, hl with | [_], _ => rfl
  have F21 := fun_mk (st := s_to_low) l21 c21 k21
  have B21 := F21.binds (ps := ["number", "size"]) fun _ _ _ _ _ _ us hl => match us, hl with | [_, _], _ => rfl
  have F22 := fun_mk (st := s_write_crate) l22 c22 k22
  have B22 := F22.binds (ps := ["entries"]) fun _ _ _ _ _ _ us hl => match us, hl with | [_], _ => rfl
  have F23 := fun_mk (st := s__law_number) l23 c23 k23
  have B23 := F23.binds (ps := ["_law_row_here"]) fun _ _ _ _ _ _ us hl => match us, hl with | [_], _ => rfl
  have F24 := fun_mk (st := s__law_stands) l24 c24 k24
  have B24 := F24.binds (ps := ["_law_data", "_law_entry"]) fun _ _ _ _ _ _ us hl => match us, hl with | [_, _], _ => rfl
  have F25 := fun_mk (st := s_law) l25 c25 k25
  have B25 := F25.binds (ps := ["_law_script"]) fun _ _ _ _ _ _ us hl => match us, hl with | [_], _ => rfl
  have T : Txt K mg ⟨f0, (PySem.W.fnOf "_law_spoilt" "_law_spoilt" (defArgs s__law_spoilt) (defBody s__law_spoilt) (defScope s__law_spoilt) .none kV0 dc0 pm0 an0 cd0 ct0), f1, (PySem.W.fnOf "spend" "spend" (defArgs s_spend) (defBody s_spend) (defScope s_spend) .none kV1 dc1 pm1 an1 cd1 ct1), f2, (PySem.W.fnOf "stands_at" "stands_at" (defArgs s_stands_at) (defBody s_stands_at) (defScope s_stands_at) .none kV2 dc2 pm2 an2 cd2 ct2), f3, (PySem.W.fnOf "low_number" "low_number" (defArgs s_low_number) (defBody s_low_number) (defScope s_low_number) .none kV3 dc3 pm3 an3 cd3 ct3), f4, (PySem.W.fnOf "last_end" "last_end" (defArgs s_last_end) (defBody s_last_end) (defScope s_last_end) .none kV4 dc4 pm4 an4 cd4 ct4), f5, (PySem.W.fnOf "head_at" "head_at" (defArgs s_head_at) (defBody s_head_at) (defScope s_head_at) .none kV5 dc5 pm5 an5 cd5 ct5), f6, (PySem.W.fnOf "directory_entries" "directory_entries" (defArgs s_directory_entries) (defBody s_directory_entries) (defScope s_directory_entries) .none kV6 dc6 pm6 an6 cd6 ct6), f7, (PySem.W.fnOf "without_overlaps" "without_overlaps" (defArgs s_without_overlaps) (defBody s_without_overlaps) (defScope s_without_overlaps) .none kV7 dc7 pm7 an7 cd7 ct7), f8, (PySem.W.fnOf "searched_entries" "searched_entries" (defArgs s_searched_entries) (defBody s_searched_entries) (defScope s_searched_entries) .none kV8 dc8 pm8 an8 cd8 ct8), f9, (PySem.W.fnOf "plain_part" "plain_part" (defArgs s_plain_part) (defBody s_plain_part) (defScope s_plain_part) .none kV9 dc9 pm9 an9 cd9 ct9), f10, (PySem.W.fnOf "name_parts" "name_parts" (defArgs s_name_parts) (defBody s_name_parts) (defScope s_name_parts) .none kV10 dc10 pm10 an10 cd10 ct10), f11, (PySem.W.fnOf "plain_name" "plain_name" (defArgs s_plain_name) (defBody s_plain_name) (defScope s_plain_name) .none kV11 dc11 pm11 an11 cd11 ct11), f12, (PySem.W.fnOf "open_crate" "open_crate" (defArgs s_open_crate) (defBody s_open_crate) (defScope s_open_crate) .none kV12 dc12 pm12 an12 cd12 ct12), f13, (PySem.W.fnOf "_law_row" "_law_row" (defArgs s__law_row) (defBody s__law_row) (defScope s__law_row) .none kV13 dc13 pm13 an13 cd13 ct13), f14, (PySem.W.fnOf "_law_cell" "_law_cell" (defArgs s__law_cell) (defBody s__law_cell) (defScope s__law_cell) .none kV14 dc14 pm14 an14 cd14 ct14), f15, (PySem.W.fnOf "_law_low" "_law_low" (defArgs s__law_low) (defBody s__law_low) (defScope s__law_low) .none kV15 dc15 pm15 an15 cd15 ct15), f16, (PySem.W.fnOf "_law_codes" "_law_codes" (defArgs s__law_codes) (defBody s__law_codes) (defScope s__law_codes) .none kV16 dc16 pm16 an16 cd16 ct16), f17, (PySem.W.fnOf "_law_make_head" "_law_make_head" (defArgs s__law_make_head) (defBody s__law_make_head) (defScope s__law_make_head) .none kV17 dc17 pm17 an17 cd17 ct17), f18, (PySem.W.fnOf "_law_make_name" "_law_make_name" (defArgs s__law_make_name) (defBody s__law_make_name) (defScope s__law_make_name) .none kV18 dc18 pm18 an18 cd18 ct18), f19, (PySem.W.fnOf "_law_make_record" "_law_make_record" (defArgs s__law_make_record) (defBody s__law_make_record) (defScope s__law_make_record) .none kV19 dc19 pm19 an19 cd19 ct19), f20, (PySem.W.fnOf "_law_crate" "_law_crate" (defArgs s__law_crate) (defBody s__law_crate) (defScope s__law_crate) .none kV20 dc20 pm20 an20 cd20 ct20), f21, (PySem.W.fnOf "to_low" "to_low" (defArgs s_to_low) (defBody s_to_low) (defScope s_to_low) .none kV21 dc21 pm21 an21 cd21 ct21), f22, (PySem.W.fnOf "write_crate" "write_crate" (defArgs s_write_crate) (defBody s_write_crate) (defScope s_write_crate) .none kV22 dc22 pm22 an22 cd22 ct22), f23, (PySem.W.fnOf "_law_number" "_law_number" (defArgs s__law_number) (defBody s__law_number) (defScope s__law_number) .none kV23 dc23 pm23 an23 cd23 ct23), f24, (PySem.W.fnOf "_law_stands" "_law_stands" (defArgs s__law_stands) (defBody s__law_stands) (defScope s__law_stands) .none kV24 dc24 pm24 an24 cd24 ct24), fa, (PySem.W.fnOf "law" "law" (defArgs s_law) (defBody s_law) (defScope s_law) .none kV25 dc25 pm25 an25 cd25 ct25), x0⟩ := {
    f__law_spoilt := F0, m__law_spoilt := PySem.W.mg_of X G a0, i__law_spoilt := B0,
    f_spend := F1, m_spend := PySem.W.mg_of X G a1, i_spend := B1,
    f_stands_at := F2, m_stands_at := PySem.W.mg_of X G a2, i_stands_at := B2,
    f_low_number := F3, m_low_number := PySem.W.mg_of X G a3, i_low_number := B3,
    f_last_end := F4, m_last_end := PySem.W.mg_of X G a4, i_last_end := B4,
    f_head_at := F5, m_head_at := PySem.W.mg_of X G a5, i_head_at := B5,
    f_directory_entries := F6, m_directory_entries := PySem.W.mg_of X G a6, i_directory_entries := B6,
    f_without_overlaps := F7, m_without_overlaps := PySem.W.mg_of X G a7, i_without_overlaps := B7,
    f_searched_entries := F8, m_searched_entries := PySem.W.mg_of X G a8, i_searched_entries := B8,
    f_plain_part := F9, m_plain_part := PySem.W.mg_of X G a9, i_plain_part := B9,
    f_name_parts := F10, m_name_parts := PySem.W.mg_of X G a10, i_name_parts := B10,
    f_plain_name := F11, m_plain_name := PySem.W.mg_of X G a11, i_plain_name := B11,
    f_open_crate := F12, m_open_crate := PySem.W.mg_of X G a12, i_open_crate := B12,
    f__law_row := F13, m__law_row := PySem.W.mg_of X G a13, i__law_row := B13,
    f__law_cell := F14, m__law_cell := PySem.W.mg_of X G a14, i__law_cell := B14,
    f__law_low := F15, m__law_low := PySem.W.mg_of X G a15, i__law_low := B15,
    f__law_codes := F16, m__law_codes := PySem.W.mg_of X G a16, i__law_codes := B16,
    f__law_make_head := F17, m__law_make_head := PySem.W.mg_of X G a17, i__law_make_head := B17,
    f__law_make_name := F18, m__law_make_name := PySem.W.mg_of X G a18, i__law_make_name := B18,
    f__law_make_record := F19, m__law_make_record := PySem.W.mg_of X G a19, i__law_make_record := B19,
    f__law_crate := F20, m__law_crate := PySem.W.mg_of X G a20, i__law_crate := B20,
    f_to_low := F21, m_to_low := PySem.W.mg_of X G a21, i_to_low := B21,
    f_write_crate := F22, m_write_crate := PySem.W.mg_of X G a22, i_write_crate := B22,
    f__law_number := F23, m__law_number := PySem.W.mg_of X G a23, i__law_number := B23,
    f__law_stands := F24, m__law_stands := PySem.W.mg_of X G a24, i__law_stands := B24,
    f_law := F25, m_law := PySem.W.mg_of X G a25, i_law := B25,
    z_abs := PySem.W.mg_none_of X G z_abs,
    z_any := PySem.W.mg_none_of X G z_any,
    z_enumerate := PySem.W.mg_none_of X G z_enumerate,
    z_int := PySem.W.mg_none_of X G z_int,
    z_isinstance := PySem.W.mg_none_of X G z_isinstance,
    z_len := PySem.W.mg_none_of X G z_len,
    z_list := PySem.W.mg_none_of X G z_list,
    z_max := PySem.W.mg_none_of X G z_max,
    z_min := PySem.W.mg_none_of X G z_min,
    z_ord := PySem.W.mg_none_of X G z_ord,
    z_range := PySem.W.mg_none_of X G z_range,
    z_reversed := PySem.W.mg_none_of X G z_reversed,
    z_sum := PySem.W.mg_none_of X G z_sum,
    z_tuple := PySem.W.mg_none_of X G z_tuple,
    g_CRATE_SIGN := glob_rv (PySem.W.mg_of X G g_CRATE_SIGN) (rv_tup g0_CRATE_SIGN (by simp) (rvL_cons (rv_int) (rvL_cons (rv_int) (rvL_cons (rv_int) (rvL_cons (rv_int) (rvL_nil)))))),
    g_END_SIGN := glob_rv (PySem.W.mg_of X G g_END_SIGN) (rv_tup g0_END_SIGN (by simp) (rvL_cons (rv_int) (rvL_cons (rv_int) (rvL_cons (rv_int) (rvL_cons (rv_int) (rvL_nil)))))),
    g_END_SIZE := glob_int (PySem.W.mg_of X G g_END_SIZE),
    g_HEAD_SIZE := glob_int (PySem.W.mg_of X G g_HEAD_SIZE),
    g_MOST_ENTRIES := glob_int (PySem.W.mg_of X G g_MOST_ENTRIES),
    g_MOST_NAME := glob_int (PySem.W.mg_of X G g_MOST_NAME),
    g_RECORD_SIGN := glob_rv (PySem.W.mg_of X G g_RECORD_SIGN) (rv_tup g0_RECORD_SIGN (by simp) (rvL_cons (rv_int) (rvL_cons (rv_int) (rvL_cons (rv_int) (rvL_cons (rv_int) (rvL_nil)))))),
    g_RECORD_SIZE := glob_int (PySem.W.mg_of X G g_RECORD_SIZE),
    g_SIGNS := glob_str (PySem.W.mg_of X G g_SIGNS),
    x_Malformed := ⟨PySem.W.mg_of X G xa0, xk0, xx0, xb0, xt0⟩ }
  exact ⟨_, fun s v => .of_eq rfl, fun base _ _ => end_ok T⟩
end
end K19
open PySem PySem.W PyProof.Rows in
set_option maxHeartbeats 0 in
set_option maxRecDepth 100000 in
theorem PySem.Challenge.cw_stillroom_k19_whole_nothing_twice_holds : PySem.Challenge.rw_stillroom_k19_whole_nothing_twice.Holds := by
  w_on; o_law; k_head; (case hw => w_witness2)
  k_fill
  refine L2.walk_of (l := PySem.Challenge.rw_stillroom_k19_whole_nothing_twice) (n := 63) (k := 5) (x := "_law_script") (CX := fun w => L2.CX PySem.Challenge.rw_stillroom_k19_whole_nothing_twice.prog w) (sp := fun w => Dv.spLaw _) rfl (by decide) rfl ⟨rfl, by decide, by decide⟩ (fun w h Y => PySem.W.kIn_of Y) ?F (fun _ _ a ns hl _ hS => ⟨a, ns, rfl, hS, hl, fun _ => rfl⟩) (fun _ _ _ _ _ z => Dv.cx_no z)
  case F =>
    intro w mg fa h KX G hmg
    refine' K19.all_mk KX G hmg ?a0 ?l0 ?c0 ?k0 ?a1 ?l1 ?c1 ?k1 ?a2 ?l2 ?c2 ?k2 ?a3 ?l3 ?c3 ?k3 ?a4 ?l4 ?c4 ?k4 ?a5 ?l5 ?c5 ?k5 ?a6 ?l6 ?c6 ?k6 ?a7 ?l7 ?c7 ?k7 ?a8 ?l8 ?c8 ?k8 ?a9 ?l9 ?c9 ?k9 ?a10 ?l10 ?c10 ?k10 ?a11 ?l11 ?c11 ?k11 ?a12 ?l12 ?c12 ?k12 ?a13 ?l13 ?c13 ?k13 ?a14 ?l14 ?c14 ?k14 ?a15 ?l15 ?c15 ?k15 ?a16 ?l16 ?c16 ?k16 ?a17 ?l17 ?c17 ?k17 ?a18 ?l18 ?c18 ?k18 ?a19 ?l19 ?c19 ?k19 ?a20 ?l20 ?c20 ?k20 ?a21 ?l21 ?c21 ?k21 ?a22 ?l22 ?c22 ?k22 ?a23 ?l23 ?c23 ?k23 ?a24 ?l24 ?c24 ?k24 ?a25 ?l25 ?c25 ?k25 ?z_abs ?z_any ?z_enumerate ?z_int ?z_isinstance ?z_len ?z_list ?z_max ?z_min ?z_ord ?z_range ?z_reversed ?z_sum ?z_tuple ?xa0 ?xk0 ?xx0 ?xb0 ?xt0 ?g_CRATE_SIGN ?g0_CRATE_SIGN ?g_END_SIGN ?g0_END_SIGN ?g_END_SIZE ?g_HEAD_SIZE ?g_MOST_ENTRIES ?g_MOST_NAME ?g_RECORD_SIGN ?g0_RECORD_SIGN ?g_RECORD_SIZE ?g_SIGNS
    (case a0 => k_is)
    (case l0 => k_is)
    (case c0 => k_is)
    (case k0 => k_is)
    (case a1 => k_is)
    (case l1 => k_is)
    (case c1 => k_is)
    (case k1 => k_is)
    (case a2 => k_is)
    (case l2 => k_is)
    (case c2 => k_is)
    (case k2 => k_is)
    (case a3 => k_is)
    (case l3 => k_is)
    (case c3 => k_is)
    (case k3 => k_is)
    (case a4 => k_is)
    (case l4 => k_is)
    (case c4 => k_is)
    (case k4 => k_is)
    (case a5 => k_is)
    (case l5 => k_is)
    (case c5 => k_is)
    (case k5 => k_is)
    (case a6 => k_is)
    (case l6 => k_is)
    (case c6 => k_is)
    (case k6 => k_is)
    (case a7 => k_is)
    (case l7 => k_is)
    (case c7 => k_is)
    (case k7 => k_is)
    (case a8 => k_is)
    (case l8 => k_is)
    (case c8 => k_is)
    (case k8 => k_is)
    (case a9 => k_is)
    (case l9 => k_is)
    (case c9 => k_is)
    (case k9 => k_is)
    (case a10 => k_is)
    (case l10 => k_is)
    (case c10 => k_is)
    (case k10 => k_is)
    (case a11 => k_is)
    (case l11 => k_is)
    (case c11 => k_is)
    (case k11 => k_is)
    (case a12 => k_is)
    (case l12 => k_is)
    (case c12 => k_is)
    (case k12 => k_is)
    (case a13 => k_is)
    (case l13 => k_is)
    (case c13 => k_is)
    (case k13 => k_is)
    (case a14 => k_is)
    (case l14 => k_is)
    (case c14 => k_is)
    (case k14 => k_is)
    (case a15 => k_is)
    (case l15 => k_is)
    (case c15 => k_is)
    (case k15 => k_is)
    (case a16 => k_is)
    (case l16 => k_is)
    (case c16 => k_is)
    (case k16 => k_is)
    (case a17 => k_is)
    (case l17 => k_is)
    (case c17 => k_is)
    (case k17 => k_is)
    (case a18 => k_is)
    (case l18 => k_is)
    (case c18 => k_is)
    (case k18 => k_is)
    (case a19 => k_is)
    (case l19 => k_is)
    (case c19 => k_is)
    (case k19 => k_is)
    (case a20 => k_is)
    (case l20 => k_is)
    (case c20 => k_is)
    (case k20 => k_is)
    (case a21 => k_is)
    (case l21 => k_is)
    (case c21 => k_is)
    (case k21 => k_is)
    (case a22 => k_is)
    (case l22 => k_is)
    (case c22 => k_is)
    (case k22 => k_is)
    (case a23 => k_is)
    (case l23 => k_is)
    (case c23 => k_is)
    (case k23 => k_is)
    (case a24 => k_is)
    (case l24 => k_is)
    (case c24 => k_is)
    (case k24 => k_is)
    (case a25 => k_is)
    (case l25 => k_is)
    (case c25 => k_is)
    (case k25 => k_is)
    (case z_abs => k_is)
    (case z_any => k_is)
    (case z_enumerate => k_is)
    (case z_int => k_is)
    (case z_isinstance => k_is)
    (case z_len => k_is)
    (case z_list => k_is)
    (case z_max => k_is)
    (case z_min => k_is)
    (case z_ord => k_is)
    (case z_range => k_is)
    (case z_reversed => k_is)
    (case z_sum => k_is)
    (case z_tuple => k_is)
    (case xa0 => k_is)
    (case xk0 => k_is)
    (case xx0 => k_exc)
    (case xb0 => k_is)
    (case xt0 => k_is)
    (case g_CRATE_SIGN => k_is)
    (case g0_CRATE_SIGN => k_is)
    (case g_END_SIGN => k_is)
    (case g0_END_SIGN => k_is)
    (case g_END_SIZE => k_is)
    (case g_HEAD_SIZE => k_is)
    (case g_MOST_ENTRIES => k_is)
    (case g_MOST_NAME => k_is)
    (case g_RECORD_SIGN => k_is)
    (case g0_RECORD_SIGN => k_is)
    (case g_RECORD_SIZE => k_is)
    (case g_SIGNS => k_is)
#print axioms PySem.Challenge.cw_stillroom_k19_whole_nothing_twice_holds
