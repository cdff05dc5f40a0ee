import PyProof.Rows.All
import Wide.All
import OpenK.AllK
import Wide.FinOn
import KE.KTupSum
import KE.GoesEnum
import HandS.ForMost
import HandS.ForExc
import HandS.TupAny
import HandS.TupMul
import HandS.IsInst
import HandS.Wide
import HandS.Walk
import HandS.Zip
import HandS.SortInts
import HandS.Style
import HandS.Flow
import HandS.Lambda
import HandS.ExcCtx
import HandS.HotCalls
import PyProof.ZipIter
import HandS.Hot
import HandS.ExcIs
import HandS.ExcBuiltin
import HandS.Text
import HandS.Steps
import HandS.EndTab
import HandS.Conv
import HandS.CallLocal
import HandS.Defaults
import PySem.Challenge.RW_movingsums_k12_whole_largest_numbers
set_option Elab.async false
set_option linter.all false
set_option maxRecDepth 100000
set_option maxHeartbeats 20000000
/-! Fx: Python data as pure trees; what an expression, a statement, a def makes of the slots, as functions. -/
namespace Fx
open PySem PySem.Spec PyProof.Rows L2

/-- an equation that simp shall use as a proof -/
theorem byRfl {α : Sort _} {a b : α} (h : a = b) : a = b := h
/-- the addresses of the top's names; the tables of code objects of the defs that make lambdas -/
structure Cl where
  ad : String → Addr
  tb : List (Addr × Str)
instance clFun : CoeFun Cl fun _ => String → Addr := ⟨Cl.ad⟩
/-- a value with what it holds; nm: a def or class of the top, by its name -/
inductive T where
  | non | bl (b : Bool) | int (i : Int) | str (x : Str) | lst (xs : List T) | tup (xs : List T) | nm (s : String)

mutual
def Den (K : PySem.W.Frag) (cl : Cl) (G : Hp) : T → V → Prop
  | .non, v => v = .non
  | .bl b, v => v = .bl b
  | .int i, v => v = .int i
  | .str x, v => v = .str x
  | .nm s, v => v = .ref (cl s)
  | .lst ts, v => ∃ a xs, v = .ref a ∧ SqL K G a xs ∧ DenL K cl G ts xs
  | .tup ts, v => ∃ a xs, v = .ref a ∧ SqT K G a xs ∧ DenL K cl G ts xs
def DenL (K : PySem.W.Frag) (cl : Cl) (G : Hp) : List T → List V → Prop
  | [], xs => xs = []
  | t :: ts, xs => ∃ x r, xs = x :: r ∧ Den K cl G t x ∧ DenL K cl G ts r
end

section
variable {K : PySem.W.Frag} {cl : Cl} {G H : Hp}
theorem same_rd {a : Addr} {o : HO} (e : Same G H) (h : Rd G a o) : Rd H a o := by
  rcases h with h | ⟨o, h⟩
  · exact .inl (e _ _ h)
  · exact .inr ⟨o, e _ _ h⟩
theorem same_seqT {a : Addr} {xs : List V} (e : Same G H) (h : SqT K G a xs) : SqT K H a xs := by
  rcases h with (h | ⟨o, h⟩) | h
  · exact .inl (.inl (e _ _ h))
  · exact .inl (.inr ⟨o, e _ _ h⟩)
  · exact .inr h
mutual
theorem Den.mono (e : Same G H) : ∀ {t : T} {v : V}, Den K cl G t v → Den K cl H t v
  | .non, _, h => by unfold Den at h ⊢; exact h
  | .bl _, _, h => by unfold Den at h ⊢; exact h
  | .int _, _, h => by unfold Den at h ⊢; exact h
  | .str _, _, h => by unfold Den at h ⊢; exact h
  | .nm _, _, h => by unfold Den at h ⊢; exact h
  | .lst ts, _, h => by
    unfold Den at h ⊢
    obtain ⟨a, xs, e1, e2, e3⟩ := h
    exact ⟨a, xs, e1, e.seq e2, DenL.mono e e3⟩
  | .tup ts, _, h => by
    unfold Den at h ⊢
    obtain ⟨a, xs, e1, e2, e3⟩ := h
    exact ⟨a, xs, e1, same_seqT e e2, DenL.mono e e3⟩
theorem DenL.mono (e : Same G H) : ∀ {ts : List T} {xs : List V}, DenL K cl G ts xs → DenL K cl H ts xs
  | [], _, h => by unfold DenL at h ⊢; exact h
  | t :: ts, _, h => by
    unfold DenL at h ⊢
    obtain ⟨x, r, e1, e2, e3⟩ := h
    exact ⟨x, r, e1, Den.mono e e2, DenL.mono e e3⟩
end
theorem DenL.nil : DenL K cl G [] [] := by unfold DenL; rfl
theorem DenL.cons {t : T} {ts : List T} {x : V} {r : List V} (h : Den K cl G t x) (h2 : DenL K cl G ts r) : DenL K cl G (t :: ts) (x :: r) := by
  unfold DenL; exact ⟨x, r, rfl, h, h2⟩
theorem DenL.iff : ∀ {ts : List T} {xs : List V}, DenL K cl G ts xs ↔ Paired (Den K cl G) ts xs
  | [], xs => by
    unfold DenL
    constructor
    · intro h; subst h; exact .nil
    · intro h; cases h; rfl
  | t :: ts, xs => by
    unfold DenL
    constructor
    · rintro ⟨x, r, rfl, h1, h2⟩; exact .cons h1 (DenL.iff.mp h2)
    · intro h
      cases h with
      | cons a b => exact ⟨_, _, rfl, a, DenL.iff.mpr b⟩
theorem DenL.len {ts : List T} {xs : List V} (h : DenL K cl G ts xs) : ts.length = xs.length := Paired.length (DenL.iff.mp h)
theorem DenL.get : ∀ {ts : List T} {xs : List V} {i : Nat} {t : T}, DenL K cl G ts xs → ts[i]? = some t → ∃ x, xs[i]? = some x ∧ Den K cl G t x
  | [], _, _, _, _, h => by simp at h
  | t :: ts, _, 0, u, h, e => by
    unfold DenL at h
    obtain ⟨x, r, rfl, h1, h2⟩ := h
    simp at e; subst e
    exact ⟨x, rfl, h1⟩
  | t :: ts, _, i + 1, u, h, e => by
    unfold DenL at h
    obtain ⟨x, r, rfl, h1, h2⟩ := h
    obtain ⟨y, e1, e2⟩ := DenL.get (i := i) h2 (by simpa using e)
    exact ⟨y, by simpa using e1, e2⟩
theorem DenL.getV {ts : List T} {xs : List V} {i : Nat} {x : V} (h : DenL K cl G ts xs) (e : xs[i]? = some x) : ∃ t, ts[i]? = some t ∧ Den K cl G t x := by
  have hi : i < ts.length := by rw [h.len]; exact (List.getElem?_eq_some_iff.mp e).1
  obtain ⟨y, e1, e2⟩ := h.get (List.getElem?_eq_getElem hi)
  rw [e] at e1; cases e1
  exact ⟨_, List.getElem?_eq_getElem hi, e2⟩
theorem DenL.append {ts us : List T} {xs ys : List V} (h : DenL K cl G ts xs) (h2 : DenL K cl G us ys) : DenL K cl G (ts ++ us) (xs ++ ys) := by
  induction ts generalizing xs with
  | nil => unfold DenL at h; subst h; exact h2
  | cons t ts ih =>
    unfold DenL at h
    obtain ⟨x, r, rfl, a, b⟩ := h
    exact DenL.cons a (ih b)
theorem DenL.drop {ts : List T} {xs : List V} (n : Nat) (h : DenL K cl G ts xs) : DenL K cl G (ts.drop n) (xs.drop n) := by
  induction n generalizing ts xs with
  | zero => simpa using h
  | succ n ih =>
    cases ts with
    | nil => unfold DenL at h; subst h; simpa using (DenL.nil (K := K) (cl := cl) (G := G))
    | cons t ts =>
      unfold DenL at h
      obtain ⟨x, r, rfl, a, b⟩ := h
      simpa using ih b
theorem DenL.take {ts : List T} {xs : List V} (n : Nat) (h : DenL K cl G ts xs) : DenL K cl G (ts.take n) (xs.take n) := by
  induction n generalizing ts xs with
  | zero => simpa using (DenL.nil (K := K) (cl := cl) (G := G))
  | succ n ih =>
    cases ts with
    | nil => unfold DenL at h; subst h; simpa using (DenL.nil (K := K) (cl := cl) (G := G))
    | cons t ts =>
      unfold DenL at h
      obtain ⟨x, r, rfl, a, b⟩ := h
      simpa using DenL.cons a (ih b)
theorem DenL.set {ts : List T} {xs : List V} {t : T} {x : V} (n : Nat) (h : DenL K cl G ts xs) (ht : Den K cl G t x) : DenL K cl G (ts.set n t) (xs.set n x) := by
  induction n generalizing ts xs with
  | zero =>
    cases ts with
    | nil => unfold DenL at h; subst h; exact DenL.nil
    | cons u ts =>
      unfold DenL at h
      obtain ⟨y, r, rfl, a, b⟩ := h
      exact DenL.cons ht b
  | succ n ih =>
    cases ts with
    | nil => unfold DenL at h; subst h; exact DenL.nil
    | cons u ts =>
      unfold DenL at h
      obtain ⟨y, r, rfl, a, b⟩ := h
      exact DenL.cons a (ih b)
theorem DenL.picks {ts : List T} {xs : List V} (h : DenL K cl G ts xs) : ∀ (js : List Nat), DenL K cl G (js.filterMap (ts[·]?)) (js.filterMap (xs[·]?))
  | [] => DenL.nil
  | j :: js => by
    have ih := DenL.picks h js
    cases e : ts[j]? with
    | none =>
      have e2 : xs[j]? = none := by
        rw [List.getElem?_eq_none_iff] at e ⊢
        rw [← h.len]; exact e
      simpa only [List.filterMap_cons, e, e2] using ih
    | some t =>
      obtain ⟨x, e2, d⟩ := h.get e
      simpa only [List.filterMap_cons, e, e2] using DenL.cons d ih
theorem DenL.reverse {ts : List T} {xs : List V} (h : DenL K cl G ts xs) : DenL K cl G ts.reverse xs.reverse := by
  induction ts generalizing xs with
  | nil => unfold DenL at h; subst h; exact DenL.nil
  | cons t ts ih =>
    unfold DenL at h
    obtain ⟨x, r, rfl, a, b⟩ := h
    rw [List.reverse_cons, List.reverse_cons]
    exact (ih b).append (DenL.cons a DenL.nil)
theorem Den.int_of {i : Int} {v : V} (h : Den K cl G (.int i) v) : v = .int i := by unfold Den at h; exact h
theorem Den.bl_of {i : Bool} {v : V} (h : Den K cl G (.bl i) v) : v = .bl i := by unfold Den at h; exact h
theorem Den.str_of {i : Str} {v : V} (h : Den K cl G (.str i) v) : v = .str i := by unfold Den at h; exact h
theorem Den.non_of {v : V} (h : Den K cl G .non v) : v = .non := by unfold Den at h; exact h
theorem Den.nm_of {s : String} {v : V} (h : Den K cl G (.nm s) v) : v = .ref (cl s) := by unfold Den at h; exact h
theorem Den.lst_of {ts : List T} {v : V} (h : Den K cl G (.lst ts) v) : ∃ a xs, v = .ref a ∧ SqL K G a xs ∧ DenL K cl G ts xs := by unfold Den at h; exact h
theorem Den.tup_of {ts : List T} {v : V} (h : Den K cl G (.tup ts) v) : ∃ a xs, v = .ref a ∧ SqT K G a xs ∧ DenL K cl G ts xs := by unfold Den at h; exact h
theorem den_int (i : Int) : Den K cl G (.int i) (.int i) := by unfold Den; rfl
theorem den_bl (i : Bool) : Den K cl G (.bl i) (.bl i) := by unfold Den; rfl
theorem den_str (i : Str) : Den K cl G (.str i) (.str i) := by unfold Den; rfl
theorem den_non : Den K cl G .non .non := by unfold Den; rfl
theorem den_nm (s : String) : Den K cl G (.nm s) (.ref (cl s)) := by unfold Den; rfl
theorem den_lst {a : Addr} {ts : List T} {xs : List V} (h : SqL K G a xs) (d : DenL K cl G ts xs) : Den K cl G (.lst ts) (.ref a) := by unfold Den; exact ⟨a, xs, rfl, h, d⟩
theorem den_tup {a : Addr} {ts : List T} {xs : List V} (h : SqT K G a xs) (d : DenL K cl G ts xs) : Den K cl G (.tup ts) (.ref a) := by unfold Den; exact ⟨a, xs, rfl, h, d⟩
theorem same_upd {p : Addr} {o : HO} (h : H p = none) : Same H (upd H p o) := fun b x e => by
  rw [upd_ne (ne_of_none e h)]; exact e
theorem same_upd2 {p : Addr} {o : HO} (s : Same G H) (h : H p = none) : Same (upd G p o) (upd H p o) := fun b x e => by
  by_cases hb : b = p
  · subst hb; rw [upd_same] at e ⊢; exact e
  · rw [upd_ne hb] at e ⊢; exact s b x e
/-- an object that G does not know may change -/
theorem same_mut {p : Addr} {o : HO} (s : Same G H) (h : G p = none) : Same G (upd H p o) := fun b x e => by
  rw [upd_ne (ne_of_none e h)]; exact s b x e
end

/-- G is part of H; the tables stand; none is in G -/
structure Sm (cl : Cl) (G H : Hp) : Prop where
  same : Same G H
  tab : LamX.Tabs cl.tb H
  nt : ∀ p ps, G p ≠ some (.tbl ps)
instance smSame {cl : Cl} {G H : Hp} : CoeOut (Sm cl G H) (Same G H) := ⟨Sm.same⟩
def NoTb (o : HO) : Prop := ∀ ps, o ≠ .tbl ps
theorem noTb_lst {xs : List V} : NoTb (.lst xs) := fun ps z => by cases z
theorem noTb_tup {xs : List V} : NoTb (.tup xs) := fun ps z => by cases z
section
variable {K : PySem.W.Frag} {cl : Cl} {G H G' H' : Hp}
theorem Sm.free {p : Addr} (s : Sm cl G H) (h : H p = none) : G p = none := Same.free s.same h
theorem Sm.seq {a : Addr} {xs : List V} (s : Sm cl G H) (h : SqL K G a xs) : SqL K H a xs := Same.seq s.same h
theorem tabs_upd {T : List (Addr × Str)} {p : Addr} {o : HO} (t : LamX.Tabs T H) (h : H p = none) : LamX.Tabs T (upd H p o) := t.ext fun b x e => by rw [upd_ne (ne_of_none e h)]; exact e
theorem tabs_mut {T : List (Addr × Str)} {p : Addr} {xs : List V} {o : HO} (t : LamX.Tabs T H) (h : H p = some (.lst xs)) : LamX.Tabs T (upd H p o) := fun q hq => by
  obtain ⟨ps, h1, h2, h3⟩ := t q hq
  have ne : ∀ {b : Addr} {x : HO}, H b = some x → (∀ ys, x ≠ .lst ys) → b ≠ p := fun {b x} e n z => by
    rw [z, h] at e; cases e; exact n _ rfl
  refine ⟨ps, by rw [upd_ne (ne h1 fun ys z => by cases z)]; exact h1, h2, fun pos cv hc => ?_⟩
  obtain ⟨c, e1, e2⟩ := h3 pos cv hc
  exact ⟨c, e1, by rw [upd_ne (ne e2 fun ys z => by unfold LamX.CodeO at z; cases z)]; exact e2⟩
theorem sm_upd2 {p : Addr} {o : HO} (s : Sm cl G H) (h : H p = none) (n : NoTb o := by first | exact noTb_lst | exact noTb_tup) : Sm cl (upd G p o) (upd H p o) where
  same := same_upd2 s.same h
  tab := tabs_upd s.tab h
  nt := fun b ps e => by
    by_cases hb : b = p
    · subst hb; rw [upd_same] at e; exact n ps (Option.some.inj e)
    · rw [upd_ne hb] at e; exact s.nt b ps e
/-- what H has is frozen -/
theorem sm_frz {p : Addr} {o : HO} (s : Sm cl G H) (e : H p = some o) (n : NoTb o) : Sm cl (upd G p o) H where
  same := fun b x q => by
    by_cases hb : b = p
    · subst hb; rw [upd_same] at q; cases q; exact e
    · rw [upd_ne hb] at q; exact s.same b x q
  tab := s.tab
  nt := fun b ps q => by
    by_cases hb : b = p
    · subst hb; rw [upd_same] at q; exact n ps (Option.some.inj q)
    · rw [upd_ne hb] at q; exact s.nt b ps q
/-- a new object, not frozen -/
theorem sm_new {p : Addr} {o : HO} (s : Sm cl G H) (h : H p = none) : Sm cl G (upd H p o) where
  same := s.same.trans (same_upd h)
  tab := tabs_upd s.tab h
  nt := s.nt
/-- an object that G does not know may change -/
theorem sm_mut {p : Addr} {xs : List V} {o : HO} (s : Sm cl G H) (h : G p = none) (e : H p = some (.lst xs)) : Sm cl G (upd H p o) where
  same := same_mut s.same h
  tab := tabs_mut s.tab e
  nt := s.nt
end

/-! ### slots -/
inductive Sl where
  | no | va (t : T) | ow (ts : List T)
abbrev Rho := List Sl
structure Rel (K : PySem.W.Frag) (cl : Cl) (G H : Hp) (σ : L2.St) (ρ : Rho) : Prop where
  same : Sm cl G H
  len : ρ.length = σ.length
  va : ∀ (i : Nat) (t : T), ρ[i]? = some (.va t) → ∃ v, σ[i]? = some (some v) ∧ Den K cl G t v
  ow : ∀ (i : Nat) (ts : List T), ρ[i]? = some (.ow ts) → ∃ o us, σ[i]? = some (some (.ref o)) ∧ G o = none ∧ H o = some (.lst us) ∧ DenL K cl G ts us
  ap : ∀ (i j : Nat) (ts us : List T) (o : Addr), ρ[i]? = some (.ow ts) → ρ[j]? = some (.ow us) → σ[i]? = some (some (.ref o)) → σ[j]? = some (some (.ref o)) → i = j
def Own (σ : L2.St) (ρ : Rho) (o : Addr) : Prop := ∃ (i : Nat) (ts : List T), ρ[i]? = some (.ow ts) ∧ σ[i]? = some (some (.ref o))
/-- nothing but a table -/
def Fs (H : Hp) (p : Addr) : Prop := ∀ o, H p = some o → ¬ NoTb o
theorem Fs.of {H : Hp} {p : Addr} (h : H p = none) : Fs H p := fun o e => by rw [h] at e; cases e
theorem Fs.lst {H : Hp} {p : Addr} {xs : List V} {P : Prop} (h : Fs H p) (e : H p = some (.lst xs)) : P := absurd noTb_lst (h _ e)
theorem Fs.upd {H : Hp} {p q : Addr} {o : HO} (h : Fs (upd H q o) p) (n : NoTb o := by exact noTb_lst) : Fs H p := fun x e m => by
  by_cases hb : p = q
  · subst hb; exact h o upd_same n
  · exact h x (by rw [upd_ne hb]; exact e) m
/-- from G, H to G', H': what is frozen stays; what is tracked stays, but at A; what is newly frozen was fresh, or of A -/
structure Fr (A : Addr → Prop) (G H G' H' : Hp) : Prop where
  gg : Same G G'
  keep : ∀ p x, H p = some x → ¬ A p → NoTb x → H' p = some x
  new : ∀ p x, G' p = some x → G p = none → Fs H p ∨ A p
  there : ∀ p, Fs H' p → Fs H p
def NoA : Addr → Prop := fun _ => False
section
variable {K : PySem.W.Frag} {cl : Cl} {G H G' H' G1 H1 G2 H2 : Hp} {A A' : Addr → Prop} {σ : L2.St} {ρ ρ' : Rho}
theorem Fr.refl : Fr A G H G H := ⟨Same.refl _, fun _ _ h _ _ => h, fun p x h h2 => (by rw [h] at h2; cases h2), fun _ h => h⟩
theorem Fr.trans (a : Fr A G H G1 H1) (b : Fr A' G1 H1 G2 H2) (hA : ∀ p, A' p → A p ∨ Fs H p) : Fr A G H G2 H2 where
  gg := a.gg.trans b.gg
  keep := fun p x h n m => b.keep p x (a.keep p x h n m) (fun z => (hA p z).elim n fun e => e _ h m) m
  new := fun p x h n => by
    cases e : G1 p with
    | some y => exact a.new p y e n
    | none =>
      rcases b.new p x h e with z | z
      · exact .inl (a.there p z)
      · exact (hA p z).elim .inr .inl
  there := fun p h => a.there p (b.there p h)
theorem Fr.mono (a : Fr A G H G1 H1) (h : ∀ p, A p → A' p) : Fr A' G H G1 H1 := ⟨a.gg, fun p x e n m => a.keep p x e (fun z => n (h p z)) m, fun p x e n => (a.new p x e n).imp id (h p), a.there⟩
theorem Fr.noa (a : Fr NoA G H G1 H1) : Fr A G H G1 H1 := a.mono fun _ z => z.elim
theorem Fr.same (a : Fr NoA G H G1 H1) {p : Addr} {x : HO} (h : H p = some x) (m : NoTb x) : H1 p = some x := a.keep p x h (fun z => z) m
/-- a new object, frozen at once -/
theorem Fr.frz {cl : Cl} {p : Addr} {o : HO} (h : H p = none) (s : Sm cl G H) : Fr A G H (upd G p o) (upd H p o) where
  gg := fun b x e => by rw [upd_ne (ne_of_none (s.same b x e) h)]; exact e
  keep := fun b x e _ _ => by rw [upd_ne (ne_of_none e h)]; exact e
  new := fun b x e n => by
    by_cases hb : b = p
    · subst hb; exact .inl (.of h)
    · rw [upd_ne hb, n] at e; cases e
  there := fun b e => by
    by_cases hb : b = p
    · subst hb; exact .of h
    · intro x q; exact e x (by rw [upd_ne hb]; exact q)
/-- a new object, not frozen -/
theorem Fr.made {p : Addr} {o : HO} (h : H p = none) : Fr A G H G (upd H p o) where
  gg := Same.refl _
  keep := fun b x e _ _ => by rw [upd_ne (ne_of_none e h)]; exact e
  new := fun b x e n => by rw [n] at e; cases e
  there := fun b e => by
    by_cases hb : b = p
    · subst hb; exact .of h
    · intro x q; exact e x (by rw [upd_ne hb]; exact q)
/-- an owned object changes -/
theorem Fr.mut {p : Addr} {o : HO} (h : A p) (n : NoTb o := by exact noTb_lst) : Fr A G H G (upd H p o) where
  gg := Same.refl _
  keep := fun b x e m _ => by rw [upd_ne (fun z => m (by rw [z]; exact h))]; exact e
  new := fun b x e m => by rw [m] at e; cases e
  there := fun b e => by
    by_cases hb : b = p
    · subst hb; exact absurd n (e o upd_same)
    · intro x q; exact e x (by rw [upd_ne hb]; exact q)
/-- a table grew -/
theorem Fr.tab (e : LamX.ExtN H H') : Fr A G H G H' where
  gg := Same.refl _
  keep := fun b x q _ n => e b x q n
  new := fun b x q m => by rw [m] at q; cases q
  there := fun b f x q n => f x (e b x q n) n
theorem Own.of {i : Nat} {ts : List T} {o : Addr} (h : ρ[i]? = some (.ow ts)) (e : σ[i]? = some (some (.ref o))) : Own σ ρ o := ⟨i, ts, h, e⟩
theorem Rel.own_some (r : Rel K cl G H σ ρ) {o : Addr} (h : Own σ ρ o) : ∃ us, H o = some (.lst us) ∧ G o = none := by
  obtain ⟨i, ts, e1, e2⟩ := h
  obtain ⟨o', us, e3, e4, e5, _⟩ := r.ow i ts e1
  rw [e2] at e3; cases e3
  exact ⟨us, e5, e4⟩
/-- nothing of ours changed -/
theorem Rel.keep (r : Rel K cl G H σ ρ) (f : Fr NoA G H G' H') (s : Sm cl G' H') : Rel K cl G' H' σ ρ where
  same := s
  len := r.len
  va := fun i t h => let ⟨v, e, d⟩ := r.va i t h; ⟨v, e, d.mono f.gg⟩
  ow := fun i ts h => by
    obtain ⟨o, us, e, g, hh, d⟩ := r.ow i ts h
    refine ⟨o, us, e, ?_, f.same hh noTb_lst, d.mono f.gg⟩
    cases q : G' o with
    | none => rfl
    | some x =>
      rcases f.new o x q g with z | z
      · exact z.lst hh
      · exact z.elim
  ap := r.ap
end
end Fx
namespace Fx
open PySem PySem.Spec PyProof.Rows L2

inductive Rz (α : Type) where
  | ok (a : α) (ρ : Rho) | rs (c : String) (x : Option Int) | stuck
def Rz.bind {α β : Type} (r : Rz α) (f : α → Rho → Rz β) : Rz β := match r with
  | .ok a ρ => f a ρ
  | .rs c x => .rs c x
  | .stuck => .stuck
@[simp] theorem Rz.bind_ok {α β : Type} {a : α} {ρ : Rho} {f : α → Rho → Rz β} : (Rz.ok a ρ).bind f = f a ρ := byRfl rfl
@[simp] theorem Rz.bind_rs {α β : Type} {c : String} {x : Option Int} {f : α → Rho → Rz β} : (Rz.rs c x : Rz α).bind f = .rs c x := byRfl rfl
@[simp] theorem Rz.bind_stuck {α β : Type} {f : α → Rho → Rz β} : (Rz.stuck : Rz α).bind f = .stuck := byRfl rfl
def Rz.of {α : Type} (o : Option α) (ρ : Rho) : Rz α := match o with
  | some a => .ok a ρ
  | none => .stuck
@[simp] theorem Rz.of_some {α : Type} {a : α} {ρ : Rho} : Rz.of (some a) ρ = .ok a ρ := byRfl rfl
@[simp] theorem Rz.of_none {α : Type} {ρ : Rho} : Rz.of (none : Option α) ρ = .stuck := byRfl rfl

/-- the own dict of an exception: one field, or none -/
def XDf (x : Option Int) (d : Option Addr) (H : Hp) : Prop := match x with
  | none => d = none
  | some n => ∃ dd, d = some dd ∧ H dd = some (.xd [(("limit" : Str), .int n)])
/-- the tables stand -/
def XD (cl : Cl) (x : Option Int) (d : Option Addr) (H : Hp) : Prop := LamX.Tabs cl.tb H ∧ XDf x d H

section
variable (K : PySem.W.Frag) (cl : Cl) (W : WX)
def Lands {α : Type} (σ : L2.St) (ρ : Rho) (G H : Hp) (r : Rz α) (Q : α → Rho → Hp → Hp → Prop) : Prop := match r with
  | .ok a ρ' => ∀ G' H', Rel K cl G' H' σ ρ' → Fr (Own σ ρ) G H G' H' → (∀ o, Own σ ρ' o → Own σ ρ o) → Q a ρ' G' H'
  | .rs c x => ∀ G' H' d, Fr (Own σ ρ) G H G' H' → XD cl x d H' → W (.ref (cl c)) d σ H'
  | .stuck => False
def EvF (te : TE) (φ : Rho → Rz T) : Prop := ∀ σ ρ G H (Q : VK), Rel K cl G H σ ρ → Lands K cl W σ ρ G H (φ ρ) (fun t _ G' H' => ∀ v, Den K cl G' t v → Q v H') → te σ H Q
def EvT (te : TT) (φ : Rho → Rz Bool) : Prop := ∀ σ ρ G H (Q : Bool → Hp → Prop), Rel K cl G H σ ρ → Lands K cl W σ ρ G H (φ ρ) (fun t _ _ H' => Q t H') → te σ H Q
def EvA (te : TA) (φ : Rho → Rz (List T)) : Prop := ∀ σ ρ G H (Q : List V → Hp → Prop), Rel K cl G H σ ρ → Lands K cl W σ ρ G H (φ ρ) (fun ts _ G' H' => ∀ vs, DenL K cl G' ts vs → Q vs H') → te σ H Q
/-- a new list of one's own -/
def EvO (te : TE) (φ : Rho → Rz (List T)) : Prop := ∀ σ ρ G H (Q : VK), Rel K cl G H σ ρ → Lands K cl W σ ρ G H (φ ρ) (fun ts _ G' H' => ∀ p us, Fs H p → G' p = none → H' p = some (.lst us) → DenL K cl G' ts us → Q (.ref p) H') → te σ H Q
end
section
variable {K : PySem.W.Frag} {cl : Cl} {W : WX} {α β : Type} {σ : L2.St} {ρ ρ1 : Rho} {G H G1 H1 : Hp} {r : Rz α} {Q Q' : α → Rho → Hp → Hp → Prop}
theorem Lands.step (h : Lands K cl W σ ρ G H r Q) (f : Fr (Own σ ρ) G H G1 H1) (o : ∀ o, Own σ ρ1 o → Own σ ρ o) : Lands K cl W σ ρ1 G1 H1 r Q := by
  cases r with
  | ok a ρ' => exact fun G' H' re fr ow => h G' H' re (f.trans fr fun p z => .inl (o p z)) fun p z => o p (ow p z)
  | rs c x => exact fun G' H' d fr xd => h G' H' d (f.trans fr fun p z => .inl (o p z)) xd
  | stuck => exact h
theorem Lands.bind {Q : β → Rho → Hp → Hp → Prop} {g : α → Rho → Rz β} (h : Lands K cl W σ ρ G H (r.bind g) Q) : Lands K cl W σ ρ G H r (fun a ρ1 G1 H1 => Lands K cl W σ ρ1 G1 H1 (g a ρ1) Q) := by
  cases r with
  | ok a ρ' => exact fun G' H' re fr ow => Lands.step (show Lands K cl W σ ρ G H (g a ρ') Q from h) fr ow
  | rs c x => exact h
  | stuck => exact h
theorem Lands.imp (h : Lands K cl W σ ρ G H r Q) (i : ∀ a ρ' G' H', Rel K cl G' H' σ ρ' → Fr (Own σ ρ) G H G' H' → (∀ o, Own σ ρ' o → Own σ ρ o) → Q a ρ' G' H' → Q' a ρ' G' H') : Lands K cl W σ ρ G H r Q' := by
  cases r with
  | ok a ρ' => exact fun G' H' re fr ow => i _ _ _ _ re fr ow (h G' H' re fr ow)
  | rs c x => exact h
  | stuck => exact h
/-- at once -/
theorem Lands.here {a : α} (h : Lands K cl W σ ρ G H (.ok a ρ) Q) (re : Rel K cl G H σ ρ) : Q a ρ G H := h G H re Fr.refl fun _ z => z
/-- behind an operation on values that leaves the slots -/
theorem Lands.done {a : α} (h : Lands K cl W σ ρ G H (.ok a ρ) Q) (re : Rel K cl G H σ ρ) (f : Fr NoA G H G1 H1) (s : Sm cl G1 H1) : Q a ρ G1 H1 := h G1 H1 (re.keep f s) f.noa fun _ z => z
end

/-! ### contexts -/
structure GC where
  P : Program
  w : World
  K : PySem.W.Frag
  cl : Cl
  mg : Str → Option Value
  base : Heap
structure SC extends GC where
  N : List Str
  sc : Scope
  cf : Str → Bool
  k : Nat
  W : WX
  pn : Bool
  lm : Option (Addr × Str)
structure SC.Is (S : SC) (X : Cx) : Prop where
  prog : X.prog = S.P
  w : X.w = S.w
  K : X.K = S.K
  mg : X.mg = S.mg
  base : X.base = S.base
  N : X.N = S.N
  sc : X.env.scope = S.sc
  fn : X.fn = S.cf
  calm : X.calm = true
  room : Room S.k X.A
  tk : L2N.Takes X S.W
  po : PassesOwn (model X.prog X.w) X.A X.env X.xe
  code : ∀ c q, S.lm = some (c, q) → X.env.code = .ref c ∧ X.env.qual = q
def PEF (S : SC) (e : Expr) (φ : Rho → Rz T) : Prop := ∃ te, (∀ X, S.Is X → PE X e te) ∧ EvF S.K S.cl S.W te φ
def PTF (S : SC) (e : Expr) (φ : Rho → Rz Bool) : Prop := ∃ te, (∀ X, S.Is X → PT X e te) ∧ EvT S.K S.cl S.W te φ
def PAF (S : SC) (es : List Expr) (φ : Rho → Rz (List T)) : Prop := ∃ te, (∀ X, S.Is X → PA X es te) ∧ EvA S.K S.cl S.W te φ
def POF (S : SC) (e : Expr) (φ : Rho → Rz (List T)) : Prop := ∃ te, (∀ X, S.Is X → PE X e te) ∧ EvO S.K S.cl S.W te φ

section
variable {S : SC}
theorem SC.Is.gl {X : Cx} (h : S.Is X) {x : Str} (g : S.sc.names.lookup x = some .globalImplicit) : Gl X x := by
  show X.env.scope.names.lookup x = _
  rw [h.sc]; exact g
def VisS (sc : Scope) (x : Str) : Bool := match sc.names.lookup x with
  | some .local => true | some .cell => true | some .free => true | _ => false
theorem vis_of {sc : Scope} {x : Str} (h : VisS sc x = true) : Vis sc x := by
  unfold VisS at h
  split at h
  · rename_i e; exact .inl e
  · rename_i e; exact .inr (.inl e)
  · rename_i e; exact .inr (.inr e)
  · cases h

/-! ### names, constants -/
def fVar (i : Nat) : Rho → Rz T := fun ρ => match ρ[i]? with
  | some (.va t) => .ok t ρ
  | _ => .stuck
def fC (t : T) : Rho → Rz T := fun ρ => .ok t ρ
theorem pef_var (i : Nat) {x : Str} {pos : Pos} (hN : S.N[i]? = some x) (hv : VisS S.sc x = true) (hd : (x == ("__debug__" : Str)) = false := by decide) (hcd : (x == ("__classdict__" : Str)) = false := by decide) : PEF S (.Name x pos) (fVar i) := by
  refine ⟨tVar i, fun X hX => pe_var (by rw [hX.N]; exact hN) (by rw [hX.sc]; exact vis_of hv) hd hcd, fun σ ρ G H Q re h => ?_⟩
  unfold fVar at h
  split at h
  · rename_i t e
    obtain ⟨v, e1, d⟩ := re.va i t e
    exact ⟨v, e1, h.here re v d⟩
  · exact h.elim
theorem ev_c {K : PySem.W.Frag} {cl : Cl} {W : WX} {t : T} {v : V} (d : ∀ G, Den K cl G t v) : EvF K cl W (tC v) (fC t) := fun σ ρ G H Q re h => h.here re v (d G)
theorem pef_int {i j pos} : PEF S (.Constant (.int i) j pos) (fC (.int i)) := ⟨_, fun X hX => pe_int, ev_c fun _ => den_int _⟩
theorem pef_bl {i j pos} : PEF S (.Constant (.bool i) j pos) (fC (.bl i)) := ⟨_, fun X hX => pe_bl, ev_c fun _ => den_bl _⟩
theorem pef_non {j pos} : PEF S (.Constant .none j pos) (fC .non) := ⟨_, fun X hX => pe_non, ev_c fun _ => den_non⟩
theorem pef_str {x j pos} : PEF S (.Constant (.str x) j pos) (fC (.str x)) := ⟨_, fun X hX => pe_str, ev_c fun _ => den_str _⟩
/-- a module's int -/
theorem pef_gint {x : Str} {n : Int} {pos : Pos} (hg : S.sc.names.lookup x = some .globalImplicit) (hm : ∃ u, S.mg x = some u ∧ RelV (.int n) u) (hd : (x == ("__debug__" : Str)) = false := by decide) : PEF S (.Name x pos) (fC (.int n)) := by
  obtain ⟨u, hm, r⟩ := hm
  exact ⟨tC (.int n), fun X hX => pe_glob (hX.gl hg) (by rw [hX.mg]; exact hm) r hd, ev_c fun _ => den_int _⟩
/-- a def or class of the top -/
theorem pef_nm {x : Str} {s : String} {pos : Pos} (hg : S.sc.names.lookup x = some .globalImplicit) (hm : S.mg x = some (.ref (S.cl s))) (hd : (x == ("__debug__" : Str)) = false := by decide) : PEF S (.Name x pos) (fC (.nm s)) :=
  ⟨tC (.ref (S.cl s)), fun X hX => pe_glob (hX.gl hg) (by rw [hX.mg]; exact hm) rfl hd, ev_c fun _ => den_nm _⟩

/-! ### operators -/
def fBin (g : T → T → Option T) (a b : Rho → Rz T) : Rho → Rz T := fun ρ => (a ρ).bind fun x ρ1 => (b ρ1).bind fun y ρ2 => Rz.of (g x y) ρ2
def RvF (K : PySem.W.Frag) (cl : Cl) (r : R2) (g : T → T → Option T) : Prop := ∀ (G H : Hp) (x y : V) (t u z : T) (Q : VK), Sm cl G H → Den K cl G t x → Den K cl G u y → g t u = some z →
  (∀ G' H' v, Sm cl G' H' → Fr NoA G H G' H' → Den K cl G' z v → Q v H') → r x y H Q
theorem ev_op {K : PySem.W.Frag} {cl : Cl} {W : WX} {r : R2} {g : T → T → Option T} {ta tb : TE} {a b : Rho → Rz T} (hr : RvF K cl r g) (ha : EvF K cl W ta a) (hb : EvF K cl W tb b) : EvF K cl W (tOp r ta tb) (fBin g a b) := by
  intro σ ρ G H Q re h
  refine ha σ ρ G H _ re ((Lands.bind h).imp fun x ρ1 G1 H1 re1 fr1 ow1 h1 v dv => ?_)
  refine hb σ ρ1 G1 H1 _ re1 ((Lands.bind h1).imp fun y ρ2 G2 H2 re2 fr2 ow2 h2 u du => ?_)
  cases e : g x y with
  | none => rw [e] at h2; exact h2.elim
  | some z =>
    rw [e] at h2
    exact hr G2 H2 v u x y z Q re2.same (dv.mono fr2.gg) du e fun G' H' w s f d => h2.done re2 f s w d
theorem pef_op {op : Operator} {r : R2} {g : T → T → Option T} {a b : Expr} {pos : Pos} {φa φb : Rho → Rz T} (ho : ∀ X, S.Is X → OpR X (binaryOp op) r) (hr : RvF S.K S.cl r g) (ha : PEF S a φa) (hb : PEF S b φb) :
    PEF S (.BinOp a op b pos) (fBin g φa φb) := by
  obtain ⟨ta, ha, ea⟩ := ha
  obtain ⟨tb, hb, eb⟩ := hb
  exact ⟨tOp r ta tb, fun X hX => pe_op (ho X hX) (ha X hX) (hb X hX), ev_op hr ea eb⟩
def orR (r r' : R2) : R2 := fun x y H Q => r x y H Q ∨ r' x y H Q
theorem op_or2 {X : Cx} {f : Value → Value → Sem Value} {r r' : R2} (h : OpR X f r) (h' : OpR X f r') : OpR X f (orR r r') := fun pins s σ H x y v u Q I rx ry q => q.elim (h pins s σ H x y v u Q I rx ry) (h' pins s σ H x y v u Q I rx ry)
theorem pef_cmp {op : CmpOp} {r : R2} {g : T → T → Option T} {a b : Expr} {pos : Pos} {φa φb : Rho → Rz T} (ho : ∀ X, S.Is X → OpR X (compareOp op) r) (hr : RvF S.K S.cl r g) (ha : PEF S a φa) (hb : PEF S b φb) (hm : behindInMarks op b = false) :
    PEF S (.Compare a [op] [b] pos) (fBin g φa φb) := by
  obtain ⟨ta, ha, ea⟩ := ha
  obtain ⟨tb, hb, eb⟩ := hb
  exact ⟨tOp r ta tb, fun X hX => pe_cmpR (ho X hX) (ha X hX) (hb X hX) hm, ev_op hr ea eb⟩
/-- a value that is True or False, as a test -/
def fTest (a : Rho → Rz T) : Rho → Rz Bool := fun ρ => (a ρ).bind fun x ρ1 => match x with
  | .bl b => .ok b ρ1
  | _ => .stuck
theorem ev_test {K : PySem.W.Frag} {cl : Cl} {W : WX} {te : TE} {φ : Rho → Rz T} (h : EvF K cl W te φ) : EvT K cl W (tTest te) (fTest φ) := by
  intro σ ρ G H Q re hq
  refine h σ ρ G H _ re ((Lands.bind hq).imp fun x ρ1 G1 H1 re1 fr1 ow1 h1 v dv => ?_)
  cases x with
  | bl b => exact ⟨b, dv.bl_of, h1.here re1⟩
  | _ => exact h1.elim
theorem ptf_cmp {op : CmpOp} {r : R2} {g : T → T → Option T} {a b : Expr} {pos : Pos} {φa φb : Rho → Rz T} (ho : ∀ X, S.Is X → OpR X (compareOp op) r) (hr : RvF S.K S.cl r g) (ha : PEF S a φa) (hb : PEF S b φb) (hm : behindInMarks op b = false) :
    PTF S (.Compare a [op] [b] pos) (fTest (fBin g φa φb)) := by
  obtain ⟨ta, ha, ea⟩ := ha
  obtain ⟨tb, hb, eb⟩ := hb
  exact ⟨_, fun X hX => pt_cmpR (ho X hX) (ha X hX) (hb X hX) hm, ev_test (ev_op hr ea eb)⟩
theorem ptf_val {e : Expr} {φ : Rho → Rz T} (h : PEF S e φ) (he : ∀ (X : Cx) whole, isTrue e X.env whole = (do let v ← whole; standAt e.pos; holding [v] (truthy v)) := by intro _ _; rfl) : PTF S e (fTest φ) := by
  obtain ⟨te, h, ev⟩ := h
  exact ⟨_, fun X hX => pt_val (h X hX) (he X), ev_test ev⟩
/-- a < b < c -/
def fChain (g g' : T → T → Option T) (a b c : Rho → Rz T) : Rho → Rz T := fun ρ => (a ρ).bind fun x ρ1 => (b ρ1).bind fun y ρ2 => match g x y with
  | some (.bl true) => (c ρ2).bind fun z ρ3 => Rz.of (g' y z) ρ3
  | some (.bl false) => .ok (.bl false) ρ2
  | _ => .stuck
theorem ev_chain {K : PySem.W.Frag} {cl : Cl} {W : WX} {r r' : R2} {g g' : T → T → Option T} {ta tb tc : TE} {a b c : Rho → Rz T} (hr : RvF K cl r g) (hr' : RvF K cl r' g') (ha : EvF K cl W ta a) (hb : EvF K cl W tb b) (hc : EvF K cl W tc c) :
    EvF K cl W (tChain r r' ta tb tc) (fChain g g' a b c) := by
  intro σ ρ G H Q re h
  refine ha σ ρ G H _ re ((Lands.bind h).imp fun x ρ1 G1 H1 re1 fr1 ow1 h1 v dv => ?_)
  refine hb σ ρ1 G1 H1 _ re1 ((Lands.bind h1).imp fun y ρ2 G2 H2 re2 fr2 ow2 h2 u du => ?_)
  have key : ∀ k : Bool, g x y = some (.bl k) → r v u H2 fun z H3 => ∃ k, z = .bl k ∧ (if k = true then tc σ H3 fun w' H4 => r' u w' H4 Q else Q (.bl false) H3) := fun k e => by
    rw [e] at h2
    refine hr G2 H2 v u x y _ _ re2.same (dv.mono fr2.gg) du e fun G' H' w s f d => ⟨k, d.bl_of, ?_⟩
    cases k with
    | false =>
      rw [if_neg Bool.false_ne_true]
      exact Lands.done (a := T.bl false) h2 re2 f s _ (den_bl _)
    | true =>
      rw [if_pos rfl]
      have re3 := re2.keep f s
      have h3 : Lands K cl W σ ρ2 G' H' ((c ρ2).bind fun z ρ3 => Rz.of (g' y z) ρ3) (fun t _ G' H' => ∀ v, Den K cl G' t v → Q v H') := Lands.step h2 f.noa fun _ z => z
      refine hc σ ρ2 G' H' _ re3 ((Lands.bind h3).imp fun z ρ3 G4 H4 re4 fr4 ow4 h4 w' dw => ?_)
      cases e2 : g' y z with
      | none => rw [e2] at h4; exact h4.elim
      | some q =>
        rw [e2] at h4
        exact hr' G4 H4 u w' y z q Q re4.same ((du.mono f.gg).mono fr4.gg) dw e2 fun G5 H5 w5 s5 f5 d5 => h4.done re4 f5 s5 w5 d5
  split at h2
  · rename_i e; exact key true e
  · rename_i e; exact key false e
  · exact h2.elim
theorem pef_chain {op op' : CmpOp} {r r' : R2} {g g' : T → T → Option T} {a b c : Expr} {pos : Pos} {φa φb φc : Rho → Rz T} (ho : ∀ X, S.Is X → OpR X (compareOp op) r) (hr : RvF S.K S.cl r g) (ho' : ∀ X, S.Is X → OpR X (compareOp op') r') (hr' : RvF S.K S.cl r' g')
    (ha : PEF S a φa) (hb : PEF S b φb) (hc : PEF S c φc) (h1 : lastMarks [op, op'] [b, c] = false := by rfl) : PEF S (.Compare a [op, op'] [b, c] pos) (fChain g g' φa φb φc) := by
  obtain ⟨ta, ha, ea⟩ := ha
  obtain ⟨tb, hb, eb⟩ := hb
  obtain ⟨tc, hc, ec⟩ := hc
  exact ⟨tChain r r' ta tb tc, fun X hX => pe_chain (ho X hX) (ho' X hX) (ha X hX) (hb X hX) (hc X hX) h1, ev_chain hr hr' ea eb ec⟩
/-! ### unary, and, or, not, if .. else -/
def fNeg (a : Rho → Rz T) : Rho → Rz T := fun ρ => (a ρ).bind fun x ρ1 => match x with
  | .int i => .ok (.int (-i)) ρ1
  | _ => .stuck
theorem pef_neg {a : Expr} {pos : Pos} {φ : Rho → Rz T} (ha : PEF S a φ) : PEF S (.UnaryOp .USub a pos) (fNeg φ) := by
  obtain ⟨ta, ha, ea⟩ := ha
  refine ⟨_, fun X hX => pe_un un_neg (ha X hX), fun σ ρ G H Q re h => ?_⟩
  refine ea σ ρ G H _ re ((Lands.bind h).imp fun x ρ1 G1 H1 re1 fr1 ow1 h1 v dv => ?_)
  cases x with
  | int i => exact ⟨i, dv.int_of, h1.here re1 _ (den_int _)⟩
  | _ => exact h1.elim
def fAndV (a b : Rho → Rz T) : Rho → Rz T := fun ρ => (a ρ).bind fun x ρ1 => match x with
  | .bl true => b ρ1
  | .bl false => .ok (.bl false) ρ1
  | _ => .stuck
def fOrV (a b : Rho → Rz T) : Rho → Rz T := fun ρ => (a ρ).bind fun x ρ1 => match x with
  | .bl true => .ok (.bl true) ρ1
  | .bl false => b ρ1
  | _ => .stuck
def fNotV (a : Rho → Rz T) : Rho → Rz T := fun ρ => (a ρ).bind fun x ρ1 => match x with
  | .bl b => .ok (.bl (!b)) ρ1
  | _ => .stuck
theorem pef_one {op} {a : Expr} {pos : Pos} {φ : Rho → Rz T} (ha : PEF S a φ) : PEF S (.BoolOp op [a] pos) φ := by
  obtain ⟨ta, ha, ea⟩ := ha
  exact ⟨ta, fun X hX => pe_one (ha X hX), ea⟩
theorem pef_and {a b : Expr} {rest : List Expr} {pos : Pos} {φa φb : Rho → Rz T} (ha : PEF S a φa) (hb : PEF S (.BoolOp .And (b :: rest) pos) φb) : PEF S (.BoolOp .And (a :: b :: rest) pos) (fAndV φa φb) := by
  obtain ⟨ta, ha, ea⟩ := ha
  obtain ⟨tb, hb, eb⟩ := hb
  refine ⟨_, fun X hX => pe_and (ha X hX) (hb X hX), fun σ ρ G H Q re h => ?_⟩
  refine ea σ ρ G H _ re ((Lands.bind h).imp fun x ρ1 G1 H1 re1 fr1 ow1 h1 v dv => ?_)
  cases x with
  | bl b =>
    refine ⟨b, dv.bl_of, ?_⟩
    cases b with
    | true => rw [if_pos rfl]; exact eb σ ρ1 G1 H1 Q re1 h1
    | false => rw [if_neg Bool.false_ne_true]; exact Lands.here (a := T.bl false) h1 re1 _ (den_bl _)
  | _ => exact h1.elim
theorem pef_or {a b : Expr} {rest : List Expr} {pos : Pos} {φa φb : Rho → Rz T} (ha : PEF S a φa) (hb : PEF S (.BoolOp .Or (b :: rest) pos) φb) : PEF S (.BoolOp .Or (a :: b :: rest) pos) (fOrV φa φb) := by
  obtain ⟨ta, ha, ea⟩ := ha
  obtain ⟨tb, hb, eb⟩ := hb
  refine ⟨_, fun X hX => pe_or (ha X hX) (hb X hX), fun σ ρ G H Q re h => ?_⟩
  refine ea σ ρ G H _ re ((Lands.bind h).imp fun x ρ1 G1 H1 re1 fr1 ow1 h1 v dv => ?_)
  cases x with
  | bl b =>
    refine ⟨b, dv.bl_of, ?_⟩
    cases b with
    | true => rw [if_pos rfl]; exact Lands.here (a := T.bl true) h1 re1 _ (den_bl _)
    | false => rw [if_neg Bool.false_ne_true]; exact eb σ ρ1 G1 H1 Q re1 h1
  | _ => exact h1.elim
theorem pef_not {a : Expr} {pos : Pos} {φ : Rho → Rz T} (ha : PEF S a φ) : PEF S (.UnaryOp .Not a pos) (fNotV φ) := by
  obtain ⟨ta, ha, ea⟩ := ha
  refine ⟨_, fun X hX => pe_not (ha X hX), fun σ ρ G H Q re h => ?_⟩
  refine ea σ ρ G H _ re ((Lands.bind h).imp fun x ρ1 G1 H1 re1 fr1 ow1 h1 v dv => ?_)
  cases x with
  | bl b => exact ⟨b, dv.bl_of, h1.here re1 _ (den_bl _)⟩
  | _ => exact h1.elim
/-- tests -/
def fAnd (a b : Rho → Rz Bool) : Rho → Rz Bool := fun ρ => (a ρ).bind fun x ρ1 => if x then b ρ1 else .ok false ρ1
def fOr (a b : Rho → Rz Bool) : Rho → Rz Bool := fun ρ => (a ρ).bind fun x ρ1 => if x then .ok true ρ1 else b ρ1
def fNot (a : Rho → Rz Bool) : Rho → Rz Bool := fun ρ => (a ρ).bind fun x ρ1 => .ok (!x) ρ1
def PWF (S : SC) (e : Expr) (φ : Rho → Rz Bool) : Prop := ∃ te, (∀ X, S.Is X → PW X e te) ∧ EvT S.K S.cl S.W te φ
theorem pwf_and1 {a : Expr} {pos : Pos} {φ : Rho → Rz Bool} (ha : PTF S a φ) : PWF S (.BoolOp .And [a] pos) φ := let ⟨te, h, e⟩ := ha; ⟨te, fun X hX => pw_and1 (h X hX), e⟩
theorem pwf_or1 {a : Expr} {pos : Pos} {φ : Rho → Rz Bool} (ha : PTF S a φ) : PWF S (.BoolOp .Or [a] pos) φ := let ⟨te, h, e⟩ := ha; ⟨te, fun X hX => pw_or1 (h X hX), e⟩
theorem pwf_and {a b : Expr} {rest : List Expr} {pos : Pos} {φa φb : Rho → Rz Bool} (ha : PTF S a φa) (hb : PWF S (.BoolOp .And (b :: rest) pos) φb) : PWF S (.BoolOp .And (a :: b :: rest) pos) (fAnd φa φb) := by
  obtain ⟨ta, ha, ea⟩ := ha
  obtain ⟨tb, hb, eb⟩ := hb
  refine ⟨_, fun X hX => pw_and (ha X hX) (hb X hX), fun σ ρ G H Q re h => ?_⟩
  refine ea σ ρ G H _ re ((Lands.bind h).imp fun x ρ1 G1 H1 re1 fr1 ow1 h1 => ?_)
  cases x with
  | true => rw [if_pos rfl] at h1 ⊢; exact eb σ ρ1 G1 H1 Q re1 h1
  | false => rw [if_neg Bool.false_ne_true] at h1 ⊢; exact h1.here re1
theorem pwf_or {a b : Expr} {rest : List Expr} {pos : Pos} {φa φb : Rho → Rz Bool} (ha : PTF S a φa) (hb : PWF S (.BoolOp .Or (b :: rest) pos) φb) : PWF S (.BoolOp .Or (a :: b :: rest) pos) (fOr φa φb) := by
  obtain ⟨ta, ha, ea⟩ := ha
  obtain ⟨tb, hb, eb⟩ := hb
  refine ⟨_, fun X hX => pw_or (ha X hX) (hb X hX), fun σ ρ G H Q re h => ?_⟩
  refine ea σ ρ G H _ re ((Lands.bind h).imp fun x ρ1 G1 H1 re1 fr1 ow1 h1 => ?_)
  cases x with
  | true => rw [if_pos rfl] at h1 ⊢; exact h1.here re1
  | false => rw [if_neg Bool.false_ne_true] at h1 ⊢; exact eb σ ρ1 G1 H1 Q re1 h1
theorem ptf_w {e : Expr} {φ : Rho → Rz Bool} (h : PWF S e φ) : PTF S e φ := let ⟨te, h, ev⟩ := h; ⟨te, fun X hX => (h X hX).pt, ev⟩
theorem ptf_not {a : Expr} {pos : Pos} {φ : Rho → Rz Bool} (ha : PTF S a φ) : PTF S (.UnaryOp .Not a pos) (fNot φ) := by
  obtain ⟨ta, ha, ea⟩ := ha
  refine ⟨_, fun X hX => pt_not (ha X hX), fun σ ρ G H Q re h => ?_⟩
  exact ea σ ρ G H _ re ((Lands.bind h).imp fun x ρ1 G1 H1 re1 fr1 ow1 h1 => h1.here re1)
def fIf {α : Type} (t : Rho → Rz Bool) (a b : Rho → Rz α) : Rho → Rz α := fun ρ => (t ρ).bind fun x ρ1 => if x then a ρ1 else b ρ1
theorem pef_if {c a b : Expr} {pos : Pos} {φt : Rho → Rz Bool} {φa φb : Rho → Rz T} (hc : PTF S c φt) (ha : PEF S a φa) (hb : PEF S b φb) : PEF S (.IfExp c a b pos) (fIf φt φa φb) := by
  obtain ⟨tc, hc, ec⟩ := hc
  obtain ⟨ta, ha, ea⟩ := ha
  obtain ⟨tb, hb, eb⟩ := hb
  refine ⟨_, fun X hX => pe_ifExp (hc X hX) (ha X hX) (hb X hX), fun σ ρ G H Q re h => ?_⟩
  refine ec σ ρ G H _ re ((Lands.bind h).imp fun x ρ1 G1 H1 re1 fr1 ow1 h1 => ?_)
  cases x with
  | true => rw [if_pos rfl] at h1 ⊢; exact ea σ ρ1 G1 H1 Q re1 h1
  | false => rw [if_neg Bool.false_ne_true] at h1 ⊢; exact eb σ ρ1 G1 H1 Q re1 h1

/-! ### argument lists, displays -/
def fNil : Rho → Rz (List T) := fun ρ => .ok [] ρ
def fCons (a : Rho → Rz T) (b : Rho → Rz (List T)) : Rho → Rz (List T) := fun ρ => (a ρ).bind fun x ρ1 => (b ρ1).bind fun xs ρ2 => .ok (x :: xs) ρ2
theorem paf_nil : PAF S [] fNil := ⟨tNil, fun X hX => pa_nil, fun σ ρ G H Q re h => h.here re [] DenL.nil⟩
theorem paf_cons {a : Expr} {es : List Expr} {φ : Rho → Rz T} {φs : Rho → Rz (List T)} (ha : PEF S a φ) (hs : PAF S es φs)
    (he : ∀ X : Cx, starEach (a :: es) X.env = (false, eval a X.env) :: starEach es X.env := by intro _; rfl) : PAF S (a :: es) (fCons φ φs) := by
  obtain ⟨ta, ha, ea⟩ := ha
  obtain ⟨tb, hb, eb⟩ := hs
  refine ⟨tCons ta tb, fun X hX => pa_cons (ha X hX) (hb X hX) (he X), fun σ ρ G H Q re h => ?_⟩
  refine ea σ ρ G H _ re ((Lands.bind h).imp fun x ρ1 G1 H1 re1 fr1 ow1 h1 v dv => ?_)
  exact eb σ ρ1 G1 H1 _ re1 ((Lands.bind h1).imp fun xs ρ2 G2 H2 re2 fr2 ow2 h2 vs dvs => h2.here re2 _ (DenL.cons (dv.mono fr2.gg) dvs))
def fTup (a : Rho → Rz (List T)) : Rho → Rz T := fun ρ => (a ρ).bind fun xs ρ1 => if xs.length ≤ sizeLine then .ok (.tup xs) ρ1 else .stuck
def fLst (a : Rho → Rz (List T)) : Rho → Rz (List T) := fun ρ => (a ρ).bind fun xs ρ1 => if xs.length ≤ sizeLine then .ok xs ρ1 else .stuck
theorem pef_tup {es : List Expr} {j : Nat} {pos : Pos} {φ : Rho → Rz (List T)} (h : PAF S es φ) : PEF S (.Tuple es j pos) (fTup φ) := by
  obtain ⟨ta, ha, ea⟩ := h
  refine ⟨_, fun X hX => pe_tup (ha X hX), fun σ ρ G H Q re h => ?_⟩
  refine ea σ ρ G H _ re ((Lands.bind h).imp fun xs ρ1 G1 H1 re1 fr1 ow1 h1 vs dvs => ?_)
  split at h1
  · rename_i hl
    refine ⟨by rw [← dvs.len]; exact hl, fun p hp => ?_⟩
    exact h1.done re1 (Fr.frz hp re1.same) (sm_upd2 re1.same hp) _ (den_tup (.inl (.inl upd_same)) (dvs.mono (Fr.frz (A := NoA) hp re1.same).gg))
  · exact h1.elim
theorem pof_lst {es : List Expr} {pos : Pos} {φ : Rho → Rz (List T)} (h : PAF S es φ) : POF S (.List es pos) (fLst φ) := by
  obtain ⟨ta, ha, ea⟩ := h
  refine ⟨_, fun X hX => pe_lst (ha X hX), fun σ ρ G H Q re h => ?_⟩
  refine ea σ ρ G H _ re ((Lands.bind h).imp fun xs ρ1 G1 H1 re1 fr1 ow1 h1 vs dvs => ?_)
  split at h1
  · rename_i hl
    refine ⟨by rw [← dvs.len]; exact hl, fun p hp => ?_⟩
    have gp : G1 p = none := re1.same.free hp
    exact h1.done re1 (Fr.made hp) (sm_new re1.same hp) p vs (fr1.there p (.of hp)) gp upd_same dvs
  · exact h1.elim
/-- a list of one's own, given up -/
def fFz (a : Rho → Rz (List T)) : Rho → Rz T := fun ρ => (a ρ).bind fun xs ρ1 => .ok (.lst xs) ρ1
theorem ev_fz {K : PySem.W.Frag} {cl : Cl} {W : WX} {te : TE} {φ : Rho → Rz (List T)} (ev : EvO K cl W te φ) : EvF K cl W te (fFz φ) := by
  intro σ ρ G H Q re h
  unfold fFz at h
  cases e : φ ρ with
  | stuck => rw [e] at h; exact h.elim
  | rs c x => rw [e] at h; exact ev σ ρ G H _ re (by rw [e]; exact h)
  | ok xs ρ1 =>
  rw [e] at h
  refine ev σ ρ G H _ re ?_
  rw [e]
  intro G1 H1 re1 fr1 ow1 p us hp gp hh d
  have sg : Same G1 (upd G1 p (.lst us)) := same_upd gp
  have f : Fr (Own σ ρ) G H (upd G1 p (.lst us)) H1 := by
    refine ⟨fr1.gg.trans sg, fr1.keep, fun q x e n => ?_, fr1.there⟩
    by_cases hq : q = p
    · subst hq; exact .inl hp
    · rw [upd_ne hq] at e; exact fr1.new q x e n
  have re2 : Rel K cl (upd G1 p (.lst us)) H1 σ ρ1 := by
    refine ⟨sm_frz re1.same hh noTb_lst, re1.len, fun i t e => let ⟨v, a, b⟩ := re1.va i t e; ⟨v, a, b.mono sg⟩, fun i ts e => ?_, re1.ap⟩
    · obtain ⟨o, vs, e1, e2, e3, e4⟩ := re1.ow i ts e
      refine ⟨o, vs, e1, ?_, e3, e4.mono sg⟩
      have hne : o ≠ p := fun z => by
        obtain ⟨us', z1, _⟩ := re.own_some (ow1 o ⟨i, ts, e, e1⟩)
        rw [z] at z1; exact hp.lst z1
      rw [upd_ne hne]; exact e2
  exact h _ H1 re2 f ow1 _ (den_lst (.inl (.inl upd_same)) (d.mono sg))
theorem pef_fz {e : Expr} {φ : Rho → Rz (List T)} (h : POF S e φ) : PEF S e (fFz φ) := let ⟨te, h, ev⟩ := h; ⟨te, h, ev_fz ev⟩
end
end Fx
namespace Fx
open PySem PySem.Spec PyProof.Rows L2

/-! ### the operators on trees -/
def gAdd : T → T → Option T
  | .int i, .int j => some (.int (i + j))
  | .tup xs, .tup ys => if xs.length + ys.length ≤ sizeLine then some (.tup (xs ++ ys)) else none
  | .lst xs, .lst ys => if xs.length + ys.length ≤ sizeLine then some (.lst (xs ++ ys)) else none
  | .str x, .str y => if x.length + y.length ≤ sizeLine then some (.str (x ++ y)) else none
  | _, _ => none
def gInt (f : Int → Int → Option T) : T → T → Option T
  | .int i, .int j => f i j
  | _, _ => none
def gSub : T → T → Option T := gInt fun i j => some (.int (i - j))
def gMul : T → T → Option T := gInt fun i j => if i.natAbs.log2 + j.natAbs.log2 < 1000000 then some (.int (i * j)) else none
def gDiv : T → T → Option T := gInt fun i j => if 0 < j ∧ j.natAbs.log2 < 9000 then some (.int (i / j)) else none
def gMod : T → T → Option T := gInt fun i j => if 0 < j then some (.int (i % j)) else none
def gPow : T → T → Option T := gInt fun i j => if 0 ≤ j ∧ j ≤ 1000000 ∧ i.natAbs < 2 ^ 64 then some (.int (i ^ j.toNat)) else none
def gLt : T → T → Option T := gInt fun i j => some (.bl (decide (i < j)))
def gLe : T → T → Option T := gInt fun i j => some (.bl (decide (i ≤ j)))
def gGt : T → T → Option T := gInt fun i j => some (.bl (decide (j < i)))
def gGe : T → T → Option T := gInt fun i j => some (.bl (decide (j ≤ i)))
mutual
def toD : T → PyData
  | .non => .none
  | .bl b => .bool b
  | .int i => .int i
  | .str x => .str x
  | .lst xs => .list (toDL xs)
  | .tup xs => .tuple (toDL xs)
  | .nm _ => .none
def toDL : List T → List PyData
  | [] => []
  | t :: ts => toD t :: toDL ts
end
mutual
def isD : T → Bool
  | .nm _ => false
  | .lst xs => isDL xs
  | .tup xs => isDL xs
  | .non => true
  | .bl _ => true
  | .int _ => true
  | .str _ => true
def isDL : List T → Bool
  | [] => true
  | t :: ts => isD t && isDL ts
end
def gEqB (t u : T) : Option Bool := if isD t = true ∧ isD u = true ∧ SeqAt.shaped (toD t) = true ∧ SeqAt.shaped (toD u) = true then some (PyData.eqv (toD t) (toD u)) else none
def gEq (t u : T) : Option T := (gEqB t u).map .bl
def gNe (t u : T) : Option T := (gEqB t u).map fun b => .bl (!b)
def isNon : T → Bool
  | .non => true
  | _ => false
def gIs (t u : T) : Option T := if isNon u then some (.bl (isNon t)) else none
def gIsNot (t u : T) : Option T := if isNon u then some (.bl (!isNon t)) else none
def gIsB (t u : T) : Option T := match t, u with
  | .bl a, .bl b => some (.bl (decide (a = b)))
  | _, _ => none
def gIsNotB (t u : T) : Option T := match t, u with
  | .bl a, .bl b => some (.bl (!decide (a = b)))
  | _, _ => none
def flatT : T → Bool
  | .non => true
  | .bl _ => true
  | .int _ => true
  | .str _ => true
  | _ => false
/-- == of flat trees -/
def eqT : T → T → Bool
  | .non, .non => true
  | .bl a, .bl b => a == b
  | .bl a, .int b => (if a then 1 else 0) == b
  | .int a, .bl b => a == (if b then 1 else 0)
  | .int a, .int b => a == b
  | .str a, .str b => a == b
  | _, _ => false
def itemsT : T → Option (List T)
  | .lst xs => some xs
  | .tup xs => some xs
  | _ => none
def gIn (neg : Bool) (t u : T) : Option T := match itemsT u with
  | some xs => if flatT t = true ∧ xs.all flatT = true then some (.bl (if neg then !(xs.any fun y => eqT y t) else xs.any fun y => eqT y t)) else none
  | none => none

section
variable {K : PySem.W.Frag} {cl : Cl} {G H : Hp}
theorem Fr.id : Fr NoA G H G H := Fr.refl
theorem rvf_int {g : Int → Int → Option T} {r : R2} (h : ∀ i j z (H : Hp) (Q : VK), g i j = some z → (∀ v, (∀ G, Den K cl G z v) → Q v H) → r (.int i) (.int j) H Q) : RvF K cl r (gInt g) := by
  intro G H x y t u z Q sm dt du e k
  unfold gInt at e
  split at e
  · rw [dt.int_of, du.int_of]
    exact h _ _ z H Q e fun v d => k G H v sm Fr.refl (d G)
  · cases e
theorem rv_sub : RvF K cl (rI0 fun i j => .int (i - j)) gSub := rvf_int fun i j z H Q e k => ⟨i, j, rfl, rfl, k _ fun G => by cases e; exact den_int _⟩
theorem rv_mul : RvF K cl (rI CMulW fun i j => .int (i * j)) gMul := rvf_int fun i j z H Q e k => by
  split at e
  · rename_i h; exact ⟨i, j, rfl, rfl, h, k _ fun G => by cases e; exact den_int _⟩
  · cases e
theorem rv_div : RvF K cl (rI CDivW fun i j => .int (i / j)) gDiv := rvf_int fun i j z H Q e k => by
  split at e
  · rename_i h; exact ⟨i, j, rfl, rfl, h, k _ fun G => by cases e; exact den_int _⟩
  · cases e
theorem rv_mod : RvF K cl (rI (fun _ j => 0 < j) fun i j => .int (i % j)) gMod := rvf_int fun i j z H Q e k => by
  split at e
  · rename_i h; exact ⟨i, j, rfl, rfl, h, k _ fun G => by cases e; exact den_int _⟩
  · cases e
theorem rv_pow : RvF K cl (rI CPow fun i j => .int (i ^ j.toNat)) gPow := rvf_int fun i j z H Q e k => by
  split at e
  · rename_i h; exact ⟨i, j, rfl, rfl, h, k _ fun G => by cases e; exact den_int _⟩
  · cases e
theorem rv_lt : RvF K cl (rI0 fun i j => .bl (decide (i < j))) gLt := rvf_int fun i j z H Q e k => ⟨i, j, rfl, rfl, k _ fun G => by cases e; exact den_bl _⟩
theorem rv_le : RvF K cl (rI0 fun i j => .bl (decide (i ≤ j))) gLe := rvf_int fun i j z H Q e k => ⟨i, j, rfl, rfl, k _ fun G => by cases e; exact den_bl _⟩
theorem rv_gt : RvF K cl (rI0 fun i j => .bl (decide (j < i))) gGt := rvf_int fun i j z H Q e k => ⟨i, j, rfl, rfl, k _ fun G => by cases e; exact den_bl _⟩
theorem rv_ge : RvF K cl (rI0 fun i j => .bl (decide (j ≤ i))) gGe := rvf_int fun i j z H Q e k => ⟨i, j, rfl, rfl, k _ fun G => by cases e; exact den_bl _⟩
/-- xs + ys of two lists that are read -/
def rCatL (K : PySem.W.Frag) : R2 := fun x y H Q => ∃ l b xs zs, x = .ref l ∧ y = .ref b ∧ SqL K H l xs ∧ SqL K H b zs ∧ xs.length + zs.length ≤ sizeLine ∧ ∀ p, H p = none → Q (.ref p) (upd H p (.lst (xs ++ zs)))
theorem op_catL {X : Cx} : OpR X (binaryOp .Add) (rCatL X.K) := by
  intro pins s σ H x y v u Q I rx ry h
  obtain ⟨l, b, xs, zs, rfl, rfl, hx, hz, hs, q⟩ := h
  cases rx
  cases ry
  obtain ⟨its, r, p1, _⟩ := I.list hx
  obtain ⟨its2, r2, p2, _⟩ := I.list hz
  have l1 := r.length
  have l2 := r2.length
  obtain ⟨⟨c1, d1, a1, sl1⟩, n1, g1, k1, e1, f1⟩ := p1
  obtain ⟨⟨c2, d2, a2, sl2⟩, n2, g2, k2, e2, f2⟩ := p2
  simp only at k1 f1 k2 f2
  subst k1 f1 k2 f2
  refine concat_meets ⟨_, g1, rfl⟩ ⟨_, g2, rfl⟩ noFill_list_add seq_list_add PySem.F.slot_list_add PySem.F.entry_list_add (PySem.F.args_list_add_2 _ _) (list_addW l b its.toArray its2.toArray n1 n2 d1 d2 sl1 sl2 (by simp; omega)) ⟨g1, g2, ?_⟩
  have ea : its.toArray ++ its2.toArray = (its ++ its2).toArray := by simp
  rw [ea]
  exact ⟨.ref _, _, I.lnew (t' := s.toks) (r.append r2) (by rw [List.length_append]; omega), rfl, q _ I.fresh⟩
def rAddAll (K : PySem.W.Frag) : R2 := orR (rI0 fun i j => .int (i + j)) (orR (rCatA K) (orR (rCatL K) (fun x y H Q => ∃ i j, x = .str i ∧ y = .str j ∧ i.length + j.length ≤ sizeLine ∧ Q (.str (i ++ j)) H)))
theorem op_addAll {X : Cx} : OpR X (binaryOp .Add) (rAddAll X.K) := op_or2 op_add (op_or2 op_catA (op_or2 op_catL op_add_str))
theorem rv_add : RvF K cl (rAddAll K) gAdd := by
  intro G H x y t u z Q sm dt du e k
  unfold gAdd at e
  split at e
  · cases e
    rw [dt.int_of, du.int_of]
    exact .inl ⟨_, _, rfl, rfl, k G H _ sm Fr.refl (den_int _)⟩
  · rename_i xs ys
    split at e
    · rename_i hl
      cases e
      obtain ⟨a, vs, e1, s1, d1⟩ := dt.tup_of
      obtain ⟨b, us, e2, s2, d2⟩ := du.tup_of
      refine .inr (.inl ⟨a, b, vs, us, e1, e2, same_seqT sm.same s1, same_seqT sm.same s2, by rw [← d1.len, ← d2.len]; exact hl, fun z => ?_, fun _ z => ?_, fun z1 z2 p hp => ?_⟩)
      · subst z
        have : xs = [] := List.eq_nil_of_length_eq_zero (by rw [d1.len]; rfl)
        subst this
        exact k G H _ sm Fr.refl (den_tup s2 d2)
      · subst z
        have : ys = [] := List.eq_nil_of_length_eq_zero (by rw [d2.len]; rfl)
        subst this
        exact k G H _ sm Fr.refl (by rw [List.append_nil]; exact den_tup s1 d1)
      · have f := Fr.frz (A := NoA) (o := .tup (vs ++ us)) hp sm
        exact k _ _ _ (sm_upd2 sm hp) f (den_tup (.inl (.inl upd_same)) ((d1.append d2).mono f.gg))
    · cases e
  · rename_i xs ys
    split at e
    · rename_i hl
      cases e
      obtain ⟨a, vs, e1, s1, d1⟩ := dt.lst_of
      obtain ⟨b, us, e2, s2, d2⟩ := du.lst_of
      refine .inr (.inr (.inl ⟨a, b, vs, us, e1, e2, sm.seq s1, sm.seq s2, by rw [← d1.len, ← d2.len]; exact hl, fun p hp => ?_⟩))
      have f := Fr.frz (A := NoA) (o := .lst (vs ++ us)) hp sm
      exact k _ _ _ (sm_upd2 sm hp) f (den_lst (.inl (.inl upd_same)) ((d1.append d2).mono f.gg))
    · cases e
  · split at e
    · rename_i hl
      cases e
      rw [dt.str_of, du.str_of]
      exact .inr (.inr (.inr ⟨_, _, rfl, rfl, hl, k G H _ sm Fr.refl (den_str _)⟩))
    · cases e
  · cases e
mutual
theorem den_dp : ∀ {t : T} {v : V}, isD t = true → Den K cl G t v → Dp K G v (toD t)
  | .non, _, _, h => by rw [h.non_of]; exact .non
  | .bl _, _, _, h => by rw [h.bl_of]; exact .bl _
  | .int _, _, _, h => by rw [h.int_of]; exact .int _
  | .str _, _, _, h => by rw [h.str_of]; exact .str _
  | .nm _, _, e, _ => by unfold isD at e; cases e
  | .lst ts, _, e, h => by
    obtain ⟨a, xs, rfl, s, d⟩ := h.lst_of
    exact .lst s (den_dpl (by unfold isD at e; exact e) d)
  | .tup ts, _, e, h => by
    obtain ⟨a, xs, rfl, s, d⟩ := h.tup_of
    exact .tup s (den_dpl (by unfold isD at e; exact e) d)
theorem den_dpl : ∀ {ts : List T} {xs : List V}, isDL ts = true → DenL K cl G ts xs → DpAll K G xs (toDL ts)
  | [], _, _, h => by unfold DenL at h; subst h; exact .nil
  | t :: ts, _, e, h => by
    unfold DenL at h
    obtain ⟨x, r, rfl, h1, h2⟩ := h
    have e' : isD t = true ∧ isDL ts = true := by unfold isDL at e; exact Bool.and_eq_true_iff.mp e
    exact .cons (den_dp e'.1 h1) (den_dpl e'.2 h2)
end
theorem rv_eq : RvF K cl (rEqD K) gEq := by
  intro G H x y t u z Q sm dt du e k
  unfold gEq gEqB at e
  split at e
  · rename_i h
    cases e
    exact ⟨_, _, den_dp h.1 (dt.mono sm), den_dp h.2.1 (du.mono sm), h.2.2.1, h.2.2.2, k G H _ sm Fr.refl (den_bl _)⟩
  · cases e
theorem rv_ne : RvF K cl (rNeD K) gNe := by
  intro G H x y t u z Q sm dt du e k
  unfold gNe gEqB at e
  split at e
  · rename_i h
    cases e
    exact ⟨_, _, den_dp h.1 (dt.mono sm), den_dp h.2.1 (du.mono sm), h.2.2.1, h.2.2.2, k G H _ sm Fr.refl (den_bl _)⟩
  · cases e
theorem den_non_iff {t : T} {v : V} (h : Den K cl G t v) : decide (v = .non) = isNon t := by
  cases t with
  | non => rw [h.non_of]; rfl
  | bl _ => rw [h.bl_of]; rfl
  | int _ => rw [h.int_of]; rfl
  | str _ => rw [h.str_of]; rfl
  | nm _ => rw [h.nm_of]; rfl
  | lst _ => obtain ⟨a, xs, rfl, _⟩ := h.lst_of; rfl
  | tup _ => obtain ⟨a, xs, rfl, _⟩ := h.tup_of; rfl
theorem isNon_eq {u : T} (h : isNon u = true) : u = .non := by cases u <;> first | rfl | cases h
theorem rv_is : RvF K cl (fun x y H Q => y = .non ∧ Q (.bl (decide (x = .non))) H) gIs := by
  intro G H x y t u z Q sm dt du e k
  unfold gIs at e
  split at e
  · rename_i h
    cases e
    rw [isNon_eq h] at du
    exact ⟨du.non_of, k G H _ sm Fr.refl (by rw [den_non_iff dt]; exact den_bl _)⟩
  · cases e
theorem rv_isnot : RvF K cl (fun x y H Q => y = .non ∧ Q (.bl (!decide (x = .non))) H) gIsNot := by
  intro G H x y t u z Q sm dt du e k
  unfold gIsNot at e
  split at e
  · rename_i h
    cases e
    rw [isNon_eq h] at du
    exact ⟨du.non_of, k G H _ sm Fr.refl (by rw [den_non_iff dt]; exact den_bl _)⟩
  · cases e
theorem rv_isB : RvF K cl rIsB gIsB := by
  intro G H x y t u z Q sm dt du e k
  unfold gIsB at e
  split at e
  · cases e; exact ⟨_, _, dt.bl_of, du.bl_of, k G H _ sm Fr.refl (den_bl _)⟩
  · cases e
theorem rv_isnotB : RvF K cl rNotB gIsNotB := by
  intro G H x y t u z Q sm dt du e k
  unfold gIsNotB at e
  split at e
  · cases e; exact ⟨_, _, dt.bl_of, du.bl_of, k G H _ sm Fr.refl (den_bl _)⟩
  · cases e
theorem flat_den {t : T} {v : V} (f : flatT t = true) (h : Den K cl G t v) : flatV v = true ∧ ∀ {u : T} {w : V} {G' : Hp}, flatT u = true → Den K cl G' u w → eqV v w = eqT t u := by
  cases t with
  | non =>
    rw [h.non_of]
    refine ⟨rfl, fun {u w G'} fu hu => ?_⟩
    cases u with
    | non => rw [hu.non_of]; rfl
    | bl _ => rw [hu.bl_of]; rfl
    | int _ => rw [hu.int_of]; rfl
    | str _ => rw [hu.str_of]; rfl
    | _ => cases fu
  | bl _ =>
    rw [h.bl_of]
    refine ⟨rfl, fun {u w G'} fu hu => ?_⟩
    cases u with
    | non => rw [hu.non_of]; rfl
    | bl _ => rw [hu.bl_of]; rfl
    | int _ => rw [hu.int_of]; rfl
    | str _ => rw [hu.str_of]; rfl
    | _ => cases fu
  | int _ =>
    rw [h.int_of]
    refine ⟨rfl, fun {u w G'} fu hu => ?_⟩
    cases u with
    | non => rw [hu.non_of]; rfl
    | bl _ => rw [hu.bl_of]; rfl
    | int _ => rw [hu.int_of]; rfl
    | str _ => rw [hu.str_of]; rfl
    | _ => cases fu
  | str _ =>
    rw [h.str_of]
    refine ⟨rfl, fun {u w G'} fu hu => ?_⟩
    cases u with
    | non => rw [hu.non_of]; rfl
    | bl _ => rw [hu.bl_of]; rfl
    | int _ => rw [hu.int_of]; rfl
    | str _ => rw [hu.str_of]; rfl
    | _ => cases fu
  | _ => cases f
theorem flat_denL {ts : List T} {xs : List V} {t : T} {v : V} (f : flatT t = true) (h : Den K cl G t v) : DenL K cl G ts xs → ts.all flatT = true → xs.all flatV = true ∧ (xs.any fun y => eqV y v) = ts.any fun y => eqT y t := by
  induction ts generalizing xs with
  | nil => intro d _; unfold DenL at d; subst d; exact ⟨rfl, rfl⟩
  | cons u us ih =>
    intro d fa
    unfold DenL at d
    obtain ⟨x, r, rfl, h1, h2⟩ := d
    rw [List.all_cons, Bool.and_eq_true_iff] at fa
    obtain ⟨i1, i2⟩ := ih h2 fa.2
    obtain ⟨f1, f2⟩ := flat_den fa.1 h1
    rw [List.all_cons, List.any_cons, List.any_cons, i1, i2, f1, f2 f h]
    exact ⟨rfl, rfl⟩
theorem rv_in {neg : Bool} : RvF K cl (rIn K neg) (gIn neg) := by
  intro G H x y t u z Q sm dt du e k
  unfold gIn at e
  split at e
  · rename_i xs hx
    split at e
    · rename_i h
      cases e
      obtain ⟨a, vs, e1, hq, d⟩ : ∃ a vs, y = .ref a ∧ (SqL K H a vs ∨ SqT K H a vs) ∧ DenL K cl G xs vs := by
        cases u with
        | lst ts => cases hx; obtain ⟨a, vs, e1, s1, d1⟩ := du.lst_of; exact ⟨a, vs, e1, .inl (sm.seq s1), d1⟩
        | tup ts => cases hx; obtain ⟨a, vs, e1, s1, d1⟩ := du.tup_of; exact ⟨a, vs, e1, .inr (same_seqT sm.same s1), d1⟩
        | _ => cases hx
      obtain ⟨f1, f2⟩ := flat_denL h.1 dt d h.2
      refine ⟨a, vs, e1, hq, (flat_den h.1 dt).1, f1, k G H _ sm Fr.refl ?_⟩
      have : inV x vs = xs.any fun y => eqT y t := f2
      rw [this]
      exact den_bl _
    · cases e
  · cases e
end
section
variable {S : SC} {a b c : Expr} {φa φb φc : Rho → Rz T} {pos : Pos}
theorem SC.Is.opK {X : Cx} (h : S.Is X) {f : Value → Value → Sem Value} {r : PySem.W.Frag → R2} (o : OpR X f (r X.K)) : OpR X f (r S.K) := by rw [← h.K]; exact o
theorem pef_add (ha : PEF S a φa) (hb : PEF S b φb) : PEF S (.BinOp a .Add b pos) (fBin gAdd φa φb) := pef_op (fun X hX => hX.opK op_addAll) rv_add ha hb
theorem pef_sub (ha : PEF S a φa) (hb : PEF S b φb) : PEF S (.BinOp a .Sub b pos) (fBin gSub φa φb) := pef_op (fun X hX => op_sub) rv_sub ha hb
theorem pef_mul (ha : PEF S a φa) (hb : PEF S b φb) : PEF S (.BinOp a .Mult b pos) (fBin gMul φa φb) := pef_op (fun X hX => op_mulW) rv_mul ha hb
theorem pef_div (ha : PEF S a φa) (hb : PEF S b φb) : PEF S (.BinOp a .FloorDiv b pos) (fBin gDiv φa φb) := pef_op (fun X hX => op_fdivW) rv_div ha hb
theorem pef_mod (ha : PEF S a φa) (hb : PEF S b φb) : PEF S (.BinOp a .Mod b pos) (fBin gMod φa φb) := pef_op (fun X hX => op_mod) rv_mod ha hb
theorem pef_pow (ha : PEF S a φa) (hb : PEF S b φb) : PEF S (.BinOp a .Pow b pos) (fBin gPow φa φb) := pef_op (fun X hX => op_pow) rv_pow ha hb
/-- which rule a comparison goes by -/
structure CmpF (S : SC) (op : CmpOp) (g : T → T → Option T) : Prop where
  ex : ∃ r : R2, (∀ X, S.Is X → OpR X (compareOp op) r) ∧ RvF S.K S.cl r g
theorem c_lt : CmpF S .Lt gLt := ⟨_, fun _ _ => op_lt, rv_lt⟩
theorem c_le : CmpF S .LtE gLe := ⟨_, fun _ _ => op_le, rv_le⟩
theorem c_gt : CmpF S .Gt gGt := ⟨_, fun _ _ => op_gt, rv_gt⟩
theorem c_ge : CmpF S .GtE gGe := ⟨_, fun _ _ => op_ge, rv_ge⟩
theorem c_eq : CmpF S .Eq gEq := ⟨_, fun X h => h.opK (op_eqD h.room.units), rv_eq⟩
theorem c_ne : CmpF S .NotEq gNe := ⟨_, fun X h => h.opK (op_neD h.room.units), rv_ne⟩
theorem c_is : CmpF S .Is gIs := ⟨_, fun _ _ => op_isN, rv_is⟩
theorem c_isnot : CmpF S .IsNot gIsNot := ⟨_, fun _ _ => op_notN, rv_isnot⟩
theorem c_isB : CmpF S .Is gIsB := ⟨_, fun _ _ => op_isBl, rv_isB⟩
theorem c_isnotB : CmpF S .IsNot gIsNotB := ⟨_, fun _ _ => op_notBl, rv_isnotB⟩
theorem c_in : CmpF S .In (gIn false) := ⟨_, fun X h => h.opK (r := fun K => rIn K false) op_in_seq, rv_in⟩
theorem c_notin : CmpF S .NotIn (gIn true) := ⟨_, fun X h => h.opK (r := fun K => rIn K true) op_notIn_seq, rv_in⟩
theorem pef_c {op : CmpOp} {g : T → T → Option T} (c : CmpF S op g) (ha : PEF S a φa) (hb : PEF S b φb) (hm : behindInMarks op b = false := by rfl) : PEF S (.Compare a [op] [b] pos) (fBin g φa φb) := let ⟨r, h1, h2⟩ := c.ex; pef_cmp h1 h2 ha hb hm
theorem ptf_c {op : CmpOp} {g : T → T → Option T} (c : CmpF S op g) (ha : PEF S a φa) (hb : PEF S b φb) (hm : behindInMarks op b = false := by rfl) : PTF S (.Compare a [op] [b] pos) (fTest (fBin g φa φb)) := let ⟨r, h1, h2⟩ := c.ex; ptf_cmp h1 h2 ha hb hm
theorem pef_c2 {op op' : CmpOp} {g g' : T → T → Option T} (k : CmpF S op g) (k' : CmpF S op' g') (ha : PEF S a φa) (hb : PEF S b φb) (hc : PEF S c φc) (hm : lastMarks [op, op'] [b, c] = false := by rfl) : PEF S (.Compare a [op, op'] [b, c] pos) (fChain g g' φa φb φc) :=
  let ⟨r, h1, h2⟩ := k.ex; let ⟨r', h3, h4⟩ := k'.ex; pef_chain h1 h2 h3 h4 ha hb hc hm
theorem ptf_c2 {op op' : CmpOp} {g g' : T → T → Option T} (k : CmpF S op g) (k' : CmpF S op' g') (ha : PEF S a φa) (hb : PEF S b φb) (hc : PEF S c φc) (hm : lastMarks [op, op'] [b, c] = false := by rfl) : PTF S (.Compare a [op, op'] [b, c] pos) (fTest (fChain g g' φa φb φc)) := by
  obtain ⟨r, h1, h2⟩ := k.ex
  obtain ⟨r', h3, h4⟩ := k'.ex
  obtain ⟨ta, ha, ea⟩ := ha
  obtain ⟨tb, hb, eb⟩ := hb
  obtain ⟨tc, hc, ec⟩ := hc
  exact ⟨_, fun X hX => pt_chain (h1 X hX) (h3 X hX) (ha X hX) (hb X hX) (hc X hX) hm, ev_test (ev_chain h2 h4 ea eb ec)⟩
end

/-! ### subscripts -/
def atT (xs : List T) (i : Int) : Option T := (ixN xs.length i).bind fun j => xs[j]?
def gIx (t u : T) : Option T := match itemsT t, u with
  | some xs, .int i => atT xs i
  | _, _ => none
section
variable {K : PySem.W.Frag} {cl : Cl} {G H : Hp}
theorem atT_of {ts : List T} {xs : List V} {i : Int} {t : T} (d : DenL K cl G ts xs) (h : atT ts i = some t) : ∃ v, atI xs i = some v ∧ Den K cl G t v := by
  unfold atT at h
  obtain ⟨j, h1, h2⟩ := Option.bind_eq_some_iff.mp h
  obtain ⟨v, e, dv⟩ := d.get h2
  refine ⟨v, ?_, dv⟩
  unfold atI
  rw [← d.len, h1]
  exact e
theorem rv_ix : RvF K cl (rIx K) gIx := by
  intro G H x y t u z Q sm dt du e k
  unfold gIx at e
  split at e
  · rename_i xs i hx
    cases t with
    | lst ts =>
      cases hx
      obtain ⟨a, vs, e1, s1, d1⟩ := dt.lst_of
      obtain ⟨v, e2, dv⟩ := atT_of d1 e
      exact .inl ⟨a, vs, i, v, e1, du.int_of, sm.seq s1, e2, k G H _ sm Fr.refl dv⟩
    | tup ts =>
      cases hx
      obtain ⟨a, vs, e1, s1, d1⟩ := dt.tup_of
      obtain ⟨v, e2, dv⟩ := atT_of d1 e
      exact .inr (.inl ⟨a, vs, i, v, e1, du.int_of, same_seqT sm.same s1, e2, k G H _ sm Fr.refl dv⟩)
    | _ => cases hx
  · cases e
end
section
variable {S : SC} {a b : Expr} {φa φb : Rho → Rz T} {pos : Pos}
theorem pef_ix (ha : PEF S a φa) (hb : PEF S b φb) (hs : PlainIx b) : PEF S (.Subscript a b pos) (fBin gIx φa φb) := by
  obtain ⟨ta, ha, ea⟩ := ha
  obtain ⟨tb, hb, eb⟩ := hb
  exact ⟨_, fun X hX => pe_ix (by rw [← hX.K]; exact ix_seq) (ha X hX) (hb X hX) hs, ev_op rv_ix ea eb⟩
end
end Fx
namespace Fx
open PySem PySem.Spec PyProof.Rows L2

/-! ### slices -/
def cutT (xs : List T) (lo hi : Option Int) : List T := (xs.drop (HT.sIx xs.length 0 lo)).take (HT.sIx xs.length xs.length hi - HT.sIx xs.length 0 lo)
def pickT (xs : List T) (lo hi st : Option Int) : List T :=
  (sliceRange (sliceBounds lo hi st xs.length).1 (sliceBounds lo hi st xs.length).2.1 (sliceBounds lo hi st xs.length).2.2).filterMap (xs[·]?)
def pickV (xs : List V) (lo hi st : Option Int) : List V :=
  (sliceRange (sliceBounds lo hi st xs.length).1 (sliceBounds lo hi st xs.length).2.1 (sliceBounds lo hi st xs.length).2.2).filterMap (xs[·]?)
def PxF (S : SC) (e : Option Expr) (φ : Rho → Rz (Option Int)) : Prop := ∃ te : TO, (∀ X, S.Is X → PO X e te) ∧
  ∀ σ ρ G H (Q : Option Int → Hp → Prop), Rel S.K S.cl G H σ ρ → Lands S.K S.cl S.W σ ρ G H (φ ρ) (fun t _ _ H' => Q t H') → te σ H Q
def fPn : Rho → Rz (Option Int) := fun ρ => .ok none ρ
def fPs (a : Rho → Rz T) : Rho → Rz (Option Int) := fun ρ => (a ρ).bind fun x ρ1 => match x with
  | .int i => .ok (some i) ρ1
  | _ => .stuck
def gSl (t : T) (lo hi : Option Int) : Option T := match t with
  | .lst xs => some (.lst (cutT xs lo hi))
  | .tup xs => some (.tup (cutT xs lo hi))
  | _ => none
def fSl (a : Rho → Rz T) (l h : Rho → Rz (Option Int)) : Rho → Rz T := fun ρ => (a ρ).bind fun x ρ1 => (l ρ1).bind fun lo ρ2 => (h ρ2).bind fun hi ρ3 => Rz.of (gSl x lo hi) ρ3
def fSl3 (a : Rho → Rz T) (l h s : Rho → Rz (Option Int)) : Rho → Rz T := fun ρ => (a ρ).bind fun x ρ1 => (l ρ1).bind fun lo ρ2 => (h ρ2).bind fun hi ρ3 => (s ρ3).bind fun st ρ4 => match x with
  | .lst xs => if st ≠ some 0 then .ok (.lst (pickT xs lo hi st)) ρ4 else .stuck
  | _ => .stuck
section
variable {K : PySem.W.Frag} {cl : Cl} {G H : Hp}
theorem DenL.cut {ts : List T} {xs : List V} (h : DenL K cl G ts xs) (lo hi : Option Int) : DenL K cl G (cutT ts lo hi) (cutV xs lo hi) := by
  unfold cutT cutV
  rw [h.len]
  exact (h.drop _).take _
theorem DenL.pick {ts : List T} {xs : List V} (h : DenL K cl G ts xs) (lo hi st : Option Int) : DenL K cl G (pickT ts lo hi st) (pickV xs lo hi st) := by
  unfold pickT pickV
  rw [h.len]
  exact h.picks _
theorem vals_picks {xs : List V} {us : List Value} (h : Vals xs us) : ∀ js : List Nat, Vals (js.filterMap (xs[·]?)) (js.filterMap (us[·]?))
  | [] => .nil
  | j :: js => by
    have ih := vals_picks h js
    cases e : xs[j]? with
    | none =>
      have e2 := h.none_of e
      simpa only [List.filterMap_cons, e, e2] using ih
    | some t =>
      obtain ⟨u, e2, r⟩ := h.get e
      simpa only [List.filterMap_cons, e, e2] using Paired.cons r ih
theorem pick_len (xs : List V) (its : List Value) (h : xs.length = its.length) (lo hi st : Option Int) : (pickV xs lo hi st).length ≤ its.length := by
  have s := slicePick_size_le its.toArray lo hi st
  have : (pickV xs lo hi st).length = (slicePick its.toArray lo hi st).size := by
    unfold pickV slicePick
    simp only [h, List.size_toArray]
    rw [← List.length_reverse]
    generalize sliceRange _ _ _ = js
    rw [List.length_reverse]
    induction js with
    | nil => rfl
    | cons j js ih =>
      by_cases hj : j < its.length
      · have e1 : xs[j]? = some xs[j] := List.getElem?_eq_getElem (by omega)
        have e2 : its[j]? = some its[j] := List.getElem?_eq_getElem hj
        simp only [List.filterMap_cons, e1, List.getElem?_toArray, e2, List.length_cons, ih]
      · have e1 : xs[j]? = none := List.getElem?_eq_none (by omega)
        have e2 : its[j]? = none := List.getElem?_eq_none (by omega)
        simp only [List.filterMap_cons, e1, List.getElem?_toArray, e2, ih]
  rw [this]
  simpa using s
end
section
variable {S : SC} {a : Expr} {φa : Rho → Rz T} {pos p2 : Pos} {lo hi st : Option Expr} {φl φh φs : Rho → Rz (Option Int)}
theorem px_none : PxF S none fPn := ⟨tNoPart, fun X hX => po_none, fun σ ρ G H Q re h => h.here re⟩
theorem px_some (h : PEF S a φa) : PxF S (some a) (fPs φa) := by
  obtain ⟨ta, ha, ea⟩ := h
  refine ⟨tPart ta, fun X hX => po_some (ha X hX), fun σ ρ G H Q re h => ?_⟩
  refine ea σ ρ G H _ re ((Lands.bind h).imp fun x ρ1 G1 H1 re1 fr1 ow1 h1 v dv => ?_)
  cases x with
  | int i => exact ⟨i, dv.int_of, h1.here re1⟩
  | _ => exact h1.elim
def rSlAll (K : PySem.W.Frag) : V → Option Int → Option Int → Hp → VK → Prop := fun x lo hi H Q => rSlL K x lo hi H Q ∨ rSlA K x lo hi H Q
theorem cutV_whole {xs : List V} {lo hi : Option Int} (h : HT.sIx xs.length 0 lo = 0 ∧ HT.sIx xs.length xs.length hi = xs.length) : cutV xs lo hi = xs := by
  unfold cutV
  rw [h.1, h.2]
  simp
theorem cutT_whole {xs : List T} {lo hi : Option Int} (h : HT.sIx xs.length 0 lo = 0 ∧ HT.sIx xs.length xs.length hi = xs.length) : cutT xs lo hi = xs := by
  unfold cutT
  rw [h.1, h.2]
  simp
theorem pef_sl (ha : PEF S a φa) (hl : PxF S lo φl) (hh : PxF S hi φh) : PEF S (.Subscript a (.Slice lo hi none p2) pos) (fSl φa φl φh) := by
  obtain ⟨ta, ha, ea⟩ := ha
  obtain ⟨tl, hl, el⟩ := hl
  obtain ⟨th, hh, eh⟩ := hh
  refine ⟨tSl (rSlAll S.K) ta tl th, fun X hX => pe_slice (by rw [← hX.K]; exact SlR.or sl_list sl_tupA) (ha X hX) (hl X hX) (hh X hX), fun σ ρ G H Q re h => ?_⟩
  refine ea σ ρ G H _ re ((Lands.bind h).imp fun x ρ1 G1 H1 re1 fr1 ow1 h1 v dv => ?_)
  refine el σ ρ1 G1 H1 _ re1 ((Lands.bind h1).imp fun lo ρ2 G2 H2 re2 fr2 ow2 h2 => ?_)
  refine eh σ ρ2 G2 H2 _ re2 ((Lands.bind h2).imp fun hi ρ3 G3 H3 re3 fr3 ow3 h3 => ?_)
  have dv3 := (dv.mono fr2.gg).mono fr3.gg
  cases x with
  | lst xs =>
    obtain ⟨b, us, e, s, d⟩ := dv3.lst_of
    refine .inl ⟨b, us, e, re3.same.seq s, fun p hp => ?_⟩
    exact Lands.done h3 re3 (Fr.frz hp re3.same) (sm_upd2 re3.same hp) _ (den_lst (.inl (.inl upd_same)) ((d.cut lo hi).mono (Fr.frz (A := NoA) hp re3.same).gg))
  | tup xs =>
    obtain ⟨b, us, e, s, d⟩ := dv3.tup_of
    refine .inr ⟨b, us, e, same_seqT re3.same.same s, fun hw => ?_, fun _ p hp => ?_⟩
    · refine Lands.here h3 re3 _ (den_tup s ?_)
      rw [← d.len] at hw
      rw [cutT_whole hw]
      exact d
    · exact Lands.done h3 re3 (Fr.frz hp re3.same) (sm_upd2 re3.same hp) _ (den_tup (.inl (.inl upd_same)) ((d.cut lo hi).mono (Fr.frz (A := NoA) hp re3.same).gg))
  | _ => exact h3.elim
/-- xs[lo:hi:st] of a list -/
def tSl3 (K : PySem.W.Frag) (te : TE) (tl th ts : TO) : TE := fun σ H Q => te σ H fun x H1 => tl σ H1 fun l H2 => th σ H2 fun u H3 => ts σ H3 fun st H4 => st ≠ some 0 ∧ ∃ a xs, x = .ref a ∧ SqL K H4 a xs ∧ ∀ p, H4 p = none → Q (.ref p) (upd H4 p (.lst (pickV xs l u st)))
theorem pe_slice3 {X : Cx} {e st : Expr} {te : TE} {tl th ts : TO} (he : PE X e te) (hl : PO X lo tl) (hu : PO X hi th) (hs : PO X (some st) ts) : PE X (.Subscript e (.Slice lo hi (some st) p2) pos) (tSl3 X.K te tl th ts) := by
  refine ⟨fun pins s σ H Q I h => ?_⟩
  refine Subscript_ (thn (he.run pins s σ H _ I h) fun v s1 ⟨x, H1, I1, r1, q1⟩ => ?_)
  refine wpAny_Slice (thn (hl.run pins s1 σ H1 _ I1 q1) fun vl s2 ⟨l, H2, I2, pl, q2⟩ => thn (hu.run pins s2 σ H2 _ I2 q2) fun vu s3 ⟨u, H3, I3, pu, q3⟩ => ?_)
  refine thn (hs.run pins s3 σ H3 _ I3 q3) fun vs s4 ⟨o, H4, I4, ps, h0, a, xs, ex, hx, q⟩ => ?_
  subst ex
  cases r1
  have I5 : Inv X pins σ H4 { s4 with heap := s4.heap.push { cls := .type "slice", data := .fields #[vl, vu, vs] } } := I4.kept (t' := s4.toks) fun b ob q => Heap.get?_push_of_some _ q
  obtain ⟨its, r, ht, hz⟩ := I5.list hx
  have hlen := r.length
  show wpAny (model X.prog X.w) X.A (subscriptTail e (.Slice lo hi (some st) p2) (.ref a) (.ref s4.heap.objs.size)) (EP X pins σ Q) X.xe { s4 with heap := s4.heap.push { cls := .type "slice", data := .fields #[vl, vu, vs] } }
  refine tail_any (ops := [.ref a, .ref s4.heap.objs.size]) ht.isList.typeIs (PySem.slot_list_getitem.lookup) ?_ (by with_unfolding_all rfl)
  refine wpAny_getItem_list_slice ht.isList (Heap.IsSliceOf.new _ vl vu vs) pl pu ps h0 ?_ (by rw [List.size_toArray]; omega)
  have hpk : Vals (pickV xs l u o) (slicePick its.toArray l u o).toList := by
    unfold pickV slicePick
    simp only [List.size_toArray, hlen]
    simpa using vals_picks r _
  refine ⟨.ref _, _, I5.laid (t' := s4.toks) (o := .lst (pickV xs l u o)) (fun b ob q => Heap.get?_push_of_some _ q) (Nat.le_refl _) ?_, rfl, q _ (I5.hok.fresh (Nat.le_refl _))⟩
  refine ⟨?_, _, 0, hpk, by rw [Array.toArray_toList]; exact Heap.get?_push_size _ rfl⟩
  have := pick_len xs its hlen l u o
  omega
theorem pef_sl3 {st : Expr} (ha : PEF S a φa) (hl : PxF S lo φl) (hh : PxF S hi φh) (hs : PxF S (some st) φs) : PEF S (.Subscript a (.Slice lo hi (some st) p2) pos) (fSl3 φa φl φh φs) := by
  obtain ⟨ta, ha, ea⟩ := ha
  obtain ⟨tl, hl, el⟩ := hl
  obtain ⟨th, hh, eh⟩ := hh
  obtain ⟨ts, hs, es⟩ := hs
  refine ⟨tSl3 S.K ta tl th ts, fun X hX => by rw [← hX.K]; exact pe_slice3 (ha X hX) (hl X hX) (hh X hX) (hs X hX), fun σ ρ G H Q re h => ?_⟩
  refine ea σ ρ G H _ re ((Lands.bind h).imp fun x ρ1 G1 H1 re1 fr1 ow1 h1 v dv => ?_)
  refine el σ ρ1 G1 H1 _ re1 ((Lands.bind h1).imp fun lo ρ2 G2 H2 re2 fr2 ow2 h2 => ?_)
  refine eh σ ρ2 G2 H2 _ re2 ((Lands.bind h2).imp fun hi ρ3 G3 H3 re3 fr3 ow3 h3 => ?_)
  refine es σ ρ3 G3 H3 _ re3 ((Lands.bind h3).imp fun st ρ4 G4 H4 re4 fr4 ow4 h4 => ?_)
  have dv4 := ((dv.mono fr2.gg).mono fr3.gg).mono fr4.gg
  cases x with
  | lst xs =>
    obtain ⟨b, us, e, s, d⟩ := dv4.lst_of
    dsimp only at h4
    split at h4
    · rename_i h0
      refine ⟨h0, b, us, e, re4.same.seq s, fun p hp => ?_⟩
      exact Lands.done h4 re4 (Fr.frz hp re4.same) (sm_upd2 re4.same hp) _ (den_lst (.inl (.inl upd_same)) ((d.pick lo hi st).mono (Fr.frz (A := NoA) hp re4.same).gg))
    · exact h4.elim
  | _ => exact h4.elim
end

/-! ### calls of built-ins -/
def fCall (g : List T → Option T) (a : Rho → Rz (List T)) : Rho → Rz T := fun ρ => (a ρ).bind fun xs ρ1 => Rz.of (g xs) ρ1
def RcF (K : PySem.W.Frag) (cl : Cl) (r : List V → Hp → VK → Prop) (g : List T → Option T) : Prop := ∀ (G H : Hp) (vs : List V) (ts : List T) (z : T) (Q : VK), Sm cl G H → DenL K cl G ts vs → g ts = some z →
  (∀ G' H' v, Sm cl G' H' → Fr NoA G H G' H' → Den K cl G' z v → Q v H') → r vs H Q
theorem ev_call {K : PySem.W.Frag} {cl : Cl} {W : WX} {r : List V → Hp → VK → Prop} {g : List T → Option T} {ta : TA} {φ : Rho → Rz (List T)} (hr : RcF K cl r g) (ha : EvA K cl W ta φ) : EvF K cl W (tCB r ta) (fCall g φ) := by
  intro σ ρ G H Q re h
  refine ha σ ρ G H _ re ((Lands.bind h).imp fun xs ρ1 G1 H1 re1 fr1 ow1 h1 vs d => ?_)
  cases e : g xs with
  | none => rw [e] at h1; exact h1.elim
  | some z =>
    rw [e] at h1
    exact hr G1 H1 vs xs z Q re1.same d e fun G' H' w s f d => h1.done re1 f s w d
section
variable {S : SC} {e : Expr} {es : List Expr} {φ : Rho → Rz (List T)} {p pos : Pos} {x : Str}
/-- the built-in x, by the rule r -/
structure BltF (S : SC) (x : Str) (g : List T → Option T) : Prop where
  ex : ∃ (f : Value) (r : List V → Hp → VK → Prop), (∀ X, S.Is X → CallR X f r) ∧ RcF S.K S.cl r g ∧ bootBuiltins x = some f ∧ ((∃ id, f = .builtin id) ∨ ∃ t, f = .type t)
  nm : x ≠ "__name__"
  db : (x == ("__debug__" : Str)) = false
theorem pef_b {g : List T → Option T} (b : BltF S x g) (hg : S.sc.names.lookup x = some .globalImplicit) (hm : S.mg x = none) (ha : PAF S (e :: es) φ)
    (he : ∀ X : Cx, starEach (e :: es) X.env = (false, eval e X.env) :: starEach es X.env := by intro _; rfl) (hpl : ∀ X : Cx, (backTo pos (starEach es X.env)).any (·.1) = false := by intro _; rfl) :
    PEF S (.Call (.Name x p) (e :: es) [] pos) (fCall g φ) := by
  obtain ⟨f, r, h1, h2, h3, h4⟩ := b.ex
  obtain ⟨ta, ha, ea⟩ := ha
  refine ⟨tCB r ta, fun X hX => ?_, ev_call h2 ea⟩
  rcases h4 with ⟨id, rfl⟩ | ⟨t, rfl⟩
  · exact pe_callB (h1 X hX) (hX.gl hg) (by rw [hX.mg]; exact hm) h3 (ha X hX) b.nm b.db (he X) (hpl X)
  · exact pe_callTy (h1 X hX) (hX.gl hg) (by rw [hX.mg]; exact hm) h3 (ha X hX) b.nm b.db (he X) (hpl X)
end
def intsT : List T → Option (List Int)
  | [] => some []
  | .int i :: ts => (intsT ts).map (i :: ·)
  | _ :: _ => none
theorem intsT_of : ∀ {ts : List T} {ns : List Int}, intsT ts = some ns → ts = ns.map T.int
  | [], _, h => by unfold intsT at h; cases h; rfl
  | .int i :: ts, _, h => by
    unfold intsT at h
    cases e : intsT ts with
    | none => rw [e] at h; cases h
    | some m => rw [e] at h; cases h; rw [intsT_of e]; rfl
  | .non :: _, _, h => by unfold intsT at h; cases h
  | .bl _ :: _, _, h => by unfold intsT at h; cases h
  | .str _ :: _, _, h => by unfold intsT at h; cases h
  | .lst _ :: _, _, h => by unfold intsT at h; cases h
  | .tup _ :: _, _, h => by unfold intsT at h; cases h
  | .nm _ :: _, _, h => by unfold intsT at h; cases h
@[simp] theorem intsT_map : ∀ ns : List Int, intsT (ns.map T.int) = some ns
  | [] => rfl
  | n :: ns => by
    show (intsT (ns.map T.int)).map (n :: ·) = some (n :: ns)
    rw [intsT_map ns]; rfl
def blsT : List T → Option (List Bool)
  | [] => some []
  | .bl i :: ts => (blsT ts).map (i :: ·)
  | _ :: _ => none
theorem blsT_of : ∀ {ts : List T} {ns : List Bool}, blsT ts = some ns → ts = ns.map T.bl
  | [], _, h => by unfold blsT at h; cases h; rfl
  | .bl i :: ts, _, h => by
    unfold blsT at h
    cases e : blsT ts with
    | none => rw [e] at h; cases h
    | some m => rw [e] at h; cases h; rw [blsT_of e]; rfl
  | .non :: _, _, h => by unfold blsT at h; cases h
  | .int _ :: _, _, h => by unfold blsT at h; cases h
  | .str _ :: _, _, h => by unfold blsT at h; cases h
  | .lst _ :: _, _, h => by unfold blsT at h; cases h
  | .tup _ :: _, _, h => by unfold blsT at h; cases h
  | .nm _ :: _, _, h => by unfold blsT at h; cases h
@[simp] theorem blsT_map : ∀ ns : List Bool, blsT (ns.map T.bl) = some ns
  | [] => rfl
  | n :: ns => by
    show (blsT (ns.map T.bl)).map (n :: ·) = some (n :: ns)
    rw [blsT_map ns]; rfl
section
variable {K : PySem.W.Frag} {cl : Cl} {G H : Hp}
theorem denL_ints : ∀ {ns : List Int} {xs : List V}, DenL K cl G (ns.map T.int) xs → xs = ns.map V.int
  | [], _, h => by unfold List.map DenL at h; exact h
  | n :: ns, _, h => by
    rw [List.map_cons] at h
    unfold DenL at h
    obtain ⟨x, r, rfl, h1, h2⟩ := h
    rw [h1.int_of, denL_ints h2]; rfl
theorem denL_bls : ∀ {ns : List Bool} {xs : List V}, DenL K cl G (ns.map T.bl) xs → xs = ns.map V.bl
  | [], _, h => by unfold List.map DenL at h; exact h
  | n :: ns, _, h => by
    rw [List.map_cons] at h
    unfold DenL at h
    obtain ⟨x, r, rfl, h1, h2⟩ := h
    rw [h1.bl_of, denL_bls h2]; rfl
theorem den_ints : ∀ {ns : List Int}, DenL K cl G (ns.map T.int) (ns.map V.int)
  | [] => DenL.nil
  | n :: ns => DenL.cons (den_int n) den_ints
theorem DenL.one {t : T} {xs : List V} (h : DenL K cl G [t] xs) : ∃ x, xs = [x] ∧ Den K cl G t x := by
  unfold DenL at h
  obtain ⟨x, r, rfl, h1, h2⟩ := h
  unfold DenL at h2; subst h2
  exact ⟨x, rfl, h1⟩
theorem DenL.two {t u : T} {xs : List V} (h : DenL K cl G [t, u] xs) : ∃ x y, xs = [x, y] ∧ Den K cl G t x ∧ Den K cl G u y := by
  unfold DenL at h
  obtain ⟨x, r, rfl, h1, h2⟩ := h
  obtain ⟨y, rfl, h3⟩ := h2.one
  exact ⟨x, y, rfl, h1, h3⟩
theorem DenL.three {t u v : T} {xs : List V} (h : DenL K cl G [t, u, v] xs) : ∃ x y z, xs = [x, y, z] ∧ Den K cl G t x ∧ Den K cl G u y ∧ Den K cl G v z := by
  unfold DenL at h
  obtain ⟨x, r, rfl, h1, h2⟩ := h
  obtain ⟨y, z, rfl, h3, h4⟩ := h2.two
  exact ⟨x, y, z, rfl, h1, h3, h4⟩
end
def gLen : List T → Option T
  | [.lst xs] => some (.int xs.length)
  | [.tup xs] => some (.int xs.length)
  | [.str x] => if x.length ≤ sizeLine then some (.int x.length) else none
  | _ => none
def gAll : List T → Option T
  | [.lst xs] => (blsT xs).map fun bs => .bl (bs.all id)
  | _ => none
def gAny : List T → Option T
  | [.lst xs] => (blsT xs).map fun bs => .bl (bs.any id)
  | _ => none
def gSum : List T → Option T
  | [.lst xs] => (intsT xs).map fun ns => .int ns.sum
  | [.tup xs] => (intsT xs).map fun ns => .int ns.sum
  | _ => none
def maxI : List Int → Int
  | [] => 0
  | n :: ns => ns.foldl max n
def minI : List Int → Int
  | [] => 0
  | n :: ns => ns.foldl min n
theorem foldl_max_le : ∀ (ns : List Int) (a : Int), a ≤ ns.foldl max a ∧ (∀ x ∈ ns, x ≤ ns.foldl max a) ∧ (ns.foldl max a = a ∨ ns.foldl max a ∈ ns)
  | [], a => ⟨Int.le_refl _, fun _ h => (by cases h), .inl rfl⟩
  | n :: ns, a => by
    obtain ⟨h1, h2, h3⟩ := foldl_max_le ns (max a n)
    rw [List.foldl_cons]
    refine ⟨by omega, fun x hx => ?_, ?_⟩
    · rcases List.mem_cons.mp hx with rfl | hx
      · omega
      · exact h2 x hx
    · rcases h3 with h3 | h3
      · by_cases hc : a ≤ n
        · right; rw [h3, show max a n = n by omega]; exact List.mem_cons_self
        · left; rw [h3]; omega
      · exact .inr (List.mem_cons_of_mem _ h3)
theorem foldl_min_le : ∀ (ns : List Int) (a : Int), ns.foldl min a ≤ a ∧ (∀ x ∈ ns, ns.foldl min a ≤ x) ∧ (ns.foldl min a = a ∨ ns.foldl min a ∈ ns)
  | [], a => ⟨Int.le_refl _, fun _ h => (by cases h), .inl rfl⟩
  | n :: ns, a => by
    obtain ⟨h1, h2, h3⟩ := foldl_min_le ns (min a n)
    rw [List.foldl_cons]
    refine ⟨by omega, fun x hx => ?_, ?_⟩
    · rcases List.mem_cons.mp hx with rfl | hx
      · omega
      · exact h2 x hx
    · rcases h3 with h3 | h3
      · by_cases hc : n ≤ a
        · right; rw [h3, show min a n = n by omega]; exact List.mem_cons_self
        · left; rw [h3]; omega
      · exact .inr (List.mem_cons_of_mem _ h3)
theorem maxI_mem {ns : List Int} (h : ns ≠ []) : maxI ns ∈ ns := by
  cases ns with
  | nil => exact absurd rfl h
  | cons n ns =>
    rcases (foldl_max_le ns n).2.2 with e | e
    · show ns.foldl max n ∈ _; rw [e]; exact List.mem_cons_self
    · exact List.mem_cons_of_mem _ e
theorem le_maxI {ns : List Int} {x : Int} (h : x ∈ ns) : x ≤ maxI ns := by
  cases ns with
  | nil => cases h
  | cons n ns =>
    rcases List.mem_cons.mp h with rfl | h
    · exact (foldl_max_le ns x).1
    · exact (foldl_max_le ns n).2.1 x h
theorem minI_mem {ns : List Int} (h : ns ≠ []) : minI ns ∈ ns := by
  cases ns with
  | nil => exact absurd rfl h
  | cons n ns =>
    rcases (foldl_min_le ns n).2.2 with e | e
    · show ns.foldl min n ∈ _; rw [e]; exact List.mem_cons_self
    · exact List.mem_cons_of_mem _ e
theorem minI_le {ns : List Int} {x : Int} (h : x ∈ ns) : minI ns ≤ x := by
  cases ns with
  | nil => cases h
  | cons n ns =>
    rcases List.mem_cons.mp h with rfl | h
    · exact (foldl_min_le ns x).1
    · exact (foldl_min_le ns n).2.1 x h
def gMax : List T → Option T
  | [.lst xs] => (intsT xs).bind fun ns => if ns = [] then none else some (.int (maxI ns))
  | [.tup xs] => (intsT xs).bind fun ns => if ns = [] then none else some (.int (maxI ns))
  | [.int i, .int j] => some (.int (if j > i then j else i))
  | [.int i, .int j, .int k] => some (.int (if j > i then (if k > j then k else j) else (if k > i then k else i)))
  | _ => none
def gMin : List T → Option T
  | [.lst xs] => (intsT xs).bind fun ns => if ns = [] then none else some (.int (minI ns))
  | [.tup xs] => (intsT xs).bind fun ns => if ns = [] then none else some (.int (minI ns))
  | [.int i, .int j] => some (.int (if j < i then j else i))
  | [.int i, .int j, .int k] => some (.int (if j < i then (if k < j then k else j) else (if k < i then k else i)))
  | _ => none
def gAbs : List T → Option T
  | [.int i] => some (.int (if i < 0 then -i else i))
  | _ => none
def gInt1 : List T → Option T
  | [.int i] => some (.int i)
  | [.bl b] => some (.int (if b then 1 else 0))
  | _ => none
def gTuple : List T → Option T
  | [.lst xs] => some (.tup xs)
  | [.tup xs] => some (.tup xs)
  | _ => none
def gList : List T → Option (List T)
  | [.lst xs] => some xs
  | [.tup xs] => some xs
  | _ => none
def sortI (ns : List Int) : List Int := ns.mergeSort (fun a b => decide (a ≤ b))
def gSorted : List T → Option T
  | [.lst xs] => (intsT xs).map fun ns => .lst ((sortI ns).map T.int)
  | _ => none
theorem sortI_eq {ns ms : List Int} (h : ms.Perm ns) (s : ms.Pairwise (· ≤ ·)) : ms = sortI ns := by
  have p : (sortI ns).Perm ns := List.mergeSort_perm _ _
  have q := List.pairwise_mergeSort (le := fun a b : Int => decide (a ≤ b)) (by intro a b c; simp; omega) (by intro a b; simp; omega) ns
  refine List.Perm.eq_of_pairwise (le := (· ≤ ·)) (fun a b _ _ h1 h2 => Int.le_antisymm h1 h2) s ?_ (h.trans p.symm)
  exact q.imp fun {a b} h => by simpa using h
section
open PySem
variable {prog : Program} {w : World} {A : Around} {E : Value → Shared → Prop} {s : Shared} {l : Addr} {xs : Array (Int × Tok)}
theorem max_tup {Q : Value → Shared → Prop} (hh : A.handled = none) (hl : s.heap.IsTuple l (intItems xs)) (hne : 0 < xs.size)
    (h : ∀ v h' tk, (intItems xs)[argBest (fun i j => decide (numAt xs i > numAt xs j)) (xs.size - 1)]? = some v → (∀ b o, s.heap.get? b = some o → h'.get? b = some o) → Q v { s with heap := h', toks := tk }) :
    wpAny (model prog w) A (call (.builtin "max") [.ref l]) Q E s := by
  have hlt : l < s.heap.objs.size := by obtain ⟨_, e, _⟩ := hl; exact Heap.lt_size e
  refine call_max_walk (wpAny_pyIter_tuple hl ?_)
  refine ⟨_, [_, l], [_], _, _, _, _, rfl, Walks.tuple (A := A.in1) hh _ l (Nat.ne_of_lt hlt) (intItems xs), ⟨⟨_, Heap.get?_push_size _ rfl, rfl, rfl⟩, hl.push _⟩, fun c hc => ?_, by simpa [intItems] using hne, CmpOf.ints_gt (numAt xs) (fun _ _ => intItems_at), fun v h' tk hP hk => ?_⟩
  · show c < (s.heap.push _).objs.size
    rw [Heap.size_push]
    rcases List.mem_cons.mp hc with rfl | hc
    · exact Nat.lt_succ_self _
    · rcases List.mem_cons.mp hc with rfl | hc
      · exact Nat.lt_succ_of_lt hlt
      · cases hc
  · refine h v h' tk (by simpa [intItems] using hP) fun c o e => hk c o (fun hm => ?_) (Heap.get?_push_of_some _ e)
    rcases List.mem_cons.mp hm with e1 | hm
    · exact absurd (e1 ▸ Heap.lt_size e) (Nat.lt_irrefl _)
    · cases hm
end
def rMaxT (K : PySem.W.Frag) : List V → Hp → VK → Prop := fun vs H Q => ∃ (a : Addr) (ns : List Int), vs = [V.ref a] ∧ SqT K H a (ns.map V.int) ∧ 0 < ns.length ∧ ∀ m, m ∈ ns → (∀ y, y ∈ ns → y ≤ m) → Q (.int m) H
theorem cr_maxT {X : Cx} (hc : X.calm = true) : CallR X (.builtin "max") (rMaxT X.K) := by
  intro pins s σ H vs us Q I r h
  obtain ⟨a, ns, rfl, hs, hne, q⟩ := h
  obtain ⟨its, rv, ht, _⟩ := I.tuple hs
  rw [Vals.ref1 r]
  have hi := rv.ints
  obtain ⟨xs, e⟩ := hi.allInts.items
  have hn : numsOf (intItems xs).toList = ns := by rw [← e]; exact hi.numsOf
  rw [nums_intItems] at hn
  subst hn
  rw [e] at ht
  have hsz : 0 < xs.size := by simpa using hne
  refine max_tup (I.ok.hd hc) ht hsz fun v h' tk hv hk => ?_
  obtain ⟨t, rfl⟩ := intItems_at hv
  obtain ⟨h1, h2⟩ := argBest_gt (numAt xs) (xs.size - 1)
  refine ⟨.int _, H, I.kept hk, ⟨_, rfl⟩, q _ ?_ fun a ha => ?_⟩
  · rw [numAt_eq]; exact PySem.getD_mem (by rw [List.length_map, Array.length_toList]; omega)
  · obtain ⟨j, hj, rfl⟩ := mem_getD ha
    rw [List.length_map, Array.length_toList] at hj
    rw [← numAt_eq]; exact h2 j (by omega)
theorem call_max3i {X : Cx} (hc : X.calm = true) : CallR X (.builtin "max") (fun xs H Q => ∃ i j k, xs = [.int i, .int j, .int k] ∧ Q (.int (if j > i then (if k > j then k else j) else (if k > i then k else i))) H) := by
  intro pins s σ H xs us Q I r h
  obtain ⟨i, j, k, rfl, q⟩ := h
  cases r with
  | cons r1 r2 =>
    obtain ⟨u2, u3, rfl, ⟨t2, rfl⟩, ⟨t3, rfl⟩⟩ := vals2 r2
    obtain ⟨t1, rfl⟩ := r1
    refine PySem.max_three_ints (I.ok.hd hc) fun h' tk kk => ⟨_, H, I.kept kk, ?_, q⟩
    by_cases h1 : j > i
    · rw [if_pos h1, if_pos h1]
      by_cases h2 : k > j
      · rw [if_pos h2, if_pos h2]; exact ⟨_, rfl⟩
      · rw [if_neg h2, if_neg h2]; exact ⟨_, rfl⟩
    · rw [if_neg h1, if_neg h1]
      by_cases h2 : k > i
      · rw [if_pos h2, if_pos h2]; exact ⟨_, rfl⟩
      · rw [if_neg h2, if_neg h2]; exact ⟨_, rfl⟩
section
open PySem
variable {prog : Program} {w : World} {A : Around} {E : Value → Shared → Prop} {s : Shared} {l : Addr} {xs : Array (Int × Tok)}
theorem min_tup {Q : Value → Shared → Prop} (hh : A.handled = none) (hl : s.heap.IsTuple l (intItems xs)) (hne : 0 < xs.size)
    (h : ∀ v h' tk, (intItems xs)[argBest (fun i j => decide (numAt xs i < numAt xs j)) (xs.size - 1)]? = some v → (∀ b o, s.heap.get? b = some o → h'.get? b = some o) → Q v { s with heap := h', toks := tk }) :
    wpAny (model prog w) A (call (.builtin "min") [.ref l]) Q E s := by
  have hlt : l < s.heap.objs.size := by obtain ⟨_, e, _⟩ := hl; exact Heap.lt_size e
  refine call_min_walk (wpAny_pyIter_tuple hl ?_)
  refine ⟨_, [_, l], [_], _, _, _, _, rfl, Walks.tuple (A := A.in1) hh _ l (Nat.ne_of_lt hlt) (intItems xs), ⟨⟨_, Heap.get?_push_size _ rfl, rfl, rfl⟩, hl.push _⟩, fun c hc => ?_, by simpa [intItems] using hne, CmpOf.ints_lt (numAt xs) (fun _ _ => intItems_at), fun v h' tk hP hk => ?_⟩
  · show c < (s.heap.push _).objs.size
    rw [Heap.size_push]
    rcases List.mem_cons.mp hc with rfl | hc
    · exact Nat.lt_succ_self _
    · rcases List.mem_cons.mp hc with rfl | hc
      · exact Nat.lt_succ_of_lt hlt
      · cases hc
  · refine h v h' tk (by simpa [intItems] using hP) fun c o e => hk c o (fun hm => ?_) (Heap.get?_push_of_some _ e)
    rcases List.mem_cons.mp hm with e1 | hm
    · exact absurd (e1 ▸ Heap.lt_size e) (Nat.lt_irrefl _)
    · cases hm
end
def rMinT (K : PySem.W.Frag) : List V → Hp → VK → Prop := fun vs H Q => ∃ (a : Addr) (ns : List Int), vs = [V.ref a] ∧ SqT K H a (ns.map V.int) ∧ 0 < ns.length ∧ ∀ m, m ∈ ns → (∀ y, y ∈ ns → m ≤ y) → Q (.int m) H
theorem cr_minT {X : Cx} (hc : X.calm = true) : CallR X (.builtin "min") (rMinT X.K) := by
  intro pins s σ H vs us Q I r h
  obtain ⟨a, ns, rfl, hs, hne, q⟩ := h
  obtain ⟨its, rv, ht, _⟩ := I.tuple hs
  rw [Vals.ref1 r]
  have hi := rv.ints
  obtain ⟨xs, e⟩ := hi.allInts.items
  have hn : numsOf (intItems xs).toList = ns := by rw [← e]; exact hi.numsOf
  rw [nums_intItems] at hn
  subst hn
  rw [e] at ht
  have hsz : 0 < xs.size := by simpa using hne
  refine min_tup (I.ok.hd hc) ht hsz fun v h' tk hv hk => ?_
  obtain ⟨t, rfl⟩ := intItems_at hv
  obtain ⟨h1, h2⟩ := argBest_lt (numAt xs) (xs.size - 1)
  refine ⟨.int _, H, I.kept hk, ⟨_, rfl⟩, q _ ?_ fun a ha => ?_⟩
  · rw [numAt_eq]; exact PySem.getD_mem (by rw [List.length_map, Array.length_toList]; omega)
  · obtain ⟨j, hj, rfl⟩ := mem_getD ha
    rw [List.length_map, Array.length_toList] at hj
    rw [← numAt_eq]; exact h2 j (by omega)
theorem call_min3i {X : Cx} (hc : X.calm = true) : CallR X (.builtin "min") (fun xs H Q => ∃ i j k, xs = [.int i, .int j, .int k] ∧ Q (.int (if j < i then (if k < j then k else j) else (if k < i then k else i))) H) := by
  intro pins s σ H xs us Q I r h
  obtain ⟨i, j, k, rfl, q⟩ := h
  cases r with
  | cons r1 r2 =>
    obtain ⟨u2, u3, rfl, ⟨t2, rfl⟩, ⟨t3, rfl⟩⟩ := vals2 r2
    obtain ⟨t1, rfl⟩ := r1
    refine PySem.min_three_ints (I.ok.hd hc) fun h' tk kk => ⟨_, H, I.kept kk, ?_, q⟩
    by_cases h1 : j < i
    · rw [if_pos h1, if_pos h1]
      by_cases h2 : k < j
      · rw [if_pos h2, if_pos h2]; exact ⟨_, rfl⟩
      · rw [if_neg h2, if_neg h2]; exact ⟨_, rfl⟩
    · rw [if_neg h1, if_neg h1]
      by_cases h2 : k < i
      · rw [if_pos h2, if_pos h2]; exact ⟨_, rfl⟩
      · rw [if_neg h2, if_neg h2]; exact ⟨_, rfl⟩
section
variable {K : PySem.W.Frag} {cl : Cl}
theorem rc_len : RcF K cl (fun xs H Q => ∃ x n, xs = [x] ∧ LenV K x H n ∧ Q (.int n) H) gLen := by
  intro G H vs ts z Q sm d e k
  unfold gLen at e
  split at e
  · cases e
    obtain ⟨x, rfl, dx⟩ := d.one
    obtain ⟨a, xs, rfl, s, dl⟩ := dx.lst_of
    exact ⟨_, _, rfl, .inl ⟨xs, sm.seq s, dl.len⟩, k G H _ sm Fr.refl (den_int _)⟩
  · cases e
    obtain ⟨x, rfl, dx⟩ := d.one
    obtain ⟨a, xs, rfl, s, dl⟩ := dx.tup_of
    exact ⟨_, _, rfl, .inr ⟨xs, same_seqT sm.same s, dl.len⟩, k G H _ sm Fr.refl (den_int _)⟩
  · split at e
    · rename_i x hl
      cases e
      obtain ⟨x, rfl, dx⟩ := d.one
      rw [dx.str_of]
      exact ⟨_, _, rfl, ⟨hl, rfl⟩, k G H _ sm Fr.refl (den_int _)⟩
    · cases e
  · cases e
theorem rc_all : RcF K cl (rAll K) gAll := by
  intro G H vs ts z Q sm d e k
  unfold gAll at e
  split at e
  · obtain ⟨bs, e1, rfl⟩ := Option.map_eq_some_iff.mp e
    rw [blsT_of e1] at d
    obtain ⟨x, rfl, dx⟩ := d.one
    obtain ⟨a, xs, rfl, s, dl⟩ := dx.lst_of
    rw [denL_bls dl] at s
    exact ⟨a, bs, rfl, sm.seq s, k G H _ sm Fr.refl (den_bl _)⟩
  · cases e
theorem rc_any : RcF K cl (rAny K) gAny := by
  intro G H vs ts z Q sm d e k
  unfold gAny at e
  split at e
  · obtain ⟨bs, e1, rfl⟩ := Option.map_eq_some_iff.mp e
    rw [blsT_of e1] at d
    obtain ⟨x, rfl, dx⟩ := d.one
    obtain ⟨a, xs, rfl, s, dl⟩ := dx.lst_of
    rw [denL_bls dl] at s
    exact ⟨a, bs, rfl, sm.seq s, k G H _ sm Fr.refl (den_bl _)⟩
  · cases e
def rSumT (K : PySem.W.Frag) : List V → Hp → VK → Prop := fun vs H Q => ∃ (a : Addr) (ns : List Int), vs = [V.ref a] ∧ SqT K H a (ns.map V.int) ∧ Q (.int ns.sum) H
theorem cr_sumT {X : Cx} (hc : X.calm = true) : CallR X (.builtin "sum") (rSumT X.K) := by
  intro pins s σ H vs us Q I r h
  obtain ⟨a, ns, rfl, hs, q⟩ := h
  obtain ⟨its, rv, ht, _⟩ := I.tuple hs
  rw [Vals.ref1 r]
  have hi := rv.ints
  obtain ⟨xs, hx⟩ := hi.allInts.items
  have hn : numsOf its.toArray.toList = ns := by rw [show its.toArray.toList = its from rfl, hi.numsOf]
  rw [hx] at ht hn
  rw [nums_intItems] at hn
  refine PySem.W.ktm_sumG (I.ok.hd hc) ht fun h' tk t' hk => ?_
  rw [preSum_eq, List.take_of_length_le (by simp), hn]
  exact ⟨.int _, H, I.kept hk, ⟨_, rfl⟩, q⟩
theorem callr_or {X : Cx} {f : Value} {r r' : List V → Hp → VK → Prop} (h : CallR X f r) (h' : CallR X f r') : CallR X f (fun vs H Q => r vs H Q ∨ r' vs H Q) := fun pins s σ H vs us Q I rv q =>
  q.elim (h pins s σ H vs us Q I rv) (h' pins s σ H vs us Q I rv)
theorem rc_sum : RcF K cl (fun vs H Q => rSum K vs H Q ∨ rSumT K vs H Q) gSum := by
  intro G H vs ts z Q sm d e k
  unfold gSum at e
  split at e
  · obtain ⟨ns, e1, rfl⟩ := Option.map_eq_some_iff.mp e
    rw [intsT_of e1] at d
    obtain ⟨x, rfl, dx⟩ := d.one
    obtain ⟨a, xs, rfl, s, dl⟩ := dx.lst_of
    rw [denL_ints dl] at s
    exact .inl ⟨a, ns, rfl, sm.seq s, k G H _ sm Fr.refl (den_int _)⟩
  · obtain ⟨ns, e1, rfl⟩ := Option.map_eq_some_iff.mp e
    rw [intsT_of e1] at d
    obtain ⟨x, rfl, dx⟩ := d.one
    obtain ⟨a, xs, rfl, s, dl⟩ := dx.tup_of
    rw [denL_ints dl] at s
    exact .inr ⟨a, ns, rfl, same_seqT sm.same s, k G H _ sm Fr.refl (den_int _)⟩
  · cases e
theorem rc_max : RcF K cl (fun vs H Q => rMax K vs H Q ∨ (rMaxT K vs H Q ∨ ((∃ i j, vs = [.int i, .int j] ∧ Q (.int (if j > i then j else i)) H) ∨ ∃ i j k, vs = [.int i, .int j, .int k] ∧ Q (.int (if j > i then (if k > j then k else j) else (if k > i then k else i))) H))) gMax := by
  intro G H vs ts z Q sm d e k
  unfold gMax at e
  split at e
  · obtain ⟨ns, e1, e2⟩ := Option.bind_eq_some_iff.mp e
    rw [intsT_of e1] at d
    obtain ⟨x, rfl, dx⟩ := d.one
    obtain ⟨a, xs, rfl, s, dl⟩ := dx.lst_of
    rw [denL_ints dl] at s
    split at e2
    · cases e2
    · rename_i hne
      cases e2
      refine .inl ⟨a, ns, rfl, sm.seq s, List.length_pos_iff.mpr hne, fun m hm hle => ?_⟩
      have : m = maxI ns := Int.le_antisymm (le_maxI hm) (hle _ (maxI_mem hne))
      rw [this]
      exact k G H _ sm Fr.refl (den_int _)
  · obtain ⟨ns, e1, e2⟩ := Option.bind_eq_some_iff.mp e
    rw [intsT_of e1] at d
    obtain ⟨x, rfl, dx⟩ := d.one
    obtain ⟨a, xs, rfl, s, dl⟩ := dx.tup_of
    rw [denL_ints dl] at s
    split at e2
    · cases e2
    · rename_i hne
      cases e2
      refine .inr (.inl ⟨a, ns, rfl, same_seqT sm.same s, List.length_pos_iff.mpr hne, fun m hm hle => ?_⟩)
      have : m = maxI ns := Int.le_antisymm (le_maxI hm) (hle _ (maxI_mem hne))
      rw [this]
      exact k G H _ sm Fr.refl (den_int _)
  · cases e
    obtain ⟨x, y, rfl, dx, dy⟩ := d.two
    rw [dx.int_of, dy.int_of]
    exact .inr (.inr (.inl ⟨_, _, rfl, k G H _ sm Fr.refl (den_int _)⟩))
  · cases e
    obtain ⟨x, y, z, rfl, dx, dy, dz⟩ := d.three
    rw [dx.int_of, dy.int_of, dz.int_of]
    exact .inr (.inr (.inr ⟨_, _, _, rfl, k G H _ sm Fr.refl (den_int _)⟩))
  · cases e
theorem rc_min : RcF K cl (fun vs H Q => rMin K vs H Q ∨ (rMinT K vs H Q ∨ ((∃ i j, vs = [.int i, .int j] ∧ Q (.int (if j < i then j else i)) H) ∨ ∃ i j k, vs = [.int i, .int j, .int k] ∧ Q (.int (if j < i then (if k < j then k else j) else (if k < i then k else i))) H))) gMin := by
  intro G H vs ts z Q sm d e k
  unfold gMin at e
  split at e
  · obtain ⟨ns, e1, e2⟩ := Option.bind_eq_some_iff.mp e
    rw [intsT_of e1] at d
    obtain ⟨x, rfl, dx⟩ := d.one
    obtain ⟨a, xs, rfl, s, dl⟩ := dx.lst_of
    rw [denL_ints dl] at s
    split at e2
    · cases e2
    · rename_i hne
      cases e2
      refine .inl ⟨a, ns, rfl, sm.seq s, List.length_pos_iff.mpr hne, fun m hm hle => ?_⟩
      have : m = minI ns := Int.le_antisymm (hle _ (minI_mem hne)) (minI_le hm)
      rw [this]
      exact k G H _ sm Fr.refl (den_int _)
  · obtain ⟨ns, e1, e2⟩ := Option.bind_eq_some_iff.mp e
    rw [intsT_of e1] at d
    obtain ⟨x, rfl, dx⟩ := d.one
    obtain ⟨a, xs, rfl, s, dl⟩ := dx.tup_of
    rw [denL_ints dl] at s
    split at e2
    · cases e2
    · rename_i hne
      cases e2
      refine .inr (.inl ⟨a, ns, rfl, same_seqT sm.same s, List.length_pos_iff.mpr hne, fun m hm hle => ?_⟩)
      have : m = minI ns := Int.le_antisymm (hle _ (minI_mem hne)) (minI_le hm)
      rw [this]
      exact k G H _ sm Fr.refl (den_int _)
  · cases e
    obtain ⟨x, y, rfl, dx, dy⟩ := d.two
    rw [dx.int_of, dy.int_of]
    exact .inr (.inr (.inl ⟨_, _, rfl, k G H _ sm Fr.refl (den_int _)⟩))
  · cases e
    obtain ⟨x, y, z, rfl, dx, dy, dz⟩ := d.three
    rw [dx.int_of, dy.int_of, dz.int_of]
    exact .inr (.inr (.inr ⟨_, _, _, rfl, k G H _ sm Fr.refl (den_int _)⟩))
  · cases e
theorem rc_abs : RcF K cl (fun xs H Q => ∃ i, xs = [.int i] ∧ Q (.int (if i < 0 then -i else i)) H) gAbs := by
  intro G H vs ts z Q sm d e k
  unfold gAbs at e
  split at e
  · cases e
    obtain ⟨x, rfl, dx⟩ := d.one
    rw [dx.int_of]
    exact ⟨_, rfl, k G H _ sm Fr.refl (den_int _)⟩
  · cases e
theorem rc_int1 : RcF K cl (fun xs H Q => (∃ i, xs = [.int i] ∧ Q (.int i) H) ∨ ∃ k, xs = [.bl k] ∧ Q (.int (if k then 1 else 0)) H) gInt1 := by
  intro G H vs ts z Q sm d e k
  unfold gInt1 at e
  split at e
  · cases e
    obtain ⟨x, rfl, dx⟩ := d.one
    rw [dx.int_of]
    exact .inl ⟨_, rfl, k G H _ sm Fr.refl (den_int _)⟩
  · cases e
    obtain ⟨x, rfl, dx⟩ := d.one
    rw [dx.bl_of]
    exact .inr ⟨_, rfl, k G H _ sm Fr.refl (den_int _)⟩
  · cases e
theorem rc_tuple : RcF K cl (fun xs H Q => ∃ p ys, xs = [.ref p] ∧ ((SqL K H p ys ∧ ∀ l, H l = none → Q (.ref l) (upd H l (.tup ys))) ∨ (SqT K H p ys ∧ Q (.ref p) H))) gTuple := by
  intro G H vs ts z Q sm d e k
  unfold gTuple at e
  split at e
  · cases e
    obtain ⟨x, rfl, dx⟩ := d.one
    obtain ⟨a, xs, rfl, s, dl⟩ := dx.lst_of
    exact ⟨a, xs, rfl, .inl ⟨sm.seq s, fun p hp => k _ _ _ (sm_upd2 sm hp) (Fr.frz hp sm) (den_tup (.inl (.inl upd_same)) (dl.mono (Fr.frz (A := NoA) hp sm).gg))⟩⟩
  · cases e
    obtain ⟨x, rfl, dx⟩ := d.one
    obtain ⟨a, xs, rfl, s, dl⟩ := dx.tup_of
    exact ⟨a, xs, rfl, .inr ⟨same_seqT sm.same s, k G H _ sm Fr.refl (den_tup s dl)⟩⟩
  · cases e
theorem rc_sorted : RcF K cl (rSortedI K) gSorted := by
  intro G H vs ts z Q sm d e k
  unfold gSorted at e
  split at e
  · obtain ⟨ns, e1, rfl⟩ := Option.map_eq_some_iff.mp e
    rw [intsT_of e1] at d
    obtain ⟨x, rfl, dx⟩ := d.one
    obtain ⟨a, xs, rfl, s, dl⟩ := dx.lst_of
    rw [denL_ints dl] at s
    refine ⟨a, ns, rfl, sm.seq s, fun ms p hp hs hf => ?_⟩
    rw [sortI_eq hp hs]
    exact k _ _ _ (sm_upd2 sm hf) (Fr.frz hf sm) (den_lst (.inl (.inl upd_same)) den_ints)
  · cases e
end
section
variable {S : SC}
theorem b_len : BltF S "len" gLen := ⟨⟨_, _, fun X h => by rw [← h.K]; exact call_len, rc_len, by decide +kernel, .inl ⟨_, rfl⟩⟩, by decide, by decide⟩
theorem b_all : BltF S "all" gAll := ⟨⟨_, _, fun X h => by rw [← h.K]; exact cr_all h.calm, rc_all, by decide +kernel, .inl ⟨_, rfl⟩⟩, by decide, by decide⟩
theorem b_any : BltF S "any" gAny := ⟨⟨_, _, fun X h => by rw [← h.K]; exact cr_any h.calm, rc_any, by decide +kernel, .inl ⟨_, rfl⟩⟩, by decide, by decide⟩
theorem b_sum : BltF S "sum" gSum := ⟨⟨_, _, fun X h => by rw [← h.K]; exact callr_or (cr_sum h.calm) (cr_sumT h.calm), rc_sum, by decide +kernel, .inl ⟨_, rfl⟩⟩, by decide, by decide⟩
theorem b_max : BltF S "max" gMax := ⟨⟨_, _, fun X h => by rw [← h.K]; exact callr_or (cr_max h.calm) (callr_or (cr_maxT h.calm) (callr_or (call_max2 h.calm) (call_max3i h.calm))), rc_max, by decide +kernel, .inl ⟨_, rfl⟩⟩, by decide, by decide⟩
theorem b_min : BltF S "min" gMin := ⟨⟨_, _, fun X h => by rw [← h.K]; exact callr_or (cr_min h.calm) (callr_or (cr_minT h.calm) (callr_or (call_min2 h.calm) (call_min3i h.calm))), rc_min, by decide +kernel, .inl ⟨_, rfl⟩⟩, by decide, by decide⟩
theorem b_abs : BltF S "abs" gAbs := ⟨⟨_, _, fun X h => call_abs, rc_abs, by decide +kernel, .inl ⟨_, rfl⟩⟩, by decide, by decide⟩
theorem b_int : BltF S "int" gInt1 := ⟨⟨_, _, fun X h => call_int1, rc_int1, by decide +kernel, .inr ⟨_, rfl⟩⟩, by decide, by decide⟩
theorem b_tuple : BltF S "tuple" gTuple := ⟨⟨_, _, fun X h => by rw [← h.K]; exact call_tuple_of, rc_tuple, by decide +kernel, .inr ⟨_, rfl⟩⟩, by decide, by decide⟩
theorem b_sorted : BltF S "sorted" gSorted := ⟨⟨_, _, fun X h => by rw [← h.K]; exact cr_sortedI, rc_sorted, by decide +kernel, .inl ⟨_, rfl⟩⟩, by decide, by decide⟩
end
end Fx
namespace Fx
open PySem PySem.Spec PyProof.Rows L2

inductive Out where
  | nx (ρ : Rho) | rt (r : Sl) (ρ : Rho) | bk (ρ : Rho) | ct (ρ : Rho) | rs (c : String) (x : Option Int) | stuck
def Out.bind (o : Out) (f : Rho → Out) : Out := match o with
  | .nx ρ => f ρ
  | .rt r ρ => .rt r ρ
  | .bk ρ => .bk ρ
  | .ct ρ => .ct ρ
  | .rs c x => .rs c x
  | .stuck => .stuck
def Rz.out {α : Type} (r : Rz α) (f : α → Rho → Out) : Out := match r with
  | .ok a ρ => f a ρ
  | .rs c x => .rs c x
  | .stuck => .stuck
@[simp] theorem Rz.out_ok {α : Type} {a : α} {ρ : Rho} {f : α → Rho → Out} : (Rz.ok a ρ).out f = f a ρ := byRfl rfl
@[simp] theorem Rz.out_rs {α : Type} {c : String} {x : Option Int} {f : α → Rho → Out} : (Rz.rs c x : Rz α).out f = .rs c x := byRfl rfl
@[simp] theorem Rz.out_stuck {α : Type} {f : α → Rho → Out} : (Rz.stuck : Rz α).out f = .stuck := byRfl rfl
@[simp] theorem Out.bind_nx {ρ : Rho} {f : Rho → Out} : (Out.nx ρ).bind f = f ρ := byRfl rfl
@[simp] theorem Out.bind_rt {r : Sl} {ρ : Rho} {f : Rho → Out} : (Out.rt r ρ).bind f = .rt r ρ := byRfl rfl
@[simp] theorem Out.bind_rs {c : String} {x : Option Int} {f : Rho → Out} : (Out.rs c x).bind f = .rs c x := byRfl rfl
@[simp] theorem Out.bind_stuck {f : Rho → Out} : Out.stuck.bind f = .stuck := byRfl rfl
@[simp] theorem Out.bind_bk {ρ : Rho} {f : Rho → Out} : (Out.bk ρ).bind f = .bk ρ := byRfl rfl
@[simp] theorem Out.bind_ct {ρ : Rho} {f : Rho → Out} : (Out.ct ρ).bind f = .ct ρ := byRfl rfl

section
variable (K : PySem.W.Frag) (cl : Cl) (W : WX) (pn : Bool)
structure After (A : Addr → Prop) (σ : L2.St) (G H : Hp) (ρ' : Rho) (σ' : L2.St) (G' H' : Hp) : Prop where
  rel : Rel K cl G' H' σ' ρ'
  fr : Fr A G H G' H'
  own : ∀ o, Own σ' ρ' o → A o ∨ Fs H o
  pin : pn = true → σ'[0]? = σ[0]?
def LandS (A : Addr → Prop) (σ : L2.St) (G H : Hp) (D : Ends) : Out → Prop
  | .nx ρ' => ∀ σ' G' H', After K cl pn A σ G H ρ' σ' G' H' → D.nx σ' H'
  | .bk ρ' => ∀ σ' G' H', After K cl pn A σ G H ρ' σ' G' H' → D.bk σ' H'
  | .ct ρ' => ∀ σ' G' H', After K cl pn A σ G H ρ' σ' G' H' → D.ct σ' H'
  | .rt (.va t) ρ' => ∀ σ' G' H' v, After K cl pn A σ G H ρ' σ' G' H' → Den K cl G' t v → D.rt v H'
  | .rt (.ow ts) ρ' => ∀ σ' G' H' p us, After K cl pn A σ G H ρ' σ' G' H' → (A p ∨ Fs H p) → ¬ Own σ' ρ' p → G' p = none → H' p = some (.lst us) → DenL K cl G' ts us → D.rt (.ref p) H'
  | .rt .no _ => False
  | .rs c x => ∀ σ' G' H' d, Fr A G H G' H' → XD cl x d H' → W (.ref (cl c)) d σ' H'
  | .stuck => False
def StF (t : TS) (ψ : Rho → Out) : Prop := ∀ A σ ρ G H D, Rel K cl G H σ ρ → (∀ o, Own σ ρ o → A o) → LandS K cl W pn A σ G H D (ψ ρ) → t D σ H
end
section
variable {K : PySem.W.Frag} {cl : Cl} {W : WX} {pn : Bool} {A : Addr → Prop} {σ σ1 : L2.St} {G H G1 H1 : Hp} {D : Ends} {ρ ρ1 : Rho}
theorem After.trans {σ2 : L2.St} {G2 H2 : Hp} {ρ2 : Rho} (a : After K cl pn A σ G H ρ1 σ1 G1 H1) (b : After K cl pn (fun p => A p ∨ Fs H p) σ1 G1 H1 ρ2 σ2 G2 H2) : After K cl pn A σ G H ρ2 σ2 G2 H2 where
  rel := b.rel
  fr := a.fr.trans b.fr fun _ z => z
  own := fun o z => (b.own o z).elim (fun z => z) fun z => .inr (a.fr.there o z)
  pin := fun e => (b.pin e).trans (a.pin e)
theorem LandS.step {o : Out} (h : LandS K cl W pn A σ G H D o) (a : After K cl pn A σ G H ρ1 σ1 G1 H1) : LandS K cl W pn (fun p => A p ∨ Fs H p) σ1 G1 H1 D o := by
  cases o with
  | nx ρ' => exact fun σ' G' H' b => h σ' G' H' (a.trans b)
  | bk ρ' => exact fun σ' G' H' b => h σ' G' H' (a.trans b)
  | ct ρ' => exact fun σ' G' H' b => h σ' G' H' (a.trans b)
  | rs c x => exact fun σ' G' H' d f xd => h σ' G' H' d (a.fr.trans f fun _ z => z) xd
  | stuck => exact h
  | rt r ρ' =>
    cases r with
    | no => exact h
    | va t => exact fun σ' G' H' v b d => h σ' G' H' v (a.trans b) d
    | ow ts => exact fun σ' G' H' p us b hp no gp hh d => h σ' G' H' p us (a.trans b) (hp.elim (fun z => z) fun z => .inr (a.fr.there p z)) no gp hh d
/-- an expression ends, the slots keep their objects -/
theorem After.ex (r : Rel K cl G H σ ρ) (hA : ∀ o, Own σ ρ o → A o) (r1 : Rel K cl G1 H1 σ ρ1) (f : Fr (Own σ ρ) G H G1 H1) (o : ∀ o, Own σ ρ1 o → Own σ ρ o) : After K cl pn A σ G H ρ1 σ G1 H1 :=
  ⟨r1, f.mono hA, fun p z => .inl (hA p (o p z)), fun _ => rfl⟩
theorem LandS.mono {A' : Addr → Prop} {o : Out} (h : LandS K cl W pn A' σ G H D o) (i : ∀ p, A p → A' p) : LandS K cl W pn A σ G H D o := by
  have af : ∀ {ρ' σ' G' H'}, After K cl pn A σ G H ρ' σ' G' H' → After K cl pn A' σ G H ρ' σ' G' H' := fun b => ⟨b.rel, b.fr.mono i, fun o z => (b.own o z).imp (i o) id, b.pin⟩
  cases o with
  | nx ρ' => exact fun σ' G' H' b => h σ' G' H' (af b)
  | bk ρ' => exact fun σ' G' H' b => h σ' G' H' (af b)
  | ct ρ' => exact fun σ' G' H' b => h σ' G' H' (af b)
  | rs c x => exact fun σ' G' H' d f xd => h σ' G' H' d (f.mono i) xd
  | stuck => exact h
  | rt r ρ' =>
    cases r with
    | no => exact h
    | va t => exact fun σ' G' H' v b d => h σ' G' H' v (af b) d
    | ow ts => exact fun σ' G' H' p us b hp no gp hh d => h σ' G' H' p us (af b) (hp.imp (i p) id) no gp hh d
/-- an expression, then what is made of it -/
theorem LandS.expr {α : Type} {r : Rz α} {f : α → Rho → Out} {Q : α → Rho → Hp → Hp → Prop} (re : Rel K cl G H σ ρ) (hA : ∀ o, Own σ ρ o → A o) (h : LandS K cl W pn A σ G H D (r.out f))
    (k : ∀ a ρ1 G1 H1, Rel K cl G1 H1 σ ρ1 → Fr (Own σ ρ) G H G1 H1 → (∀ o, Own σ ρ1 o → Own σ ρ o) → After K cl pn A σ G H ρ1 σ G1 H1 → LandS K cl W pn A σ G H D (f a ρ1) → Q a ρ1 G1 H1) : Lands K cl W σ ρ G H r Q := by
  cases r with
  | ok a ρ' => exact fun G1 H1 r1 f1 o1 => k a ρ' G1 H1 r1 f1 o1 (After.ex re hA r1 f1 o1) h
  | rs c x => exact fun G' H' d f xd => h σ G' H' d (f.mono hA) xd
  | stuck => exact h

theorem getElem?_set' {α : Type} {l : List α} {i j : Nat} {a b : α} (h : (l.set i a)[j]? = some b) : (i = j ∧ a = b ∧ i < l.length) ∨ (i ≠ j ∧ l[j]? = some b) := by
  by_cases e : i = j
  · subst e
    by_cases hi : i < l.length
    · rw [List.getElem?_set_self hi] at h; cases h; exact .inl ⟨rfl, rfl, hi⟩
    · rw [List.getElem?_eq_none (by simpa using hi)] at h; cases h
  · rw [List.getElem?_set_ne e] at h; exact .inr ⟨e, h⟩
theorem own_set {i : Nat} {t : T} {v : Option V} {o : Addr} (h : Own (σ.set i v) (ρ.set i (.va t)) o) : Own σ ρ o := by
  obtain ⟨j, ts, e1, e2⟩ := h
  rcases getElem?_set' e1 with ⟨_, z, _⟩ | ⟨ne, e1⟩
  · cases z
  · rw [List.getElem?_set_ne ne] at e2
    exact ⟨j, ts, e1, e2⟩
theorem rel_set_va {i : Nat} {t : T} {v : V} (r : Rel K cl G H σ ρ) (d : Den K cl G t v) : Rel K cl G H (σ.set i (some v)) (ρ.set i (.va t)) where
  same := r.same
  len := by simp [r.len]
  va := fun j u h => by
    rcases getElem?_set' h with ⟨rfl, z, hi⟩ | ⟨ne, h⟩
    · cases z
      exact ⟨v, List.getElem?_set_self (by rw [← r.len]; exact hi), d⟩
    · obtain ⟨w, e, dw⟩ := r.va j u h
      exact ⟨w, by rw [List.getElem?_set_ne ne]; exact e, dw⟩
  ow := fun j us h => by
    rcases getElem?_set' h with ⟨rfl, z, hi⟩ | ⟨ne, h⟩
    · cases z
    · obtain ⟨o, vs, e, q⟩ := r.ow j us h
      exact ⟨o, vs, by rw [List.getElem?_set_ne ne]; exact e, q⟩
  ap := fun j l us ws o h1 h2 e1 e2 => by
    rcases getElem?_set' h1 with ⟨_, z, _⟩ | ⟨ne1, h1⟩
    · cases z
    rcases getElem?_set' h2 with ⟨_, z, _⟩ | ⟨ne2, h2⟩
    · cases z
    rw [List.getElem?_set_ne ne1] at e1
    rw [List.getElem?_set_ne ne2] at e2
    exact r.ap j l us ws o h1 h2 e1 e2
theorem rel_set_ow {i : Nat} {ts : List T} {p : Addr} {us : List V} (r : Rel K cl G H σ ρ) (gp : G p = none) (hp : H p = some (.lst us)) (d : DenL K cl G ts us) (no : ¬ Own σ ρ p) : Rel K cl G H (σ.set i (some (.ref p))) (ρ.set i (.ow ts)) where
  same := r.same
  len := by simp [r.len]
  va := fun j u h => by
    rcases getElem?_set' h with ⟨rfl, z, hi⟩ | ⟨ne, h⟩
    · cases z
    · obtain ⟨w, e, dw⟩ := r.va j u h
      exact ⟨w, by rw [List.getElem?_set_ne ne]; exact e, dw⟩
  ow := fun j us' h => by
    rcases getElem?_set' h with ⟨rfl, z, hi⟩ | ⟨ne, h⟩
    · cases z
      exact ⟨p, us, List.getElem?_set_self (by rw [← r.len]; exact hi), gp, hp, d⟩
    · obtain ⟨o, vs, e, q⟩ := r.ow j us' h
      exact ⟨o, vs, by rw [List.getElem?_set_ne ne]; exact e, q⟩
  ap := fun j l us ws o h1 h2 e1 e2 => by
    rcases getElem?_set' h1 with ⟨z1, _, i1⟩ | ⟨ne1, h1⟩
    · rcases getElem?_set' h2 with ⟨z2, _, _⟩ | ⟨ne2, h2⟩
      · exact z1.symm.trans z2
      · subst z1
        rw [List.getElem?_set_self (by rw [← r.len]; exact i1)] at e1
        cases e1
        rw [List.getElem?_set_ne ne2] at e2
        exact absurd ⟨l, ws, h2, e2⟩ no
    · rw [List.getElem?_set_ne ne1] at e1
      rcases getElem?_set' h2 with ⟨z2, _, i2⟩ | ⟨ne2, h2⟩
      · subst z2
        rw [List.getElem?_set_self (by rw [← r.len]; exact i2)] at e2
        cases e2
        exact absurd ⟨j, us, h1, e1⟩ no
      · rw [List.getElem?_set_ne ne2] at e2
        exact r.ap j l us ws o h1 h2 e1 e2
theorem own_set_ow {i : Nat} {ts : List T} {p o : Addr} (h : Own (σ.set i (some (.ref p))) (ρ.set i (.ow ts)) o) (hl : ρ.length = σ.length) : o = p ∨ Own σ ρ o := by
  obtain ⟨j, us, e1, e2⟩ := h
  rcases getElem?_set' e1 with ⟨rfl, _, hi⟩ | ⟨ne, e1⟩
  · rw [List.getElem?_set_self (by rw [← hl]; exact hi)] at e2
    cases e2; exact .inl rfl
  · rw [List.getElem?_set_ne ne] at e2
    exact .inr ⟨j, us, e1, e2⟩
/-- an owned list changes in its place -/
theorem rel_mut {i : Nat} {ts ts' : List T} {o : Addr} {us : List V} (r : Rel K cl G H σ ρ) (h : ρ[i]? = some (.ow ts)) (e : σ[i]? = some (some (.ref o))) (d : DenL K cl G ts' us) : Rel K cl G (upd H o (.lst us)) σ (ρ.set i (.ow ts')) where
  same := by obtain ⟨o', us', e', g, hh, _⟩ := r.ow i ts h; rw [e] at e'; cases e'; exact sm_mut r.same g hh
  len := by simp [r.len]
  va := fun j u q => by
    rcases getElem?_set' q with ⟨rfl, z, hi⟩ | ⟨ne, q⟩
    · cases z
    · exact r.va j u q
  ow := fun j us' q => by
    rcases getElem?_set' q with ⟨rfl, z, hi⟩ | ⟨ne, q⟩
    · cases z
      obtain ⟨o', _, e', g, _⟩ := r.ow i ts h
      rw [e] at e'; cases e'
      exact ⟨o, us, e, g, upd_same, d⟩
    · obtain ⟨o2, vs, e2, g2, h2, d2⟩ := r.ow j us' q
      refine ⟨o2, vs, e2, g2, ?_, d2⟩
      rw [upd_ne (fun z => ne (r.ap i j ts us' o h q e (by rw [← z]; exact e2)))]
      exact h2
  ap := fun j l us ws o' h1 h2 e1 e2 => by
    have f : ∀ {j : Nat} {us : List T}, (ρ.set i (.ow ts'))[j]? = some (.ow us) → ∃ us, ρ[j]? = some (.ow us) := fun {j us} q => by
      rcases getElem?_set' q with ⟨rfl, _, _⟩ | ⟨_, q⟩
      · exact ⟨_, h⟩
      · exact ⟨_, q⟩
    obtain ⟨_, q1⟩ := f h1
    obtain ⟨_, q2⟩ := f h2
    exact r.ap j l _ _ o' q1 q2 e1 e2
theorem own_mut {i : Nat} {ts ts' : List T} {o : Addr} (h : ρ[i]? = some (.ow ts)) (q : Own σ (ρ.set i (.ow ts')) o) : Own σ ρ o := by
  obtain ⟨j, us, e1, e2⟩ := q
  rcases getElem?_set' e1 with ⟨rfl, _, _⟩ | ⟨_, e1⟩
  · exact ⟨_, _, h, e2⟩
  · exact ⟨j, us, e1, e2⟩
/-- an owned list given up -/
theorem rel_drop {i : Nat} {s : Sl} (r : Rel K cl G H σ ρ) (hs : s = .no) : Rel K cl G H σ (ρ.set i s) where
  same := r.same
  len := by simp [r.len]
  va := fun j u q => by
    rcases getElem?_set' q with ⟨rfl, z, hi⟩ | ⟨ne, q⟩
    · rw [hs] at z; cases z
    · exact r.va j u q
  ow := fun j us' q => by
    rcases getElem?_set' q with ⟨rfl, z, hi⟩ | ⟨ne, q⟩
    · rw [hs] at z; cases z
    · exact r.ow j us' q
  ap := fun j l us ws o' h1 h2 e1 e2 => by
    rcases getElem?_set' h1 with ⟨rfl, z, hi⟩ | ⟨_, q1⟩
    · rw [hs] at z; cases z
    rcases getElem?_set' h2 with ⟨rfl, z, hi⟩ | ⟨_, q2⟩
    · rw [hs] at z; cases z
    exact r.ap j l _ _ o' q1 q2 e1 e2
theorem own_drop {i : Nat} {s : Sl} {o : Addr} (hs : s = .no) (q : Own σ (ρ.set i s) o) : Own σ ρ o := by
  obtain ⟨j, us, e1, e2⟩ := q
  rcases getElem?_set' e1 with ⟨rfl, z, _⟩ | ⟨_, e1⟩
  · rw [hs] at z; cases z
  · exact ⟨j, us, e1, e2⟩
end

/-! ### statements -/
def PSF (S : SC) (st : Stmt) (ψ : Rho → Out) : Prop := ∃ t, (∀ X, S.Is X → PS X st t) ∧ StF S.K S.cl S.W S.pn t ψ
def PSsF (S : SC) (st : List Stmt) (ψ : Rho → Out) : Prop := ∃ t, (∀ X, S.Is X → PSs X st t) ∧ StF S.K S.cl S.W S.pn t ψ
def sNext : Rho → Out := fun ρ => .nx ρ
def sSeq (a b : Rho → Out) : Rho → Out := fun ρ => (a ρ).bind b
section
variable {S : SC} {st : Stmt} {rest : List Stmt} {ψ ψ2 : Rho → Out} {e : Expr} {φ : Rho → Rz T} {pos : Pos}
theorem after_refl {K : PySem.W.Frag} {cl : Cl} {pn : Bool} {A : Addr → Prop} {σ : L2.St} {G H : Hp} {ρ : Rho} (re : Rel K cl G H σ ρ) (hA : ∀ o, Own σ ρ o → A o) : After K cl pn A σ G H ρ σ G H := ⟨re, Fr.refl, fun o z => .inl (hA o z), fun _ => rfl⟩
theorem pss_nil' : PSsF S [] sNext := ⟨tNext, fun X hX => pss_nil, fun A σ ρ G H D re hA h => h σ G H (after_refl re hA)⟩
theorem pss_cons' (h1 : PSF S st ψ) (h2 : PSsF S rest ψ2) : PSsF S (st :: rest) (sSeq ψ ψ2) := by
  obtain ⟨t, h1, e1⟩ := h1
  obtain ⟨u, h2, e2⟩ := h2
  refine ⟨tSeq t u, fun X hX => pss_cons (h1 X hX) (h2 X hX), fun A σ ρ G H D re hA h => ?_⟩
  refine e1 A σ ρ G H { D with nx := u D } re hA ?_
  unfold sSeq at h
  cases q : ψ ρ with
  | nx ρ1 =>
    rw [q] at h
    have h : LandS S.K S.cl S.W S.pn A σ G H D (ψ2 ρ1) := h
    exact fun σ1 G1 H1 a => e2 _ σ1 ρ1 G1 H1 D a.rel a.own (h.step a)
  | rt r ρ1 => rw [q] at h; cases r <;> exact h
  | bk ρ1 => rw [q] at h; exact h
  | ct ρ1 => rw [q] at h; exact h
  | rs c x => rw [q] at h; exact h
  | stuck => rw [q] at h; exact h
theorem pss_one' (h1 : PSF S st ψ) : PSsF S [st] ψ := let ⟨t, h, e⟩ := h1; ⟨t, fun X hX => pss_one (h X hX), e⟩
theorem psf_pass : PSF S (.Pass pos) sNext := ⟨tNext, fun X hX => ps_pass, fun A σ ρ G H D re hA h => h σ G H (after_refl re hA)⟩
def sBreak : Rho → Out := fun ρ => .bk ρ
def sCont : Rho → Out := fun ρ => .ct ρ
theorem psf_break : PSF S (.Break pos) sBreak := ⟨tBreak, fun X hX => ps_break, fun A σ ρ G H D re hA h => h σ G H (after_refl re hA)⟩
theorem psf_continue : PSF S (.Continue pos) sCont := ⟨tCont, fun X hX => ps_continue, fun A σ ρ G H D re hA h => h σ G H (after_refl re hA)⟩
/-- an expression alone -/
def sDrop (φ : Rho → Rz T) : Rho → Out := fun ρ => (φ ρ).out fun _ ρ1 => .nx ρ1
theorem psf_expr (he : PEF S e φ) (hs : ∀ X : Cx, swapsWith e none pos.line X.env = pure false := by intro _; rfl) : PSF S (.Expr e pos) (sDrop φ) := by
  obtain ⟨te, he, ev⟩ := he
  exact ⟨tDrop te, fun X hX => ps_expr (he X hX) (hs X), fun A σ ρ G H D re hA h => ev σ ρ G H _ re (LandS.expr re hA h fun a ρ1 G1 H1 r1 f1 o1 af h1 v d => h1 σ G1 H1 af)⟩
/-- name = value -/
def sSet (i : Nat) (φ : Rho → Rz T) : Rho → Out := fun ρ => (φ ρ).out fun t ρ1 => .nx (ρ1.set i (.va t))
theorem after_set {K : PySem.W.Frag} {cl : Cl} {pn : Bool} {A : Addr → Prop} {σ σ1 : L2.St} {G H G1 H1 : Hp} {ρ1 : Rho} {i : Nat} {t : T} {v : V} (af : After K cl pn A σ G H ρ1 σ1 G1 H1) (d : Den K cl G1 t v) (hi : pn = true → i ≠ 0) :
    After K cl pn A σ G H (ρ1.set i (.va t)) (σ1.set i (some v)) G1 H1 :=
  ⟨rel_set_va af.rel d, af.fr, fun o z => af.own o (own_set z), fun e => by rw [List.getElem?_set_ne (hi e)]; exact af.pin e⟩
theorem psf_set {i : Nat} {x : Str} {pos' : Pos} (hN : S.N.Nodup) (hi : S.N[i]? = some x) (hx : S.sc.names.lookup x = some .local ∨ S.sc.names.lookup x = some .cell) (he : PEF S e φ) (hp : S.pn = true → i ≠ 0) (hf : S.cf x = true)
    (hs : ∀ env : Env, env.scope = S.sc → swapsWith e (some (.Name x pos')) pos.line env = pure false := by intro _ _; rfl) : PSF S (.Assign [.Name x pos'] e pos) (sSet i φ) := by
  obtain ⟨te, he, ev⟩ := he
  refine ⟨_, fun X hX => ps_set (i := i) (by rw [hX.N]; exact hN) (by rw [hX.N]; exact hi) (by rw [hX.sc]; exact hx) (he X hX) (hs X.env hX.sc) (.inl (by rw [hX.fn]; exact hf)), fun A σ ρ G H D re hA h => ?_⟩
  exact ev σ ρ G H _ re (LandS.expr re hA h fun a ρ1 G1 H1 r1 f1 o1 af h1 v d => h1 _ G1 H1 (after_set af d hp))
/-- name = a new list of one's own -/
def sSetO (i : Nat) (φ : Rho → Rz (List T)) : Rho → Out := fun ρ => (φ ρ).out fun t ρ1 => .nx (ρ1.set i (.ow t))
theorem after_setO {K : PySem.W.Frag} {cl : Cl} {pn : Bool} {A : Addr → Prop} {σ σ1 : L2.St} {G H G1 H1 : Hp} {ρ1 : Rho} {i : Nat} {ts : List T} {p : Addr} {us : List V} (af : After K cl pn A σ G H ρ1 σ1 G1 H1) (hp : Fs H p) (gp : G1 p = none) (hh : H1 p = some (.lst us))
    (d : DenL K cl G1 ts us) (no : ¬ Own σ1 ρ1 p) (hi : pn = true → i ≠ 0) : After K cl pn A σ G H (ρ1.set i (.ow ts)) (σ1.set i (some (.ref p))) G1 H1 :=
  ⟨rel_set_ow af.rel gp hh d no, af.fr, fun o z => (own_set_ow z af.rel.len).elim (fun z => .inr (by rw [z]; exact hp)) (af.own o), fun e => by rw [List.getElem?_set_ne (hi e)]; exact af.pin e⟩
theorem psf_setO {i : Nat} {x : Str} {pos' : Pos} {φ : Rho → Rz (List T)} (hN : S.N.Nodup) (hi : S.N[i]? = some x) (hx : S.sc.names.lookup x = some .local ∨ S.sc.names.lookup x = some .cell) (he : POF S e φ) (hp : S.pn = true → i ≠ 0) (hf : S.cf x = true)
    (hs : ∀ env : Env, env.scope = S.sc → swapsWith e (some (.Name x pos')) pos.line env = pure false := by intro _ _; rfl) : PSF S (.Assign [.Name x pos'] e pos) (sSetO i φ) := by
  obtain ⟨te, he, ev⟩ := he
  refine ⟨_, fun X hX => ps_set (i := i) (by rw [hX.N]; exact hN) (by rw [hX.N]; exact hi) (by rw [hX.sc]; exact hx) (he X hX) (hs X.env hX.sc) (.inl (by rw [hX.fn]; exact hf)), fun A σ ρ G H D re hA h => ?_⟩
  refine ev σ ρ G H _ re (LandS.expr re hA h fun a ρ1 G1 H1 r1 f1 o1 af h1 p us hp' gp hh d => h1 _ G1 H1 (after_setO af hp' gp hh d (fun z => ?_) hp))
  obtain ⟨us', z1, _⟩ := re.own_some (o1 p z)
  exact hp'.lst z1
/-- return -/
def sRet (φ : Rho → Rz T) : Rho → Out := fun ρ => (φ ρ).out fun t ρ1 => .rt (.va t) ρ1
theorem psf_ret (he : PEF S e φ) : PSF S (.Return (some e) pos) (sRet φ) := by
  obtain ⟨te, he, ev⟩ := he
  exact ⟨tRet te, fun X hX => ps_ret (he X hX), fun A σ ρ G H D re hA h => ev σ ρ G H _ re (LandS.expr re hA h fun a ρ1 G1 H1 r1 f1 o1 af h1 v d => h1 σ G1 H1 v af d)⟩
def sRetO (φ : Rho → Rz (List T)) : Rho → Out := fun ρ => (φ ρ).out fun t ρ1 => .rt (.ow t) ρ1
theorem psf_retO {φ : Rho → Rz (List T)} (he : POF S e φ) : PSF S (.Return (some e) pos) (sRetO φ) := by
  obtain ⟨te, he, ev⟩ := he
  refine ⟨tRet te, fun X hX => ps_ret (he X hX), fun A σ ρ G H D re hA h => ev σ ρ G H _ re (LandS.expr re hA h fun a ρ1 G1 H1 r1 f1 o1 af h1 p us hp gp hh d => h1 σ G1 H1 p us af (.inr hp) (fun z => ?_) gp hh d)⟩
  obtain ⟨us', z1, _⟩ := re.own_some (o1 p z)
  exact hp.lst z1
/-- return a list of one's own -/
def sRetMv (i : Nat) : Rho → Out := fun ρ => match ρ[i]? with
  | some (.ow ts) => .rt (.ow ts) (ρ.set i .no)
  | _ => .stuck
theorem psf_retMv (i : Nat) {x : Str} {pos' : Pos} (hN : S.N[i]? = some x) (hv : VisS S.sc x = true) (hd : (x == ("__debug__" : Str)) = false := by decide) (hcd : (x == ("__classdict__" : Str)) = false := by decide) : PSF S (.Return (some (.Name x pos')) pos) (sRetMv i) := by
  refine ⟨_, fun X hX => ps_ret (pe_var (i := i) (by rw [hX.N]; exact hN) (by rw [hX.sc]; exact vis_of hv) hd hcd), fun A σ ρ G H D re hA h => ?_⟩
  unfold sRetMv at h
  split at h
  · rename_i ts e
    obtain ⟨o, us, e1, g, hh, d⟩ := re.ow i ts e
    refine ⟨.ref o, e1, h σ G H o us ⟨rel_drop re rfl, Fr.refl, fun p z => .inl (hA p (own_drop rfl z)), fun _ => rfl⟩ (.inl (hA o ⟨i, ts, e, e1⟩)) ?_ g hh d⟩
    rintro ⟨j, ws, q1, q2⟩
    rcases getElem?_set' q1 with ⟨_, z, _⟩ | ⟨ne, q1⟩
    · cases z
    · exact ne (re.ap i j ts ws o e q1 e1 q2)
  · exact h.elim
def sRetN : Rho → Out := fun ρ => .rt (.va .non) ρ
theorem psf_retN : PSF S (.Return none pos) sRetN := ⟨tRetN, fun X hX => ps_retN, fun A σ ρ G H D re hA h => h σ G H .non (after_refl re hA) den_non⟩
/-- if -/
def sIf (t : Rho → Rz Bool) (a b : Rho → Out) : Rho → Out := fun ρ => (t ρ).out fun c ρ1 => if c then a ρ1 else b ρ1
theorem psf_if {c : Expr} {a b : List Stmt} {φt : Rho → Rz Bool} {ψa ψb : Rho → Out} (hc : PTF S c φt) (ha : PSsF S a ψa) (hb : PSsF S b ψb) : PSF S (.If c a b pos) (sIf φt ψa ψb) := by
  obtain ⟨tc, hc, ec⟩ := hc
  obtain ⟨ta, ha, ea⟩ := ha
  obtain ⟨tb, hb, eb⟩ := hb
  refine ⟨_, fun X hX => ps_if (hc X hX) (ha X hX) (hb X hX), fun A σ ρ G H D re hA h => ?_⟩
  refine ec σ ρ G H _ re (LandS.expr re hA h fun x ρ1 G1 H1 r1 f1 o1 af h1 => ?_)
  have h2 := LandS.step h1 af
  cases x with
  | true => rw [if_pos rfl] at h2 ⊢; exact ea _ σ ρ1 G1 H1 D r1 af.own h2
  | false => rw [if_neg Bool.false_ne_true] at h2 ⊢; exact eb _ σ ρ1 G1 H1 D r1 af.own h2
/-- a frozen view of an owned slot from here on -/
def sFrz (i : Nat) (ψ : Rho → Out) : Rho → Out := fun ρ => match ρ[i]? with
  | some (.ow ts) => ψ (ρ.set i (.va (.lst ts)))
  | _ => .stuck
end
section
variable {K : PySem.W.Frag} {cl : Cl} {W : WX} {pn : Bool} {A : Addr → Prop} {σ : L2.St} {G H : Hp} {D : Ends} {ρ : Rho}
theorem rel_frz {i : Nat} {ts : List T} {o : Addr} {us : List V} (re : Rel K cl G H σ ρ) (e : ρ[i]? = some (.ow ts)) (e1 : σ[i]? = some (some (.ref o))) (g : G o = none) (hh : H o = some (.lst us)) (d : DenL K cl G ts us) :
    Rel K cl (upd G o (.lst us)) H σ (ρ.set i (.va (.lst ts))) where
  same := sm_frz re.same hh noTb_lst
  len := by simp [re.len]
  va := fun j u q => by
    rcases getElem?_set' q with ⟨rfl, z, hi⟩ | ⟨ne, q⟩
    · cases z
      exact ⟨_, e1, den_lst (.inl (.inl upd_same)) (d.mono (same_upd g))⟩
    · obtain ⟨v, e2, d2⟩ := re.va j u q
      exact ⟨v, e2, d2.mono (same_upd g)⟩
  ow := fun j us' q => by
    rcases getElem?_set' q with ⟨rfl, z, hi⟩ | ⟨ne, q⟩
    · cases z
    · obtain ⟨o2, vs, e2, g2, h2, d2⟩ := re.ow j us' q
      refine ⟨o2, vs, e2, ?_, h2, d2.mono (same_upd g)⟩
      rw [upd_ne (fun z => ne (re.ap i j ts us' o e q e1 (by rw [← z]; exact e2)))]
      exact g2
  ap := fun j l us ws o' h1 h2 q1 q2 => by
    rcases getElem?_set' h1 with ⟨rfl, z, hi⟩ | ⟨_, h1⟩
    · cases z
    rcases getElem?_set' h2 with ⟨rfl, z, hi⟩ | ⟨_, h2⟩
    · cases z
    exact re.ap j l us ws o' h1 h2 q1 q2
theorem own_frz {i : Nat} {t : T} {o : Addr} (q : Own σ (ρ.set i (.va t)) o) : Own σ ρ o := by
  obtain ⟨j, us, e1, e2⟩ := q
  rcases getElem?_set' e1 with ⟨rfl, z, _⟩ | ⟨_, e1⟩
  · cases z
  · exact ⟨j, us, e1, e2⟩
theorem stf_frz {i : Nat} {t : TS} {ψ : Rho → Out} (h : StF K cl W pn t ψ) : StF K cl W pn t (sFrz i ψ) := by
  intro A σ ρ G H D re hA hl
  unfold sFrz at hl
  split at hl
  · rename_i ts e
    obtain ⟨o, us, e1, g, hh, d⟩ := re.ow i ts e
    refine h A σ _ (upd G o (.lst us)) H D (rel_frz re e e1 g hh d) (fun p z => hA p (own_frz z)) ?_
    -- from the start with o frozen: every end is an end from the start as it was
    have back : ∀ {ρ' σ' G' H'}, After K cl pn A σ (upd G o (.lst us)) H ρ' σ' G' H' → After K cl pn A σ G H ρ' σ' G' H' := fun {ρ' σ' G' H'} b => by
      refine ⟨b.rel, ⟨(same_upd g).trans b.fr.gg, b.fr.keep, fun p x q n => ?_, b.fr.there⟩, b.own, b.pin⟩
      by_cases hp : p = o
      · exact .inr (by rw [hp]; exact hA o ⟨i, ts, e, e1⟩)
      · exact b.fr.new p x q (by rw [upd_ne hp]; exact n)
    have backf : ∀ {G' H'}, Fr A (upd G o (.lst us)) H G' H' → Fr A G H G' H' := fun {G' H'} f => by
      refine ⟨(same_upd g).trans f.gg, f.keep, fun p x q n => ?_, f.there⟩
      by_cases hp : p = o
      · exact .inr (by rw [hp]; exact hA o ⟨i, ts, e, e1⟩)
      · exact f.new p x q (by rw [upd_ne hp]; exact n)
    cases q : ψ (ρ.set i (.va (.lst ts))) with
    | nx ρ' => rw [q] at hl; exact fun σ' G' H' b => hl σ' G' H' (back b)
    | bk ρ' => rw [q] at hl; exact fun σ' G' H' b => hl σ' G' H' (back b)
    | ct ρ' => rw [q] at hl; exact fun σ' G' H' b => hl σ' G' H' (back b)
    | rs c x => rw [q] at hl; exact fun σ' G' H' d f xd => hl σ' G' H' d (backf f) xd
    | stuck => rw [q] at hl; exact hl
    | rt r ρ' =>
      rw [q] at hl
      cases r with
      | no => exact hl
      | va t => exact fun σ' G' H' v b d => hl σ' G' H' v (back b) d
      | ow ts => exact fun σ' G' H' p us b hp no gp hh d => hl σ' G' H' p us (back b) hp no gp hh d
  · exact hl.elim
end
theorem pss_frz {S : SC} (i : Nat) {rest : List Stmt} {ψ : Rho → Out} (h : PSsF S rest ψ) : PSsF S rest (sFrz i ψ) := let ⟨t, h, e⟩ := h; ⟨t, h, stf_frz e⟩
theorem psf_frz {S : SC} (i : Nat) {st : Stmt} {ψ : Rho → Out} (h : PSF S st ψ) : PSF S st (sFrz i ψ) := let ⟨t, h, e⟩ := h; ⟨t, h, stf_frz e⟩
end Fx
namespace Fx
open PySem PySem.Spec PyProof.Rows L2

/-! ### enumerate of a tuple -/
theorem meets_enum1 {v : Value} {o : Obj} {H : Heap → Prop} (B : Begins v o H) :
    Meets (Builtin.«enumerate.__new__» ⟨[.type "enumerate", v], []⟩) (fun _ R s => H s.heap ∧
      R (.ok (.ret (.ref (s.heap.push o).objs.size))) { s with heap := (s.heap.push o).push { cls := .type "enumerate", data := .fields #[.none, .bool false, .ref s.heap.objs.size, rawInt 0, .none, .none] } }) :=
  .of_wp fun prog w A R s h => by
    obtain ⟨hp, g, d, tk, os⟩ := s
    obtain ⟨h1, h⟩ := h
    have hsub := sub_enumerate
    have q1 : ∀ {A' : Around} {E : Value → Shared → Prop} {Q : Value → Shared → Prop}, Q (.ref hp.objs.size) ⟨hp.push o, g, d, tk, os⟩ → wpAny (model prog w) A' (pyIter v) Q E ⟨hp, g, d, tk, os⟩ :=
      fun q => B.iter prog w _ _ ⟨hp, g, d, tk, os⟩ _ h1 q
    wp_walk using q1
    refine wpAny_stack_any fun st => ?_
    refine wpAny_pure ?_
    split
    · rename_i c _ _ _ _ _
      cases (c == Value.type "enumerate") <;> (wp_walk using q1; exact ⟨_, rfl, h⟩)
    · wp_walk using q1
      exact ⟨_, rfl, h⟩
theorem call_enum1 {prog : Program} {w : World} {A : Around} {E : Value → Shared → Prop} {s : Shared} {v : Value} {o : Obj} {H : Heap → Prop} {Q : Value → Shared → Prop} (B : Begins v o H) (h1 : H s.heap)
    (h : ∀ h', IsEnum h' (s.heap.objs.size + 1) s.heap.objs.size 0 .none → h'.get? s.heap.objs.size = some o → (∀ b o, s.heap.get? b = some o → h'.get? b = some o) → Q (.ref (s.heap.objs.size + 1)) { s with heap := h' }) :
    wpAny (model prog w) A (call (.type "enumerate") [v]) Q E s := by
  refine callType_new F.called_enumerate (by decide) (F.typeCall_enumerate_1 _) (F.newCall_enumerate_1 _) (fun obj => F.args_object_init_2 obj _) F.entry_enumerate_new (meets_enum1 B) ⟨h1, ?_⟩
  have hz : (s.heap.push o).objs.size = s.heap.objs.size + 1 := Heap.size_push ..
  have he : IsEnum ((s.heap.push o).push { cls := .type "enumerate", data := .fields #[.none, .bool false, .ref s.heap.objs.size, rawInt 0, .none, .none] }) (s.heap.objs.size + 1) s.heap.objs.size 0 .none := by
    have z := Heap.get?_push_size (s.heap.push o) (o := { cls := .type "enumerate", data := .fields #[.none, .bool false, .ref s.heap.objs.size, rawInt 0, .none, .none] }) rfl
    rw [hz] at z
    exact z
  show _ ∧ _
  rw [hz]
  exact ⟨⟨_, he, rfl⟩, h _ he (Heap.get?_push_of_some _ (Heap.get?_push_size _ B.free)) fun b o x => Heap.get?_push_of_some _ (Heap.get?_push_of_some _ x)⟩
/-- the tuple at a, each item in a new pair -/
def IteT (K : PySem.W.Frag) (a : Addr) : It where
  go := fun i H => ∃ (xs : List V) (x : V), SqT K H a xs ∧ xs[i]? = some x
  yld := fun i H v H' => ∃ T x, v = .ref T ∧ H T = none ∧ H' = upd H T (.tup [.int (i : Nat), x]) ∧ ∀ xs, SqT K H a xs → xs[i]? = some x
  stop := fun i H => ∃ xs : List V, SqT K H a xs ∧ xs.length = i
theorem turn_enumT {P : Program} {w : World} {K : PySem.W.Frag} {elts : List Expr} {kk : Nat} {tpos : Pos} (a e it : Addr) :
    Turn P w K (.Tuple elts kk tpos) (IteT K a) [e, it] e (fun i h => (∃ old, IsEnum h e it ((i : Nat) : Int) old) ∧ h.IsTupleIter it a i ∧ e ≠ it ∧ a ≠ it ∧ a ≠ e) where
  mem := by simp
  obj := fun i h st b hb => by
    obtain ⟨⟨old, he⟩, ⟨o, ho, hc, hd⟩, _⟩ := st
    have z : b = e ∨ b = it := by simpa using hb
    rcases z with z | z
    · subst z
      exact ⟨_, he, fun v q => nomatch q⟩
    · subst z
      exact ⟨o, ho, fun v q => by rw [hd] at q; cases q⟩
  keep := fun i h h' st k => let ⟨⟨old, he⟩, hi, hne⟩ := st; ⟨⟨old, k e (by simp) _ he⟩, hi.at fun o q => k it (by simp) o q, hne⟩
  item := by
    intro X hP hw hK hc i pins s σ H E I hf st hg
    subst hP hw hK
    obtain ⟨⟨old, he⟩, hit, hne, hai, hae⟩ := st
    obtain ⟨xs, x, hq, hx⟩ := hg
    obtain ⟨its, rv, p, hz⟩ := I.tuple hq
    obtain ⟨u, hu, ru⟩ := rv.get hx
    have hel : e < s.heap.objs.size := Heap.lt_size he
    have hil : it < s.heap.objs.size := by obtain ⟨_, q, _⟩ := hit; exact Heap.lt_size q
    have D := Draws.tuple (prog := X.prog) (w := X.w) (A := X.A.in1) (I.ok.hd hc) it a hai its.toArray
    have hlt : i < its.toArray.size := by
      have := (List.getElem?_eq_some_iff.mp hu).1
      simpa using this
    refine wpAny_pyNext_enum_itemD D he ⟨hit, show s.heap.IsTuple a its.toArray from p⟩ hlt hne (by simp [hne, Ne.symm hae]) fun y h' tk hy ho hs' hT hsz hk => ?_
    have ey : y = u := by
      have : its.toArray[i]? = some u := by simpa using hu
      rw [this] at hy; exact (Option.some.inj hy).symm
    subst ey
    refine ⟨_, rfl, wpAny_letOwnedTupleGo_enum (s := { s with heap := h', toks := tk + 1 }) ho fun h'' he' sb => ?_⟩
    have hT2 : h''.get? s.heap.objs.size = some { cls := .type "tuple", data := .seq #[.int i tk, y] } := (sb.2 _ (Nat.ne_of_gt hel)).trans hT
    have new : ObjOk X.prog X.w (upd H s.heap.objs.size (.tup [.int (i : Nat), x])) h'' s.heap.objs.size (.tup [.int (i : Nat), x]) :=
      ⟨by show 2 ≤ sizeLine; decide, [.int i tk, y], .cons ⟨_, rfl⟩ (.cons ru .nil), ⟨_, hT2, rfl, _, rfl⟩⟩
    have I1 : Inv X pins σ (upd H s.heap.objs.size (.tup [.int (i : Nat), x])) { s with heap := h'', toks := tk + 1 } :=
      I.turnedNew (ch := [e, it]) (fun b ob hb q => (sb.2 b (fun z => hb (by simp [z]))).trans (hk b ob (fun z => hb (by simp [z])) (fun z => hb (by simp [z])) q)) hf (Nat.le_refl _) new
    refine ⟨.ref s.heap.objs.size, _, I1, rfl, ⟨_, x, rfl, I.hok.fresh (Nat.le_refl _), rfl, fun ys hy => by rw [I.tuple_inj hy hq]; exact hx⟩, ⟨⟨y, ?_⟩, hs'.1.at fun o q => (sb.2 it (Ne.symm hne)).trans q, hne, hai, hae⟩, fun b hb => ?_⟩
    · rw [show ((i + 1 : Nat) : Int) = (i : Int) + 1 by omega]
      exact he'
    · have hb' : b < s.heap.objs.size := by
        have z : b = e ∨ b = it := by simpa using hb
        rcases z with z | z
        · rw [z]; exact hel
        · rw [z]; exact hil
      rw [upd_ne (Nat.ne_of_lt hb')]
      exact (hf b hb).1
  done := by
    intro X hP hw hK hc i pins s σ H E I hf st hg
    subst hP hw hK
    obtain ⟨⟨old, he⟩, hit, hne, hai, hae⟩ := st
    obtain ⟨xs, hq, hx⟩ := hg
    obtain ⟨its, rv, p, hz⟩ := I.tuple hq
    obtain ⟨f0, f1, f2, f3, f4, f5⟩ := hf it (by simp)
    have hl := rv.length
    have D := Draws.tuple (prog := X.prog) (w := X.w) (A := X.A.in1) (I.ok.hd hc) it a hai its.toArray
    have hsz : its.toArray.size = i := by rw [List.size_toArray, ← hl, hx]
    exact wpAny_pyNext_enum_endD D he ⟨by rw [hsz]; exact hit, show s.heap.IsTuple a its.toArray from p⟩ fun h' eb => ⟨rfl, I.turned (t' := s.toks) (fun b o hb q => eb b o hb q) f0 f1 f3 f4 f5⟩
  self := fun A i s Q E st h => let ⟨⟨_, he⟩, _⟩ := st; wpAny_pyIter_enum he h
def iEnumT (K : PySem.W.Frag) (ta : TA) : TI := fun σ H R => ta σ H fun vs H1 => ∃ a xs, vs = [.ref a] ∧ SqT K H1 a xs ∧ R (IteT K a) H1
theorem pi_enumT {X : Cx} {e : Expr} {ta : TA} {p pos tpos : Pos} {elts : List Expr} {kk : Nat} (hg : Gl X "enumerate") (hm : X.mg "enumerate" = none) (ha : PA X [e] ta) (hs : starEach [e] X.env = [(false, eval e X.env)] := by rfl) :
    PI X (.Tuple elts kk tpos) (.Call (.Name "enumerate" p) [e] [] pos) (iEnumT X.K ta) := by
  refine ⟨fun pins s σ H R I h => ?_⟩
  refine Call_ (ld_blt I hg hm boot_enumerate (PyProof.Rows.callWith_type1 (thn (ha.run pos pins s σ H _ I h) fun us s1 ⟨vs, H1, I1, r1, q1⟩ => ?_) hs rfl))
  obtain ⟨a, xs, ex, hq, q⟩ := q1
  subst ex
  cases r1 with
  | cons r rr =>
    cases rr
    cases r
    obtain ⟨its, rv, p', hz⟩ := I1.tuple hq
    obtain ⟨oa, hoa, _⟩ := id p'
    have hal : a < s1.heap.objs.size := Heap.lt_size hoa
    refine call_enum1 (begins_tuple a its.toArray) (show s1.heap.IsTuple a its.toArray from p') fun h' he hit hk => wpAny_pyIter_enum he ?_
    have I2 : Inv X pins σ H1 { s1 with heap := h' } := I1.kept (t' := s1.toks) hk
    refine ⟨s1.heap.objs.size + 1, [s1.heap.objs.size + 1, s1.heap.objs.size], _, _, H1, rfl, I2, turn_enumT a (s1.heap.objs.size + 1) s1.heap.objs.size, ⟨⟨.none, he⟩, ⟨_, hit, rfl, rfl⟩, Nat.succ_ne_self _, Nat.ne_of_lt hal, Nat.ne_of_lt (Nat.lt_succ_of_lt hal)⟩, fun b hb => ?_, q⟩
    have z : b = s1.heap.objs.size + 1 ∨ b = s1.heap.objs.size := by simpa using hb
    have hle : s1.heap.objs.size ≤ b := by
      rcases z with z | z <;> rw [z]
      exact Nat.le_add_right _ _
      exact Nat.le_refl _
    exact I1.fpOk hle (I1.hok.fresh hle)
end Fx
namespace Fx
open PySem PySem.Spec PyProof.Rows L2

/-! ### lists of one's own -/
section
variable {S : SC} {e e2 : Expr} {φ φ2 : Rho → Rz T} {pos p1 p2 p3 : Pos} {x : Str}
def isOw (ρ : Rho) (i : Nat) : Option (List T) := match ρ[i]? with
  | some (.ow ts) => some ts
  | _ => none
theorem isOw_of {ρ : Rho} {i : Nat} {ts : List T} (h : isOw ρ i = some ts) : ρ[i]? = some (.ow ts) := by
  unfold isOw at h
  split at h
  · rename_i e; cases h; exact e
  · cases h
def sApp (i : Nat) (φ : Rho → Rz T) : Rho → Out := fun ρ => match isOw ρ i with
  | some _ => (φ ρ).out fun t ρ1 => match isOw ρ1 i with
    | some ts => if ts.length < sizeLine then .nx (ρ1.set i (.ow (ts ++ [t]))) else .stuck
    | none => .stuck
  | none => .stuck
theorem after_mut {K : PySem.W.Frag} {cl : Cl} {pn : Bool} {A : Addr → Prop} {σ : L2.St} {G H G1 H1 : Hp} {ρ1 : Rho} {i : Nat} {ts ts' : List T} {o : Addr} {us : List V} (af : After K cl pn A σ G H ρ1 σ G1 H1) (h : ρ1[i]? = some (.ow ts)) (e : σ[i]? = some (some (.ref o)))
    (d : DenL K cl G1 ts' us) (hA : A o) : After K cl pn A σ G H (ρ1.set i (.ow ts')) σ G1 (upd H1 o (.lst us)) :=
  ⟨rel_mut af.rel h e d, af.fr.trans (A' := A) (Fr.mut hA) fun _ z => .inl z, fun p z => af.own p (own_mut h z), af.pin⟩
theorem psf_append (i : Nat) (hN : S.N[i]? = some x) (hv : VisS S.sc x = true) (he : PEF S e φ) (hd : (x == ("__debug__" : Str)) = false := by decide) (hcd : (x == ("__classdict__" : Str)) = false := by decide)
    (hpe : ∀ (X : Cx) t, S.Is X → PE X e t → PE X (.Call (.Attribute (.Name x p1) "append" p2) [e] [] p3) (tBM X.K "list" rAppend (tVar i) (tCons t tNil)))
    (hs : ∀ X : Cx, swapsWith (.Call (.Attribute (.Name x p1) "append" p2) [e] [] p3) none pos.line X.env = pure false := by intro _; rfl) :
    PSF S (.Expr (.Call (.Attribute (.Name x p1) "append" p2) [e] [] p3) pos) (sApp i φ) := by
  obtain ⟨te, he, ev⟩ := he
  refine ⟨tDrop (tBM S.K "list" rAppend (tVar i) (tCons te tNil)), fun X hX => ps_expr (by rw [← hX.K]; exact hpe X te hX (he X hX)) (hs X), fun A σ ρ G H D re hA h => ?_⟩
  unfold sApp at h
  split at h
  · rename_i ts0 e0
    obtain ⟨o, us0, e1, g0, h0, d0⟩ := re.ow i ts0 (isOw_of e0)
    refine ⟨.ref o, e1, .inl ⟨rfl, _, .inl (.inl h0)⟩, ?_⟩
    refine ev σ ρ G H _ re (LandS.expr re hA h fun t ρ1 G1 H1 r1 f1 o1 af h1 v d => ?_)
    split at h1
    · rename_i ts e2
      split at h1
      · rename_i hz
        obtain ⟨o', us, e3, g1, h3, d1⟩ := r1.ow i ts (isOw_of e2)
        rw [e1] at e3; cases e3
        refine ⟨o, us, v, rfl, rfl, h3, by rw [← d1.len]; exact hz, ?_⟩
        exact h1 σ G1 _ (after_mut af (isOw_of e2) e1 (d1.append (DenL.cons d DenL.nil)) (hA o ⟨i, ts0, isOw_of e0, e1⟩))
      · exact h1.elim
    · exact h1.elim
  · exact h.elim
/-- xs[k] = v, xs one's own -/
def sPut (i : Nat) (φ φk : Rho → Rz T) : Rho → Out := fun ρ => (φ ρ).out fun t ρ1 => match isOw ρ1 i with
  | some _ => (φk ρ1).out fun k ρ2 => match k, isOw ρ2 i with
    | .int k, some ts => match ixN ts.length k with
      | some j => .nx (ρ2.set i (.ow (ts.set j t)))
      | none => .stuck
    | _, _ => .stuck
  | none => .stuck
theorem psf_put (i : Nat) (hN : S.N[i]? = some x) (hv : VisS S.sc x = true) (he : PEF S e φ) (hk : PEF S e2 φ2) (hd : (x == ("__debug__" : Str)) = false := by decide) (hcd : (x == ("__classdict__" : Str)) = false := by decide)
    (ha : ∀ (X : Cx) v, assign (.Subscript (.Name x p1) e2 p2) X.env v = (do
      let ov ← holding [v] (eval (.Name x p1) X.env)
      let iv ← holding [v, ov] (eval e2 X.env)
      standAt p2
      holding [v, ov, iv] (setItem ov iv v)
      release [v, ov, iv] []) := by intro _ _; rfl)
    (hs : ∀ X : Cx, swapsWithSole [.Subscript (.Name x p1) e2 p2] e pos.line X.env = pure false := by intro _; rfl) (hw : ∀ X : Cx, swappedStores [.Subscript (.Name x p1) e2 p2] e X.env = pure none := by intro _; rfl)
    (h1 : ∀ X : Cx, (assignEach [.Subscript (.Name x p1) e2 p2] X.env).map (·.2) = [assign (.Subscript (.Name x p1) e2 p2) X.env] := by intro _; rfl) :
    PSF S (.Assign [.Subscript (.Name x p1) e2 p2] e pos) (sPut i φ φ2) := by
  obtain ⟨te, he, ev⟩ := he
  obtain ⟨tk, hk, ek⟩ := hk
  refine ⟨_, fun X hX => ps_asg (he X hX) (pg_sub (pe_var (i := i) (by rw [hX.N]; exact hN) (by rw [hX.sc]; exact vis_of hv) hd hcd) (hk X hX) set_list (ha X)) (hs X) (hw X) (h1 X), fun A σ ρ G H D re hA h => ?_⟩
  refine ev σ ρ G H _ re (LandS.expr re hA h fun t ρ1 G1 H1 r1 f1 o1 af h1 v d => ?_)
  split at h1
  · rename_i ts0 e0
    obtain ⟨o, us0, q1, g0, h0, d0⟩ := r1.ow i ts0 (isOw_of e0)
    refine ⟨.ref o, q1, ?_⟩
    refine ek σ ρ1 G1 H1 _ r1 (LandS.expr (A := fun p => A p ∨ Fs H p) r1 af.own (h1.step af) fun k ρ2 G2 H2 r2 f2 o2 af2 h2 w dk => ?_)
    split at h2
    · rename_i k ts e3
      split at h2
      · rename_i j ej
        obtain ⟨o', us, q3, g2, h3, d2⟩ := r2.ow i ts (isOw_of e3)
        rw [q1] at q3; cases q3
        refine ⟨o, us, k, j, rfl, dk.int_of, h3, by rw [← d2.len]; exact ej, ?_⟩
        exact h2 σ G2 _ (after_mut af2 (isOw_of e3) q1 (d2.set j (d.mono f2.gg)) (af.own o ⟨i, ts0, isOw_of e0, q1⟩))
      · exact h2.elim
    · exact h2.elim
  · exact h1.elim
/-- xs.pop(), xs one's own -/
def fPop (i : Nat) : Rho → Rz T := fun ρ => match isOw ρ i with
  | some ts => match ts[ts.length - 1]? with
    | some t => .ok t (ρ.set i (.ow ts.dropLast))
    | none => .stuck
  | none => .stuck
theorem DenL.dropLast {K : PySem.W.Frag} {cl : Cl} {G : Hp} {ts : List T} {xs : List V} (h : DenL K cl G ts xs) : DenL K cl G ts.dropLast xs.dropLast := by
  rw [List.dropLast_eq_take, List.dropLast_eq_take, h.len]
  exact h.take _
theorem pef_pop (i : Nat) (hN : S.N[i]? = some x) (hv : VisS S.sc x = true)
    (hpe : ∀ (X : Cx), S.Is X → PE X (.Call (.Attribute (.Name x p1) "pop" p2) [] [] p3) (tBM0 X.K "list" rPop (tVar i))) : PEF S (.Call (.Attribute (.Name x p1) "pop" p2) [] [] p3) (fPop i) := by
  refine ⟨tBM0 S.K "list" rPop (tVar i), fun X hX => by rw [← hX.K]; exact hpe X hX, fun σ ρ G H Q re h => ?_⟩
  unfold fPop at h
  split at h
  · rename_i ts e0
    split at h
    · rename_i t et
      obtain ⟨o, us, e1, g0, h0, d0⟩ := re.ow i ts (isOw_of e0)
      obtain ⟨y, ey, dy⟩ := d0.get et
      refine ⟨.ref o, e1, .inl ⟨rfl, _, .inl (.inl h0)⟩, o, us, y, rfl, rfl, h0, by rw [← d0.len]; exact ey, ?_⟩
      exact h G _ (rel_mut re (isOw_of e0) e1 d0.dropLast) (Fr.mut ⟨i, ts, isOw_of e0, e1⟩) (fun p z => own_mut (isOw_of e0) z) y dy
    · exact h.elim
  · exact h.elim
/-- xs[k], xs one's own -/
def fIxO (i : Nat) (φk : Rho → Rz T) : Rho → Rz T := fun ρ => match isOw ρ i with
  | some _ => (φk ρ).bind fun k ρ1 => match k, isOw ρ1 i with
    | .int k, some ts => Rz.of (atT ts k) ρ1
    | _, _ => .stuck
  | none => .stuck
theorem pef_ixO (i : Nat) (hN : S.N[i]? = some x) (hv : VisS S.sc x = true) (hk : PEF S e2 φ2) (hs : PlainIx e2) (hd : (x == ("__debug__" : Str)) = false := by decide) (hcd : (x == ("__classdict__" : Str)) = false := by decide) : PEF S (.Subscript (.Name x p1) e2 pos) (fIxO i φ2) := by
  obtain ⟨tk, hk, ek⟩ := hk
  refine ⟨tOp (rIx S.K) (tVar i) tk, fun X hX => pe_ix (by rw [← hX.K]; exact ix_seq) (pe_var (i := i) (by rw [hX.N]; exact hN) (by rw [hX.sc]; exact vis_of hv) hd hcd) (hk X hX) hs, fun σ ρ G H Q re h => ?_⟩
  unfold fIxO at h
  split at h
  · rename_i ts0 e0
    obtain ⟨o, us0, e1, g0, h0, d0⟩ := re.ow i ts0 (isOw_of e0)
    refine ⟨.ref o, e1, ?_⟩
    refine ek σ ρ G H _ re ((Lands.bind h).imp fun k ρ1 G1 H1 r1 f1 o1 h1 v dk => ?_)
    split at h1
    · rename_i k ts e2
      cases et : atT ts k with
      | none => rw [et] at h1; exact h1.elim
      | some t =>
        rw [et] at h1
        obtain ⟨o', us, e3, g1, h3, d1⟩ := r1.ow i ts (isOw_of e2)
        rw [e1] at e3; cases e3
        obtain ⟨w, ew, dw⟩ := atT_of d1 et
        exact .inl ⟨o, us, k, w, rfl, dk.int_of, .inl (.inl h3), ew, Lands.here h1 r1 w dw⟩
    · exact h1.elim
  · exact h.elim
/-- what is read of one's own lists, flat -/
def frzAll (ρ : Rho) : Rho := ρ.map fun s => match s with
  | .ow ts => .va (.lst ts)
  | s => s
def fRo (φ : Rho → Rz T) : Rho → Rz T := fun ρ => match φ (frzAll ρ) with
  | .ok t _ => if flatT t then .ok t ρ else .stuck
  | _ => .stuck
theorem frzAll_get {ρ : Rho} {i : Nat} : (frzAll ρ)[i]? = (ρ[i]?).map fun s => match s with
  | .ow ts => .va (.lst ts)
  | s => s := by unfold frzAll; rw [List.getElem?_map]
open Classical in
theorem ro_rel {K : PySem.W.Frag} {cl : Cl} {σ : L2.St} {ρ : Rho} {G H : Hp} (re : Rel K cl G H σ ρ) : ∃ G', Same G G' ∧ Rel K cl G' H σ (frzAll ρ) ∧ (∀ p x, G' p = some x → G p = none → Own σ ρ p) := by
  let G' : Hp := fun p => if G p = none ∧ Own σ ρ p then H p else G p
  have s1 : Same G G' := fun b x e => by
    show (if G b = none ∧ Own σ ρ b then H b else G b) = some x
    rw [if_neg (fun z => by rw [z.1] at e; cases e)]; exact e
  have sm : Sm cl G' H := ⟨fun b x e => by
    have e : (if G b = none ∧ Own σ ρ b then H b else G b) = some x := e
    split at e
    · exact e
    · exact re.same.same b x e, re.same.tab, fun p ps e => by
    have e : (if G p = none ∧ Own σ ρ p then H p else G p) = some (.tbl ps) := e
    split at e
    · rename_i z
      obtain ⟨us, h1, _⟩ := re.own_some z.2
      rw [h1] at e; cases e
    · exact re.same.nt p ps e⟩
  refine ⟨G', s1, ⟨sm, by unfold frzAll; rw [List.length_map]; exact re.len, fun i t e => ?_, fun i ts e => ?_, fun i j ts us o h1 => ?_⟩, fun p x e n => ?_⟩
  · rw [frzAll_get] at e
    cases q : ρ[i]? with
    | none => rw [q] at e; cases e
    | some s =>
      rw [q] at e
      cases s with
      | no => cases e
      | va u =>
        cases e
        obtain ⟨v, e1, d⟩ := re.va i t q
        exact ⟨v, e1, d.mono s1⟩
      | ow ts =>
        cases e
        obtain ⟨o, us, e1, g, hh, d⟩ := re.ow i ts q
        refine ⟨.ref o, e1, den_lst (.inl (.inl ?_)) (d.mono s1)⟩
        show (if G o = none ∧ Own σ ρ o then H o else G o) = _
        rw [if_pos ⟨g, i, ts, q, e1⟩]; exact hh
  · rw [frzAll_get] at e
    cases q : ρ[i]? with
    | none => rw [q] at e; cases e
    | some s => rw [q] at e; cases s <;> cases e
  · rw [frzAll_get] at h1
    cases q : ρ[i]? with
    | none => rw [q] at h1; cases h1
    | some s => rw [q] at h1; cases s <;> cases h1
  · have e : (if G p = none ∧ Own σ ρ p then H p else G p) = some x := e
    split at e
    · rename_i z; exact z.2
    · rw [n] at e; cases e
theorem own_frzAll {σ : L2.St} {ρ : Rho} {o : Addr} (h : Own σ (frzAll ρ) o) : False := by
  obtain ⟨i, ts, e, _⟩ := h
  rw [frzAll_get] at e
  cases q : ρ[i]? with
  | none => rw [q] at e; cases e
  | some s => rw [q] at e; cases s <;> cases e
theorem flat_any {K : PySem.W.Frag} {cl : Cl} {G G' : Hp} {t : T} {v : V} (f : flatT t = true) (d : Den K cl G t v) : Den K cl G' t v := by
  cases t with
  | non => rw [d.non_of]; exact den_non
  | bl _ => rw [d.bl_of]; exact den_bl _
  | int _ => rw [d.int_of]; exact den_int _
  | str _ => rw [d.str_of]; exact den_str _
  | _ => cases f
theorem pef_ro (he : PEF S e φ) : PEF S e (fRo φ) := by
  obtain ⟨te, he, ev⟩ := he
  refine ⟨te, he, fun σ ρ G H Q re h => ?_⟩
  obtain ⟨G', s1, re1, nw⟩ := ro_rel re
  refine ev σ (frzAll ρ) G' H Q re1 ?_
  unfold fRo at h
  cases q : φ (frzAll ρ) with
  | stuck => rw [q] at h; exact h.elim
  | rs c x => rw [q] at h; exact h.elim
  | ok t ρ' =>
    rw [q] at h
    dsimp only at h
    split at h
    · rename_i ft
      intro G2 H2 r2 f2 _ v d
      have k : ∀ p x, H p = some x → NoTb x → H2 p = some x := fun p x e m => f2.keep p x e (fun z => own_frzAll z) m
      refine h G H2 ⟨⟨fun b x e => k b x (re.same.same b x e) (fun ps z => re.same.nt b ps (by rw [← z]; exact e)), r2.same.tab, re.same.nt⟩, re.len, re.va, fun i ts e => ?_, re.ap⟩ ⟨Same.refl _, fun p x e _ m => k p x e m, fun p x e n => ?_, f2.there⟩ (fun _ z => z) v (flat_any ft d)
      · obtain ⟨o, us, e1, g, hh, d⟩ := re.ow i ts e
        exact ⟨o, us, e1, g, k _ _ hh noTb_lst, d⟩
      · rw [n] at e; cases e
    · exact h.elim
def fRoT (φ : Rho → Rz Bool) : Rho → Rz Bool := fun ρ => match φ (frzAll ρ) with
  | .ok t _ => .ok t ρ
  | _ => .stuck
theorem ptf_ro {φ : Rho → Rz Bool} (he : PTF S e φ) : PTF S e (fRoT φ) := by
  obtain ⟨te, he, ev⟩ := he
  refine ⟨te, he, fun σ ρ G H Q re h => ?_⟩
  obtain ⟨G', s1, re1, nw⟩ := ro_rel re
  refine ev σ (frzAll ρ) G' H Q re1 ?_
  unfold fRoT at h
  cases q : φ (frzAll ρ) with
  | stuck => rw [q] at h; exact h.elim
  | rs c x => rw [q] at h; exact h.elim
  | ok t ρ' =>
    rw [q] at h
    intro G2 H2 r2 f2 _
    have k : ∀ p x, H p = some x → NoTb x → H2 p = some x := fun p x e m => f2.keep p x e (fun z => own_frzAll z) m
    refine h G H2 ⟨⟨fun b x e => k b x (re.same.same b x e) (fun ps z => re.same.nt b ps (by rw [← z]; exact e)), r2.same.tab, re.same.nt⟩, re.len, re.va, fun i ts e => ?_, re.ap⟩ ⟨Same.refl _, fun p x e _ m => k p x e m, fun p x e n => ?_, f2.there⟩ (fun _ z => z)
    · obtain ⟨o, us, e1, g, hh, d⟩ := re.ow i ts e
      exact ⟨o, us, e1, g, k _ _ hh noTb_lst, d⟩
    · rw [n] at e; cases e
end
end Fx
namespace Fx
open PySem PySem.Spec PyProof.Rows L2

/-! ### targets -/
def PGF (S : SC) (tg : Expr) (js : List Nat) (γ : T → Rho → Option Rho) : Prop := ∃ g, (∀ X, S.Is X → PG X tg g) ∧
  ∀ σ ρ G H v t ρ' (Q : L2.St → Hp → Prop), Rel S.K S.cl G H σ ρ → Den S.K S.cl G t v → γ t ρ = some ρ' →
    (∀ σ', Rel S.K S.cl G H σ' ρ' → σ'.length = σ.length → (∀ j, j ∉ js → σ'[j]? = σ[j]?) → (∀ o, Own σ' ρ' o → Own σ ρ o) → Q σ' H) → g v σ H Q
def PGsF (S : SC) (tgs : List Expr) (js : List Nat) (γ : List T → Rho → Option Rho) : Prop := ∃ g, (∀ X, S.Is X → PGs X tgs g) ∧
  ∀ σ ρ G H vs ts ρ' (Q : L2.St → Hp → Prop), Rel S.K S.cl G H σ ρ → DenL S.K S.cl G ts vs → γ ts ρ = some ρ' →
    (∀ σ', Rel S.K S.cl G H σ' ρ' → σ'.length = σ.length → (∀ j, j ∉ js → σ'[j]? = σ[j]?) → (∀ o, Own σ' ρ' o → Own σ ρ o) → Q σ' H) → g vs σ H Q
def tgN (i : Nat) : T → Rho → Option Rho := fun t ρ => some (ρ.set i (.va t))
def tgNil : List T → Rho → Option Rho := fun ts ρ => match ts with
  | [] => some ρ
  | _ => none
def tgCons (γ : T → Rho → Option Rho) (δ : List T → Rho → Option Rho) : List T → Rho → Option Rho := fun ts ρ => match ts with
  | [] => none
  | t :: ts => (γ t ρ).bind fun ρ1 => δ ts ρ1
def tgT (n : Nat) (δ : List T → Rho → Option Rho) : T → Rho → Option Rho := fun t ρ => match t with
  | .tup ts => if ts.length = n then δ ts ρ else none
  | _ => none
section
variable {S : SC} {tg : Expr} {tgs : List Expr} {js js2 : List Nat} {γ : T → Rho → Option Rho} {δ : List T → Rho → Option Rho} {x : Str} {pos : Pos}
theorem pgf_name (i : Nat) (hN : S.N.Nodup) (hi : S.N[i]? = some x) (hx : S.sc.names.lookup x = some .local ∨ S.sc.names.lookup x = some .cell) (hf : S.cf x = true ∨ S.sc.names.lookup x = some .local) : PGF S (.Name x pos) [i] (tgN i) := by
  refine ⟨gName i, fun X hX => pg_name (by rw [hX.N]; exact hN) (by rw [hX.N]; exact hi) (by rw [hX.sc]; exact hx) (by rw [hX.fn, hX.sc]; exact hf), fun σ ρ G H v t ρ' Q re d e k => ?_⟩
  cases e
  exact k _ (rel_set_va re d) (by simp) (fun j hj => List.getElem?_set_ne (by simpa using fun z => hj (by simp [z]))) fun o z => own_set z
theorem pgsf_nil : PGsF S [] [] tgNil := by
  refine ⟨gNil, fun X hX => pgs_nil, fun σ ρ G H vs ts ρ' Q re d e k => ?_⟩
  unfold tgNil at e
  split at e
  · cases e
    unfold DenL at d
    exact ⟨d, k σ re rfl (fun _ _ => rfl) fun _ z => z⟩
  · cases e
theorem pgsf_cons (h1 : PGF S tg js γ) (h2 : PGsF S tgs js2 δ) (hs : ∀ X : Cx, (assignEach (tg :: tgs) X.env).map (·.2) = assign tg X.env :: (assignEach tgs X.env).map (·.2) := by intro _; rfl) : PGsF S (tg :: tgs) (js ++ js2) (tgCons γ δ) := by
  obtain ⟨g, h1, e1⟩ := h1
  obtain ⟨gs, h2, e2⟩ := h2
  refine ⟨gCons g gs, fun X hX => pgs_cons (h1 X hX) (h2 X hX) (hs X), fun σ ρ G H vs ts ρ' Q re d e k => ?_⟩
  cases ts with
  | nil => cases e
  | cons t ts =>
    obtain ⟨ρ1, q1, q2⟩ := Option.bind_eq_some_iff.mp e
    unfold DenL at d
    obtain ⟨v, r, rfl, d1, d2⟩ := d
    refine ⟨v, r, rfl, e1 σ ρ G H v t ρ1 _ re d1 q1 fun σ1 re1 l1 k1 o1 => ?_⟩
    exact e2 σ1 ρ1 G H r ts ρ' Q re1 d2 q2 fun σ2 re2 l2 k2 o2 => k σ2 re2 (l2.trans l1) (fun j hj => (k2 j fun z => hj (List.mem_append_right _ z)).trans (k1 j fun z => hj (List.mem_append_left _ z))) fun o z => o1 o (o2 o z)
theorem pgf_tup {k : Nat} {n : Nat} (h : PGsF S tgs js δ) (hn : ∀ X : Cx, (assignEach tgs X.env).length = n := by intro _; rfl) (hst : ∀ X : Cx, (assignEach tgs X.env).findIdx? (·.1) = none := by intro _; rfl) : PGF S (.Tuple tgs k pos) js (tgT n δ) := by
  obtain ⟨g, h, ev⟩ := h
  refine ⟨gTup S.K n g, fun X hX => by rw [← hX.K]; exact pg_tup hX.calm (h X hX) (hn X) (hst X), fun σ ρ G H v t ρ' Q re d e k => ?_⟩
  cases t with
  | tup ts =>
    unfold tgT at e
    dsimp only at e
    split at e
    · rename_i hl
      obtain ⟨a, xs, rfl, s, dl⟩ := d.tup_of
      exact ⟨a, xs, rfl, same_seqT re.same.same s, by rw [← dl.len]; exact hl, ev σ ρ G H xs ts ρ' Q re dl e k⟩
    · cases e
  | _ => cases e
/-- target = value (a tuple's parts) -/
def sAsg (φ : Rho → Rz T) (γ : T → Rho → Option Rho) : Rho → Out := fun ρ => (φ ρ).out fun t ρ1 => match γ t ρ1 with
  | some ρ2 => .nx ρ2
  | none => .stuck
theorem psf_asg {e : Expr} {φ : Rho → Rz T} (he : PEF S e φ) (hg : PGF S tg js γ) (hp : S.pn = true → 0 ∉ js) (hs : ∀ X : Cx, swapsWithSole [tg] e pos.line X.env = pure false := by intro _; rfl) (hw : ∀ env : Env, env.scope = S.sc → swappedStores [tg] e env = pure none)
    (h1 : ∀ X : Cx, (assignEach [tg] X.env).map (·.2) = [assign tg X.env] := by intro _; rfl) : PSF S (.Assign [tg] e pos) (sAsg φ γ) := by
  obtain ⟨te, he, ev⟩ := he
  obtain ⟨g, hg, eg⟩ := hg
  refine ⟨tAsg te g, fun X hX => ps_asg (he X hX) (hg X hX) (hs X) (hw X.env hX.sc) (h1 X), fun A σ ρ G H D re hA h => ?_⟩
  refine ev σ ρ G H _ re (LandS.expr re hA h fun t ρ1 G1 H1 r1 f1 o1 af h1 v d => ?_)
  cases q : γ t ρ1 with
  | none => rw [q] at h1; exact h1.elim
  | some ρ2 =>
    rw [q] at h1
    refine eg σ ρ1 G1 H1 v t ρ2 D.nx r1 d q fun σ2 r2 l2 k2 o2 => h1 σ2 G1 H1 ⟨r2, af.fr, fun o z => af.own o (o2 o z), fun e => (k2 0 (hp e))⟩
end

/-! ### what is walked -/
structure Yields (K : PySem.W.Frag) (cl : Cl) (J : It) (G0 : Hp) (ts : List T) : Prop where
  go : ∀ i t H, Same G0 H → ts[i]? = some t → J.go i H
  yl : ∀ i t G H, Same G0 G → Sm cl G H → ts[i]? = some t → ∀ x H', J.yld i H x H' → ∃ G', Fr NoA G H G' H' ∧ Sm cl G' H' ∧ Den K cl G' t x
  stop : ∀ H, Same G0 H → J.stop ts.length H
def PIF (S : SC) (tg iter : Expr) (φ : Rho → Rz (List T)) : Prop := ∃ wi, (∀ X, S.Is X → PI X tg iter wi) ∧
  ∀ σ ρ G H (R : It → Hp → Prop), Rel S.K S.cl G H σ ρ → Lands S.K S.cl S.W σ ρ G H (φ ρ) (fun ts _ G' H' => ∀ J, Yields S.K S.cl J G' ts → R J H') → wi σ H R
def fItems (φ : Rho → Rz T) : Rho → Rz (List T) := fun ρ => (φ ρ).bind fun t ρ1 => Rz.of (itemsT t) ρ1
section
variable {K : PySem.W.Frag} {cl : Cl} {G0 G H : Hp}
/-- an item, the heap as it was -/
theorem yields_at {J : It} {ts : List T} {xs : List V} (d : DenL K cl G0 ts xs) (hg : ∀ i x H, Same G0 H → xs[i]? = some x → J.go i H) (hy : ∀ i H x H', Same G0 H → J.yld i H x H' → H' = H ∧ xs[i]? = some x) (hs : ∀ H, Same G0 H → J.stop xs.length H) : Yields K cl J G0 ts where
  go := fun i t H s e => by
    obtain ⟨x, ex, dx⟩ := d.get e
    exact hg i x H s ex
  yl := fun i t G H s1 s2 e y H' q => by
    obtain ⟨x, ex, dx⟩ := d.get e
    obtain ⟨e1, e2⟩ := hy i H y H' (s1.trans s2.same) q
    rw [ex] at e2; cases e2
    subst e1
    exact ⟨G, Fr.refl, s2, dx.mono s1⟩
  stop := fun H s => by rw [d.len]; exact hs H s
theorem nolist_inj {a : Addr} {xs ys : List V} (h : SqL K H a xs) (h2 : ∀ zs, SqL K H a zs → zs = xs) (h3 : SqL K H a ys) : ys = xs := h2 ys h3
theorem yields_list {a : Addr} {ts : List T} {xs : List V} (d : DenL K cl G0 ts xs) (s : SqL K G0 a xs) : Yields K cl (Itl K a) G0 ts :=
  yields_at d (fun i x H sm e => ⟨xs, x, sm.seq s, e⟩) (fun i H x H' sm q => ⟨q.1, q.2 xs (sm.seq s)⟩) fun H sm => ⟨xs, sm.seq s, Nat.le_refl _⟩
theorem yields_tup {a : Addr} {ts : List T} {xs : List V} (d : DenL K cl G0 ts xs) (s : SqT K G0 a xs) : Yields K cl (Itt K a) G0 ts :=
  yields_at d (fun i x H sm e => ⟨xs, x, same_seqT sm s, e⟩) (fun i H x H' sm q => ⟨q.1, q.2 xs (same_seqT sm s)⟩) fun H sm => ⟨xs, same_seqT sm s, Nat.le_refl _⟩
/-- pairs, new ones -/
def pairT (ts us : List T) : List T := (ts.zip us).map fun p => .tup [p.1, p.2]
theorem pairT_get {ts us : List T} {i : Nat} {t : T} (h : (pairT ts us)[i]? = some t) : ∃ a b, ts[i]? = some a ∧ us[i]? = some b ∧ t = .tup [a, b] := by
  unfold pairT at h
  rw [List.getElem?_map] at h
  obtain ⟨p, e1, e2⟩ := Option.map_eq_some_iff.mp h
  have e1 := List.getElem?_zip_eq_some.mp e1
  exact ⟨p.1, p.2, e1.1, e1.2, e2.symm⟩
theorem yields_pair {J : It} {ts us : List T} {xs ys : List V} (d : DenL K cl G0 ts xs) (d2 : DenL K cl G0 us ys) (hg : ∀ i x y H, Same G0 H → xs[i]? = some x → ys[i]? = some y → J.go i H)
    (hy : ∀ i H v H', Same G0 H → J.yld i H v H' → ∃ p x y, v = .ref p ∧ H p = none ∧ H' = upd H p (.tup [x, y]) ∧ xs[i]? = some x ∧ ys[i]? = some y) (hs : ∀ H, Same G0 H → J.stop (pairT ts us).length H) : Yields K cl J G0 (pairT ts us) where
  go := fun i t H s e => by
    obtain ⟨a, b, ea, eb, rfl⟩ := pairT_get e
    obtain ⟨x, ex, dx⟩ := d.get ea
    obtain ⟨y, ey, dy⟩ := d2.get eb
    exact hg i x y H s ex ey
  yl := fun i t G H s1 s2 e v H' q => by
    obtain ⟨a, b, ea, eb, rfl⟩ := pairT_get e
    obtain ⟨x, ex, dx⟩ := d.get ea
    obtain ⟨y, ey, dy⟩ := d2.get eb
    obtain ⟨p, x', y', rfl, hp, rfl, e1, e2⟩ := hy i H v H' (s1.trans s2.same) q
    rw [ex] at e1; cases e1
    rw [ey] at e2; cases e2
    have f := Fr.frz (A := NoA) (o := .tup [x, y]) hp s2
    exact ⟨_, f, sm_upd2 s2 hp, den_tup (.inl (.inl upd_same)) (DenL.cons ((dx.mono s1).mono f.gg) (DenL.cons ((dy.mono s1).mono f.gg) DenL.nil))⟩
  stop := hs
theorem pairT_len {ts us : List T} : (pairT ts us).length = min ts.length us.length := by
  unfold pairT; rw [List.length_map, List.length_zip]
end
section
variable {S : SC} {tg iter e e2 : Expr} {φ φ2 : Rho → Rz T} {φs : Rho → Rz (List T)} {p pos tpos : Pos} {elts : List Expr} {kk : Nat}
theorem pi_or {X : Cx} {w1 w2 : TI} (h1 : PI X tg iter w1) (h2 : PI X tg iter w2) : PI X tg iter (fun σ H R => w1 σ H R ∨ w2 σ H R) := ⟨fun pins s σ H R I h => h.elim (h1.run pins s σ H R I) (h2.run pins s σ H R I)⟩
/-- a list or a tuple -/
theorem pif_seq (he : PEF S iter φ) : PIF S tg iter (fItems φ) := by
  obtain ⟨te, he, ev⟩ := he
  refine ⟨_, fun X hX => pi_or (w1 := iList S.K te) (w2 := iTup S.K te) (by rw [← hX.K]; exact pi_list (he X hX)) (by rw [← hX.K]; exact pi_tup (he X hX)), fun σ ρ G H R re h => ?_⟩
  unfold fItems at h
  cases q : φ ρ with
  | stuck => rw [q] at h; exact h.elim
  | rs c x =>
    rw [q] at h
    exact .inl (ev σ ρ G H _ re (by rw [q]; exact h))
  | ok t ρ1 =>
    rw [q] at h
    cases t with
    | lst ts =>
      refine .inl (ev σ ρ G H _ re ?_)
      rw [q]
      intro G1 H1 r1 f1 o1 v d
      obtain ⟨a, xs, rfl, s, dl⟩ := d.lst_of
      exact ⟨a, rfl, ⟨xs, r1.same.seq s⟩, h G1 H1 r1 f1 o1 _ (yields_list dl s)⟩
    | tup ts =>
      refine .inr (ev σ ρ G H _ re ?_)
      rw [q]
      intro G1 H1 r1 f1 o1 v d
      obtain ⟨a, xs, rfl, s, dl⟩ := d.tup_of
      exact ⟨a, rfl, ⟨xs, same_seqT r1.same.same s⟩, h G1 H1 r1 f1 o1 _ (yields_tup dl s)⟩
    | _ => exact h.elim
/-- range(n), range(a, b) -/
def rangeT (lo : Int) (n : Nat) : List T := (List.range n).map fun k => .int (lo + (k : Nat))
theorem yields_range {K : PySem.W.Frag} {cl : Cl} {G0 : Hp} {lo : Int} {n : Nat} : Yields K cl (Itr lo n) G0 (rangeT lo n) where
  go := fun i t H s e => by
    unfold rangeT at e
    rw [List.getElem?_map] at e
    obtain ⟨j, e1, e2⟩ := Option.map_eq_some_iff.mp e
    obtain ⟨hl, hj⟩ := List.getElem?_eq_some_iff.mp e1
    rw [List.length_range] at hl
    exact hl
  yl := fun i t G H s1 s2 e x H' q => by
    unfold rangeT at e
    rw [List.getElem?_map] at e
    obtain ⟨j, e1, e2⟩ := Option.map_eq_some_iff.mp e
    obtain ⟨hl, hj⟩ := List.getElem?_eq_some_iff.mp e1
    rw [List.length_range] at hl
    rw [List.getElem_range] at hj
    subst hj e2
    obtain ⟨rfl, rfl⟩ := q
    exact ⟨G, Fr.refl, s2, den_int _⟩
  stop := fun H s => by
    show n ≤ _
    unfold rangeT
    rw [List.length_map, List.length_range]; exact Nat.le_refl _
def fRange1 (φ : Rho → Rz T) : Rho → Rz (List T) := fun ρ => (φ ρ).bind fun t ρ1 => match t with
  | .int j => if -(2 ^ 62) ≤ j ∧ j < 2 ^ 62 then .ok (rangeT 0 j.toNat) ρ1 else .stuck
  | _ => .stuck
def fRange2 (φ φ2 : Rho → Rz T) : Rho → Rz (List T) := fun ρ => (φ ρ).bind fun t ρ1 => (φ2 ρ1).bind fun u ρ2 => match t, u with
  | .int i, .int j => if -(2 ^ 62) ≤ i ∧ i < 2 ^ 62 ∧ -(2 ^ 62) ≤ j ∧ j < 2 ^ 62 then .ok (rangeT i (j - i).toNat) ρ2 else .stuck
  | _, _ => .stuck
theorem pif_range1 (hg : S.sc.names.lookup ("range" : Str) = some .globalImplicit) (hm : S.mg ("range" : Str) = none) (he : PEF S e φ) (hs : ∀ X : Cx, starEach [e] X.env = [(false, eval e X.env)] := by intro _; rfl) : PIF S tg (.Call (.Name "range" p) [e] [] pos) (fRange1 φ) := by
  obtain ⟨te, he, ev⟩ := he
  refine ⟨iRng1 (tCons te tNil), fun X hX => pi_range1 (hX.gl hg) (by rw [hX.mg]; exact hm) (pa_cons (he X hX) pa_nil (hs X)) (hs X), fun σ ρ G H R re h => ?_⟩
  refine ev σ ρ G H _ re ((Lands.bind h).imp fun t ρ1 G1 H1 r1 f1 o1 h1 v d => ?_)
  cases t with
  | int j =>
    dsimp only at h1
    split at h1
    · rename_i hj
      exact ⟨j, by rw [d.int_of], hj.1, hj.2, Lands.here h1 r1 _ yields_range⟩
    · exact h1.elim
  | _ => exact h1.elim
theorem pif_range2 (hg : S.sc.names.lookup ("range" : Str) = some .globalImplicit) (hm : S.mg ("range" : Str) = none) (he : PEF S e φ) (he2 : PEF S e2 φ2)
    (hs : ∀ X : Cx, starEach [e, e2] X.env = [(false, eval e X.env), (false, eval e2 X.env)] := by intro _; rfl) (hs2 : ∀ X : Cx, starEach [e2] X.env = [(false, eval e2 X.env)] := by intro _; rfl) : PIF S tg (.Call (.Name "range" p) [e, e2] [] pos) (fRange2 φ φ2) := by
  obtain ⟨te, he, ev⟩ := he
  obtain ⟨te2, he2, ev2⟩ := he2
  refine ⟨iRng2 (tCons te (tCons te2 tNil)), fun X hX => pi_range2 (hX.gl hg) (by rw [hX.mg]; exact hm) (pa_cons (he X hX) (pa_cons (he2 X hX) pa_nil (hs2 X)) (by rw [hs, hs2])) (hs X) (hs2 X), fun σ ρ G H R re h => ?_⟩
  refine ev σ ρ G H _ re ((Lands.bind h).imp fun t ρ1 G1 H1 r1 f1 o1 h1 v d => ?_)
  refine ev2 σ ρ1 G1 H1 _ r1 ((Lands.bind h1).imp fun u ρ2 G2 H2 r2 f2 o2 h2 w d2 => ?_)
  cases t with
  | int i =>
    cases u with
    | int j =>
      dsimp only at h2
      split at h2
      · rename_i hj
        exact ⟨i, j, by rw [d.int_of, d2.int_of], hj, Lands.here h2 r2 _ yields_range⟩
      · exact h2.elim
    | _ => exact h2.elim
  | _ => exact h2.elim
/-- enumerate, zip -/
def numsT (n : Nat) : List T := (List.range n).map fun i => .int (i : Nat)
theorem numsT_get {n i : Nat} (h : i < n) : (numsT n)[i]? = some (.int (i : Nat)) := by
  unfold numsT
  rw [List.getElem?_map, List.getElem?_range h]; rfl
theorem denL_nums {K : PySem.W.Frag} {cl : Cl} {G : Hp} (n : Nat) : DenL K cl G (numsT n) ((List.range n).map fun i => V.int (i : Nat)) := by
  unfold numsT
  generalize List.range n = l
  induction l with
  | nil => exact DenL.nil
  | cons a l ih => exact DenL.cons (den_int _) ih
def fEnum (φ : Rho → Rz T) : Rho → Rz (List T) := fun ρ => (φ ρ).bind fun t ρ1 => match itemsT t with
  | some ts => .ok (pairT (numsT ts.length) ts) ρ1
  | none => .stuck
theorem pif_enum (hg : S.sc.names.lookup ("enumerate" : Str) = some .globalImplicit) (hm : S.mg ("enumerate" : Str) = none) (he : PEF S e φ) (hs : ∀ X : Cx, starEach [e] X.env = [(false, eval e X.env)] := by intro _; rfl) : PIF S (.Tuple elts kk tpos) (.Call (.Name "enumerate" p) [e] [] pos) (fEnum φ) := by
  obtain ⟨te, he, ev⟩ := he
  refine ⟨_, fun X hX => pi_or (w1 := iEnum S.K (tCons te tNil)) (w2 := iEnumT S.K (tCons te tNil)) (by rw [← hX.K]; exact pi_enum (hX.gl hg) (by rw [hX.mg]; exact hm) (pa_cons (he X hX) pa_nil (hs X)) (hs X))
    (by rw [← hX.K]; exact pi_enumT (hX.gl hg) (by rw [hX.mg]; exact hm) (pa_cons (he X hX) pa_nil (hs X)) (hs X)), fun σ ρ G H R re h => ?_⟩
  unfold fEnum at h
  cases q : φ ρ with
  | stuck => rw [q] at h; exact h.elim
  | rs c x =>
    rw [q] at h
    exact .inl (ev σ ρ G H _ re (by rw [q]; exact h))
  | ok t ρ1 =>
    rw [q] at h
    cases t with
    | lst ts =>
      refine .inl (ev σ ρ G H _ re ?_)
      rw [q]
      intro G1 H1 r1 f1 o1 v d
      obtain ⟨a, xs, rfl, s, dl⟩ := d.lst_of
      refine ⟨a, xs, rfl, r1.same.seq s, h G1 H1 r1 f1 o1 _ (yields_pair (denL_nums ts.length) dl (fun i x y H2 sm _ e2 => ⟨xs, y, sm.seq s, e2⟩) (fun i H2 v H3 sm q => ?_) fun H2 sm => ⟨xs, sm.seq s, ?_⟩)⟩
      · obtain ⟨p, x, e1, e2, e3, e4⟩ := q
        have e5 := e4 xs (sm.seq s)
        refine ⟨p, .int (i : Nat), x, e1, e2, e3, ?_, e5⟩
        have hi : i < ts.length := by rw [dl.len]; exact (List.getElem?_eq_some_iff.mp e5).1
        rw [List.getElem?_map, List.getElem?_range hi]; rfl
      · rw [pairT_len, ← dl.len]; unfold numsT; simp
    | tup ts =>
      refine .inr (ev σ ρ G H _ re ?_)
      rw [q]
      intro G1 H1 r1 f1 o1 v d
      obtain ⟨a, xs, rfl, s, dl⟩ := d.tup_of
      refine ⟨a, xs, rfl, same_seqT r1.same.same s, h G1 H1 r1 f1 o1 _ (yields_pair (denL_nums ts.length) dl (fun i x y H2 sm _ e2 => ⟨xs, y, same_seqT sm s, e2⟩) (fun i H2 v H3 sm q => ?_) fun H2 sm => ⟨xs, same_seqT sm s, ?_⟩)⟩
      · obtain ⟨p, x, e1, e2, e3, e4⟩ := q
        have e5 := e4 xs (same_seqT sm s)
        refine ⟨p, .int (i : Nat), x, e1, e2, e3, ?_, e5⟩
        have hi : i < ts.length := by rw [dl.len]; exact (List.getElem?_eq_some_iff.mp e5).1
        rw [List.getElem?_map, List.getElem?_range hi]; rfl
      · rw [pairT_len, ← dl.len]; unfold numsT; simp
    | _ => exact h.elim
def fZip (φ φ2 : Rho → Rz T) : Rho → Rz (List T) := fun ρ => (φ ρ).bind fun t ρ1 => (φ2 ρ1).bind fun u ρ2 => match t, u with
  | .lst ts, .lst us => .ok (pairT ts us) ρ2
  | .tup ts, .tup us => .ok (pairT ts us) ρ2
  | _, _ => .stuck
theorem pif_zip (hg : S.sc.names.lookup ("zip" : Str) = some .globalImplicit) (hm : S.mg ("zip" : Str) = none) (he : PEF S e φ) (he2 : PEF S e2 φ2)
    (hs : ∀ X : Cx, starEach [e, e2] X.env = (false, eval e X.env) :: starEach [e2] X.env := by intro _; rfl) (hs2 : ∀ X : Cx, starEach [e2] X.env = [(false, eval e2 X.env)] := by intro _; rfl) (hpl : ∀ X : Cx, (backTo pos (starEach [e2] X.env)).any (·.1) = false := by intro _; rfl) :
    PIF S (.Tuple elts kk tpos) (.Call (.Name "zip" p) [e, e2] [] pos) (fZip φ φ2) := by
  obtain ⟨te, he, ev⟩ := he
  obtain ⟨te2, he2, ev2⟩ := he2
  refine ⟨RZ.iZipA S.K (tCons te (tCons te2 tNil)), fun X hX => by rw [← hX.K]; exact RZ.pi_zipA (hX.gl hg) (by rw [hX.mg]; exact hm) (pa_cons (he X hX) (pa_cons (he2 X hX) pa_nil (hs2 X)) (hs X)) (hs X) (hpl X), fun σ ρ G H R re h => ?_⟩
  refine ev σ ρ G H _ re ((Lands.bind h).imp fun t ρ1 G1 H1 r1 f1 o1 h1 v d => ?_)
  refine ev2 σ ρ1 G1 H1 _ r1 ((Lands.bind h1).imp fun u ρ2 G2 H2 r2 f2 o2 h2 w d2 => ?_)
  have d := d.mono f2.gg
  cases t with
  | lst ts =>
    cases u with
    | lst us =>
      obtain ⟨a, xs, rfl, s, dl⟩ := d.lst_of
      obtain ⟨b, ys, rfl, s2, dl2⟩ := d2.lst_of
      refine ⟨a, b, xs, ys, rfl, .inl ⟨r2.same.seq s, r2.same.seq s2, Lands.here h2 r2 _ (yields_pair dl dl2 (fun i x y H3 sm e1 e2 => ⟨xs, ys, x, y, sm.seq s, sm.seq s2, e1, e2⟩) (fun i H3 v H4 sm q => ?_) fun H3 sm => ⟨xs, ys, sm.seq s, sm.seq s2, ?_⟩)⟩⟩
      · obtain ⟨p, x, y, e1, e2, e3, e4, e5⟩ := q
        exact ⟨p, x, y, e1, e2, e3, e4 xs (sm.seq s), e5 ys (sm.seq s2)⟩
      · rw [pairT_len, dl.len, dl2.len]; omega
    | _ => exact h2.elim
  | tup ts =>
    cases u with
    | tup us =>
      obtain ⟨a, xs, rfl, s, dl⟩ := d.tup_of
      obtain ⟨b, ys, rfl, s2, dl2⟩ := d2.tup_of
      refine ⟨a, b, xs, ys, rfl, .inr ⟨same_seqT r2.same.same s, same_seqT r2.same.same s2, Lands.here h2 r2 _ (yields_pair dl dl2 (fun i x y H3 sm e1 e2 => ⟨xs, ys, x, y, same_seqT sm s, same_seqT sm s2, e1, e2⟩) (fun i H3 v H4 sm q => ?_) fun H3 sm => ⟨xs, ys, same_seqT sm s, same_seqT sm s2, ?_⟩)⟩⟩
      · obtain ⟨p, x, y, e1, e2, e3, e4, e5⟩ := q
        exact ⟨p, x, y, e1, e2, e3, e4 xs (same_seqT sm s), e5 ys (same_seqT sm s2)⟩
      · rw [pairT_len, dl.len, dl2.len]; omega
    | _ => exact h2.elim
  | _ => exact h2.elim
end
end Fx
namespace Fx
open PySem PySem.Spec PyProof.Rows L2

/-! ### for, while -/
def forGo (γ : T → Rho → Option Rho) (body : Rho → Out) : List T → Rho → Out
  | [], ρ => .nx ρ
  | t :: ts, ρ => match γ t ρ with
    | none => .stuck
    | some ρ1 => match body ρ1 with
      | .nx ρ2 => forGo γ body ts ρ2
      | .ct ρ2 => forGo γ body ts ρ2
      | .bk ρ2 => .nx ρ2
      | .rt r ρ2 => .rt r ρ2
      | .rs c x => .rs c x
      | .stuck => .stuck
def sFor (it : Rho → Rz (List T)) (γ : T → Rho → Option Rho) (body : Rho → Out) : Rho → Out := fun ρ => (it ρ).out fun ts ρ1 => forGo γ body ts ρ1
def whileGo (test : Rho → Rz Bool) (body : Rho → Out) : Nat → Rho → Out
  | 0, _ => .stuck
  | n + 1, ρ => (test ρ).out fun b ρ1 => if b then (match body ρ1 with
      | .nx ρ2 => whileGo test body n ρ2
      | .ct ρ2 => whileGo test body n ρ2
      | .bk ρ2 => .nx ρ2
      | .rt r ρ2 => .rt r ρ2
      | .rs c x => .rs c x
      | .stuck => .stuck) else .nx ρ1
section
variable {K : PySem.W.Frag} {cl : Cl} {G1 : Hp}
def Yd (K : PySem.W.Frag) (cl : Cl) (G1 : Hp) (ts : List T) : Nat → Hp → V → Hp → Prop := fun i H x H' => ∀ G, Same G1 G → Sm cl G H → ∃ t G', ts[i]? = some t ∧ Fr NoA G H G' H' ∧ Sm cl G' H' ∧ Den K cl G' t x
theorem Yields.walk {J : It} {ts : List T} (y : Yields K cl J G1 ts) : Walk J ts.length (Same G1) (Yd K cl G1 ts) where
  goes := fun i H hi s => y.go i _ H s (List.getElem?_eq_getElem hi)
  stops := fun H s => y.stop H s
  yields := fun i H x H' hi s q G s1 s2 => by
    obtain ⟨G', f, s', d⟩ := y.yl i _ G H s1 s2 (List.getElem?_eq_getElem hi) x H' q
    exact ⟨_, G', List.getElem?_eq_getElem hi, f, s', d⟩
end
theorem drop_at {α : Type} {l : List α} {i : Nat} {a : α} (h : l[i]? = some a) : l.drop i = a :: l.drop (i + 1) := by
  obtain ⟨hi, e⟩ := List.getElem?_eq_some_iff.mp h
  rw [List.drop_eq_getElem_cons hi, e]
section
variable {S : SC} {tg iter : Expr} {body : List Stmt} {js : List Nat} {γ : T → Rho → Option Rho} {ψ : Rho → Out} {φi : Rho → Rz (List T)} {pos : Pos}
theorem psf_for (hi : PIF S tg iter φi) (hg : PGF S tg js γ) (hb : PSsF S body ψ) (hp : S.pn = true → 0 ∉ js) (hs : ∀ (X : Cx) x, foldedSetIterable iter X.env x = pure x := by intro _ _; rfl) : PSF S (.For tg iter body [] pos) (sFor φi γ ψ) := by
  obtain ⟨wi, hi, ei⟩ := hi
  obtain ⟨g, hg, eg⟩ := hg
  obtain ⟨tb, hb, eb⟩ := hb
  refine ⟨tFor wi g tb, fun X hX => ps_for hX.po hX.calm (hi X hX) (hg X hX) (hb X hX) (hs X), fun A σ ρ G H D re hA h => ?_⟩
  refine ei σ ρ G H _ re (LandS.expr re hA h fun ts ρ1 G1 H1 r1 f1 o1 af h1 J y => ?_)
  refine for_it y.walk (fun i σ' H' => ∃ G' ρ', After S.K S.cl S.pn A σ G H ρ' σ' G' H' ∧ Same G1 G' ∧ LandS S.K S.cl S.W S.pn A σ G H D (forGo γ ψ (ts.drop i) ρ')) ⟨G1, ρ1, af, Same.refl _, h1⟩ (fun i σ' H' _ ⟨G', ρ', a, s, _⟩ => s.trans a.rel.same.same) (fun i x σ' H' H2 hi' ⟨G', ρ', a, s, hl⟩ yd => ?_) fun σ' H' ⟨G', ρ', a, s, hl⟩ => ?_
  · obtain ⟨t, G2, et, f2, s2, d2⟩ := yd G' s a.rel.same
    rw [drop_at et] at hl
    unfold forGo at hl
    cases q : γ t ρ' with
    | none => rw [q] at hl; exact hl.elim
    | some ρ2 =>
      rw [q] at hl
      dsimp only at hl
      refine eg σ' ρ' G2 H2 x t ρ2 _ (a.rel.keep f2 s2) d2 q fun σ2 r2 l2 k2 o2 => ?_
      have a2 : After S.K S.cl S.pn A σ G H ρ2 σ2 G2 H2 := ⟨r2, a.fr.trans (A' := NoA) f2 fun _ z => z.elim, fun o z => a.own o (o2 o z), fun e => (k2 0 (hp e)).trans (a.pin e)⟩
      have s3 : Same G1 G2 := s.trans f2.gg
      refine eb (fun p => A p ∨ Fs H p) σ2 ρ2 G2 H2 _ r2 a2.own ?_
      cases q2 : ψ ρ2 with
      | nx ρ3 => rw [q2] at hl; exact fun σ3 G3 H3 b => ⟨G3, ρ3, a2.trans b, s3.trans b.fr.gg, hl⟩
      | ct ρ3 => rw [q2] at hl; exact fun σ3 G3 H3 b => ⟨G3, ρ3, a2.trans b, s3.trans b.fr.gg, hl⟩
      | bk ρ3 => rw [q2] at hl; exact fun σ3 G3 H3 b => hl σ3 G3 H3 (a2.trans b)
      | rs c x => rw [q2] at hl; exact LandS.step (D := D) hl a2
      | stuck => rw [q2] at hl; exact hl
      | rt r ρ3 => rw [q2] at hl; have z := LandS.step (D := D) hl a2; cases r <;> exact z
  · rw [List.drop_length] at hl
    exact hl σ' G' H' a
def sWhile (n : Nat) (test : Rho → Rz Bool) (body : Rho → Out) : Rho → Out := whileGo test body n
theorem psf_while (n : Nat) {c : Expr} {φt : Rho → Rz Bool} (hc : PTF S c φt) (hb : PSsF S body ψ) : PSF S (.While c body [] pos) (sWhile n φt ψ) := by
  obtain ⟨tc, hc, ec⟩ := hc
  obtain ⟨tb, hb, eb⟩ := hb
  refine ⟨tWhile tc tb, fun X hX => ps_while hX.po (hc X hX) (hb X hX), fun A σ ρ G H D re hA h => ?_⟩
  refine ⟨fun m σ' H' => ∃ G' ρ', After S.K S.cl S.pn A σ G H ρ' σ' G' H' ∧ LandS S.K S.cl S.W S.pn A σ G H D (whileGo φt ψ m ρ'), ⟨n, G, ρ, after_refl re hA, h⟩, fun m σ' H' ⟨G', ρ', a, hl⟩ => ?_⟩
  cases m with
  | zero => exact hl.elim
  | succ m =>
    unfold whileGo at hl
    refine ec σ' ρ' G' H' _ a.rel ?_
    cases q : φt ρ' with
    | stuck => rw [q] at hl; exact hl.elim
    | rs c x => rw [q] at hl; exact fun G2 H2 d f xd => hl σ' G2 H2 d (a.fr.trans f fun p z => a.own p z) xd
    | ok b ρ1 =>
      rw [q] at hl
      intro G1 H1 r1 f1 o1
      have a1 : After S.K S.cl S.pn A σ G H ρ1 σ' G1 H1 := a.trans (After.ex a.rel a.own r1 f1 o1)
      cases b with
      | false =>
        rw [if_neg Bool.false_ne_true]
        exact hl σ' G1 H1 a1
      | true =>
        rw [if_pos rfl]
        refine ⟨fun σ2 H2 => ∃ G2 ρ2, After S.K S.cl S.pn A σ G H ρ2 σ2 G2 H2 ∧ LandS S.K S.cl S.W S.pn A σ G H D (whileGo φt ψ m ρ2), fun σ2 H2 z => ⟨m, Nat.lt_succ_self m, z⟩, ?_⟩
        refine eb (fun p => A p ∨ Fs H p) σ' ρ1 G1 H1 _ r1 a1.own ?_
        dsimp only [Rz.out] at hl
        rw [if_pos rfl] at hl
        cases q2 : ψ ρ1 with
        | nx ρ3 => rw [q2] at hl; exact fun σ3 G3 H3 b => ⟨G3, ρ3, a1.trans b, hl⟩
        | ct ρ3 => rw [q2] at hl; exact fun σ3 G3 H3 b => ⟨G3, ρ3, a1.trans b, hl⟩
        | bk ρ3 => rw [q2] at hl; exact fun σ3 G3 H3 b => hl σ3 G3 H3 (a1.trans b)
        | rs c x => rw [q2] at hl; exact LandS.step (D := D) hl a1
        | stuck => rw [q2] at hl; exact hl
        | rt r ρ3 => rw [q2] at hl; have z := LandS.step (D := D) hl a1; cases r <;> exact z
end

/-! ### comprehensions -/
def wipeR (ρ : Rho) : List Nat → Rho
  | [] => ρ
  | v :: vs => (wipeR ρ vs).set v .no
def keepS : Option Sl → Sl
  | some (.va t) => .va t
  | _ => .no
def unwipe (ρ1 : Rho) : List Nat → Rho → Rho
  | [], ρ => ρ
  | v :: vs, ρ => unwipe ρ1 vs (ρ.set v (keepS ρ1[v]?))
def lcGo (γ : T → Rho → Option Rho) (tt : Rho → Rz Bool) (te : Rho → Rz T) (vs : List Nat) : List T → Rho → Rz (List T)
  | [], ρ => .ok [] ρ
  | t :: ts, ρ => match γ t ρ with
    | none => .stuck
    | some ρ1 => (tt ρ1).bind fun b ρ2 => if b then (te ρ2).bind fun y ρ3 => (lcGo γ tt te vs ts (wipeR ρ3 vs)).bind fun ys ρ4 => .ok (y :: ys) ρ4 else lcGo γ tt te vs ts (wipeR ρ2 vs)
def fLc (it : Rho → Rz (List T)) (γ : T → Rho → Option Rho) (tt : Rho → Rz Bool) (te : Rho → Rz T) (vs : List Nat) : Rho → Rz (List T) := fun ρ => (it ρ).bind fun ts ρ1 =>
  if ts.length ≤ sizeLine then (match lcGo γ tt te vs ts (wipeR ρ1 vs) with
    | .ok ys ρ2 => .ok ys (unwipe ρ1 vs ρ2)
    | _ => .stuck) else .stuck
section
variable {K : PySem.W.Frag} {cl : Cl} {G H G1 H1 : Hp} {σ : L2.St} {ρ ρ1 ρ2 : Rho}
theorem rel_wipe1 {v : Nat} (r : Rel K cl G H σ ρ) : Rel K cl G H (σ.set v none) (ρ.set v .no) where
  same := r.same
  len := by simp [r.len]
  va := fun j u q => by
    rcases getElem?_set' q with ⟨rfl, z, hi⟩ | ⟨ne, q⟩
    · cases z
    · obtain ⟨w, e, d⟩ := r.va j u q
      exact ⟨w, by rw [List.getElem?_set_ne ne]; exact e, d⟩
  ow := fun j us q => by
    rcases getElem?_set' q with ⟨rfl, z, hi⟩ | ⟨ne, q⟩
    · cases z
    · obtain ⟨o, vs, e, d⟩ := r.ow j us q
      exact ⟨o, vs, by rw [List.getElem?_set_ne ne]; exact e, d⟩
  ap := fun j l us ws o h1 h2 e1 e2 => by
    rcases getElem?_set' h1 with ⟨_, z, _⟩ | ⟨ne1, h1⟩
    · cases z
    rcases getElem?_set' h2 with ⟨_, z, _⟩ | ⟨ne2, h2⟩
    · cases z
    rw [List.getElem?_set_ne ne1] at e1
    rw [List.getElem?_set_ne ne2] at e2
    exact r.ap j l us ws o h1 h2 e1 e2
theorem own_wipe1 {v : Nat} {o : Addr} (h : Own (σ.set v none) (ρ.set v .no) o) : Own σ ρ o := by
  obtain ⟨j, us, e1, e2⟩ := h
  rcases getElem?_set' e1 with ⟨rfl, z, _⟩ | ⟨ne, e1⟩
  · cases z
  · rw [List.getElem?_set_ne ne] at e2
    exact ⟨j, us, e1, e2⟩
theorem rel_wipe (r : Rel K cl G H σ ρ) : ∀ vs : List Nat, Rel K cl G H (wipe σ vs) (wipeR ρ vs)
  | [] => r
  | v :: vs => rel_wipe1 (rel_wipe r vs)
theorem own_wipe {o : Addr} : ∀ {vs : List Nat}, Own (wipe σ vs) (wipeR ρ vs) o → Own σ ρ o
  | [], h => h
  | v :: vs, h => own_wipe (vs := vs) (own_wipe1 h)
theorem wipe_out {j : Nat} : ∀ {vs : List Nat}, j ∉ vs → (wipe σ vs)[j]? = σ[j]?
  | [], _ => rfl
  | v :: vs, h => by
    unfold wipe
    rw [List.getElem?_set_ne (fun z => h (by simp [z]))]
    exact wipe_out fun z => h (List.mem_cons_of_mem _ z)
theorem wipe_in {j : Nat} : ∀ {vs : List Nat}, j ∈ vs → j < σ.length → (wipe σ vs)[j]? = some none
  | v :: vs, h, hj => by
    unfold wipe
    by_cases e : v = j
    · rw [e, List.getElem?_set_self (by rw [wipe_length]; exact hj)]
    · rw [List.getElem?_set_ne e]
      exact wipe_in ((List.mem_cons.mp h).resolve_left fun z => e z.symm) hj
theorem wipe_eq {σ' : L2.St} {vs : List Nat} (hl : σ'.length = σ.length) (h : ∀ j, j ∉ vs → σ'[j]? = σ[j]?) : wipe σ' vs = wipe σ vs := by
  apply List.ext_getElem?
  intro j
  by_cases hj : j ∈ vs
  · by_cases hz : j < σ.length
    · rw [wipe_in hj hz, wipe_in hj (by rw [hl]; exact hz)]
    · rw [List.getElem?_eq_none (by rw [wipe_length]; omega), List.getElem?_eq_none (by rw [wipe_length]; omega)]
  · rw [wipe_out hj, wipe_out hj, h j hj]
theorem wipe_wipe (vs : List Nat) : wipe (wipe σ vs) vs = wipe σ vs := wipe_eq (wipe_length σ vs) fun j hj => wipe_out hj
/-- one slot given back -/
theorem rel_unwipe1 {v : Nat} {w : L2.St} (r : Rel K cl G H (w.set v none) ρ2) (r1 : Rel K cl G1 H1 σ ρ1) (g : Same G1 G) (e : w[v]? = σ[v]?) : Rel K cl G H w (ρ2.set v (keepS ρ1[v]?)) where
  same := r.same
  len := by have := r.len; simp at this ⊢; exact this
  va := fun j u q => by
    rcases getElem?_set' q with ⟨rfl, z, hi⟩ | ⟨ne, q⟩
    · unfold keepS at z
      split at z
      · rename_i t h
        cases z
        obtain ⟨x, e1, d⟩ := r1.va v _ h
        exact ⟨x, e.trans e1, d.mono g⟩
      · cases z
    · obtain ⟨x, e1, d⟩ := r.va j u q
      exact ⟨x, by rw [List.getElem?_set_ne ne] at e1; exact e1, d⟩
  ow := fun j us q => by
    rcases getElem?_set' q with ⟨rfl, z, hi⟩ | ⟨ne, q⟩
    · unfold keepS at z; split at z <;> cases z
    · obtain ⟨o, vs, e1, d⟩ := r.ow j us q
      exact ⟨o, vs, by rw [List.getElem?_set_ne ne] at e1; exact e1, d⟩
  ap := fun j l us ws o h1 h2 e1 e2 => by
    rcases getElem?_set' h1 with ⟨rfl, z, _⟩ | ⟨ne1, h1⟩
    · unfold keepS at z; split at z <;> cases z
    rcases getElem?_set' h2 with ⟨rfl, z, _⟩ | ⟨ne2, h2⟩
    · unfold keepS at z; split at z <;> cases z
    exact r.ap j l us ws o h1 h2 (by rw [List.getElem?_set_ne ne1]; exact e1) (by rw [List.getElem?_set_ne ne2]; exact e2)
theorem own_unwipe1 {v : Nat} {w : L2.St} {s : Option Sl} {o : Addr} (h : Own w (ρ2.set v (keepS s)) o) : Own (w.set v none) ρ2 o := by
  obtain ⟨j, us, e1, e2⟩ := h
  rcases getElem?_set' e1 with ⟨rfl, z, _⟩ | ⟨ne, e1⟩
  · unfold keepS at z; split at z <;> cases z
  · exact ⟨j, us, e1, by rw [List.getElem?_set_ne ne]; exact e2⟩
theorem rel_unwipe (r1 : Rel K cl G1 H1 σ ρ1) (g : Same G1 G) : ∀ {vs : List Nat} {ρ2 : Rho}, vs.Nodup → Rel K cl G H (wipe σ vs) ρ2 → Rel K cl G H σ (unwipe ρ1 vs ρ2)
  | [], _, _, r => r
  | v :: vs, ρ2, nd, r => rel_unwipe (vs := vs) (ρ2 := ρ2.set v (keepS ρ1[v]?)) r1 g (List.nodup_cons.mp nd).2 (rel_unwipe1 r r1 g (wipe_out (List.nodup_cons.mp nd).1))
theorem own_unwipe {o : Addr} : ∀ {vs : List Nat} {ρ2 : Rho}, Own σ (unwipe ρ1 vs ρ2) o → Own (wipe σ vs) ρ2 o
  | [], _, h => h
  | v :: vs, ρ2, h => own_unwipe1 (own_unwipe (vs := vs) h)
end
theorem takesN0 {X : Cx} : L2N.Takes X (fun _ _ _ _ => False) := fun _ _ x => by
  obtain ⟨_, _, _, _, _, _, _, _, _, _, _, _, _, _, _, _, z⟩ := x
  exact z.elim
def SC.blk (S : SC) (scope : Scope) : SC := { S with sc := relS scope S.sc, cf := fun x => scope.names.lookup x == some .cell, W := fun _ _ _ _ => False, pn := false, lm := none }
theorem SC.Is.blk {S : SC} {X : Cx} (h : S.Is X) (scope : Scope) (s : Shared) (H : Hp) (C : Addr) (cl : List (Str × Addr)) (fp : List Addr) : (S.blk scope).Is (X.blk s H scope (compEnvC scope cl C X.env) fp) where
  prog := h.prog
  w := h.w
  K := h.K
  mg := h.mg
  base := h.base
  N := h.N
  sc := by
    show relS scope X.env.scope = relS scope S.sc
    rw [h.sc]
  fn := rfl
  calm := h.calm
  room := h.room
  tk := takesN0
  po := PassesOwn.never
  code := fun c q z => nomatch (show (none : Option (Addr × Str)) = some (c, q) from z)
def PTsF (S : SC) (ifs : List Expr) (φ : Rho → Rz Bool) : Prop := ∃ te, (∀ X, S.Is X → PTs X ifs te) ∧ EvT S.K S.cl S.W te φ
def fYes : Rho → Rz Bool := fun ρ => .ok true ρ
theorem ptsf_nil {S : SC} : PTsF S [] fYes := ⟨tYes, fun X hX => pts_nil, fun σ ρ G H Q re h => h.here re⟩
theorem ptsf_one {S : SC} {c : Expr} {φ : Rho → Rz Bool} (h : PTF S c φ) : PTsF S [c] φ := let ⟨te, h, e⟩ := h; ⟨te, fun X hX => pts_one (h X hX), e⟩
theorem ev_lc {K : PySem.W.Frag} {cl : Cl} {W : WX} {wi : TI} {φi : Rho → Rz (List T)} {g : TG} {js : List Nat} {γ : T → Rho → Option Rho} {tt : TT} {φt : Rho → Rz Bool} {te : TE} {φe : Rho → Rz T} {vs : List Nat} (nd : vs.Nodup) (hj : ∀ j ∈ js, j ∈ vs)
    (ei : ∀ σ ρ G H (R : It → Hp → Prop), Rel K cl G H σ ρ → Lands K cl W σ ρ G H (φi ρ) (fun ts _ G' H' => ∀ J, Yields K cl J G' ts → R J H') → wi σ H R)
    (eg : ∀ σ ρ G H v t ρ' (Q : L2.St → Hp → Prop), Rel K cl G H σ ρ → Den K cl G t v → γ t ρ = some ρ' → (∀ σ', Rel K cl G H σ' ρ' → σ'.length = σ.length → (∀ j, j ∉ js → σ'[j]? = σ[j]?) → (∀ o, Own σ' ρ' o → Own σ ρ o) → Q σ' H) → g v σ H Q)
    (et : EvT K cl (fun _ _ _ _ => False) tt φt) (ee : EvF K cl (fun _ _ _ _ => False) te φe) : EvO K cl W (tLc wi g tt te vs) (fLc φi γ φt φe vs) := by
  intro σ ρ G H Q re h
  refine ei σ ρ G H _ re ((Lands.bind h).imp fun ts ρ1 G1 H1 r1 f1 o1 h1 J y D hD => ?_)
  split at h1
  case isFalse => exact h1.elim
  rename_i hlen
  have gD : G1 D = none := r1.same.free hD
  cases q : lcGo γ φt φe vs ts (wipeR ρ1 vs) with
  | rs c x => rw [q] at h1; exact h1.elim
  | stuck => rw [q] at h1; exact h1.elim
  | ok ys ρ2 =>
  rw [q] at h1
  dsimp only at h1
  have nOwn : ¬ Own σ ρ1 D := fun z => by
    obtain ⟨us, z1, _⟩ := r1.own_some z
    rw [hD] at z1; cases z1
  have r1' : Rel K cl G1 (upd H1 D (.lst [])) σ ρ1 := ⟨sm_new r1.same hD, r1.len, r1.va, fun i us e => by
    obtain ⟨o, ws, e1, e2, e3, e4⟩ := r1.ow i us e
    refine ⟨o, ws, e1, e2, ?_, e4⟩
    rw [upd_ne (fun z => nOwn ⟨i, us, e, by rw [← z]; exact e1⟩)]
    exact e3, r1.ap⟩
  refine lc_it y.walk (fun i H' => ∃ G' ρi acc us, Rel K cl G' H' (wipe σ vs) ρi ∧ Fr (fun p => Own σ ρ1 p ∨ p = D) G1 (upd H1 D (.lst [])) G' H' ∧ (∀ o, Own (wipe σ vs) ρi o → Own σ ρ1 o) ∧ G' D = none ∧ H' D = some (.lst us) ∧ DenL K cl G' acc us ∧ acc.length ≤ i ∧
    (lcGo γ φt φe vs (ts.drop i) ρi).bind (fun zs ρ' => .ok (acc ++ zs) ρ') = .ok ys ρ2) ?h0 ?hG ?hs ?hd
  case h0 =>
    refine ⟨G1, wipeR ρ1 vs, [], [], rel_wipe r1' vs, Fr.refl, fun o z => own_wipe z, gD, upd_same, DenL.nil, Nat.le_refl _, ?_⟩
    rw [List.drop_zero, q]
    rfl
  case hG => exact fun i H' _ ⟨G', ρi, acc, us, a, b, _⟩ => b.gg.trans a.same.same
  case hd =>
    rintro H' ⟨G', ρi, acc, us, a, b, c, d, e, f, _, k⟩
    rw [List.drop_length] at k
    unfold lcGo at k
    simp only [Rz.bind_ok, List.append_nil] at k
    injection k with k1 k2
    subst k1 k2
    have fr : Fr (Own σ ρ1) G1 H1 G' H' := by
      refine ⟨b.gg, fun p x e1 n m => b.keep p x (by rw [upd_ne (ne_of_none e1 hD)]; exact e1) (fun z => z.elim n fun z => (by rw [z, hD] at e1; cases e1)) m, fun p x e1 n => ?_, fun p e1 => ?_⟩
      · rcases b.new p x e1 n with z | z | z
        · exact .inl z.upd
        · exact .inr z
        · rw [z]; exact .inl (.of hD)
      · exact (b.there p e1).upd
    exact h1 G' H' (rel_unwipe r1 b.gg nd a) fr (fun o z => c o (own_unwipe z)) D us (f1.there D (.of hD)) d e f
  case hs =>
    rintro i x H' H2 hi ⟨G', ρi, acc, us, a, b, c, d, e, f, hle, k⟩ yd
    obtain ⟨t, G2, ht, f2, s2, d2⟩ := yd G' b.gg a.same
    rw [drop_at ht] at k
    unfold lcGo at k
    cases q1 : γ t ρi with
    | none => rw [q1] at k; simp at k
    | some ρ3 =>
    rw [q1] at k
    dsimp only at k
    refine eg (wipe σ vs) ρi G2 H2 x t ρ3 _ (a.keep f2 s2) d2 q1 fun σ3 r3 l3 k3 o3 => ?_
    have hw : wipe σ3 vs = wipe σ vs := by
      rw [← wipe_wipe (σ := σ) vs]
      exact wipe_eq l3 fun j hjn => k3 j fun z => hjn (hj j z)
    refine ⟨hw, ?_⟩
    have gD2 : G2 D = none := by
      cases z : G2 D with
      | none => rfl
      | some x' =>
        rcases f2.new D x' z d with w | w
        · exact w.lst e
        · exact w.elim
    have hD2 : H2 D = some (.lst us) := f2.same e noTb_lst
    have b2 : Fr (fun p => Own σ ρ1 p ∨ p = D) G1 (upd H1 D (.lst [])) G2 H2 := b.trans (A' := NoA) f2 fun _ z => z.elim
    -- D is none of ours
    have nD : ∀ {ρ' : Rho}, (∀ o, Own σ3 ρ' o → Own σ3 ρ3 o) → ¬ Own σ3 ρ' D := fun o4 z => nOwn (c D (o3 D (o4 D z)))
    refine et σ3 ρ3 G2 H2 _ r3 ?_
    cases q2 : φt ρ3 with
    | rs c x => rw [q2] at k; simp at k
    | stuck => rw [q2] at k; simp at k
    | ok bb ρ4 =>
    rw [q2] at k
    intro G4 H4 r4 f4 o4
    have gD4 : G4 D = none := by
      cases z : G4 D with
      | none => rfl
      | some x' =>
        rcases f4.new D x' z gD2 with w | w
        · exact w.lst hD2
        · exact absurd w (nD fun _ z => z)
    have hD4 : H4 D = some (.lst us) := f4.keep D _ hD2 (nD fun _ z => z) noTb_lst
    have b4 : Fr (fun p => Own σ ρ1 p ∨ p = D) G1 (upd H1 D (.lst [])) G4 H4 := b2.trans f4 fun p z => .inl (.inl (c p (o3 p z)))
    cases bb with
    | false =>
      rw [if_neg Bool.false_ne_true]
      simp only [Rz.bind_ok, Bool.false_eq_true, if_false] at k
      refine ⟨G4, wipeR ρ4 vs, acc, us, ?_, b4, fun o z => ?_, gD4, hD4, f.mono (f2.gg.trans f4.gg), by omega, k⟩
      · rw [← hw]; exact rel_wipe r4 vs
      · rw [← hw] at z; exact c o (o3 o (o4 o (own_wipe z)))
    | true =>
      rw [if_pos rfl]
      simp only [Rz.bind_ok, if_true] at k
      refine ee σ3 ρ4 G4 H4 _ r4 ?_
      cases q3 : φe ρ4 with
      | rs c x => rw [q3] at k; simp at k
      | stuck => rw [q3] at k; simp at k
      | ok z ρ5 =>
      rw [q3] at k
      intro G5 H5 r5 f5 o5 yv dy
      have gD5 : G5 D = none := by
        cases z : G5 D with
        | none => rfl
        | some x' =>
          rcases f5.new D x' z gD4 with w | w
          · exact w.lst hD4
          · exact absurd w (nD o4)
      have hD5 : H5 D = some (.lst us) := f5.keep D _ hD4 (nD o4) noTb_lst
      have b5 : Fr (fun p => Own σ ρ1 p ∨ p = D) G1 (upd H1 D (.lst [])) G5 H5 := b4.trans f5 fun p z => .inl (.inl (c p (o3 p (o4 p z))))
      have d5 : DenL K cl G5 acc us := f.mono ((f2.gg.trans f4.gg).trans f5.gg)
      have nD5 : ¬ Own σ3 ρ5 D := nD fun o z => o4 o (o5 o z)
      refine ⟨us, hD5, ?_, G5, wipeR ρ5 vs, acc ++ [z], us ++ [yv], ?_, ?_, fun o z => ?_, gD5, upd_same, d5.append (DenL.cons dy DenL.nil), by simp; omega, ?_⟩
      · rw [← d5.len]; omega
      · rw [← hw]
        refine rel_wipe ⟨sm_mut r5.same gD5 hD5, r5.len, r5.va, fun i us' e' => ?_, r5.ap⟩ vs
        obtain ⟨o, ws, e1, e2, e3, e4⟩ := r5.ow i us' e'
        refine ⟨o, ws, e1, e2, ?_, e4⟩
        rw [upd_ne (fun z => nD5 ⟨i, us', e', by rw [← z]; exact e1⟩)]
        exact e3
      · exact b5.trans (Fr.mut (A := fun p => p = D) rfl) fun p z => .inl (.inr z)
      · rw [← hw] at z; exact c o (o3 o (o4 o (o5 o (own_wipe z))))
      · simp only [Rz.bind_ok] at k
        cases q5 : lcGo γ φt φe vs (List.drop (i + 1) ts) (wipeR ρ5 vs) with
        | rs c x => rw [q5] at k; simp at k
        | stuck => rw [q5] at k; simp at k
        | ok zs ρ6 =>
          rw [q5] at k
          simp only [Rz.bind_ok] at k ⊢
          rw [List.append_assoc]
          exact k
section
variable {S : SC} {tg iter elt : Expr} {ifs : List Expr} {scope : Scope} {own : List (Str × Nat)} {js : List Nat} {γ : T → Rho → Option Rho} {φi : Rho → Rz (List T)} {φt : Rho → Rz Bool} {φe : Rho → Rz T} {pos : Pos}
theorem pof_lc (own : List (Str × Nat)) (hN : S.N.Nodup) (hi : PIF S tg iter φi) (ok : BlkOk S.N S.sc scope own) (nd : (own.map (·.2)).Nodup) (hj : ∀ j ∈ js, j ∈ own.map (·.2)) (hg : PGF (S.blk scope) tg js γ) (ht : PTsF (S.blk scope) ifs φt) (he : PEF (S.blk scope) elt φe)
    (hs : ∀ (X : Cx) x, foldedSetIterable iter X.env x = pure x := by intro _ _; rfl) : POF S (.ListComp elt [⟨tg, iter, ifs, 0⟩] scope pos) (fLc φi γ φt φe (own.map (·.2))) := by
  obtain ⟨wi, hi, ei⟩ := hi
  obtain ⟨g, hg, eg⟩ := hg
  obtain ⟨tt, ht, et⟩ := ht
  obtain ⟨te, he, ee⟩ := he
  refine ⟨tLc wi g tt te (own.map (·.2)), fun X hX => ?_, ev_lc nd hj ei eg et ee⟩
  exact pe_lc hX.calm (by rw [hX.N]; exact hN) (hi X hX) (by rw [hX.N, hX.sc]; exact ok) (fun s H C cl fp => hg _ (hX.blk scope s H C cl fp)) (fun s H C cl fp => ht _ (hX.blk scope s H C cl fp)) (fun s H C cl fp => he _ (hX.blk scope s H C cl fp)) (hs X)
/-- name = [..], the name a local -/
theorem psf_setLc {i : Nat} {y : Str} {py spos : Pos} (own : List (Str × Nat)) (hN : S.N.Nodup) (hy : S.N[i]? = some y) (hyl : S.sc.names.lookup y = some .local) (hsw : ∀ env : Env, env.scope = S.sc → swapsWith (.ListComp elt [⟨tg, iter, ifs, 0⟩] scope pos) (some (.Name y py)) spos.line env = pure true)
    (hi : PIF S tg iter φi) (ok : BlkOk S.N S.sc scope own) (nd : (own.map (·.2)).Nodup) (hj : ∀ j ∈ js, j ∈ own.map (·.2)) (hg : PGF (S.blk scope) tg js γ) (ht : PTsF (S.blk scope) ifs φt) (he : PEF (S.blk scope) elt φe) (hp : S.pn = true → i ≠ 0)
    (hs : ∀ (X : Cx) x, foldedSetIterable iter X.env x = pure x := by intro _ _; rfl) : PSF S (.Assign [.Name y py] (.ListComp elt [⟨tg, iter, ifs, 0⟩] scope pos) spos) (sSet i (fFz (fLc φi γ φt φe (own.map (·.2))))) ∧
      PSF S (.Assign [.Name y py] (.ListComp elt [⟨tg, iter, ifs, 0⟩] scope pos) spos) (sSetO i (fLc φi γ φt φe (own.map (·.2)))) := by
  have ho := pof_lc (pos := pos) own hN hi ok nd hj hg ht he hs
  have hf := pef_fz ho
  obtain ⟨wi, hi, ei⟩ := hi
  obtain ⟨g, hg, eg⟩ := hg
  obtain ⟨tt, ht, et⟩ := ht
  obtain ⟨te, he, ee⟩ := he
  have st : ∀ X, S.Is X → PS X (.Assign [.Name y py] (.ListComp elt [⟨tg, iter, ifs, 0⟩] scope pos) spos) (tAsg (tLc wi g tt te (own.map (·.2))) (gName i)) := fun X hX =>
    ps_setLc hX.calm (by rw [hX.N]; exact hN) (by rw [hX.N]; exact hy) (by rw [hX.sc]; exact hyl) (hsw X.env hX.sc) (hi X hX) (by rw [hX.N, hX.sc]; exact ok) (fun s H C cl fp => hg _ (hX.blk scope s H C cl fp)) (fun s H C cl fp => ht _ (hX.blk scope s H C cl fp)) (fun s H C cl fp => he _ (hX.blk scope s H C cl fp)) (hs X)
  have eo := ev_lc (W := S.W) nd hj ei eg et ee
  refine ⟨⟨_, st, fun A σ ρ G H D re hA h => ?_⟩, ⟨_, st, fun A σ ρ G H D re hA h => ?_⟩⟩
  · obtain ⟨te', _, ef⟩ := hf
    have ef : EvF S.K S.cl S.W (tLc wi g tt te (own.map (·.2))) (fFz (fLc φi γ φt φe (own.map (·.2)))) := ev_fz eo
    exact ef σ ρ G H _ re (LandS.expr re hA h fun a ρ1 G1 H1 r1 f1 o1 af h1 v d => h1 _ G1 H1 (after_set af d hp))
  · refine eo σ ρ G H _ re (LandS.expr re hA h fun a ρ1 G1 H1 r1 f1 o1 af h1 p us hp' gp hh d => h1 _ G1 H1 (after_setO af hp' gp hh d (fun z => ?_) hp))
    obtain ⟨us', z1, _⟩ := re.own_some (o1 p z)
    exact hp'.lst z1
theorem psf_setLcV {i : Nat} {y : Str} {py spos : Pos} (own : List (Str × Nat)) (hN : S.N.Nodup) (hy : S.N[i]? = some y) (hyl : S.sc.names.lookup y = some .local) (hsw : ∀ env : Env, env.scope = S.sc → swapsWith (.ListComp elt [⟨tg, iter, ifs, 0⟩] scope pos) (some (.Name y py)) spos.line env = pure true)
    (hi : PIF S tg iter φi) (ok : BlkOk S.N S.sc scope own) (nd : (own.map (·.2)).Nodup) (hj : ∀ j ∈ js, j ∈ own.map (·.2)) (hg : PGF (S.blk scope) tg js γ) (ht : PTsF (S.blk scope) ifs φt) (he : PEF (S.blk scope) elt φe) (hp : S.pn = true → i ≠ 0)
    (hs : ∀ (X : Cx) x, foldedSetIterable iter X.env x = pure x := by intro _ _; rfl) : PSF S (.Assign [.Name y py] (.ListComp elt [⟨tg, iter, ifs, 0⟩] scope pos) spos) (sSet i (fFz (fLc φi γ φt φe (own.map (·.2))))) := (psf_setLc own hN hy hyl hsw hi ok nd hj hg ht he hp hs).1
theorem psf_setLcO {i : Nat} {y : Str} {py spos : Pos} (own : List (Str × Nat)) (hN : S.N.Nodup) (hy : S.N[i]? = some y) (hyl : S.sc.names.lookup y = some .local) (hsw : ∀ env : Env, env.scope = S.sc → swapsWith (.ListComp elt [⟨tg, iter, ifs, 0⟩] scope pos) (some (.Name y py)) spos.line env = pure true)
    (hi : PIF S tg iter φi) (ok : BlkOk S.N S.sc scope own) (nd : (own.map (·.2)).Nodup) (hj : ∀ j ∈ js, j ∈ own.map (·.2)) (hg : PGF (S.blk scope) tg js γ) (ht : PTsF (S.blk scope) ifs φt) (he : PEF (S.blk scope) elt φe) (hp : S.pn = true → i ≠ 0)
    (hs : ∀ (X : Cx) x, foldedSetIterable iter X.env x = pure x := by intro _ _; rfl) : PSF S (.Assign [.Name y py] (.ListComp elt [⟨tg, iter, ifs, 0⟩] scope pos) spos) (sSetO i (fLc φi γ φt φe (own.map (·.2)))) := (psf_setLc own hN hy hyl hsw hi ok nd hj hg ht he hp hs).2
end
end Fx
namespace Fx
open PySem PySem.Spec PyProof.Rows L2

/-! ### defs: what they make of their arguments -/
inductive FR where
  | va (t : T) | ow (ts : List T) | rs (c : String) (x : Option Int) | stuck
inductive FO where
  | va (t : T) (ts : List T) | rs (c : String) (x : Option Int) | stuck
def SpP (K : PySem.W.Frag) (cl : Cl) (φ : List T → FR) : Sp := fun vs H Q E => ∃ G ts, Sm cl G H ∧ DenL K cl G ts vs ∧ (match φ ts with
  | .va t => ∀ G' H' v, Sm cl G' H' → Fr NoA G H G' H' → Den K cl G' t v → Q v H'
  | .ow us => ∀ G' H' p ws, Sm cl G' H' → Fr NoA G H G' H' → Fs H p → G' p = none → H' p = some (.lst ws) → DenL K cl G' us ws → Q (.ref p) H'
  | .rs c x => ∀ G' H' d, Fr NoA G H G' H' → XD cl x d H' → E (.ref (cl c)) d H'
  | .stuck => False)
def SpO (K : PySem.W.Frag) (cl : Cl) (φ : List T → List T → FO) : Sp := fun vs H Q E => ∃ G o us ts ws as, vs = .ref o :: ws ∧ Sm cl G H ∧ G o = none ∧ H o = some (.lst us) ∧ DenL K cl G ts us ∧ DenL K cl G as ws ∧ (match φ ts as with
  | .va t ts' => ∀ G' H' v us', Sm cl G' H' → Fr (fun p => p = o) G H G' H' → G' o = none → H' o = some (.lst us') → DenL K cl G' ts' us' → Den K cl G' t v → Q v H'
  | .rs c x => ∀ G' H' d, Fr (fun p => p = o) G H G' H' → XD cl x d H' → E (.ref (cl c)) d H'
  | .stuck => False)
structure DefX (g : GC) (k : Nat) (x : Str) (sp : Sp) : Prop where
  ex : ∃ (f : Addr) (fd : FuncData) (ps : List Str), FnOk g.P g.w g.K g.mg g.base (L2N.CX g.P g.w) k f fd ps sp ∧ g.mg x = some (.ref f) ∧ PySem.W.keepIn g.K (.ref f) = true ∧ Binds g.K fd ps []
abbrev DefP (g : GC) (k : Nat) (x : Str) (φ : List T → FR) : Prop := DefX g k x (SpP g.K g.cl φ)
abbrev DefO (g : GC) (k : Nat) (x : Str) (φ : List T → List T → FO) : Prop := DefX g k x (SpO g.K g.cl φ)
def fDef (φ : List T → FR) (φs : Rho → Rz (List T)) : Rho → Rz T := fun ρ => (φs ρ).bind fun ts ρ1 => match φ ts with
  | .va t => .ok t ρ1
  | .rs c x => .rs c x
  | _ => .stuck
def fDefO (φ : List T → FR) (φs : Rho → Rz (List T)) : Rho → Rz (List T) := fun ρ => (φs ρ).bind fun ts ρ1 => match φ ts with
  | .ow t => .ok t ρ1
  | .rs c x => .rs c x
  | _ => .stuck
def fDef1 (i : Nat) (φ : List T → List T → FO) (φs : Rho → Rz (List T)) : Rho → Rz T := fun ρ => match isOw ρ i with
  | none => .stuck
  | some _ => (φs ρ).bind fun as ρ1 => match isOw ρ1 i with
    | none => .stuck
    | some ts => match φ ts as with
      | .va t ts' => .ok t (ρ1.set i (.ow ts'))
      | .rs c x => .rs c x
      | .stuck => .stuck
section
variable {S : SC} {k n : Nat} {x y : Str} {e : Expr} {es : List Expr} {φs : Rho → Rz (List T)} {p p1 pos : Pos}
theorem call_pe {sp : Sp} {ta : TA} (D : DefX S.toGC k x sp) (hk : k ≤ S.k) (hg : S.sc.names.lookup x = some .globalImplicit) (ha : ∀ X, S.Is X → PA X (e :: es) ta) (hdb : (x == ("__debug__" : Str)) = false)
    (he : ∀ X : Cx, starEach (e :: es) X.env = (false, eval e X.env) :: starEach es X.env) (hpl : ∀ X : Cx, (backTo pos (starEach es X.env)).any (·.1) = false) (X : Cx) (hX : S.Is X) : PE X (.Call (.Name x p) (e :: es) [] pos) (tCallS sp (WE S.W) ta) := by
  obtain ⟨f, fd, ps, F, hm, hkp, hb⟩ := D.ex
  refine pe_callS (k := k) (f := f) (fd := fd) (ps := ps) ?_ (hX.room.mono hk) (hX.gl hg) (by rw [hX.mg]; exact hm) (by rw [hX.K]; exact hkp) (by rw [hX.K]; exact hb) (fun σ => L2N.passAt hX.tk σ) (ha X hX) hdb (he X) (hpl X)
  rw [hX.prog, hX.w, hX.K, hX.mg, hX.base]
  exact F
theorem pef_call {φ : List T → FR} (D : DefP S.toGC k x φ) (hk : k ≤ S.k) (hg : S.sc.names.lookup x = some .globalImplicit) (ha : PAF S (e :: es) φs) (hdb : (x == ("__debug__" : Str)) = false := by decide)
    (he : ∀ X : Cx, starEach (e :: es) X.env = (false, eval e X.env) :: starEach es X.env := by intro _; rfl) (hpl : ∀ X : Cx, (backTo pos (starEach es X.env)).any (·.1) = false := by intro _; rfl) : PEF S (.Call (.Name x p) (e :: es) [] pos) (fDef φ φs) := by
  obtain ⟨ta, ha, ea⟩ := ha
  refine ⟨_, fun X hX => call_pe D hk hg ha hdb he hpl X hX, fun σ ρ G H Q re h => ?_⟩
  refine ea σ ρ G H _ re ((Lands.bind h).imp fun ts ρ1 G1 H1 r1 f1 o1 h1 vs d => ⟨G1, ts, r1.same, d, ?_⟩)
  cases q : φ ts with
  | va t =>
    rw [q] at h1
    exact fun G' H' v s f d => h1.done r1 f s v d
  | ow us => rw [q] at h1; exact h1.elim
  | rs c x =>
    rw [q] at h1
    exact fun G' H' d f xd => h1 G' H' d f.noa xd
  | stuck => rw [q] at h1; exact h1.elim
theorem pof_call {φ : List T → FR} (D : DefP S.toGC k x φ) (hk : k ≤ S.k) (hg : S.sc.names.lookup x = some .globalImplicit) (ha : PAF S (e :: es) φs) (hdb : (x == ("__debug__" : Str)) = false := by decide)
    (he : ∀ X : Cx, starEach (e :: es) X.env = (false, eval e X.env) :: starEach es X.env := by intro _; rfl) (hpl : ∀ X : Cx, (backTo pos (starEach es X.env)).any (·.1) = false := by intro _; rfl) : POF S (.Call (.Name x p) (e :: es) [] pos) (fDefO φ φs) := by
  obtain ⟨ta, ha, ea⟩ := ha
  refine ⟨_, fun X hX => call_pe D hk hg ha hdb he hpl X hX, fun σ ρ G H Q re h => ?_⟩
  refine ea σ ρ G H _ re ((Lands.bind h).imp fun ts ρ1 G1 H1 r1 f1 o1 h1 vs d => ⟨G1, ts, r1.same, d, ?_⟩)
  cases q : φ ts with
  | va t => rw [q] at h1; exact h1.elim
  | ow us =>
    rw [q] at h1
    exact fun G' H' p ws s f hp gp hh d => h1.done r1 f s p ws (f1.there p hp) gp hh d
  | rs c x =>
    rw [q] at h1
    exact fun G' H' d f xd => h1 G' H' d f.noa xd
  | stuck => rw [q] at h1; exact h1.elim
theorem pef_call1 (i : Nat) {φ : List T → List T → FO} (D : DefO S.toGC k x φ) (hk : k ≤ S.k) (hg : S.sc.names.lookup x = some .globalImplicit) (hN : S.N[i]? = some y) (hv : VisS S.sc y = true) (ha : PAF S es φs) (hdb : (x == ("__debug__" : Str)) = false := by decide)
    (hd : (y == ("__debug__" : Str)) = false := by decide) (hcd : (y == ("__classdict__" : Str)) = false := by decide)
    (he : ∀ X : Cx, starEach (.Name y p1 :: es) X.env = (false, eval (.Name y p1) X.env) :: starEach es X.env := by intro _; rfl) (hpl : ∀ X : Cx, (backTo pos (starEach es X.env)).any (·.1) = false := by intro _; rfl) : PEF S (.Call (.Name x p) (.Name y p1 :: es) [] pos) (fDef1 i φ φs) := by
  obtain ⟨ta, ha, ea⟩ := ha
  refine ⟨_, fun X hX => call_pe D hk hg (fun X hX => pa_cons (pe_var (i := i) (by rw [hX.N]; exact hN) (by rw [hX.sc]; exact vis_of hv) hd hcd) (ha X hX) (he X)) hdb he hpl X hX, fun σ ρ G H Q re h => ?_⟩
  unfold fDef1 at h
  split at h
  · exact h.elim
  rename_i ts0 e0
  obtain ⟨o, us0, e1, g0, h0, d0⟩ := re.ow i ts0 (isOw_of e0)
  refine ⟨.ref o, e1, ?_⟩
  refine ea σ ρ G H _ re ((Lands.bind h).imp fun as ρ1 G1 H1 r1 f1 o1 h1 vs d => ?_)
  split at h1
  · exact h1.elim
  rename_i ts e2
  obtain ⟨o', us, e3, g1, h3, d1⟩ := r1.ow i ts (isOw_of e2)
  rw [e1] at e3; cases e3
  refine ⟨G1, o, us, ts, vs, as, rfl, r1.same, g1, h3, d1, d, ?_⟩
  have ho : Own σ ρ1 o := ⟨i, ts, isOw_of e2, e1⟩
  cases q : φ ts as with
  | stuck => rw [q] at h1; exact h1.elim
  | rs c x =>
    rw [q] at h1
    exact fun G' H' d f xd => h1 G' H' d (f.mono fun p z => by rw [z]; exact ho) xd
  | va t ts' =>
    rw [q] at h1
    intro G' H' v us' s f gp hh d' dv
    refine h1 G' H' ⟨s, by simp [r1.len], fun j u z => ?_, fun j us2 z => ?_, fun j l us2 ws o2 z1 z2 q1 q2 => ?_⟩ (f.mono fun p z => by rw [z]; exact ho) (fun p z => own_mut (isOw_of e2) z) v dv
    · rcases getElem?_set' z with ⟨rfl, z', _⟩ | ⟨ne, z⟩
      · cases z'
      · obtain ⟨w, a, b⟩ := r1.va j u z
        exact ⟨w, a, b.mono f.gg⟩
    · rcases getElem?_set' z with ⟨rfl, z', _⟩ | ⟨ne, z⟩
      · cases z'
        exact ⟨o, us', e1, gp, hh, d'⟩
      · obtain ⟨o2, w2, a, b, c, dd⟩ := r1.ow j us2 z
        have hne : o2 ≠ o := fun w => ne (r1.ap i j ts us2 o (isOw_of e2) z e1 (by rw [← w]; exact a))
        refine ⟨o2, w2, a, ?_, f.keep o2 _ c hne noTb_lst, dd.mono f.gg⟩
        cases w : G' o2 with
        | none => rfl
        | some x' =>
          rcases f.new o2 x' w b with w' | w'
          · exact w'.lst c
          · exact absurd w' hne
    · have fnd : ∀ {j : Nat} {us2 : List T}, (ρ1.set i (.ow ts'))[j]? = some (.ow us2) → ∃ us2, ρ1[j]? = some (.ow us2) := fun {j us2} w => by
        rcases getElem?_set' w with ⟨rfl, _, _⟩ | ⟨_, w⟩
        · exact ⟨_, isOw_of e2⟩
        · exact ⟨_, w⟩
      obtain ⟨_, w1⟩ := fnd z1
      obtain ⟨_, w2⟩ := fnd z2
      exact r1.ap j l _ _ o2 w1 w2 q1 q2
end

/-! ### a def by its body -/
theorem fun_okN {P : Program} {w : World} {K : PySem.W.Frag} {mg : Str → Option Value} {base : Heap} {x qual : Str} {st : Stmt} {f : Addr} {fd : FuncData} {N ps : List Str} {k : Nat} {sp : Sp} (F : Fun K x qual st f fd) (S : FnScope N ps (defScope st))
    (len : ∀ vs H Q E, sp vs H Q E → vs.length = ps.length)
    (go : ∀ (cdv : Value) (A : Around) (outer : List Env) (s : Shared) (H : Hp) (vs : List V) (Q : VK) (E : XK), fd.code = cdv → Room k (A.deeper (envOfC qual (defScope st) s.heap.objs.size f cdv)) → sp vs H Q E →
      ∃ t, PSs (cxOf (L2N.CX P w) P w K mg base N qual (defScope st) f cdv A outer s H E) (defBody st) t ∧ t { nx := fun _ H' => Q .non H', rt := Q } (start N vs) H) : FnOk P w K mg base (L2N.CX P w) (k + 1) f fd ps sp := by
  obtain ⟨_, _, _, _, _, _, cdv, _, _, rfl, lk, hc⟩ := F.ex
  exact fn_of lk hc S len fun A outer s H vs Q E hr h => go cdv A outer s H vs Q E rfl hr h
def fnP (N n : Nat) (ψ : Rho → Out) : List T → FR := fun ts => if ts.length = n then (match ψ (ts.map .va ++ List.replicate (N - n) .no) with
  | .rt (.va t) _ => .va t
  | .rt (.ow us) _ => .ow us
  | .nx _ => .va .non
  | .rs c x => .rs c x
  | _ => .stuck) else .stuck
def fnO (N n : Nat) (ψ : Rho → Out) : List T → List T → FO := fun os as => if as.length = n then (match ψ (.ow os :: (as.map .va ++ List.replicate (N - (n + 1)) .no)) with
  | .rt (.va t) ρ => (match isOw ρ 0 with
    | some ts => .va t ts
    | none => .stuck)
  | .nx ρ => (match isOw ρ 0 with
    | some ts => .va .non ts
    | none => .stuck)
  | .rs c x => .rs c x
  | _ => .stuck) else .stuck
def mkS (g : GC) (N : List Str) (sc : Scope) (k : Nat) (E : XK) (pn : Bool) (mk : Option (Addr × Str) := none) : SC := { g with N := N, sc := sc, cf := fun _ => true, k := k, W := fun cls d _ H => E cls d H, pn := pn, lm := mk }
section
variable {g : GC} {x qual : Str} {st : Stmt} {f : Addr} {fd : FuncData} {N ps : List Str} {k : Nat} {ψ : Rho → Out} {mk : Option (Addr × Str)}
/-- what a maker of lambdas knows of its code object -/
def MkOk (mk : Option (Addr × Str)) (qual : Str) (sc : Scope) (cdv : Value) : Prop := ∀ c q, mk = some (c, q) → cdv = .ref c ∧ (envOfC qual sc 0 0 cdv).qual = q
theorem mk_none {qual : Str} {sc : Scope} {cdv : Value} : MkOk none qual sc cdv := fun c q z => nomatch z
theorem is_mkS {cdv : Value} {A : Around} {outer : List Env} {s : Shared} {H : Hp} {E : XK} {pn : Bool} (hmk : MkOk mk qual (defScope st) cdv) (hr : Room k (A.deeper (envOfC qual (defScope st) s.heap.objs.size f cdv))) :
    (mkS g N (defScope st) k E pn mk).Is (cxOf (L2N.CX g.P g.w) g.P g.w g.K g.mg g.base N qual (defScope st) f cdv A outer s H E) where
  prog := rfl
  w := rfl
  K := rfl
  mg := rfl
  base := rfl
  N := rfl
  sc := rfl
  fn := rfl
  calm := rfl
  room := hr
  tk := L2N.takes_of rfl rfl rfl rfl
  po := passes_of rfl
  code := hmk
theorem den_start {K : PySem.W.Frag} {cl : Cl} {G : Hp} {ts : List T} {vs : List V} (d : DenL K cl G ts vs) {m : Nat} {i : Nat} {t : T} (h : (ts.map Sl.va ++ List.replicate m Sl.no)[i]? = some (.va t)) : ∃ v, (vs.map some)[i]? = some (some v) ∧ Den K cl G t v := by
  by_cases hi : i < ts.length
  · rw [List.getElem?_append_left (by simpa using hi), List.getElem?_map] at h
    obtain ⟨u, e1, e2⟩ := Option.map_eq_some_iff.mp h
    cases e2
    obtain ⟨v, e3, dv⟩ := d.get e1
    exact ⟨v, by rw [List.getElem?_map, e3]; rfl, dv⟩
  · rw [List.getElem?_append_right (by simpa using hi), List.getElem?_replicate] at h
    split at h <;> cases h
theorem noow_start {ts us : List T} {m i : Nat} (h : (ts.map Sl.va ++ List.replicate m Sl.no)[i]? = some (.ow us)) : False := by
  by_cases hi : i < ts.length
  · rw [List.getElem?_append_left (by simpa using hi), List.getElem?_map] at h
    obtain ⟨u, e1, e2⟩ := Option.map_eq_some_iff.mp h
    cases e2
  · rw [List.getElem?_append_right (by simpa using hi), List.getElem?_replicate] at h
    split at h <;> cases h
theorem fnp_of (F : Fun g.K x qual st f fd) (S : FnScope N ps (defScope st)) (hN : ps.length ≤ N.length) (body : ∀ E, PSsF (mkS g N (defScope st) k E false mk) (defBody st) ψ) (hmk : MkOk mk qual (defScope st) fd.code := by exact mk_none) :
    FnOk g.P g.w g.K g.mg g.base (L2N.CX g.P g.w) (k + 1) f fd ps (SpP g.K g.cl (fnP N.length ps.length ψ)) := by
  refine fun_okN F S (fun vs H Q E h => ?_) (fun cdv A outer s H vs Q E hc hr h => ?_)
  · obtain ⟨G, ts, _, d, h⟩ := h
    rw [← d.len]
    unfold fnP at h
    by_cases hl : ts.length = ps.length
    · exact hl
    · rw [if_neg hl] at h; exact h.elim
  · obtain ⟨t, hp, ev⟩ := body E
    refine ⟨t, hp _ (is_mkS (by rw [← hc]; exact hmk) hr), ?_⟩
    obtain ⟨G, ts, sm, d, h⟩ := h
    unfold fnP at h
    by_cases hl : ts.length = ps.length
    · rw [if_pos hl] at h
      have hv : vs.length = ps.length := by rw [← d.len]; exact hl
      refine ev NoA (L2.start N vs) (ts.map .va ++ List.replicate (N.length - ps.length) .no) G H _ ⟨sm, ?_, fun i t e => ?_, fun i us e => (noow_start e).elim, fun i j us ws o e => (noow_start e).elim⟩ (fun o ⟨i, us, e, _⟩ => (noow_start e).elim) ?_
      · unfold L2.start; simp; omega
      · obtain ⟨v, e1, dv⟩ := den_start d e
        refine ⟨v, ?_, dv⟩
        unfold L2.start
        rw [List.getElem?_append_left (by rw [List.length_map]; have := (List.getElem?_eq_some_iff.mp e1).1; simpa using this)]
        exact e1
      · cases q : ψ (ts.map .va ++ List.replicate (N.length - ps.length) .no) with
        | nx ρ' => rw [q] at h; exact fun σ' G' H' a => h G' H' _ a.rel.same a.fr den_non
        | bk ρ' => rw [q] at h; exact h.elim
        | ct ρ' => rw [q] at h; exact h.elim
        | stuck => rw [q] at h; exact h.elim
        | rs c y => rw [q] at h; exact fun σ' G' H' d f xd => h G' H' d f xd
        | rt r ρ' =>
          rw [q] at h
          cases r with
          | no => exact h.elim
          | va t => exact fun σ' G' H' v a d => h G' H' v a.rel.same a.fr d
          | ow us => exact fun σ' G' H' p ws a hp no gp hh d => h G' H' p ws a.rel.same a.fr (hp.resolve_left fun z => z) gp hh d
    · rw [if_neg hl] at h; exact h.elim
theorem defp_of (F : Fun g.K x qual st f fd) (S : FnScope N ps (defScope st)) (hm : g.mg x = some (.ref f)) (hb : Binds g.K fd ps []) (hN : ps.length ≤ N.length) (body : ∀ E, PSsF (mkS g N (defScope st) k E false mk) (defBody st) ψ) (hmk : MkOk mk qual (defScope st) fd.code := by exact mk_none) : DefP g (k + 1) x (fnP N.length ps.length ψ) :=
  ⟨f, fd, ps, fnp_of F S hN body hmk, hm, F.kp, hb⟩
theorem defo_of {p0 : Str} {ps' : List Str} (F : Fun g.K x qual st f fd) (S : FnScope N (p0 :: ps') (defScope st)) (hm : g.mg x = some (.ref f)) (hb : Binds g.K fd (p0 :: ps') []) (hN : (p0 :: ps').length ≤ N.length) (body : ∀ E, PSsF (mkS g N (defScope st) k E true mk) (defBody st) ψ) (hmk : MkOk mk qual (defScope st) fd.code := by exact mk_none) :
    DefO g (k + 1) x (fnO N.length ps'.length ψ) := by
  refine ⟨f, fd, p0 :: ps', fun_okN F S (fun vs H Q E h => ?_) (fun cdv A outer s H vs Q E hc hr h => ?_), hm, F.kp, hb⟩
  · obtain ⟨G, o, us, ts, ws, as, rfl, _, _, _, _, d, h⟩ := h
    rw [List.length_cons, List.length_cons, ← d.len]
    unfold fnO at h
    by_cases hl : as.length = ps'.length
    · rw [hl]
    · rw [if_neg hl] at h; exact h.elim
  · obtain ⟨t, hp, ev⟩ := body E
    refine ⟨t, hp _ (is_mkS (by rw [← hc]; exact hmk) hr), ?_⟩
    obtain ⟨G, o, us, ts, ws, as, rfl, sm, g0, h0, d0, d, h⟩ := h
    unfold fnO at h
    by_cases hl : as.length = ps'.length
    · rw [if_pos hl] at h
      have hv : ws.length = ps'.length := by rw [← d.len]; exact hl
      have hN' : ps'.length + 1 ≤ N.length := by simpa using hN
      have own0 : ∀ {j : Nat} {vs2 : List T}, (Sl.ow ts :: (as.map Sl.va ++ List.replicate (N.length - (ps'.length + 1)) Sl.no))[j]? = some (.ow vs2) → j = 0 ∧ vs2 = ts := fun {j vs2} e => by
        cases j with
        | zero => simp at e; exact ⟨rfl, e.symm⟩
        | succ j => exact (noow_start (by simpa using e)).elim
      have s0 : (L2.start N (V.ref o :: ws))[0]? = some (some (.ref o)) := by unfold L2.start; rfl
      refine ev (fun p => p = o) (L2.start N (V.ref o :: ws)) (.ow ts :: (as.map .va ++ List.replicate (N.length - (ps'.length + 1)) .no)) G H _ ⟨sm, ?_, fun i t e => ?_, fun i vs2 e => ?_, fun i j vs2 ws2 o2 e1 e2 _ _ => ?_⟩ (fun o2 ⟨i, vs2, e, e2⟩ => ?_) ?_
      · unfold L2.start; simp; omega
      · cases i with
        | zero => simp at e
        | succ i =>
          obtain ⟨v, e1, dv⟩ := den_start d (by simpa using e)
          refine ⟨v, ?_, dv⟩
          unfold L2.start
          rw [List.getElem?_append_left (by rw [List.length_map]; have := (List.getElem?_eq_some_iff.mp e1).1; simp at this ⊢; exact this)]
          simpa using e1
      · obtain ⟨rfl, rfl⟩ := own0 e
        exact ⟨o, us, s0, g0, h0, d0⟩
      · rw [(own0 e1).1, (own0 e2).1]
      · rw [(own0 e).1, s0] at e2
        cases e2; rfl
      · have last : ∀ {ρ' : Rho} {σ' : L2.St} {G' H' : Hp} {ts' : List T}, After g.K g.cl true (fun p => p = o) (L2.start N (V.ref o :: ws)) G H ρ' σ' G' H' → isOw ρ' 0 = some ts' → ∃ us', G' o = none ∧ H' o = some (.lst us') ∧ DenL g.K g.cl G' ts' us' := fun {ρ' σ' G' H' ts'} a e => by
          obtain ⟨o', us', e1, e2, e3, e4⟩ := a.rel.ow 0 ts' (isOw_of e)
          rw [a.pin rfl, s0] at e1
          cases e1
          exact ⟨us', e2, e3, e4⟩
        cases q : ψ (.ow ts :: (as.map .va ++ List.replicate (N.length - (ps'.length + 1)) .no)) with
        | nx ρ' =>
          rw [q] at h
          intro σ' G' H' a
          dsimp only at h
          cases e : isOw ρ' 0 with
          | none => rw [e] at h; exact h.elim
          | some ts' =>
            rw [e] at h
            obtain ⟨us', z1, z2, z3⟩ := last a e
            exact h G' H' _ us' a.rel.same a.fr z1 z2 z3 den_non
        | bk ρ' => rw [q] at h; exact h.elim
        | ct ρ' => rw [q] at h; exact h.elim
        | stuck => rw [q] at h; exact h.elim
        | rs c y => rw [q] at h; exact fun σ' G' H' d f xd => h G' H' d f xd
        | rt r ρ' =>
          rw [q] at h
          cases r with
          | no => exact h.elim
          | ow us => exact h.elim
          | va t =>
            intro σ' G' H' v a d
            dsimp only at h
            cases e : isOw ρ' 0 with
            | none => rw [e] at h; exact h.elim
            | some ts' =>
              rw [e] at h
              obtain ⟨us', z1, z2, z3⟩ := last a e
              exact h G' H' v us' a.rel.same a.fr z1 z2 z3 d
    · rw [if_neg hl] at h; exact h.elim
end

/-! ### raise -/
structure ExcP (g : GC) (x : Str) (c : String) : Prop where
  mg : g.mg x = some (.ref (g.cl c))
  ex : PySem.W.excIn g.K (g.cl c) [.type "ValueError", .type "Exception", .type "BaseException", .type "object"] "ValueError.__new__" = true
  kp : PySem.W.keepIn g.K (.ref (g.cl c)) = true
  sb : PySem.W.subIn g.K (.ref (g.cl c)) (.type "BaseException") = some true
  ty : PySem.W.typeIn g.K (.ref (g.cl c)) = some (.type "type")
def sRaise (c : String) : Rho → Out := fun _ => .rs c none
theorem psf_raise {S : SC} {x m : Str} {c : String} {j : Nat} {p p2 p3 pos : Pos} (ec : ExcP S.toGC x c) (hg : S.sc.names.lookup x = some .globalImplicit) (hdb : (x == ("__debug__" : Str)) = false := by decide) :
    PSF S (.Raise (some (.Call (.Name x p) [.Constant (.str m) j p2] [] p3)) none pos) (sRaise c) := by
  refine ⟨_, fun X hX => L2N.ps_raise (W := S.W) hX.calm hX.tk (L2N.pmk_own PySem.F.excBase_ValueError (by rw [hX.K]; exact ec.ex) (by rw [hX.mg]; exact ec.mg) (by rw [hX.K]; exact ec.kp) (raises_own (by rw [hX.K]; exact ec.sb) (by rw [hX.K]; exact ec.ty)) (hX.gl hg) hdb), fun A σ ρ G H D re hA h => ?_⟩
  exact h σ G H none Fr.refl ⟨re.same.tab, rfl⟩
end Fx
namespace Fx
open PySem PySem.Spec PyProof.Rows L2

/-! ### isinstance -/
def tyName : T → Option String
  | .non => some "NoneType"
  | .bl _ => some "bool"
  | .int _ => some "int"
  | .str _ => some "str"
  | .lst _ => some "list"
  | .tup _ => some "tuple"
  | .nm _ => none
def isInt : T → Bool
  | .int _ => true
  | .bl _ => true
  | _ => false
def isBl : T → Bool
  | .bl _ => true
  | _ => false
def isStr : T → Bool
  | .str _ => true
  | _ => false
def isLst : T → Bool
  | .lst _ => true
  | _ => false
def isTup : T → Bool
  | .tup _ => true
  | _ => false
structure IsiF (n : String) (q : T → Bool) : Prop where
  kit : ∀ t a, tyName t = some a → kitB a n = some (q t)
theorem i_int : IsiF "int" isInt := ⟨fun t a h => by cases t <;> cases h <;> (first | rfl | decide +kernel)⟩
theorem i_bool : IsiF "bool" isBl := ⟨fun t a h => by cases t <;> cases h <;> (first | rfl | decide +kernel)⟩
theorem i_str : IsiF "str" isStr := ⟨fun t a h => by cases t <;> cases h <;> (first | rfl | decide +kernel)⟩
theorem i_list : IsiF "list" isLst := ⟨fun t a h => by cases t <;> cases h <;> (first | rfl | decide +kernel)⟩
theorem i_tuple : IsiF "tuple" isTup := ⟨fun t a h => by cases t <;> cases h <;> (first | rfl | decide +kernel)⟩
def fIsi (q : T → Bool) (φ : Rho → Rz T) : Rho → Rz T := fun ρ => (φ ρ).bind fun t ρ1 => match tyName t with
  | some _ => .ok (.bl (q t)) ρ1
  | none => .stuck
theorem den_ty {K : PySem.W.Frag} {cl : Cl} {G H : Hp} {t : T} {v : V} {a : String} (s : Sm cl G H) (d : Den K cl G t v) (h : tyName t = some a) : TyX K H v (.type a) := by
  cases t with
  | non => cases h; rw [d.non_of]; exact .base .non
  | bl b => cases h; rw [d.bl_of]; exact .base (.bl b)
  | int b => cases h; rw [d.int_of]; exact .base (.int b)
  | str b => cases h; rw [d.str_of]; exact .base (.str b)
  | nm _ => cases h
  | lst ts =>
    cases h
    obtain ⟨a, xs, rfl, q, _⟩ := d.lst_of
    rcases s.seq q with (q | ⟨o, q⟩) | ⟨o, its, n, q, c, _⟩
    · exact .base (.lst q)
    · exact .base (.frz q)
    · exact .kList q c
  | tup ts =>
    cases h
    obtain ⟨a, xs, rfl, q, _⟩ := d.tup_of
    rcases same_seqT s.same q with (q | ⟨o, q⟩) | ⟨o, its, n, q, c, _⟩
    · exact .base (.tup q)
    · exact .fTuple q
    · exact .kTuple q c
section
variable {S : SC} {e e2 : Expr} {φ φ2 : Rho → Rz T} {p p1 p2 p3 pos : Pos} {x y : Str}
theorem pef_isi {n : String} {q : T → Bool} (i : IsiF n q) (hg : S.sc.names.lookup ("isinstance" : Str) = some .globalImplicit) (hm : S.mg ("isinstance" : Str) = none) (hg2 : S.sc.names.lookup x = some .globalImplicit) (hm2 : S.mg x = none) (hb : bootBuiltins x = some (.type n)) (he : PEF S e φ)
    (hn : x ≠ "__name__" := by decide) (hd : (x == ("__debug__" : Str)) = false := by decide) (hs : ∀ X : Cx, starEach (e :: [.Name x p1]) X.env = (false, eval e X.env) :: starEach [.Name x p1] X.env := by intro _; rfl)
    (hs2 : ∀ X : Cx, starEach (.Name x p1 :: []) X.env = (false, eval (.Name x p1) X.env) :: starEach [] X.env := by intro _; rfl) (hpl : ∀ X : Cx, (backTo pos (starEach [.Name x p1] X.env)).any (·.1) = false := by intro _; rfl) :
    PEF S (.Call (.Name "isinstance" p) [e, .Name x p1] [] pos) (fIsi q φ) := by
  obtain ⟨te, he, ev⟩ := he
  refine ⟨tCB (rIsi S.K) (tCons te (tCons (tC (.ty n)) tNil)), fun X hX => by
    rw [← hX.K]
    exact pe_callB call_isi (hX.gl hg) (by rw [hX.mg]; exact hm) (by decide +kernel) (pa_cons (he X hX) (pa_cons (pe_bltn (v := .ty n) (hX.gl hg2) (by rw [hX.mg]; exact hm2) hb rfl hn hd) pa_nil (hs2 X)) (hs X)) (by decide) (by decide) (hs X) (hpl X), fun σ ρ G H Q re h => ?_⟩
  refine ev σ ρ G H _ re ((Lands.bind h).imp fun t ρ1 G1 H1 r1 f1 o1 h1 v d => ?_)
  split at h1
  · rename_i a ea
    exact ⟨v, .ty n, .type a, .type n, q t, rfl, .ty n, den_ty r1.same d ea, kit_ty (i.kit t a ea), h1.here r1 _ (den_bl _)⟩
  · exact h1.elim

/-! ### a list times a number, list(..), list.index -/
def fRep (a : Rho → Rz (List T)) (b : Rho → Rz T) : Rho → Rz (List T) := fun ρ => (a ρ).bind fun xs ρ1 => (b ρ1).bind fun k ρ2 => match k with
  | .int k => if -(2 ^ 63) ≤ k ∧ k < 2 ^ 63 ∧ xs.length * k.toNat ≤ sizeLine then .ok (List.replicate k.toNat xs).flatten ρ2 else .stuck
  | _ => .stuck
theorem DenL.reps {K : PySem.W.Frag} {cl : Cl} {G : Hp} {ts : List T} {xs : List V} (h : DenL K cl G ts xs) : ∀ n : Nat, DenL K cl G (List.replicate n ts).flatten (List.replicate n xs).flatten
  | 0 => DenL.nil
  | n + 1 => by
    rw [List.replicate_succ, List.replicate_succ, List.flatten_cons, List.flatten_cons]
    exact h.append (h.reps n)
theorem pof_rep {φa : Rho → Rz (List T)} (ha : POF S e φa) (hb : PEF S e2 φ2) : POF S (.BinOp e .Mult e2 pos) (fRep φa φ2) := by
  obtain ⟨ta, ha, ea⟩ := ha
  obtain ⟨tb, hb, eb⟩ := hb
  refine ⟨tOp rRep ta tb, fun X hX => pe_op op_rep (ha X hX) (hb X hX), fun σ ρ G H Q re h => ?_⟩
  refine ea σ ρ G H _ re ((Lands.bind h).imp fun xs ρ1 G1 H1 r1 f1 o1 h1 p us hp gp hh d => ?_)
  have np : ¬ Own σ ρ1 p := fun z => by
    obtain ⟨us', z1, _⟩ := re.own_some (o1 p z)
    exact hp.lst z1
  refine eb σ ρ1 G1 H1 _ r1 ((Lands.bind h1).imp fun k ρ2 G2 H2 r2 f2 o2 h2 v dv => ?_)
  cases k with
  | int k =>
    dsimp only at h2
    split at h2
    · rename_i hk
      have h3 : H2 p = some (.lst us) := f2.keep p _ hh np noTb_lst
      refine ⟨p, k, us, rfl, dv.int_of, h3, hk.1, hk.2.1, by rw [← d.len]; exact hk.2.2, fun q hq => ?_⟩
      exact h2.done r2 (Fr.made hq) (sm_new r2.same hq) q _ ((f1.there q) (f2.there q (.of hq))) (r2.same.free hq) upd_same ((d.mono f2.gg).reps _)
    · exact h2.elim
  | _ => exact h2.elim
def fList (a : Rho → Rz T) : Rho → Rz (List T) := fun ρ => (a ρ).bind fun t ρ1 => Rz.of (itemsT t) ρ1
theorem pof_list (hg : S.sc.names.lookup ("list" : Str) = some .globalImplicit) (hm : S.mg ("list" : Str) = none) (ha : PEF S e φ) (he : ∀ X : Cx, starEach (e :: []) X.env = (false, eval e X.env) :: starEach [] X.env := by intro _; rfl) (hpl : ∀ X : Cx, (backTo pos (starEach [] X.env)).any (·.1) = false := by intro _; rfl) :
    POF S (.Call (.Name "list" p) [e] [] pos) (fList φ) := by
  obtain ⟨ta, ha, ea⟩ := ha
  refine ⟨tCB (fun xs H Q => ∃ p ys, xs = [.ref p] ∧ (SqL S.K H p ys ∨ SqT S.K H p ys) ∧ ∀ l, H l = none → Q (.ref l) (upd H l (.lst ys))) (tCons ta tNil), fun X hX => by
    rw [← hX.K]
    exact pe_callTy call_list_of (hX.gl hg) (by rw [hX.mg]; exact hm) (by decide +kernel) (pa_cons (ha X hX) pa_nil (he X)) (by decide) (by decide) (he X) (hpl X), fun σ ρ G H Q re h => ?_⟩
  refine ea σ ρ G H _ re ((Lands.bind h).imp fun t ρ1 G1 H1 r1 f1 o1 h1 v d => ?_)
  have fin : ∀ {us : List T} {ys : List V} {l : Addr}, itemsT t = some us → DenL S.K S.cl G1 us ys → H1 l = none → Q (.ref l) (upd H1 l (.lst ys)) := fun {us ys l} e dl hl => by
    rw [e] at h1
    exact h1.done r1 (Fr.made hl) (sm_new r1.same hl) l ys (f1.there l (.of hl)) (r1.same.free hl) upd_same dl
  cases t with
  | lst ts =>
    obtain ⟨a, xs, rfl, s, dl⟩ := d.lst_of
    exact ⟨a, xs, rfl, .inl (r1.same.seq s), fun l hl => fin rfl dl hl⟩
  | tup ts =>
    obtain ⟨a, xs, rfl, s, dl⟩ := d.tup_of
    exact ⟨a, xs, rfl, .inr (same_seqT r1.same.same s), fun l hl => fin rfl dl hl⟩
  | _ => exact h1.elim
def fIndex (a b : Rho → Rz T) : Rho → Rz T := fun ρ => (a ρ).bind fun t ρ1 => match t with
  | .lst xs => (b ρ1).bind fun u ρ2 => if flatT u = true ∧ xs.all flatT = true ∧ xs.findIdx (fun z => eqT z u) < xs.length then .ok (.int (xs.findIdx (fun z => eqT z u) : Nat)) ρ2 else .stuck
  | _ => .stuck
theorem pef_index (ha : PEF S e φ) (hb : PEF S e2 φ2)
    (hpe : ∀ (X : Cx) t u, S.Is X → PE X e t → PE X e2 u → PE X (.Call (.Attribute e "index" p2) [e2] [] p3) (tBM X.K "list" (rIndex X.K) t (tCons u tNil))) : PEF S (.Call (.Attribute e "index" p2) [e2] [] p3) (fIndex φ φ2) := by
  obtain ⟨ta, ha, ea⟩ := ha
  obtain ⟨tb, hb, eb⟩ := hb
  refine ⟨tBM S.K "list" (rIndex S.K) ta (tCons tb tNil), fun X hX => by rw [← hX.K]; exact hpe X ta tb hX (ha X hX) (hb X hX), fun σ ρ G H Q re h => ?_⟩
  refine ea σ ρ G H _ re ((Lands.bind h).imp fun t ρ1 G1 H1 r1 f1 o1 h1 v d => ?_)
  cases t with
  | lst ts =>
    obtain ⟨a, xs, rfl, s, dl⟩ := d.lst_of
    refine ⟨.inl ⟨rfl, _, r1.same.seq s⟩, ?_⟩
    refine eb σ ρ1 G1 H1 _ r1 ((Lands.bind h1).imp fun u ρ2 G2 H2 r2 f2 o2 h2 w dw => ?_)
    split at h2
    · rename_i hc
      obtain ⟨c1, c2, c3⟩ := hc
      have dl2 := dl.mono f2.gg
      obtain ⟨fa, _⟩ := flat_denL c1 dw dl2 c2
      have get : ∀ {m : Nat} {z : V}, xs[m]? = some z → ∃ tz, ts[m]? = some tz ∧ eqV z w = eqT tz u := fun {m z} ez => by
        obtain ⟨tz, e1, dz⟩ := dl2.getV ez
        have ft : flatT tz = true := List.all_eq_true.mp c2 tz (List.mem_of_getElem? e1)
        exact ⟨tz, e1, (flat_den ft dz).2 c1 dw⟩
      have hx : ts.findIdx (fun z => eqT z u) < xs.length := by rw [← dl2.len]; exact c3
      refine ⟨a, xs, w, ts.findIdx (fun z => eqT z u), xs[ts.findIdx (fun z => eqT z u)], rfl, rfl, r2.same.seq (f2.gg.seq s), (flat_den c1 dw).1, fa, List.getElem?_eq_getElem hx, ?_, fun m z' hm ez => ?_, h2.here r2 _ (den_int _)⟩
      · obtain ⟨tz, e1, e2⟩ := get (List.getElem?_eq_getElem hx)
        rw [e2]
        have := List.findIdx_getElem (w := c3)
        rw [List.getElem?_eq_getElem c3] at e1
        cases e1
        exact this
      · obtain ⟨tz, e1, e2⟩ := get ez
        rw [e2]
        have := List.not_of_lt_findIdx hm
        obtain ⟨hml, e3⟩ := List.getElem?_eq_some_iff.mp e1
        rw [e3] at this
        simpa using this
    · exact h2.elim
  | _ => exact h1.elim

/-! ### a, b = x, y -/
def sPar (i j : Nat) (a b : Rho → Rz T) : Rho → Out := fun ρ => (a ρ).out fun t ρ1 => (b ρ1).out fun u ρ2 => .nx ((ρ2.set i (.va t)).set j (.va u))
def sParO (i j : Nat) (a : Rho → Rz T) (b : Rho → Rz (List T)) : Rho → Out := fun ρ => (a ρ).out fun t ρ1 => (b ρ1).out fun u ρ2 => .nx ((ρ2.set i (.va t)).set j (.ow u))
theorem psf_par {i j : Nat} {px py pt : Pos} {kt k2 pt2} (hN : S.N.Nodup) (hi : S.N[i]? = some x) (hj : S.N[j]? = some y) (hij : i ≠ j) (hx : S.sc.names.lookup x = some .local) (hy : S.sc.names.lookup y = some .local) (ha : PEF S e φ) (hb : PEF S e2 φ2) (hp : S.pn = true → i ≠ 0 ∧ j ≠ 0)
    (hw : ∀ env : Env, env.scope = S.sc → swappedStores [.Tuple [.Name x px, .Name y py] kt pt] (.Tuple [e, e2] k2 pt2) env = pure (some [x, y]))
    (hs : ∀ X : Cx, swapsWithSole [.Tuple [.Name x px, .Name y py] kt pt] (.Tuple [e, e2] k2 pt2) pos.line X.env = pure false := by intro _; rfl)
    (he1 : ∀ X : Cx, starEach (e :: [e2]) X.env = (false, eval e X.env) :: starEach [e2] X.env := by intro _; rfl) (he2 : ∀ X : Cx, starEach (e2 :: []) X.env = (false, eval e2 X.env) :: starEach [] X.env := by intro _; rfl) :
    PSF S (.Assign [.Tuple [.Name x px, .Name y py] kt pt] (.Tuple [e, e2] k2 pt2) pos) (sPar i j φ φ2) := by
  obtain ⟨ta, ha, ea⟩ := ha
  obtain ⟨tb, hb, eb⟩ := hb
  refine ⟨tPar i j (tCons ta (tCons tb tNil)), fun X hX => ps_par hX.calm (by rw [hX.N]; exact hN) (by rw [hX.N]; exact hi) (by rw [hX.N]; exact hj) hij (by rw [hX.sc]; exact hx) (by rw [hX.sc]; exact hy) (pa_cons (ha X hX) (pa_cons (hb X hX) pa_nil (he2 X)) (he1 X)) (hw X.env hX.sc) (hs X), fun A σ ρ G H D re hA h => ?_⟩
  refine ea σ ρ G H _ re (LandS.expr re hA h fun t ρ1 G1 H1 r1 f1 o1 af h1 v d => ?_)
  refine eb σ ρ1 G1 H1 _ r1 (LandS.expr (A := fun p => A p ∨ Fs H p) r1 af.own (h1.step af) fun u ρ2 G2 H2 r2 f2 o2 af2 h2 w dw => ⟨v, w, rfl, ?_⟩)
  exact h2 _ G2 H2 (after_set (after_set af2 (d.mono f2.gg) fun e => (hp e).1) dw fun e => (hp e).2)
theorem psf_parO {i j : Nat} {px py pt : Pos} {kt k2 pt2} {φ2 : Rho → Rz (List T)} (hN : S.N.Nodup) (hi : S.N[i]? = some x) (hj : S.N[j]? = some y) (hij : i ≠ j) (hx : S.sc.names.lookup x = some .local) (hy : S.sc.names.lookup y = some .local) (ha : PEF S e φ) (hb : POF S e2 φ2) (hp : S.pn = true → i ≠ 0 ∧ j ≠ 0)
    (hw : ∀ env : Env, env.scope = S.sc → swappedStores [.Tuple [.Name x px, .Name y py] kt pt] (.Tuple [e, e2] k2 pt2) env = pure (some [x, y]))
    (hs : ∀ X : Cx, swapsWithSole [.Tuple [.Name x px, .Name y py] kt pt] (.Tuple [e, e2] k2 pt2) pos.line X.env = pure false := by intro _; rfl)
    (he1 : ∀ X : Cx, starEach (e :: [e2]) X.env = (false, eval e X.env) :: starEach [e2] X.env := by intro _; rfl) (he2 : ∀ X : Cx, starEach (e2 :: []) X.env = (false, eval e2 X.env) :: starEach [] X.env := by intro _; rfl) :
    PSF S (.Assign [.Tuple [.Name x px, .Name y py] kt pt] (.Tuple [e, e2] k2 pt2) pos) (sParO i j φ φ2) := by
  obtain ⟨ta, ha, ea⟩ := ha
  obtain ⟨tb, hb, eb⟩ := hb
  refine ⟨tPar i j (tCons ta (tCons tb tNil)), fun X hX => ps_par hX.calm (by rw [hX.N]; exact hN) (by rw [hX.N]; exact hi) (by rw [hX.N]; exact hj) hij (by rw [hX.sc]; exact hx) (by rw [hX.sc]; exact hy) (pa_cons (ha X hX) (pa_cons (hb X hX) pa_nil (he2 X)) (he1 X)) (hw X.env hX.sc) (hs X), fun A σ ρ G H D re hA h => ?_⟩
  refine ea σ ρ G H _ re (LandS.expr re hA h fun t ρ1 G1 H1 r1 f1 o1 af h1 v d => ?_)
  refine eb σ ρ1 G1 H1 _ r1 (LandS.expr (A := fun p => A p ∨ Fs H p) r1 af.own (h1.step af) fun u ρ2 G2 H2 r2 f2 o2 af2 h2 p us hp' gp hh dw => ⟨v, .ref p, rfl, ?_⟩)
  refine h2 _ G2 H2 (after_setO (after_set af2 (d.mono f2.gg) fun e => (hp e).1) hp' gp hh dw (fun z => ?_) fun e => (hp e).2)
  obtain ⟨us', z1, _⟩ := r1.own_some (o2 p (own_set z))
  exact hp'.lst z1
end
end Fx
namespace Fx
open PySem PySem.Spec PyProof.Rows L2

/-! ### a < b < c < d, as a test -/
def tChain3 (r r' r'' : R2) (ta tb tc td : TE) : TT := fun σ H Q => ta σ H fun x H1 => tb σ H1 fun y H2 => r x y H2 fun z H3 => ∃ k, z = .bl k ∧
  (if k = true then tc σ H3 fun w H4 => r' y w H4 fun z' H5 => ∃ k', z' = .bl k' ∧ (if k' = true then td σ H5 fun v H6 => r'' w v H6 fun z'' H7 => ∃ k'', z'' = .bl k'' ∧ Q k'' H7 else Q false H5) else Q false H3)
theorem pt_chain3 {X : Cx} {a b c d : Expr} {ta tb tc td : TE} {pos : Pos} {op op' op'' : CmpOp} {r r' r'' : R2} (ho : OpR X (compareOp op) r) (ho' : OpR X (compareOp op') r') (ho'' : OpR X (compareOp op'') r'') (ha : PE X a ta) (hb : PE X b tb) (hc : PE X c tc) (hd : PE X d td)
    (hm : lastMarks [op, op', op''] [b, c, d] = false) : PT X (.Compare a [op, op', op''] [b, c, d] pos) (tChain3 r r' r'' ta tb tc td) := by
  refine ⟨fun pins s σ H Q I h => ?_⟩
  refine isTrue_chain (thn (ha.run pins s σ H _ I h) fun v s1 ⟨x, H1, I1, r1, q1⟩ => test_link (thn (hb.run pins s1 σ H1 _ I1 q1) fun u s2 ⟨y, H2, I2, r2, q2⟩ =>
    thn (ho pins s2 σ H2 x y v u _ I2 r1 r2 q2) fun d1 s3 ⟨z, H3, I3, r3, k, e, q3⟩ => ?_)) hm
  subst e
  cases r3
  refine wpAny_truthy_bool ?_
  cases k with
  | false => exact ite_ff ⟨H3, I3, q3⟩
  | true =>
    refine ite_tt (test_link (thn (hc.run pins s3 σ H3 _ I3 q3) fun w' s4 ⟨z', H4, I4, r4, q4⟩ => thn (ho' pins s4 σ H4 y z' u w' _ I4 r2 r4 q4) fun d2 s5 ⟨z2, H5, I5, r5, k2, e2, q5⟩ => ?_))
    subst e2
    cases r5
    refine wpAny_truthy_bool ?_
    cases k2 with
    | false => exact ite_ff ⟨H5, I5, q5⟩
    | true =>
      refine ite_tt (test_last (thn (hd.run pins s5 σ H5 _ I5 q5) fun w3 s6 ⟨z3, H6, I6, r6, q6⟩ => thn (ho'' pins s6 σ H6 z' z3 w' w3 _ I6 r4 r6 q6) fun d3 s7 ⟨z4, H7, I7, r7, k3, e3, q7⟩ => ?_))
      subst e3
      cases r7
      exact wpAny_truthy_bool ⟨H7, I7, q7⟩
def fChain3 (g g' g'' : T → T → Option T) (a b c d : Rho → Rz T) : Rho → Rz Bool := fun ρ => (a ρ).bind fun x ρ1 => (b ρ1).bind fun y ρ2 => match g x y with
  | some (.bl true) => (c ρ2).bind fun z ρ3 => (match g' y z with
    | some (.bl true) => (d ρ3).bind fun w ρ4 => (match g'' z w with
      | some (.bl k) => .ok k ρ4
      | _ => .stuck)
    | some (.bl false) => .ok false ρ3
    | _ => .stuck)
  | some (.bl false) => .ok false ρ2
  | _ => .stuck
theorem ptf_c3 {S : SC} {a b c d : Expr} {φa φb φc φd : Rho → Rz T} {pos : Pos} {op op' op'' : CmpOp} {g g' g'' : T → T → Option T} (k : CmpF S op g) (k' : CmpF S op' g') (k'' : CmpF S op'' g'') (ha : PEF S a φa) (hb : PEF S b φb) (hc : PEF S c φc) (hd : PEF S d φd)
    (hm : lastMarks [op, op', op''] [b, c, d] = false := by rfl) : PTF S (.Compare a [op, op', op''] [b, c, d] pos) (fChain3 g g' g'' φa φb φc φd) := by
  obtain ⟨r, h1, h2⟩ := k.ex
  obtain ⟨r', h3, h4⟩ := k'.ex
  obtain ⟨r'', h5, h6⟩ := k''.ex
  obtain ⟨ta, ha, ea⟩ := ha
  obtain ⟨tb, hb, eb⟩ := hb
  obtain ⟨tc, hc, ec⟩ := hc
  obtain ⟨td, hd, ed⟩ := hd
  refine ⟨tChain3 r r' r'' ta tb tc td, fun X hX => pt_chain3 (h1 X hX) (h3 X hX) (h5 X hX) (ha X hX) (hb X hX) (hc X hX) (hd X hX) hm, fun σ ρ G H Q re h => ?_⟩
  refine ea σ ρ G H _ re ((Lands.bind h).imp fun x ρ1 G1 H1 re1 fr1 ow1 h1' v dv => ?_)
  refine eb σ ρ1 G1 H1 _ re1 ((Lands.bind h1').imp fun y ρ2 G2 H2 re2 fr2 ow2 h2' u du => ?_)
  cases e1 : g x y with
  | none => rw [e1] at h2'; exact h2'.elim
  | some z1 =>
  rw [e1] at h2'
  cases z1 with
  | bl b1 =>
    refine h2 G2 H2 v u x y _ _ re2.same (dv.mono fr2.gg) du e1 fun G' H' w s f d => ⟨b1, d.bl_of, ?_⟩
    have re2' := re2.keep f s
    cases b1 with
    | false => rw [if_neg Bool.false_ne_true]; exact Lands.done (a := false) h2' re2 f s
    | true =>
      rw [if_pos rfl]
      have h3' := Lands.step h2' f.noa fun _ z => z
      refine ec σ ρ2 G' H' _ re2' ((Lands.bind h3').imp fun z ρ3 G4 H4 re4 fr4 ow4 h4' w' dw => ?_)
      have du4 := (du.mono f.gg).mono fr4.gg
      cases e2 : g' y z with
      | none => rw [e2] at h4'; exact h4'.elim
      | some z2 =>
      rw [e2] at h4'
      cases z2 with
      | bl b2 =>
        refine h4 G4 H4 u w' y z _ _ re4.same du4 dw e2 fun G5 H5 w5 s5 f5 d5 => ⟨b2, d5.bl_of, ?_⟩
        have re5 := re4.keep f5 s5
        cases b2 with
        | false => rw [if_neg Bool.false_ne_true]; exact Lands.done (a := false) h4' re4 f5 s5
        | true =>
          rw [if_pos rfl]
          have h5' := Lands.step h4' f5.noa fun _ z => z
          refine ed σ ρ3 G5 H5 _ re5 ((Lands.bind h5').imp fun q ρ4 G6 H6 re6 fr6 ow6 h6' w6 dw6 => ?_)
          cases e3 : g'' z q with
          | none => rw [e3] at h6'; exact h6'.elim
          | some z3 =>
          rw [e3] at h6'
          cases z3 with
          | bl b3 =>
            exact h6 G6 H6 w' w6 z q _ _ re6.same ((dw.mono f5.gg).mono fr6.gg) dw6 e3 fun G7 H7 w7 s7 f7 d7 => ⟨b3, d7.bl_of, Lands.done (a := b3) h6' re6 f7 s7⟩
          | _ => exact h6'.elim
      | _ => exact h4'.elim
  | _ => exact h2'.elim
/-- a def that promises nothing -/
theorem defx_stuck {g : GC} {k : Nat} {x : Str} {f : Addr} {fd : FuncData} {ps : List Str} (kp : PySem.W.keepIn g.K (.ref f) = true) (hm : g.mg x = some (.ref f)) (hb : Binds g.K fd ps []) : DefP g k x (fun _ => .stuck) :=
  ⟨f, fd, ps, ⟨fun vs H Q E ⟨_, _, _, _, h⟩ => h.elim, fun A outer s H args us vs Q E hr e0 b r ⟨_, _, _, _, h⟩ => h.elim⟩, hm, kp, hb⟩
/-- the address of a def or class of the top; tb: the tables of the defs that make lambdas -/
def clK (K : PySem.W.Frag) (tb : List (Addr × Str)) : Cl where
  ad := fun s => match PySem.W.nsIn K mainGlobals (Str.ofString s) with
    | some (some (.ref a)) => a
    | _ => 0
  tb := tb
theorem clK_of {K : PySem.W.Frag} {tb : List (Addr × Str)} {s : String} {a : Addr} (h : PySem.W.nsIn K mainGlobals (Str.ofString s) = some (some (.ref a))) : (clK K tb) s = a := by
  show (match PySem.W.nsIn K mainGlobals (Str.ofString s) with
    | some (some (.ref a)) => a
    | _ => 0) = a
  rw [h]
theorem cx_false {P : Program} {w : World} {H : Hp} {s : Shared} {e : Value} {s' : Shared} (h : L2N.CX P w [] H s (fun _ _ _ => False) e s') : False := by
  obtain ⟨_, _, _, _, _, _, _, _, _, _, _, _, z⟩ := h
  exact z
theorem excp_mk {g : GC} {h : Heap} {x : String} {C : Addr} (X : g.K.In h) (G : h.Ns mainGlobals g.mg) {tb : List (Addr × Str)} (hcl : g.cl = clK g.K tb) (a : PySem.W.nsIn g.K mainGlobals (Str.ofString x) = some (some (.ref C)))
    (ex : PySem.W.excIn g.K C [.type "ValueError", .type "Exception", .type "BaseException", .type "object"] "ValueError.__new__" = true) (kp : PySem.W.keepIn g.K (.ref C) = true) (sb : PySem.W.subIn g.K (.ref C) (.type "BaseException") = some true) (ty : PySem.W.typeIn g.K (.ref C) = some (.type "type")) : ExcP g (Str.ofString x) x := by
  have e : g.cl x = C := by rw [hcl]; exact clK_of a
  exact ⟨by rw [e]; exact PySem.W.mg_of X G a, by rw [e]; exact ex, by rw [e]; exact kp, by rw [e]; exact sb, by rw [e]; exact ty⟩
/-- what is no table -/
def cutTb (H : Hp) : Hp := fun p => match H p with
  | some (.tbl _) => none
  | x => x
theorem cutTb_get {H : Hp} {p : Addr} {o : HO} (h : H p = some o) (n : NoTb o) : cutTb H p = some o := by
  unfold cutTb
  rw [h]
  cases o with
  | tbl ps => exact absurd rfl (n ps)
  | _ => rfl
theorem cutTb_sm {cl : Cl} {H : Hp} (t : LamX.Tabs cl.tb H) : Sm cl (cutTb H) H where
  same := fun p o e => by
    unfold cutTb at e
    cases q : H p with
    | none => rw [q] at e; exact e
    | some x => rw [q] at e; cases x <;> first | exact e | cases e
  tab := t
  nt := fun p ps e => by
    unfold cutTb at e
    cases q : H p with
    | none => rw [q] at e; cases e
    | some x => rw [q] at e; cases x <;> cases e
theorem cutTb_seq {K : PySem.W.Frag} {H : Hp} {a : Addr} {xs : List V} (h : SqL K H a xs) : SqL K (cutTb H) a xs := by
  rcases h with (h | ⟨o, h⟩) | h
  · exact .inl (.inl (cutTb_get h noTb_lst))
  · exact .inl (.inr ⟨o, cutTb_get h fun ps z => by cases z⟩)
  · exact .inr h
/-- the law's promise at the head -/
def lawSp (K : PySem.W.Frag) (tb : List (Addr × Str)) (φ : List T → FR) : Sp := SpP K (clK K tb) φ
theorem law_sp {K : PySem.W.Frag} {tb : List (Addr × Str)} {φ : List T → FR} {H : Hp} {a : Addr} {ns : List Int} (h : φ [.lst (ns.map .int)] = .va (.bl true)) (t : LamX.Tabs tb H) (hS : SqL K H a (ns.map V.int)) : lawSp K tb φ [.ref a] H (fun v _ => v = .bl true) fun _ _ _ => False := by
  refine ⟨cutTb H, [.lst (ns.map .int)], cutTb_sm t, DenL.cons (den_lst (cutTb_seq hS) den_ints) DenL.nil, ?_⟩
  rw [h]
  exact fun G' H' v _ _ d => d.bl_of
theorem tabs_none {H : Hp} : LamX.Tabs [] H := fun p hp => by cases hp
end Fx
namespace Fx
open PySem PySem.Spec PyProof.Rows L2

/-! ### a lambda's body, its exceptions with no context -/
abbrev xeN (P : Program) (w : World) (A : Around) (env : Env) (outer : List Env) (s : Shared) (H : Hp) (E : XK) : Value → Shared → Prop :=
  fun e s' => wpAny (model P w) A (leaving env e) (fun _ s'' => L2N.CX P w outer H s E e s'') (fun e' s'' => L2N.CX P w outer H s E e' s'') s'
def lamN (X : Cx) (A : Around) (outer : List Env) (s : Shared) (H : Hp) (E : XK) (scope : Scope) (f c' : Addr) : Cx :=
  (LamX.lamCx X A outer s H E scope f c').wish (xeN X.prog X.w (A.deeper (LamX.lamEnv X scope s.heap.objs.size f c')) (LamX.lamEnv X scope s.heap.objs.size f c') outer s H E)
section
variable {X : Cx} {pins : List (Addr × Obj)} {σ : L2.St} {H HZ : Hp} {s s1 : Shared}
/-- the call of what a def got: the lambda's body, read at the maker's slots -/
theorem act_lam {CXg : CXT} {Eg : XK} {Ng : List Str} {qg : Str} {sg : Scope} {g f c' : Addr} {cdg pm ctv : Value} {params : Arguments} {body : Expr} {scope : Scope} {k i : Nat} {a : Str} {pn : List (Addr × Obj)} {xe : Value → Shared → Prop} {W : WX} {E : XK} {tb : TE} {p1 p2 : Pos}
    (I : Inv X pins σ H s) (L : LamX.LamS X.env.scope scope) (hf : s.heap.get? f = some (PySem.W.kla_obj "<lambda>" (X.env.qual ++ "<lambda>") params body scope (cloFrom X.env.cells scope.names []) pm c' ctv)) (hfn : H f = none) (hfr : f ∉ frs X.stack)
    (hbind : bindArgs (PySem.W.kla_fn "<lambda>" (X.env.qual ++ "<lambda>") params body scope (cloFrom X.env.cells scope.names []) pm (.ref c') ctv) ⟨[], []⟩ = pure [])
    (tk : L2N.Takes ((cxOf CXg X.prog X.w X.K X.mg X.base Ng qg sg g cdg X.A X.stack s H Eg).tr pn xe) W) (hW : ∀ cls d σ' H', E cls d H' → W cls d σ' H') (hr : Room (k + 1) (X.A.deeper (envOfC qg sg s.heap.objs.size g cdg)))
    (hbody : ∀ (A : Around) (outer : List Env) (s : Shared) (H : Hp), Room k (A.deeper (LamX.lamEnv X scope s.heap.objs.size f c')) → PE (lamN X A outer s H E scope f c') body tb)
    (hN : Ng[i]? = some a) (hv : Vis sg a) (hd : (a == ("__debug__" : Str)) = false := by decide) (hcd : (a == ("__classdict__" : Str)) = false := by decide) :
    PE ((cxOf CXg X.prog X.w X.K X.mg X.base Ng qg sg g cdg X.A X.stack s H Eg).tr pn xe) (.Call (.Name a p1) [] [] p2)
      (fun σZ HZ Q => σZ[i]? = some (some (.ref f)) ∧ HZ c' = some (LamX.CodeO c' (X.env.qual ++ "<lambda>")) ∧ tb σ HZ Q) := by
  constructor
  rintro pz sz σz Hz Q Iz ⟨at_i, code, rd⟩
  apply wpAny_Call_Name_kw
  refine thn ((pe_var (pos := p1) (i := i) hN hv hd hcd).run pz sz σz Hz (fun v H1 => v = V.ref f ∧ H1 = Hz) Iz ⟨V.ref f, at_i, rfl, rfl⟩) ?_
  rintro u s2 ⟨v, H2, I2, rv, rfl, rfl⟩
  cases rv
  have keepF := I2.base.keep f _ hf hfn hfr (fun z => nomatch (show f ∈ ([] : List Addr) from z))
  refine PySem.W.callWith_F0 ⟨_, _, _, _, keepF⟩ (wpAny_call ?_)
  obtain ⟨⟨oc, vs, t, q1, q2, q3⟩, _, _⟩ := I2.hok c' _ code
  have inner : codeAny (model X.prog X.w) (X.A.deeper (envOfC qg sg s.heap.objs.size g cdg)) (.call (.ref f) ⟨[], []⟩) (CR (L2N.CX X.prog X.w) (envOfC qg sg s.heap.objs.size g cdg :: X.stack) X.prog X.w H2 s2 Q E) s2 := by
    refine PySem.W.kla_callFunE hr.depth keepF rfl L.co L.gen rfl ⟨c', oc, vs, t, rfl, q1, q2, q3⟩ ?_
    rw [hbind]
    refine wpAny_pure (wpAny_newFunctionEnv (fun y hy => (L.own y hy).2) (fun y hy => absurd hy (by simp)) (fun h₁ ns sb => ⟨I2.nolimit.fresh _ sb, ?_⟩) L.kind)
    have up : ∀ b o, s2.heap.get? b = some o → h₁.get? b = some o := fun b o e => sb.extBut b o (Nat.ne_of_lt (Heap.lt_size e)) (Heap.get?_push_of_some _ e)
    have J0 := LamX.lam_start2 (E := E) (tk := s2.toks + ([] : List (Str × Value)).length) (c' := c') (f := f) I L I2.env0 hr.hd I2.base ns up
    have J := J0.wish (xeN X.prog X.w ((X.A.deeper (envOfC qg sg s.heap.objs.size g cdg)).deeper (LamX.lamEnv X scope s2.heap.objs.size f c')) (LamX.lamEnv X scope s2.heap.objs.size f c') (envOfC qg sg s.heap.objs.size g cdg :: X.stack) s2 H2 E)
    refine PySem.W.kla_codeExpr (wpAny_mono ((hbody _ _ s2 H2 (hr.deeper _)).run [] _ _ H2 Q J rd) ?_ fun _ _ z => z)
    rintro v' s' ⟨y, H', J', ry, q⟩
    exact ⟨y, H', J'.os, J'.bare, J'.base, J'.hok, ry, q⟩
  refine codeAny_mono inner fun r s' hq => ?_
  cases r with
  | error e => exact L2N.passes_call tk hW pz σz H2 s2 e s' I2 hq
  | ok fl =>
    cases fl with
    | ret u => exact I2.after hq
    | next => exact False.elim hq
    | brk => exact False.elim hq
    | cont => exact False.elim hq
end
/-- what the def that calls its argument makes of the lambda's reading -/
def GivesN (X : Cx) (Ng : List Str) (x : Str) (sg : Scope) (g : Addr) (cdg : Value) (bg : List Stmt) (a : Str) (q : Str) (TT : (XK → Hp → VK → Prop) → Hp → VK → Prop) : Prop :=
  ∀ (A : Around) (f c' : Addr) (s : Shared) (H : Hp) (Q : VK) (tl : XK → Hp → VK → Prop) (k : Nat), Room (k + 1) (A.deeper (envOfC x sg s.heap.objs.size g cdg)) → X.A = A →
    (∀ (W : WX) (pn : List (Addr × Obj)) (xe : Value → Shared → Prop) (E : XK) (p1 p2 : Pos), L2N.Takes ((cxOf C8.CX0 X.prog X.w X.K X.mg X.base Ng x sg g cdg X.A X.stack s H C8.E0).tr pn xe) W → (∀ cls d σ' H', E cls d H' → W cls d σ' H') →
      PE ((cxOf C8.CX0 X.prog X.w X.K X.mg X.base Ng x sg g cdg X.A X.stack s H C8.E0).tr pn xe) (.Call (.Name a p1) [] [] p2) (fun σZ HZ Q => σZ[0]? = some (some (.ref f)) ∧ HZ c' = some (LamX.CodeO c' q) ∧ tl E HZ Q)) →
    H c' = some (LamX.CodeO c' q) → TT tl H Q →
    ∃ t, PSs (cxOf C8.CX0 X.prog X.w X.K X.mg X.base Ng x sg g cdg X.A X.stack s H C8.E0).nox bg t ∧ t { nx := fun _ H' => Q .non H', rt := Q } (L2.start Ng [.ref f]) H
section
variable {X : Cx}
/-- x(lambda: body) -/
theorem pe_lamN {T : List (Addr × Str)} {TT : (XK → Hp → VK → Prop) → Hp → VK → Prop} {x a : Str} {g c P : Addr} {k : Nat} {pg : Arguments} {bg : List Stmt} {sg : Scope} {dV kV doc pm cdv ct oc : Value} {an od : Option Addr} {osl : Array (Option Value)} {Ng : List Str}
    {params : Arguments} {body : Expr} {scope : Scope} {t : XK → TE} {p lpos pos : Pos} (hg : Gl X x) (hm : X.mg x = some (.ref g)) (hk : PySem.W.keepIn X.K (.ref g) = true)
    (lk : X.K.lookup g = some ⟨oc, od, .func (PySem.W.fnOf x x pg bg sg dV kV doc pm an cdv ct), osl⟩) (hcg : PySem.W.codeIn X.K cdv x = true) (hb : L2.Binds X.K (PySem.W.fnOf x x pg bg sg dV kV doc pm an cdv ct) [a] []) (Sg : FnScope Ng [a] sg) (hNg : Ng[0]? = some a) (hva : Vis sg a)
    (hG : GivesN X Ng x sg g cdv bg a (X.env.qual ++ "<lambda>") TT)
    (TB : LamX.TabB X.base X.mg c P) (hcode : X.env.code = .ref c) (hmT : (P, X.env.qual ++ "<lambda>") ∈ T) (hu : ∀ p ∈ T, p.1 = P → p.2 = X.env.qual ++ "<lambda>") (hr : Room (k + 2) X.A) (L : LamX.LamS X.env.scope scope) (hdef : defaultsOf params X.env = ([], []))
    (hbind : ∀ (q : Str) (cl : List (Str × Addr)) (pm cv ctv : Value), bindArgs (PySem.W.kla_fn "<lambda>" q params body scope cl pm cv ctv) ⟨[], []⟩ = pure [])
    (hbody : ∀ (A : Around) (outer : List Env) (s : Shared) (H : Hp) (E : XK) (f c' : Addr), Room k (A.deeper (LamX.lamEnv X scope s.heap.objs.size f c')) → PE (lamN X A outer s H E scope f c') body (t E))
    (hdb : (x == ("__debug__" : Str)) = false := by decide) (hd : (a == ("__debug__" : Str)) = false := by decide) (hcd : (a == ("__classdict__" : Str)) = false := by decide) :
    PE X (.Call (.Name x p) [.Lambda params body scope lpos] [] pos) (LamX.tLam T TT t) := by
  constructor
  rintro pins s σ H Q I ⟨hT, rd⟩
  apply wpAny_Call_Name_kw
  refine ld_glob I hg hm ?_ hdb
  refine PySem.W.callWith_K (h₀ := X.base) I.ok.mod.kin hk ?_ (by rfl) (by rfl)
  show wpAny _ _ (spliced ((false, eval (.Lambda params body scope lpos) X.env) :: backTo pos (starEach [] X.env))) _ _ s
  refine Calls.spliced_cons (LamX.lam_make2 I TB hcode hmT hu hT hdef (L.has I.ok) ?_)
  intro f c' pm' ctv H1 s1 I1 grown T1 hf hfn hfr hco
  refine Calls.spliced_nil ⟨I1.kIn, wpAny_call ?_⟩
  have made : codeAny (model X.prog X.w) X.A (.call (.ref g) ⟨[.ref f], []⟩) (CR C8.CX0 X.stack X.prog X.w H1 s1 Q C8.E0) s1 := by
    refine LamX.run_ofS (N := Ng) (ps := [a]) (us := [.ref f]) (vs := [.ref f]) lk hcg Sg hr I1.env0 (hb s1 [.ref f] I1.kIn rfl) (.cons rfl .nil) rfl fun hr' => ?_
    obtain ⟨t', h1, h2⟩ := hG X.A f c' s1 H1 Q (fun E H' Q' => t E σ H' Q') _ hr' rfl (fun W pn xe E p1 p2 tk hW => act_lam (i := 0) I1 L hf hfn hfr (hbind _ _ _ _ _) tk hW hr' (fun A outer s H hr2 => hbody A outer s H E f c' hr2) hNg hva hd hcd) hco (rd H1 grown T1)
    exact ⟨t', h1.nox, h2⟩
  refine codeAny_mono made fun r s2 hq => ?_
  cases r with
  | error e => exact (show False from hq).elim
  | ok fl =>
    cases fl with
    | ret u => exact I1.after hq
    | next => exact False.elim hq
    | brk => exact False.elim hq
    | cont => exact False.elim hq
end
end Fx
namespace Fx
open PySem PySem.Spec PyProof.Rows L2

/-! ### several except clauses, each with the same name -/
abbrev Clauses := List (Value × (Addr → Value → Option Addr → TS))
/-- the slot goes when the clause ends -/
def goneD (i : Nat) (D : Ends) : Ends := { nx := fun σ H => D.nx (σ.set i none) H, rt := D.rt, bk := fun σ H => D.bk (σ.set i none) H, ct := fun σ H => D.ct (σ.set i none) H }
def wCl (K : PySem.W.Frag) (i n : Nat) (Wout : WX) (D : Ends) : Clauses → WX
  | [] => Wout
  | (c, ts) :: r => fun cls d σ H => σ.length = n → ∃ b, PySem.W.exmOne K cls c = some b ∧ (b = true → ∀ a, H a = none → ts a cls d (goneD i D) (σ.set i (some (.ref a))) H) ∧ (b = false → wCl K i n Wout D r cls d σ H)
inductive ClOk (X : Cx) (n : Str) : List ExceptHandler → Clauses → Prop
  | nil : ClOk X n [] []
  | cons {x : Str} {c : Value} {ts : Addr → Value → Option Addr → TS} {st : Stmt} {sts : List Stmt} {p1 p2 : Pos} {hs : List ExceptHandler} {l : Clauses} (nm : Names X x c)
      (su : ∀ (a : Addr) (oe : Obj) (cls : Value) (d : Option Addr) (pn : List (Addr × Obj)), L2N.Zn cls d oe → (∃ vs, oe.data = .fields vs) → PSs (X.suite a ((a, oe) :: pn)) (st :: sts) (ts a cls d)) (more : ClOk X n hs l) :
      ClOk X n (.ExceptHandler (some (.Name x p1)) (some n) (st :: sts) p2 :: hs) ((c, ts) :: l)
section
variable {X : Cx} {n : Str} {i : Nat} {body : List Stmt} {h₀ : ExceptHandler} {hds : List ExceptHandler} {l : Clauses} {pos : Pos} {tb : WX → TS} {Wout : WX}
theorem ps_try_cl (hs : X.stack = X.env :: X.outer) (hf : X.env.frame = some X.env.locals) (hN : X.N.Nodup) (hi : X.N[i]? = some n) (hln : X.env.kindOf n = some .local) (tk : L2N.Takes X Wout)
    (hb : ∀ (W : WX) (pn : List (Addr × Obj)) (xe : Value → Shared → Prop), L2N.Takes (X.tr pn xe) W → PassesOwn (model X.prog X.w) X.A X.env xe → PSs (X.tr pn xe) body (tb W))
    (hh : ClOk X n (h₀ :: hds) l) : PS X (.Try body (h₀ :: hds) [] [] pos) (fun D σ H => tb (wCl X.K i X.N.length Wout D l) D σ H) := by
  constructor
  intro pins s σ H D I h
  have OK := I.ok
  have frames : X.A.frames = some (X.env :: X.outer) := by rw [OK.frames, hs]
  apply wpAny_Try_except
  let catch_ : Value → Shared → Prop := fun e s₁ => wpAny (model X.prog X.w) X.A (noteFrame e X.env) (fun _ s₂ => wpAny (model X.prog X.w) X.A (setFlight e none) (fun _ s₃ => wpAny (model X.prog X.w) X.A (handleBy e X.env (h₀ :: hds)) (SP X pins D) X.xe s₃) X.xe s₂) X.xe s₁
  have takes : L2N.Takes (X.tr (X.pn ++ pins) catch_) (wCl X.K i X.N.length Wout D l) := by
    rintro u s' ⟨a, B, sI, pins', σ', H', cls, d, rfl, J', nb, up, sky, na, os, ag, wish⟩
    have J : Inv X pins σ' H' sI := J'.ofTry OK
    have skyX : L2.Sky B (X.env :: X.outer) a (L2N.Zn cls d) X.env.locals s'.heap := by rw [← hs]; exact sky
    show wpAny (model X.prog X.w) X.A (noteFrame (.ref a) X.env) _ _ _
    refine L2N.Sky.land L2N.Zn.steady frames hf skyX fun h3 fly up3 => ?_
    have J3 : Inv X pins σ' H' { s' with heap := h3 } := J.landed nb fly.1 (up.trans up3) os ag
    obtain ⟨oe3, vs3, at3, z3, dat3⟩ := fly.there
    have nofr : a ∉ frs (X.env :: X.outer) := fun hm => by
      obtain ⟨_, o', e', hnf⟩ := fly.2.2.1.mem hm
      rw [at3] at e'; cases e'
      exact hnf _ dat3
    have noL : a ≠ X.env.locals := fun z => nofr (List.mem_filterMap.mpr ⟨X.env, .head _, by rw [hf, z]⟩)
    have noF : a ∉ X.fs := fun hm => by
      obtain ⟨e, he, q⟩ := List.mem_filterMap.mp hm
      exact nofr (List.mem_filterMap.mpr ⟨e, .tail _ he, q⟩)
    have S3 := J3.suite at3 dat3 na noL noF
    have loop : ∀ {hs' : List ExceptHandler} {l' : Clauses}, ClOk X n hs' l' → wCl X.K i X.N.length Wout D l' cls d σ' H' → wpAny (model X.prog X.w) X.A (handleBy (.ref a) X.env hs') (SP X pins D) X.xe { s' with heap := h3 } := by
      intro hs' l' ok
      induction ok with
      | nil =>
        intro wout
        apply wpAny_handleBy_nil
        obtain ⟨_, _, _, oe, vs, T, _, _, g1, _, g2, g3, _⟩ := id fly
        unfold PySem.passOn
        refine wpAny_bind (wpAny_field g1 g2 g3 ?_)
        rw [if_neg (show ¬ ((Value.ref T == Value.none) = true) from by simp)]
        have fin : wpAny (model X.prog X.w) X.A (setFlight (.ref a) X.env.frame) (fun _ s4 => wpAny (model X.prog X.w) X.A (throw (.ref a) : Sem Flow) (SP X pins D) X.xe s4) X.xe { s' with heap := h3 } := by
          rw [hf]
          exact HandSPX.setFlight_upZ fly fun h4 held up4 => wpAny_throw (tk _ _ ⟨a, B, sI, pins, σ', H', cls, d, rfl, J, nb, (up.trans up3).trans up4, .inr (.inr (by rw [hs]; exact held)), na, os, ag, wout⟩)
        first
          | exact wpAny_bind (wpAny_pure (wpAny_bind fin))
          | exact wpAny_bind fin
      | @cons x c ts st sts p1 p2 hs2 l2 nm su more ih =>
        intro wish0
        obtain ⟨b, isC, yes, no⟩ := wish0 J3.len
        refine wpAny_handleBy_cons (codeAny_handlers_test ?_) (by intro q; cases q)
        have look : PySem.W.Looks (model X.prog X.w) h3 (typeOf (.ref a)) cls := fun A Q E s k q => wpAny_typeOf_ref (k _ _ at3) (by rw [z3.1]; exact q)
        have seen := PySem.W.exm_one (M := model X.prog X.w) J3.kIn look isC
        have ask : ∀ {Q : Value → Shared → Prop} {E : Value → Shared → Prop}, Q c { s' with heap := h3 } → wpAny (model X.prog X.w) (X.A.mark (some (.ref a))) (eval (.Name x p1) X.env) Q E { s' with heap := h3 } := fun {Q E} q => by
          obtain ⟨hg, hdbg, hm | ⟨hm, hv, hnn⟩⟩ := nm
          · exact ld_glob (X := X.suite a ((a, oe3) :: (X.pn ++ pins))) S3 hg hm q hdbg
          · exact ld_blt (X := X.suite a ((a, oe3) :: (X.pn ++ pins))) S3 hg hm hv q hnn hdbg
        refine ask (seen.here ?_)
        cases b with
        | false =>
          show wpAny _ X.A (handleBy (.ref a) X.env hs2) _ _ _
          exact ih (no rfl)
        | true =>
          apply codeAny_handlers_suite_as
          refine HandSPX.lands_againZ fly fun h4 fly4 up4 => ?_
          have J4 : Inv X pins σ' H' { s' with heap := h4 } := J.landed nb fly4.1 ((up.trans up3).trans up4) os ag
          obtain ⟨oe4, vs4, at4, z4, dat4⟩ := fly4.there
          have S4 := J4.suite at4 dat4 na noL noF
          refine store_ok (X := X.suite a ((a, oe4) :: (X.pn ++ pins))) (v := .ref a) S4 hN hi (.inl hln) rfl (fun s5 S5 => ?_) (.inr hln)
          refine wpAny_mono ((su a oe4 cls d (X.pn ++ pins) z4 ⟨_, dat4⟩).run [] s5 _ H' _ S5 (yes rfl a na)) (fun fl s6 hsp => ?_) fun _ _ z => False.elim z
          have close : ∀ {σ6 : L2.St} {H6 : Hp} {Q : Shared → Prop}, Inv (X.suite a ((a, oe4) :: (X.pn ++ pins))) [] σ6 H6 s6 → (∀ s7, Inv X pins (σ6.set i none) H6 s7 → Q s7) →
              wpAny (model X.prog X.w) X.A (do bindName X.env n .none; unbindBehindTheSuite X.env n p2) (fun _ s7 => Q s7) X.xe s6 := fun S6 hq => gone_ok (S6.unsuite OK) hN hi hln hq
          cases fl with
          | ret u => obtain ⟨y, σ6, H6, S6, ry, q6⟩ := hsp; exact close S6 fun s7 J7 => ⟨_, _, _, J7, ry, q6⟩
          | next => obtain ⟨σ6, H6, S6, q6⟩ := hsp; exact close S6 fun s7 J7 => ⟨_, _, J7, q6⟩
          | brk => obtain ⟨σ6, H6, S6, q6⟩ := hsp; exact close S6 fun s7 J7 => ⟨_, _, J7, q6⟩
          | cont => obtain ⟨σ6, H6, S6, q6⟩ := hsp; exact close S6 fun s7 J7 => ⟨_, _, J7, q6⟩
    exact loop hh wish
  refine wpAny_mono ((hb _ (X.pn ++ pins) catch_ takes PassesOwn.looking).run [] s σ H D (I.toTry _) h) (fun fl s1 hsp => ?_) fun e s1 he => he
  cases fl with
  | ret u => obtain ⟨y, σ', H', J', ry, q⟩ := hsp; exact ⟨y, σ', H', J'.ofTry OK, ry, q⟩
  | next => obtain ⟨σ', H', J', q⟩ := hsp; exact wpAny_execs_nil ⟨σ', H', J'.ofTry OK, q⟩
  | brk => obtain ⟨σ', H', J', q⟩ := hsp; exact ⟨σ', H', J'.ofTry OK, q⟩
  | cont => obtain ⟨σ', H', J', q⟩ := hsp; exact ⟨σ', H', J'.ofTry OK, q⟩
end
end Fx
namespace Fx
open PySem PySem.Spec PyProof.Rows

/-! ### the end of an iteration while an exception is handled -/
section
variable {prog : Program} {w : World} {A : Around} {E : Value → Shared → Prop} {s : Shared}
theorem next_end_hot {it l x1 : Addr} {i : Nat} {items : Array Value} {Q : Value → Shared → Prop} (hot : HotX.HotAt A x1 s.heap) (nx : x1 ≠ it) (hit : s.heap.IsListIter it l i) (hl : s.heap.IsList l items) (hx : items[i]? = none)
    (hE : ∀ h' e, Heap.ExtBut it s.heap h' → (∃ o, h'.get? e = some o ∧ o.cls = .type "StopIteration") → E (.ref e) { s with heap := h' }) :
    wpAny (model prog w) A (Builtin.SmallTypes.nextOf (.ref it)) Q E s := by
  obtain ⟨oi, at_i, ci, di⟩ := id hit
  obtain ⟨ol, at_l, _, nl, dl⟩ := hl
  obtain ⟨hh, o1, vs1, at1, d1, c1⟩ := hot
  unfold Builtin.SmallTypes.nextOf
  refine wpAny_bind (wpAny_callSpecial?_slot (name := Str.ofString "__next__") hit.typeIs slot_listiter_next (wpAny_call_entry slot_listiter_next hit.typeIs entry_listiter_next ?_ (args_listiter_next _)))
  show wpAny _ _ (field (.ref it) 0 >>= _) _ _ s
  refine wpAny_bind (wpAny_field at_i di (x := .ref l) rfl ?_)
  show wpAny _ _ (if (Value.ref l == Value.none) = true then _ else _) _ _ s
  rw [if_neg (by exact Bool.false_ne_true)]
  show wpAny _ _ (field (.ref it) 1 >>= _) _ _ s
  refine wpAny_bind (wpAny_field at_i di (x := .int i 0) rfl ?_)
  show wpAny _ _ (seqItems? (.ref l) >>= _) _ _ s
  refine wpAny_bind (wpAny_seqItems at_l dl ?_)
  simp only [Int.toNat_natCast, hx]
  refine wpAny_bind (wpAny_rule (wpAny_bind (wpAny_setField at_i di (by simp) ?_)))
  show wpAny _ _ (newExc (.type "StopIteration") [] >>= _) _ _ _
  refine wpAny_bind ?_
  simp only [newExc, newTuple]
  refine wpAny_bind (wpAny_newObj_type ?_ (by size_fits))
  refine wpAny_bind (m := firstArgMember _ _) (wpAny_of_eq (a := Value.none) (by first | rfl | (simp only [firstArgMember]; rfl)) ?_)
  refine wpAny_newObj_type ?_ (by size_fits)
  have b1 : (s.heap.update it (Obj.mapFields fun x => x.setIfInBounds 0 Value.none)).get? x1 = some o1 := (Heap.get?_update_other s.heap _ (fun z => nx z.symm)).trans at1
  refine HotX.raiseNew_hot ⟨hh, o1, vs1, Heap.get?_push_of_some _ (Heap.get?_push_of_some _ b1), d1, c1⟩ (Nat.ne_of_lt (Heap.lt_size (Heap.get?_push_of_some _ b1))) (Heap.get?_push_size _ rfl) rfl (by first | (simp; done) | (simp; omega) | (simp only [Array.size_append]; simp; omega)) ?_
  refine hE _ _ ?_ ⟨_, Heap.get?_update_self _ (Heap.get?_push_size _ rfl) rfl, rfl⟩
  intro b o hb e
  have e2 : (s.heap.update it (Obj.mapFields fun x => x.setIfInBounds 0 Value.none)).get? b = some o := (Heap.get?_update_other s.heap _ (fun z => hb z.symm)).trans e
  have e3 := Heap.get?_push_of_some { cls := Value.type "tuple", data := Data.seq #[] } e2
  rw [Heap.get?_update_other _ _ (fun z => Nat.lt_irrefl _ (by have := Heap.lt_size e3; rw [← z] at this; exact this))]
  exact Heap.get?_push_of_some _ e3
/-- zip's end, its first list's, while an exception is handled -/
theorem zip_end_hot {z TI TO i1 i2 l1 l2 x1 : Addr} {k1 : Nat} {xs : Array Value} {a b : Value} {Q : Option Value → Shared → Prop} (hot : HotX.HotAt A x1 s.heap) (nz : x1 ≠ z) (n1 : x1 ≠ i1) (D : ZipApart z TI TO i1 i2 l1 l2)
    (hz : IsZip s.heap z TI TO .none) (hTI : IsPair s.heap TI (.ref i1) (.ref i2)) (hTO : IsPair s.heap TO a b)
    (h1 : s.heap.IsListIter i1 l1 k1) (hl1 : s.heap.IsList l1 xs) (hx : xs[k1]? = none)
    (hQ : ∀ h', (∀ c o, c ≠ z → c ≠ TO → c ≠ i1 → c ≠ i2 → s.heap.get? c = some o → h'.get? c = some o) → Q none { s with heap := h' }) : wpAny (model prog w) A (pyNext (.ref z)) Q E s := by
  have ty : s.TypeIs (.ref z) "zip" := ⟨_, hz, rfl⟩
  obtain ⟨hh, o1, vs1, at1, d1, c1⟩ := hot
  unfold pyNext
  refine wpAny_bind (wpAny_attempt (wpAny_callSpecial?_slot (name := Str.ofString "__next__") ty F.slot_zip_next (wpAny_call_entry F.slot_zip_next ty F.entry_zip_next ?_ (F.args_zip_next_1 _))))
  show wpAny _ _ (field (.ref z) 2 >>= _) _ _ _
  refine wpAny_bind (wpAny_field hz rfl (x := .bool false) rfl ?_)
  show wpAny _ _ (field (.ref z) 3 >>= _) _ _ _
  refine wpAny_bind (wpAny_field hz rfl (x := .ref TI) rfl (wpAny_bind (wpAny_seqItems hTI rfl ?_)))
  show wpAny _ _ (Builtin.SmallTypes.ownedTupleIsFree (.ref z) >>= _) _ _ _
  refine wpAny_bind ?_
  unfold Builtin.SmallTypes.ownedTupleIsFree
  refine wpAny_bind (wpAny_field hz rfl (x := .none) rfl (wpAny_pure ?_))
  simp only [if_true]
  refine wpAny_bind (wpAny_rule (wpAny_bind (wpAny_field hz rfl (x := .ref TO) rfl (wpAny_bind (wpAny_setField_rec hz (by simp) fun h₁ z1 s1 => ?_)))))
  replace z1 : IsZip h₁ z TI TO .ellipsis := z1
  refine wpAny_bind ?_
  simp only [List.zipIdx_cons, List.zipIdx_nil, List.forIn_cons, List.forIn_nil]
  refine wpAny_bind (wpAny_bind (wpAny_onRaise ?_))
  show wpAny _ _ (Builtin.SmallTypes.nextOf (.ref i1) >>= _) _ _ _
  refine wpAny_bind (next_end_hot ⟨hh, o1, vs1, s1.extBut _ _ nz at1, d1, c1⟩ n1 (h1.extBut s1.extBut D.i1z) (hl1.extBut s1.extBut D.l1z) hx fun h₂ e s2 he => ?_)
  obtain ⟨oe, at_e, ce⟩ := he
  have z2 : IsZip h₂ z TI TO .ellipsis := s2 _ _ D.i1z.symm z1
  have ez : e ≠ z := fun q => by subst q; rw [z2] at at_e; cases at_e; simp at ce
  refine wpAny_setField_rec z2 (by simp) fun h₃ _ s3 => ?_
  refine wpAny_bind (wpAny_isInstance (T := "StopIteration") (b := true) ⟨oe, s3.extBut _ _ ez at_e, ce⟩ isSubtype_stop ?_)
  exact wpAny_pure (hQ _ fun c o c1 _ c3 _ x => s3.extBut _ _ c1 (s2 _ _ c3 (s1.extBut _ _ c1 x)))
end
end Fx
namespace Fx
open PySem PySem.Spec PyProof.Rows L2

/-! ### a comprehension over zip while an exception is handled -/
/-- an iterator's turns, the exception at x1 handled -/
structure TurnW (P : Program) (w : World) (K : PySem.W.Frag) (tg : Expr) (J : It) (fp : List Addr) (it : Addr) (tn : Nat → Heap → Prop) (x1 : Addr) : Prop where
  obj : ∀ i h, tn i h → ∀ b ∈ fp, ∃ o, h.get? b = some o ∧ ∀ v, o.data ≠ .cell v
  keep : ∀ i h h', tn i h → (∀ b ∈ fp, ∀ o, h.get? b = some o → h'.get? b = some o) → tn i h'
  item : ∀ (X : Cx), X.prog = P → X.w = w → X.K = K → ∀ (i : Nat) (pins : List (Addr × Obj)) (s : Shared) (σ : L2.St) (H : Hp) (E : Value → Shared → Prop), Inv X pins σ H s → (∀ b ∈ fp, FpOk X pins H b) → tn i s.heap → J.go i H →
    wpAny (model P w) X.A (pyNext (.ref it)) (fun r s1 => ∃ u, r = some u ∧
      wpAny (model P w) X.A (letOwnedTupleGo tg (.ref it) u) (fun _ s2 => ∃ x H', Inv X pins σ H' s2 ∧ RelV x u ∧ J.yld i H x H' ∧ tn (i + 1) s2.heap ∧ ∀ b ∈ fp, H' b = none) E s1) E s
  done : ∀ (X : Cx), X.prog = P → X.w = w → X.K = K → ∀ (i : Nat) (pins : List (Addr × Obj)) (s : Shared) (σ : L2.St) (H : Hp) (E : Value → Shared → Prop), HotX.HotAt X.A x1 s.heap → Inv X pins σ H s → (∀ b ∈ fp, FpOk X pins H b) → tn i s.heap → J.stop i H →
    wpAny (model P w) X.A (pyNext (.ref it)) (fun r s1 => r = none ∧ Inv X pins σ H s1) E s
  self : ∀ (A : Around) (i : Nat) (s : Shared) (Q : Value → Shared → Prop) (E : Value → Shared → Prop), tn i s.heap → Q (.ref it) s → wpAny (model P w) A (pyIter (.ref it)) Q E s
/-- two lists; the first ends first -/
def Itw (K : PySem.W.Frag) (a b : Addr) : It where
  go := (Itz K a b).go
  yld := (Itz K a b).yld
  stop := fun i H => ∃ xs, SqL K H a xs ∧ xs.length ≤ i
theorem turn_zipW {P : Program} {w : World} {K : PySem.W.Frag} {elts : List Expr} {kk : Nat} {tpos : Pos} {a b z TI TO i1 i2 x1 : Addr} (D : ZipApart z TI TO i1 i2 a b) (nx : x1 ∉ [z, TI, TO, i1, i2]) :
    TurnW P w K (.Tuple elts kk tpos) (Itw K a b) [z, TI, TO, i1, i2] z (fun i h => IsZip h z TI TO .none ∧ IsPair h TI (.ref i1) (.ref i2) ∧ (∃ x y, IsPair h TO x y) ∧ h.IsListIter i1 a i ∧ h.IsListIter i2 b i) x1 where
  obj := (turn_zip (P := P) (w := w) (K := K) (elts := elts) (kk := kk) (tpos := tpos) D).obj
  keep := (turn_zip (P := P) (w := w) (K := K) (elts := elts) (kk := kk) (tpos := tpos) D).keep
  item := by
    rintro X rfl rfl rfl i pins s σ H E I hf ⟨hz, hTI, ⟨x0, y0, hTO⟩, h1, h2⟩ ⟨xs, ys, x, y, qx, qy, ex, ey⟩
    obtain ⟨l1, r1, p1, _⟩ := I.list qx
    obtain ⟨l2, r2, p2, _⟩ := I.list qy
    obtain ⟨u1, g1, v1⟩ := r1.get ex
    obtain ⟨u2, g2, v2⟩ := r2.get ey
    have small : ∀ c ∈ [z, TI, TO, i1, i2], c < s.heap.objs.size := fun c hc => by
      obtain ⟨o, e, _⟩ := (turn_zip (P := X.prog) (w := X.w) (K := X.K) (elts := elts) (kk := kk) (tpos := tpos) D).obj i s.heap ⟨hz, hTI, ⟨x0, y0, hTO⟩, h1, h2⟩ c hc
      exact Heap.lt_size e
    refine wpAny_pyNext_zip_item D hz hTI hTO h1 h2 p1.isList p2.isList (x := u1) (y := u2) (by simpa using g1) (by simpa using g2) fun h' zA TOA i1A i2A pairA szA keepA => ?_
    refine ⟨_, rfl, wpAny_letOwnedTupleGo_zip (s := { s with heap := h' }) zA fun h2' zB sb => ?_⟩
    have pairB : h2'.get? s.heap.objs.size = some { cls := .type "tuple", data := .seq #[u1, u2] } := (sb.2 _ (Nat.ne_of_gt (small z (by simp)))).trans pairA
    have stay : ∀ c o, c ∉ [z, TI, TO, i1, i2] → s.heap.get? c = some o → h2'.get? c = some o := fun c o hb q =>
      (sb.2 c (fun q' => hb (by simp [q']))).trans (keepA c o (fun q' => hb (by simp [q'])) (fun q' => hb (by simp [q'])) (fun q' => hb (by simp [q'])) (fun q' => hb (by simp [q'])) q)
    have J : Inv X pins σ (upd H s.heap.objs.size (.tup [x, y])) { s with heap := h2' } :=
      I.turnedNew (t' := s.toks) (ch := [z, TI, TO, i1, i2]) stay hf (Nat.le_refl _) ⟨by show 2 ≤ sizeLine; decide, [u1, u2], .cons v1 (.cons v2 .nil), ⟨_, pairB, rfl, _, rfl⟩⟩
    refine ⟨.ref s.heap.objs.size, _, J, rfl, ⟨_, x, y, rfl, I.hok.fresh (Nat.le_refl _), rfl, fun l hl => by rw [I.list_inj hl qx]; exact ex, fun l hl => by rw [I.list_inj hl qy]; exact ey⟩, ⟨zB, (sb.2 _ D.TIz).trans (keepA _ _ D.TIz D.TITO D.TIi1 D.TIi2 hTI), ⟨u1, u2, (sb.2 _ D.TOz).trans TOA⟩, i1A.at fun o q => (sb.2 _ D.i1z).trans q, i2A.at fun o q => (sb.2 _ D.i2z).trans q⟩, fun c hc => ?_⟩
    rw [upd_ne (Nat.ne_of_lt (small c hc))]
    exact (hf c hc).1
  done := by
    rintro X rfl rfl rfl i pins s σ H E hot I hf ⟨hz, hTI, ⟨x0, y0, hTO⟩, h1, h2⟩ ⟨xs, qx, le⟩
    obtain ⟨l1, r1, p1, _⟩ := I.list qx
    have len := r1.length
    exact zip_end_hot hot (fun q => nx (by simp [q])) (fun q => nx (by simp [q])) D hz hTI hTO h1 p1.isList (by simp; omega) fun h' hk => ⟨rfl, I.turnedL (t' := s.toks) (ch := [z, TI, TO, i1, i2]) (fun c o hb q =>
      hk c o (fun q' => hb (by simp [q'])) (fun q' => hb (by simp [q'])) (fun q' => hb (by simp [q'])) (fun q' => hb (by simp [q'])) q) hf⟩
  self := fun A i s Q E st h => wpAny_pyIter_zip st.1 h
section
variable {prog : Program} {w : World} {A : Around} {E : Value → Shared → Prop} {s : Shared}
theorem tup_end_hot {it t x1 : Addr} {i : Nat} {items : Array Value} {Q : Option Value → Shared → Prop} (hot : HotX.HotAt A x1 s.heap) (nx : x1 ≠ it) (hit : IsTupIter s.heap it t i) (ht : IsTup s.heap t items) (hx : items[i]? = none)
    (hQ : ∀ h', Heap.ExtBut it s.heap h' → Q none { s with heap := h' }) : wpAny (model prog w) A (pyNext (.ref it)) Q E s := by
  obtain ⟨oi, at_i, ci, di⟩ := id hit
  obtain ⟨ol, at_l, _, nl, dl⟩ := ht
  obtain ⟨hh, o1, vs1, at1, d1, c1⟩ := hot
  unfold pyNext
  refine wpAny_bind (wpAny_attempt (wpAny_callSpecial?_slot (name := Str.ofString "__next__") hit.typeIs slot_tupleiter_next (wpAny_call_entry slot_tupleiter_next hit.typeIs entry_tupleiter_next ?_ (args_tupleiter_next _))))
  show wpAny _ _ (field (.ref it) 0 >>= _) _ _ s
  refine wpAny_bind (wpAny_field at_i di (x := .ref t) rfl ?_)
  show wpAny _ _ (if (Value.ref t == Value.none) = true then _ else _) _ _ s
  rw [if_neg (by exact Bool.false_ne_true)]
  show wpAny _ _ (field (.ref it) 1 >>= _) _ _ s
  refine wpAny_bind (wpAny_field at_i di (x := .int i 0) rfl ?_)
  show wpAny _ _ (seqItems? (.ref t) >>= _) _ _ s
  refine wpAny_bind (wpAny_seqItems at_l dl ?_)
  simp only [Int.toNat_natCast, hx]
  refine wpAny_bind (wpAny_rule (wpAny_bind (wpAny_setField at_i di (by simp) ?_)))
  show wpAny _ _ (newExc (.type "StopIteration") [] >>= _) _ _ _
  refine wpAny_bind ?_
  simp only [newExc, newTuple]
  refine wpAny_bind (wpAny_newObj_type ?_ (by size_fits))
  refine wpAny_bind (m := firstArgMember _ _) (wpAny_of_eq (a := Value.none) (by first | rfl | (simp only [firstArgMember]; rfl)) ?_)
  refine wpAny_newObj_type ?_ (by size_fits)
  have b1 : (s.heap.update it (Obj.mapFields fun x => x.setIfInBounds 0 Value.none)).get? x1 = some o1 := (Heap.get?_update_other s.heap _ (fun z => nx z.symm)).trans at1
  refine HotX.raiseNew_hot ⟨hh, o1, vs1, Heap.get?_push_of_some _ (Heap.get?_push_of_some _ b1), d1, c1⟩ (Nat.ne_of_lt (Heap.lt_size (Heap.get?_push_of_some _ b1))) (Heap.get?_push_size _ rfl) rfl (by first | (simp; done) | (simp; omega) | (simp only [Array.size_append]; simp; omega)) ?_
  refine wpAny_bind (wpAny_isInstance (T := "StopIteration") (b := true) ⟨_, Heap.get?_update_self _ (Heap.get?_push_size _ rfl) rfl, rfl⟩ isSubtype_stop ?_)
  refine wpAny_pure (hQ _ fun b o hb e => ?_)
  have e2 : (s.heap.update it (Obj.mapFields fun x => x.setIfInBounds 0 Value.none)).get? b = some o := (Heap.get?_update_other s.heap _ (fun z => hb z.symm)).trans e
  have e3 := Heap.get?_push_of_some { cls := Value.type "tuple", data := Data.seq #[] } e2
  rw [Heap.get?_update_other _ _ (fun z => Nat.lt_irrefl _ (by have := Heap.lt_size e3; rw [← z] at this; exact this))]
  exact Heap.get?_push_of_some _ e3
theorem unpack_hot {t x1 : Addr} {items : Array Value} {targets : List (Bool × (Value → Sem Unit))} {Q : Unit → Shared → Prop} (hot : HotX.HotAt A x1 s.heap) (ht : IsTup s.heap t items)
    (hn : targets.length = items.size) (hstar : targets.findIdx? (·.1) = none)
    (h : ∀ h', Heap.ExtBut s.heap.objs.size s.heap h' → wpAny (model prog w) A (assignInOrder (targets.map (·.2)) items.toList) Q E { s with heap := h' }) :
    wpAny (model prog w) A (unpack (.ref t) targets) Q E s := by
  unfold unpack
  rw [hn, hstar]
  refine wpAny_bind (wpAny_holding ?_)
  obtain ⟨hh, o1, vs1, at1, d1, c1⟩ := hot
  have old : x1 ≠ s.heap.objs.size := Nat.ne_of_lt (Heap.lt_size at1)
  have lt : t ≠ s.heap.objs.size := by obtain ⟨o, ho, _⟩ := ht; exact Nat.ne_of_lt (Heap.lt_size ho)
  unfold unpackItems
  refine wpAny_bind ?_
  unfold notIterableAtAll
  refine wpAny_bind (wpAny_specialOf ht.typeIs slot_tuple_iter.lookup (wpAny_pure ?_))
  simp only [Bool.false_eq_true, if_false]
  refine wpAny_bind (wpAny_holding (iter_tuple ht ?_))
  refine wpAny_bind (wpAny_holding (draw_tuple lt items.size 0 _ _ ⟨_, Heap.get?_push_size _ rfl, rfl, rfl⟩ (ht.push _) (by omega) fun h₁ i1 s1 => ?_))
  rw [show List.take items.size (List.drop 0 items.toList) = items.toList by rw [List.drop_zero]; exact List.take_of_length_le (by simp), if_neg (by simp)]
  have t1 : IsTup h₁ t items := (ht.push _).extBut s1.extBut lt
  have x1' := s1.extBut _ _ old (Heap.get?_push_of_some { cls := .type "tuple_iterator", data := .fields #[.ref t, .int 0 0] } at1)
  refine wpAny_bind (wpAny_holding (tup_end_hot ⟨hh, o1, vs1, x1', d1, c1⟩ old i1 t1 (by simp) fun h₂ s2 => ?_))
  simp only [Option.isSome_none, Bool.false_eq_true, if_false]
  exact wpAny_pure (h h₂ fun b o hb e => s2 b o hb (s1.extBut b o hb (Heap.get?_push_of_some _ e)))
end
/-- the handled exception stands in each state of X -/
def HotS (X : Cx) (x1 : Addr) : Prop := ∀ (pins : List (Addr × Obj)) (σ : L2.St) (H : Hp) (s : Shared), Inv X pins σ H s → HotX.HotAt X.A x1 s.heap
/-- (a, b, ..) = a tuple -/
theorem pg_tupW {X : Cx} {x1 : Addr} {es : List Expr} {k : Nat} {t : TGs} {n : Nat} {pos : Pos} (hot : HotS X x1) (h : PGs X es t)
    (hn : (assignEach es X.env).length = n := by rfl) (hst : (assignEach es X.env).findIdx? (·.1) = none := by rfl) : PG X (.Tuple es k pos) (gTup X.K n t) := by
  constructor
  rintro pins s σ H v u Q I r ⟨a, xs, rfl, hq, hl, hw⟩
  cases r
  obtain ⟨its, rv, ht, hz⟩ := I.tuple hq
  rw [assign_Tuple]
  refine wpAny_bind (wpAny_standAt (unpack_hot (hot _ _ _ _ I) ht (by simp [hn, ← hl, rv.length]) hst fun h' hx => ?_))
  exact h.run pins _ σ H xs _ Q (I.kept (t' := s.toks) fun b o e => hx b o (Nat.ne_of_lt (Heap.lt_size e)) e) (by simpa using rv) hw
end Fx
namespace Fx
open PySem PySem.Spec PyProof.Rows L2

/-- the handled exception is pinned, its context is None -/
def PinHot (X : Cx) (x1 : Addr) : Prop := X.A.handled = some (.ref x1) ∧ ∃ (oe : Obj) (vs : Array Value), (x1, oe) ∈ X.pn ∧ oe.data = .fields vs ∧ vs[2]? = some .none
theorem PinHot.hot {X : Cx} {x1 : Addr} (h : PinHot X x1) : HotS X x1 := fun pins σ H s I => by
  obtain ⟨hh, oe, vs, hm, hd, hc⟩ := h
  exact ⟨hh, oe, vs, (I.pin (x1, oe) (List.mem_append_left _ hm)).1, hd, hc⟩
/-- an iterator has come -/
def PIEW (X : Cx) (x1 : Addr) (pins : List (Addr × Obj)) (σ : L2.St) (tg : Expr) (R : It → Hp → Prop) (itv : Value) (s2 : Shared) : Prop :=
  ∃ (it : Addr) (fp : List Addr) (tn : Nat → Heap → Prop) (J : It) (H' : Hp), itv = .ref it ∧ Inv X pins σ H' s2 ∧ TurnW X.prog X.w X.K tg J fp it tn x1 ∧ tn 0 s2.heap ∧ (∀ b ∈ fp, FpOk X pins H' b) ∧ R J H'
structure PIW (X : Cx) (x1 : Addr) (tg iter : Expr) (wi : TI) : Prop where
  run : ∀ (pins : List (Addr × Obj)) (s : Shared) (σ : L2.St) (H : Hp) (R : It → Hp → Prop), Inv X pins σ H s → wi σ H R →
    wpAny (model X.prog X.w) X.A (eval iter X.env) (fun v s1 => wpAny (model X.prog X.w) X.A (pyIter v) (PIEW X x1 pins σ tg R) X.xe s1) X.xe s
def iZipW (K : PySem.W.Frag) (ta : TA) : TI := fun σ H R => ta σ H fun vs H1 => ∃ a b xs ys, vs = [.ref a, .ref b] ∧ SqL K H1 a xs ∧ SqL K H1 b ys ∧ R (Itw K a b) H1
theorem pi_zipW {X : Cx} {x1 : Addr} {e e2 : Expr} {ta : TA} {p pos tpos : Pos} {elts : List Expr} {kk : Nat} (hot : PinHot X x1) (hg : Gl X "zip") (hm : X.mg "zip" = none) (ha : PA X [e, e2] ta)
    (hs : starEach [e, e2] X.env = (false, eval e X.env) :: starEach [e2] X.env := by rfl) (hpl : (backTo pos (starEach [e2] X.env)).any (·.1) = false := by rfl) :
    PIW X x1 (.Tuple elts kk tpos) (.Call (.Name "zip" p) [e, e2] [] pos) (iZipW X.K ta) := by
  constructor
  intro pins s σ H R I h
  refine Call_ (ld_blt I hg hm PyProof.Rows.boot_zip (PyProof.Rows.callWith_type1 (thn (ha.run pos pins s σ H _ I h) ?_) hs hpl))
  rintro us s1 ⟨vs, H1, I1, r1, a, b, xs, ys, rfl, qa, qb, q⟩
  obtain ⟨_, o1, _, at1, _, _⟩ := hot.hot _ _ _ _ I1
  have lx : x1 < s1.heap.objs.size := Heap.lt_size at1
  cases r1 with
  | cons ra rr =>
    cases rr with
    | cons rb rr =>
      cases rr
      cases ra
      cases rb
      obtain ⟨_, _, p1, _⟩ := I1.list qa
      obtain ⟨_, _, p2, _⟩ := I1.list qb
      refine call_zip_2 p1.isList p2.isList fun h' hz hTI hTO h1 h2 hsz hk => wpAny_pyIter_zip hz ?_
      have le : ∀ c ∈ [s1.heap.objs.size + 4, s1.heap.objs.size + 2, s1.heap.objs.size + 3, s1.heap.objs.size, s1.heap.objs.size + 1], s1.heap.objs.size ≤ c := fun c hc => by
        simp only [List.mem_cons, List.not_mem_nil, or_false] at hc
        rcases hc with z | z | z | z | z <;> rw [z] <;> first | exact Nat.le_refl _ | exact Nat.le_add_right _ _
      refine ⟨s1.heap.objs.size + 4, [s1.heap.objs.size + 4, s1.heap.objs.size + 2, s1.heap.objs.size + 3, s1.heap.objs.size, s1.heap.objs.size + 1], _, _, H1, rfl, I1.kept (t' := s1.toks) hk,
        turn_zipW (PySem.W.ktu_apart s1.heap.objs.size a b p1.lt p2.lt) (fun hm => Nat.lt_irrefl _ (Nat.lt_of_lt_of_le lx (le _ hm))), ⟨hz, hTI, ⟨_, _, hTO⟩, h1, h2⟩, fun c hc => I1.fpOk (le c hc) (I1.hok.fresh (le c hc)), q⟩
/-- [elt for target in zip(..) if ..], name = that, while an exception is handled -/
theorem ps_setLcW {X : Cx} {x1 : Addr} {i : Nat} {y : Str} {py : Pos} {elt tg iter : Expr} {ifs : List Expr} {scope : Scope} {own : List (Str × Nat)} {pos spos : Pos} {wi : TI} {g : TG} {tt : TT} {te : TE} (hot : PinHot X x1) (hN : X.N.Nodup) (hy : X.N[i]? = some y) (hyl : X.env.scope.names.lookup y = some .local)
    (hsw : swapsWith (.ListComp elt [⟨tg, iter, ifs, 0⟩] scope pos) (some (.Name y py)) spos.line X.env = pure true) (hi : PIW X x1 tg iter wi) (ok : BlkOk X.N X.env.scope scope own)
    (hg : ∀ (s : Shared) (H : Hp) (C : Addr) (cl : List (Str × Addr)) (fp : List Addr), HotS (X.blk s H scope (compEnvC scope cl C X.env) fp) x1 → PG (X.blk s H scope (compEnvC scope cl C X.env) fp) tg g) (ht : ∀ (s : Shared) (H : Hp) (C : Addr) (cl : List (Str × Addr)) (fp : List Addr), PTs (X.blk s H scope (compEnvC scope cl C X.env) fp) ifs tt)
    (he : ∀ (s : Shared) (H : Hp) (C : Addr) (cl : List (Str × Addr)) (fp : List Addr), PE (X.blk s H scope (compEnvC scope cl C X.env) fp) elt te) (hs : ∀ x, foldedSetIterable iter X.env x = pure x := by intro _; rfl) :
    PS X (.Assign [.Name y py] (.ListComp elt [⟨tg, iter, ifs, 0⟩] scope pos) spos) (tAsg (tLc wi g tt te (own.map (·.2))) (gName i)) := by
  constructor
  intro pins s σ H D I h
  replace h : tLc wi g tt te (own.map (·.2)) σ H (fun x H1 => gName i x σ H1 D.nx) := h
  have cells : ∀ z ∈ scope.names, z.2 = .free → ∃ c, X.env.cells.lookup z.1 = some c := fun z hz e => (ok.free z hz e).elim (fun k => I.ok.has _ (.inl k)) fun k => I.ok.has _ (.inr k)
  rw [exec_Assign_Name_used _ _ _ _ hsw]
  refine wpAny_bind (wpAny_standAt (wpAny_bind ?_))
  show wpAny _ X.A (do let _ ← comprehension (.ListComp elt [⟨tg, iter, ifs, 0⟩] scope pos) scope X.env (firstIterPos [⟨tg, iter, ifs, 0⟩] pos) (newList []) false (eval iter X.env) (some (assign (.Name y py) X.env))) _ _ s
  refine wpAny_bind (thn (Q := fun _ s' => SP X pins D .next s') ?_ fun _ s' hq => wpAny_pure (wpAny_pure hq))
  refine wpAny_comprehension_free (use := some (assign (.Name y py) X.env)) rfl hs (closure_ok cells) ok.kind (fun z hz e => by rw [ok.uniq z hz, e]) (thn (hi.run pins s σ H _ I h) fun xv s1 hx => thn hx ?_)
  rintro itv s2 ⟨it, fp, tn, J, H2, rfl, I2, T, tn2, ff, rd⟩
  refine wpAny_newObj_type (newEnv_comp ?_) (by show 0 ≤ sizeLine; decide)
  obtain ⟨L, hL⟩ : ∃ L, L = s2.heap.objs.size := ⟨_, rfl⟩
  have freshL : H2 L = none := I2.hok.fresh (Nat.le_of_eq hL.symm)
  obtain ⟨W, ⟨m0, w0⟩, turn⟩ := rd L freshL
  rw [← hL]
  obtain ⟨s3, hs3⟩ : ∃ s3 : Shared, s3 = { s2 with heap := s2.heap.push { cls := .type "list", data := .seq ([] : List Value).toArray } } := ⟨_, rfl⟩
  have h3 : s3.heap = s2.heap.push { cls := .type "list", data := .seq ([] : List Value).toArray } := by rw [hs3]
  have I3 : Inv X pins σ (upd H2 L (.lst [])) s3 := by
    rw [hs3]
    refine I2.laid (t' := s2.toks) (fun b o e => Heap.get?_push_of_some _ e) (Nat.le_of_eq hL.symm) ⟨Nat.zero_le _, [], 0, .nil, ?_⟩
    rw [hL]
    exact Heap.get?_push_size _ rfl
  have small : ∀ b ∈ fp, b < s2.heap.objs.size := fun b hb => by
    obtain ⟨o, e, _⟩ := T.obj _ _ tn2 b hb
    exact Heap.lt_size e
  have ff3 : ∀ b ∈ fp, FpOk X pins (upd H2 L (.lst [])) b ∧ b < s3.heap.objs.size := fun b hb => by
    refine ⟨⟨?_, (ff b hb).2⟩, by rw [h3, Heap.size_push]; exact Nat.lt_succ_of_lt (small b hb)⟩
    rw [upd_ne (by rw [hL]; exact Nat.ne_of_lt (small b hb))]
    exact (ff b hb).1
  have nfp : ∀ b ∈ fp, (upd H2 L (.lst [])) b = none := fun b hb => (ff3 b hb).1.1
  have tn3 : tn 0 s3.heap := T.keep _ _ _ tn2 fun b _ o e => by rw [h3]; exact Heap.get?_push_of_some _ e
  have I4 := block_start I3 ok hN ff3
  show codeAny _ _ (.compStart (.ListComp elt [⟨tg, iter, ifs, 0⟩] scope pos) 0 (.ref it) (.ref L) (compEnvC scope (cellsFrom (({ s2 with heap := s2.heap.push { cls := .type "list", data := .seq ([] : List Value).toArray } } : Shared).heap.objs.size + 1) scope.names (cloFrom X.env.cells scope.names [])) ({ s2 with heap := s2.heap.push { cls := .type "list", data := .seq ([] : List Value).toArray } } : Shared).heap.objs.size X.env))
    (compPost (model X.prog X.w) X.A X.xe (some (assign (.Name y py) X.env)) (fun _ s' => SP X pins D .next s') (.ref L) ({ s2 with heap := s2.heap.push { cls := .type "list", data := .seq ([] : List Value).toArray } } : Shared).heap.objs.size) { ({ s2 with heap := s2.heap.push { cls := .type "list", data := .seq ([] : List Value).toArray } } : Shared) with heap := pushCells (({ s2 with heap := s2.heap.push { cls := .type "list", data := .seq ([] : List Value).toArray } } : Shared).heap.push { cls := .type "dict", data := .dict #[] }) scope.names }
  rw [← hs3]
  obtain ⟨ce, hce⟩ : ∃ ce, ce = compEnvC scope (cellsFrom (s3.heap.objs.size + 1) scope.names (cloFrom X.env.cells scope.names [])) s3.heap.objs.size X.env := ⟨_, rfl⟩
  have loc : ce.locals = s3.heap.objs.size := by rw [hce]; rfl
  have pt := ht s3 (upd H2 L (.lst [])) s3.heap.objs.size (cellsFrom (s3.heap.objs.size + 1) scope.names (cloFrom X.env.cells scope.names [])) fp
  have pe := he s3 (upd H2 L (.lst [])) s3.heap.objs.size (cellsFrom (s3.heap.objs.size + 1) scope.names (cloFrom X.env.cells scope.names [])) fp
  have pg := hg s3 (upd H2 L (.lst [])) s3.heap.objs.size (cellsFrom (s3.heap.objs.size + 1) scope.names (cloFrom X.env.cells scope.names [])) fp
  rw [← hce] at I4 pg pt pe ⊢
  obtain ⟨H3, hH3⟩ : ∃ H3, H3 = upd H2 L (.lst []) := ⟨_, rfl⟩
  rw [← hH3] at I3 I4 pg pt pe w0 nfp ff3
  -- the exception stays where it is
  have hotB : HotS (X.blk s3 H3 scope ce fp) x1 := fun pins' σ' H' s' J' => by
    obtain ⟨hh, oe, vs, hm, hd, hc⟩ := hot
    obtain ⟨q1, q2, q3, q4, _⟩ := I3.pin (x1, oe) (List.mem_append_left _ hm)
    refine ⟨hh, oe, vs, J'.base.keep x1 oe q1 q2 (fun hz => ?_) (fun hz => ?_), hd, hc⟩
    · exact (List.mem_cons.mp (I3.stkSub x1 hz)).elim q3 q4
    · exact (ff3 x1 hz).1.2.2.2.2.2 (x1, oe) (List.mem_append_left _ hm) rfl
  replace pg := pg hotB
  obtain ⟨s4, hs4⟩ : ∃ s4 : Shared, s4 = { s3 with heap := pushCells (s3.heap.push { cls := .type "dict", data := .dict #[] }) scope.names } := ⟨_, rfl⟩
  rw [← hs4] at I4 ⊢
  have tn4 : tn 0 s4.heap := T.keep _ _ _ tn3 fun b _ o e => by rw [hs4]; exact pushCells_keeps _ _ _ _ (Heap.get?_push_of_some _ e)
  have stat : ∀ {σ' : L2.St} {H' : Hp} {s' : Shared}, Inv (X.blk s3 H3 scope ce fp) [] σ' H' s' → (∀ b ∈ fp, H' b = none) → ∀ b ∈ fp, FpOk (X.blk s3 H3 scope ce fp) [] H' b := fun {σ' H' s'} J' hn b hb =>
    ⟨hn b hb, (J'.ok.exf b hb).1, J'.ok.exfs b hb, .inl hb, fun x c e => (J'.ok.exf b hb).2 x c e, fun p hp => absurd (show p ∈ ([] : List (Addr × Obj)) ++ [] from hp) (by simp)⟩
  have loop : codeAny (model X.prog X.w) X.A (.compLoop (.ListComp elt [⟨tg, iter, ifs, 0⟩] scope pos) 0 (.ref it) (.ref L) ce) (compPost (model X.prog X.w) X.A X.xe (some (assign (.Name y py) X.env)) (fun _ s' => SP X pins D .next s') (.ref L) s3.heap.objs.size) s4 := by
    refine compLoop_any (fun n s' => ∃ k H', Inv (X.blk s3 H3 scope ce fp) [] (wipe σ (own.map (·.2))) H' s' ∧ tn k s'.heap ∧ (∀ b ∈ fp, H' b = none) ∧ W k n H') ?_ m0 ⟨0, H3, I4, tn4, nfp, w0⟩
    rintro n s5 ⟨k, H5, I5, tn5, n5, w5⟩
    rcases turn k n H5 w5 with ⟨stop, qq⟩ | ⟨go, Nx, hNx, step⟩
    · refine thnF (T.done (X.blk s3 H3 scope ce fp) rfl rfl rfl k [] s5 _ H5 (fun _ _ => False) (hotB _ _ _ _ I5) I5 (stat I5 n5) tn5 stop) ?_
      rintro r s6 ⟨rfl, I6⟩
      have I7 : Inv X pins σ H5 s6 := I3.call' (ch := fp) I6.os I6.base I6.hok I6.bare fun b hb => ⟨(ff3 b hb).1.2.2.2.1, (ff3 b hb).1.2.1, (ff3 b hb).1.2.2.2.2.1, (ff3 b hb).1.2.2.2.2.2⟩
      have nC : H5 s3.heap.objs.size = none := by rw [← loc]; exact I6.free
      obtain ⟨m, hn, _⟩ := I6.loc
      replace hn : s6.heap.Ns s3.heap.objs.size m := by rw [← loc]; exact hn
      obtain ⟨f0, f1, f2, f3, f4, f5⟩ := I3.fpOk (H' := H5) (Nat.le_refl _) nC
      show wpAny _ _ (assign (.Name y py) X.env (.ref L)) _ _ _
      refine wpAny_assign_Name (store_ok2 (v := V.ref L) I7 hN hy (.inl hyl) rfl (fun s7 I8 ⟨a, sb, ha⟩ => ?_) (.inr hyl))
      have ne : s3.heap.objs.size ≠ a := ha.elim (fun z => by rw [z]; exact f1) fun z e => f4 y a z e.symm
      exact ⟨m, hn.sameBut sb ne, fun h8 sb8 => ⟨_, H5, I8.turned (t' := s7.toks) (fun b o hb e => (sb8.2 b hb).trans e) f0 f1 f3 f4 f5, qq⟩⟩
    · refine thnF (T.item (X.blk s3 H3 scope ce fp) rfl rfl rfl k [] s5 _ H5 (fun _ _ => False) I5 (stat I5 n5) tn5 go) ?_
      rintro r s6 ⟨u, rfl, h6⟩
      refine thnF h6 ?_
      rintro _ s7 ⟨x, H7, I7, r7, y7, tn7, n7⟩
      refine thnF (pg.run _ s7 _ H7 x u _ (I7.pinned (stat I7 n7) (T.obj _ _ tn7)) r7 (step x H7 y7)) ?_
      rintro _ s8 ⟨σ8, H8, I8, hw8, q8⟩
      refine thnF (pt.run _ s8 σ8 H8 _ I8 q8) ?_
      rintro b s9 ⟨H9, I9, q9⟩
      have fin : ∀ {s' : Shared} {H' : Hp}, Inv (X.blk s3 H3 scope ce fp) ([] ++ pinsAt fp s7.heap) σ8 H' s' → Nx H' → ∃ m, m < n ∧ ∃ i H', Inv (X.blk s3 H3 scope ce fp) [] (wipe σ (own.map (·.2))) H' s' ∧ tn i s'.heap ∧ (∀ b ∈ fp, H' b = none) ∧ W i m H' := fun {s' H'} J' nx => by
        obtain ⟨m', hm, w'⟩ := hNx H' nx
        have there : ∀ b ∈ fp, ∀ o, s7.heap.get? b = some o → s'.heap.get? b = some o ∧ H' b = none := fun b hb o e => by
          obtain ⟨z1, z2, _⟩ := J'.pin (b, o) (List.mem_append_right _ (List.mem_append_right _ (mem_pinsAt hb e)))
          exact ⟨z1, z2⟩
        refine ⟨m', hm, k + 1, H', (J'.unpinned (pins := [])).weak (by rw [← hw8, wipe_length]) (fun j v e => by rw [← hw8] at e; exact (wipe_some e).1), T.keep _ _ _ tn7 fun b hb o e => (there b hb o e).1, fun b hb => ?_, w'⟩
        obtain ⟨o, e, _⟩ := T.obj _ _ tn7 b hb
        exact (there b hb o e).2
      cases b with
      | false =>
        simp only [Bool.false_eq_true, if_false] at q9 ⊢
        exact fin I9 q9
      | true =>
        simp only [if_true] at q9 ⊢
        refine thnF (pe.run _ s9 σ8 H9 _ I9 q9) ?_
        rintro z s10 ⟨yv, H10, I10, r10, acc, d10, z10, nx⟩
        exact app_ok (X := X.blk s3 H3 scope ce fp) I10 d10 z10 r10 fun s11 I11 => fin I11 nx
  exact codeAny_compStart_list loop (T.self X.A 0 _ _ _ tn4 loop)
end Fx
namespace Fx
open PySem PySem.Spec PyProof.Rows L2

/-! ### a def called in an except suite -/
/-- the context of a def's body that runs while (x1, oe) is handled -/
abbrev cxW (P : Program) (w : World) (K : PySem.W.Frag) (mg : Str → Option Value) (base : Heap) (N : List Str) (qual : Str) (scope : Scope) (f : Addr) (cd : Value) (A : Around) (outer : List Env) (s : Shared) (H : Hp) (p : Addr × Obj) : Cx :=
  L2H.cxH C8.CX0 P w K mg base N qual scope f cd A outer s H C8.E0 p
/-- f(e), in an except suite: f's body is read with the exception pinned; nothing is raised -/
theorem pe_callW {X : Cx} {x : Str} {p : Addr × Obj} {k : Nat} {f : Addr} {pg : Arguments} {bg : List Stmt} {sg : Scope} {dV kV doc pm cdv ct oc : Value} {an od : Option Addr} {osl : Array (Option Value)} {N ps : List Str} {e : Expr} {ta : TA} {q pos : Pos} {R : List V → Hp → VK → Prop}
    (hp : p ∈ X.pn) (hg : Gl X x) (hm : X.mg x = some (.ref f)) (hk : PySem.W.keepIn X.K (.ref f) = true)
    (lk : X.K.lookup f = some ⟨oc, od, .func (PySem.W.fnOf x x pg bg sg dV kV doc pm an cdv ct), osl⟩) (hcd : PySem.W.codeIn X.K cdv x = true) (hb : Binds X.K (PySem.W.fnOf x x pg bg sg dV kV doc pm an cdv ct) ps []) (S : FnScope N ps sg)
    (hr : L2H.RoomH (k + 1) X.A) (len : ∀ vs H Q, R vs H Q → vs.length = ps.length)
    (go : ∀ (A : Around) (outer : List Env) (s : Shared) (H : Hp) (vs : List V) (Q : VK), A.handled = X.A.handled → L2H.RoomH k (A.deeper (envOfC x sg s.heap.objs.size f cdv)) → R vs H Q →
      ∃ t, PSs (cxW X.prog X.w X.K X.mg X.base N x sg f cdv A outer s H p) bg t ∧ t { nx := fun _ H' => Q .non H', rt := Q } (L2.start N vs) H)
    (ha : PA X [e] ta) (hdb : (x == ("__debug__" : Str)) = false := by decide) (he : starEach [e] X.env = (false, eval e X.env) :: starEach [] X.env := by rfl) (hpl : (backTo pos (starEach [] X.env)).any (·.1) = false := by rfl) :
    PE X (.Call (.Name x q) [e] [] pos) (fun σ H Q => ta σ H fun vs H1 => R vs H1 Q) := by
  constructor
  intro pins s σ H Q I h
  apply wpAny_Call_Name_kw
  refine ld_glob I hg hm ?_ hdb
  refine PySem.W.callWith_K (h₀ := X.base) I.ok.mod.kin hk (thn (ha.run pos pins s σ H _ I h) ?_) he hpl
  rintro us s1 ⟨vs, H1, I1, r, rd⟩
  refine ⟨I1.kIn, wpAny_call ?_⟩
  have hl : us.length = ps.length := by rw [← r.length]; exact len _ _ _ rd
  have b := hb s1 us I1.kIn (by rw [List.append_nil]; exact hl)
  rw [List.append_nil] at b
  have P1 := I1.pin p (List.mem_append_left _ hp)
  have pin : L2H.PinOk X.stack H1 s1 p := ⟨P1.1, P1.2.1, fun hm => (List.mem_cons.mp (I1.stkSub p.1 hm)).elim P1.2.2.1 P1.2.2.2.1, P1.2.2.2.2⟩
  have e0 := I1.env0
  have KX : X.K.In s1.heap := I1.kIn
  have kinds : ∀ y ∈ ps.zip us, sg.names.lookup y.1 = some .local ∨ (sg.names.lookup y.1 = some .cell ∧ ((cellsFrom (s1.heap.objs.size + 1) sg.names []).lookup y.1).isSome = true) := fun ⟨n, v⟩ hy =>
    (S.par n (List.of_mem_zip hy).1).elim .inl fun k => .inr ⟨k, PySem.W.cellsFrom_some _ _ _ (.inl k)⟩
  have ran : codeAny (model X.prog X.w) X.A (.call (.ref f) ⟨us, []⟩) (CR C8.CX0 X.stack X.prog X.w H1 s1 Q C8.E0) s1 := by
    refine codeAny_call_function hr.depth (KX _ _ lk) rfl S.co S.gen rfl (PySem.W.codeRec_of KX hcd) (b _ _ _ _ ?_)
    refine wpAny_newFunctionEnv_cells S.kind kinds fun env henv s2 made => ?_
    subst henv
    refine ⟨I1.nolimit.keeps made.toInCall.keep, codeAny_func ?_⟩
    obtain ⟨t, ht, hq⟩ := go X.A X.stack s1 H1 vs Q rfl (hr.deeper _) rd
    have J := L2H.inv_startH (CX := C8.CX0) (f := f) (cd := cdv) (qual := x) (E := C8.E0) S pin e0 (by rw [r.length]; exact hl) r made
    refine wpAny_mono (ht.run [] s2 (L2.start N vs) H1 _ J hq) (fun fl s' hs => ?_) fun _ _ z => z
    cases fl with
    | ret u => obtain ⟨v, σ', H', J', rv, z⟩ := hs; exact ⟨v, H', J'.os, J'.bare, J'.base, J'.hok, rv, z⟩
    | next => obtain ⟨σ', H', J', z⟩ := hs; exact ⟨.non, H', J'.os, J'.bare, J'.base, J'.hok, rfl, z⟩
    | brk => obtain ⟨_, _, _, z⟩ := hs; exact False.elim z
    | cont => obtain ⟨_, _, _, z⟩ := hs; exact False.elim z
  refine codeAny_mono ran fun r s2 hq => ?_
  cases r with
  | error e => exact (show False from hq).elim
  | ok fl =>
    cases fl with
    | ret u => exact I1.after hq
    | next => exact False.elim hq
    | brk => exact False.elim hq
    | cont => exact False.elim hq
/-- isinstance(e, c), e the pinned exception -/
theorem call_isW {X : Cx} {a D : Addr} {oe : Obj} (hp : (a, oe) ∈ X.pn) (C : ExcC X.K D) (hz : Zc (.ref D) none oe) (hf : ∃ vs, oe.data = .fields vs) : CallR X (.builtin "isinstance") (rIsE X.K D a) := by
  rintro pins s σ H xs us Q I r ⟨c, cv, b, rfl, same, e, q⟩
  obtain ⟨vs, hv⟩ := hf
  cases r with
  | cons rx rr =>
    cases rr with
    | cons rt rr =>
      cases rr
      cases rx
      cases same _ rt
      have at_a := (I.pin (a, oe) (List.mem_append_left _ hp)).1
      have J : PySem.W.InstAt s.heap a oe D none := by
        obtain ⟨oc, od, oda, osl⟩ := oe
        obtain ⟨h1, h2⟩ := hz
        dsimp only at h1 h2 hv
        subst h1 h2 hv
        exact ⟨at_a, rfl, rfl, trivial⟩
      exact PySem.W.kia_one (PySem.W.handS_kitx_exc C.hg C.hk C.hs C.hd C.ha C.hn C.ht C.hm) I.kIn J e (fun z => nomatch z) fun tk => ⟨.bl b, H, I.kept (t' := tk) fun _ _ z => z, rfl, q⟩
end Fx
namespace Fx
open PySem PySem.Spec PyProof.Rows L2
/-- isinstance(e, C) as an expression; e in slot 0 -/
theorem pe_isW {X : Cx} {a D C : Addr} {oe : Obj} {c : Str} {b : Bool} {p1 p2 p3 pos : Pos} (hp : (a, oe) ∈ X.pn) (EC : ExcC X.K D) (hz : Zc (.ref D) none oe) (hf : ∃ vs, oe.data = .fields vs) (hg : Gl X "isinstance") (hm : X.mg "isinstance" = none)
    (hgc : Gl X c) (hmc : X.mg c = some (.ref C)) (hk : PySem.W.kitOne X.K (.ref D) (.ref C) = some b) (h0 : X.N[0]? = some ("e" : Str)) (hv : Vis X.env.scope ("e" : Str)) (hd : (c == ("__debug__" : Str)) = false := by decide) :
    PE X (.Call (.Name "isinstance" p1) [.Name "e" p2, .Name c p3] [] pos) (fun σ H Q => σ[0]? = some (some (.ref a)) ∧ Q (.bl b) H) := by
  have h := pe_callB (pos := pos) (p := p1) (call_isW hp EC hz hf) hg hm (by decide +kernel) (pa_cons (pe_var (pos := p2) (i := 0) h0 hv) (pa_cons (pe_glob (pos := p3) (v := V.ref C) hgc hmc rfl hd) pa_nil (by rfl)) (by rfl)) (by decide) (by decide) (by rfl) (by rfl)
  refine ⟨fun pins s σ H Q I q => h.run pins s σ H Q I ?_⟩
  exact ⟨_, q.1, .ref C, .ref C, b, rfl, fun u ru => ru, hk, q.2⟩
end Fx
namespace Fx
open PySem PySem.Spec PyProof.Rows L2

/-! ### the names of an exception's classes, told in an except suite -/
abbrev Ext (H H' : Hp) : Prop := ∀ b o, H b = some o → H' b = some o
theorem ext_new {H : Hp} {p : Addr} {o : HO} (h : H p = none) : Ext H (upd H p o) := fun b x e => by rw [upd_ne (ne_of_none e h)]; exact e
def tI (a : Addr) (b : Bool) : TE := fun σ H Q => σ[0]? = some (some (.ref a)) ∧ Q (.bl b) H
def tIs (a : Addr) : List Bool → TA
  | [] => tNil
  | b :: r => tCons (tI a b) (tIs a r)
def tSs : List Str → TA
  | [] => tNil
  | x :: r => tCons (tC (.str x)) (tSs r)
theorem tIs_run {a : Addr} {σ : L2.St} {H : Hp} (h0 : σ[0]? = some (some (.ref a))) : ∀ (bs : List Bool) (Q : List V → Hp → Prop), Q (bs.map V.bl) H → tIs a bs σ H Q
  | [], _, q => q
  | b :: r, Q, q => ⟨h0, tIs_run h0 r _ q⟩
theorem tSs_run {σ : L2.St} {H : Hp} : ∀ (bs : List Str) (Q : List V → Hp → Prop), Q (bs.map V.str) H → tSs bs σ H Q
  | [], _, q => q
  | b :: r, Q, q => tSs_run r _ q
section
variable {K : PySem.W.Frag} {σ : L2.St} {H : Hp} {D : Ends} {i : Nat}
/-- x = [..] -/
theorem asg_lst {ta : TA} {xs : List V} (hl : xs.length ≤ sizeLine) (ht : ∀ Q : List V → Hp → Prop, Q xs H → ta σ H Q) (k : ∀ p, H p = none → D.nx (σ.set i (some (.ref p))) (upd H p (.lst xs))) : tAsg (tLst ta) (gName i) D σ H :=
  ht _ ⟨hl, fun p hp => k p hp⟩
/-- x = x + [..] -/
theorem asg_cat {ta : TA} {xs ys : List V} {p0 : Addr} (h0 : σ[i]? = some (some (.ref p0))) (h1 : H p0 = some (.lst ys)) (hl : ys.length + xs.length ≤ 1000) (ht : ∀ Q : List V → Hp → Prop, Q xs H → ta σ H Q)
    (k : ∀ p H', Ext H H' → H' p = some (.lst (ys ++ xs)) → H p = none → D.nx (σ.set i (some (.ref p))) H') : tAsg (tOp (rCatL K) (tVar i) (tLst ta)) (gName i) D σ H := by
  have sz : (1000 : Nat) ≤ sizeLine := by decide
  refine ⟨.ref p0, h0, ht _ ⟨by omega, fun q hq => ?_⟩⟩
  refine ⟨p0, q, ys, xs, rfl, rfl, .inl (.inl ?_), .inl (.inl upd_same), by omega, fun p hp => ?_⟩
  · rw [upd_ne (ne_of_none h1 hq)]; exact h1
  · have hn : H p = none := by
      cases e : H p with
      | none => rfl
      | some o => rw [ext_new hq p o e] at hp; cases hp
    exact k p _ (fun b o e => ext_new hp b o (ext_new hq b o e)) upd_same hn
end
/-- the words that are good -/
def goodW (ws : List Str) (bs : List Bool) : List Str := ((ws.zip bs).filter (·.2)).map (·.1)
theorem goodW_take {ws : List Str} {bs : List Bool} {k : Nat} {x : Str} {b : Bool} (h1 : ws[k]? = some x) (h2 : bs[k]? = some b) : goodW (ws.take (k + 1)) (bs.take (k + 1)) = goodW (ws.take k) (bs.take k) ++ (if b then [x] else []) := by
  unfold goodW
  have e1 : ws.take (k + 1) = ws.take k ++ [x] := by rw [List.take_add_one, h1]; rfl
  have e2 : bs.take (k + 1) = bs.take k ++ [b] := by rw [List.take_add_one, h2]; rfl
  have l : (ws.take k).length = (bs.take k).length := by
    have a1 := (List.getElem?_eq_some_iff.mp h1).1
    have a2 := (List.getElem?_eq_some_iff.mp h2).1
    simp; omega
  rw [e1, e2, List.zip_append l, List.filter_append, List.map_append]
  cases b <;> rfl
theorem walk_zipW {K : PySem.W.Frag} {a b : Addr} {xs ys : List V} (hl : xs.length = ys.length) : Walk (Itw K a b) xs.length (fun H => SqL K H a xs ∧ SqL K H b ys) (YPair (fun i => xs[i]?) (fun i => ys[i]?)) := by
  refine ⟨fun i H hi q => ?_, fun H q => ⟨xs, q.1, Nat.le_refl _⟩, fun i H v H' _ q y => ?_⟩
  · have h2 : i < ys.length := by omega
    exact ⟨xs, ys, xs[i], ys[i], q.1, q.2, by simp [hi], by simp [h2]⟩
  · obtain ⟨T, x, z, h1, h2, h3, h4, h5⟩ := y
    exact ⟨T, x, z, h1, h2, h3, h4 xs q.1, h5 ys q.2⟩
/-- found = [word for word, good in zip(words, matching) if good] -/
theorem asg_words {K : PySem.W.Frag} {σ : L2.St} {H : Hp} {D : Ends} {pw pm : Addr} {ws : List Str} {bs : List Bool} {e0 : Option V} (hl : ws.length = bs.length) (hz : ws.length ≤ 1000) (h1 : H pm = some (.lst (bs.map V.bl))) (h2 : H pw = some (.lst (ws.map V.str)))
    (hσ : σ = [e0, some (.ref pm), some (.ref pw), none, none, none])
    (k : ∀ p H', Ext H H' → H' p = some (.lst ((goodW ws bs).map V.str)) → H p = none → D.nx (σ.set 3 (some (.ref p))) H') :
    tAsg (tLc (iZipW K (tCons (tVar 2) (tCons (tVar 1) tNil))) (gTup K 2 (gCons (gName 4) (gCons (gName 5) gNil))) (tB (tVar 5)) (tVar 4) [4, 5]) (gName 3) D σ H := by
  subst hσ
  have sz : (2000 : Nat) ≤ sizeLine := by decide
  refine ⟨.ref pw, rfl, .ref pm, rfl, pw, pm, ws.map V.str, bs.map V.bl, rfl, .inl (.inl h2), .inl (.inl h1), fun p hp => ?_⟩
  have w := walk_zipW (K := K) (a := pw) (b := pm) (xs := ws.map V.str) (ys := bs.map V.bl) (by simp [hl])
  refine lc_it w (fun n H' => Ext H H' ∧ H' p = some (.lst ((goodW (ws.take n) (bs.take n)).map V.str))) ⟨ext_new hp, upd_same⟩ (fun n H' _ q => ⟨.inl (.inl (q.1 _ _ h2)), .inl (.inl (q.1 _ _ h1))⟩) (fun n x H1 H2 hn q y => ?_) fun H' q => ?_
  · obtain ⟨T, a, b, rfl, hT, rfl, ea, eb⟩ := y
    rw [List.length_map] at hn
    have ew : ws[n]? = some ws[n] := List.getElem?_eq_getElem hn
    have eb' : bs[n]? = some (bs[n]'(by omega)) := List.getElem?_eq_getElem (by omega)
    dsimp only at ea eb
    rw [List.getElem?_map, ew] at ea
    rw [List.getElem?_map, eb'] at eb
    cases ea; cases eb
    have x1 := ext_new (o := .tup [V.str ws[n], V.bl (bs[n]'(by omega))]) hT
    refine ⟨T, [V.str ws[n], V.bl (bs[n]'(by omega))], rfl, .inl (.inl upd_same), rfl, .str ws[n], [V.bl (bs[n]'(by omega))], rfl, .bl (bs[n]'(by omega)), [], rfl, rfl, rfl, .bl (bs[n]'(by omega)), rfl, _, rfl, ?_⟩
    have hT2 : p ≠ T := fun z => by rw [z, hT] at q; cases q.2
    have acc : (upd H1 T (.tup [V.str ws[n], V.bl (bs[n]'(by omega))])) p = some (.lst ((goodW (ws.take n) (bs.take n)).map V.str)) := by rw [upd_ne hT2]; exact q.2
    have st := goodW_take ew eb'
    have ln : (goodW (ws.take n) (bs.take n)).length ≤ 1000 := by
      unfold goodW
      rw [List.length_map]
      refine Nat.le_trans (List.length_filter_le _ _) ?_
      rw [List.length_zip, List.length_take]; omega
    cases hb : bs[n]'(by omega) with
    | false =>
      rw [hb] at st acc x1
      refine ⟨fun b o e => x1 b o (q.1 b o e), ?_⟩
      rw [st]; simpa using acc
    | true =>
      rw [hb] at st acc x1
      refine ⟨.str ws[n], rfl, _, acc, by rw [List.length_map]; omega, fun b o e => ?_, ?_⟩
      · have : b ≠ p := fun z => by rw [z] at e; rw [hp] at e; cases e
        rw [upd_ne this]; exact x1 b o (q.1 b o e)
      · rw [upd_same, st]; simp
  · rw [List.length_map, List.take_length] at q
    have : bs.take ws.length = bs := by rw [hl, List.take_length]
    rw [this] at q
    exact k p H' q.1 q.2 hp
/-- what _law_name_of does -/
def tNames (K : PySem.W.Frag) (a : Addr) (m1 m2 m3 m4 m5 : List Bool) (m6 bv : Bool) (w1 w2 : List Str) : TS :=
  tSeq (tAsg (tLst (tIs a m1)) (gName 1)) (tSeq (tAsg (tOp (rCatL K) (tVar 1) (tLst (tIs a m2))) (gName 1)) (tSeq (tAsg (tOp (rCatL K) (tVar 1) (tLst (tIs a m3))) (gName 1)) (tSeq (tAsg (tOp (rCatL K) (tVar 1) (tLst (tIs a m4))) (gName 1))
    (tSeq (tDrop (tBM K "list" rAppend (tVar 1) (tCons (tI a m6) tNil))) (tSeq (tAsg (tLst (tSs w1)) (gName 2)) (tSeq (tAsg (tOp (rCatL K) (tVar 2) (tLst (tSs w2))) (gName 2))
      (tSeq (tAsg (tLc (iZipW K (tCons (tVar 2) (tCons (tVar 1) tNil))) (gTup K 2 (gCons (gName 4) (gCons (gName 5) gNil))) (tB (tVar 5)) (tVar 4) [4, 5]) (gName 3))
        (tRet (tOp rAddS (tM1 (fun x xs H Q => ∃ a p, ∃ ys : List Str, x = .str a ∧ xs = [.ref p] ∧ (SqL K H p (ys.map V.str) ∨ SqT K H p (ys.map V.str)) ∧ (ys.map (·.length)).sum + ys.length * a.length ≤ 16777216 ∧ Q (.str (Txt.join a ys)) H) (tC (.str "")) (tVar 3))
          (tIf (tTest (tI a bv)) (tC (.str "+")) (tC (.str ""))))))))))))
theorem names_run {K : PySem.W.Frag} {a : Addr} {H : Hp} {Q : VK} {nx : L2.St → Hp → Prop} {m1 m2 m3 m4 m5 : List Bool} {m6 bv : Bool} {w1 w2 : List Str} {out : Str} (l1 : (m1 ++ m2 ++ m3 ++ m4).length ≤ 500) (l2 : (w1 ++ w2).length ≤ 500) (hl : (w1 ++ w2).length = (m1 ++ m2 ++ m3 ++ m4 ++ [m6]).length)
    (hs : ((goodW (w1 ++ w2) (m1 ++ m2 ++ m3 ++ m4 ++ [m6])).map (·.length)).sum + (goodW (w1 ++ w2) (m1 ++ m2 ++ m3 ++ m4 ++ [m6])).length * ("" : Str).length ≤ 16777216) (hs2 : (Txt.join "" (goodW (w1 ++ w2) (m1 ++ m2 ++ m3 ++ m4 ++ [m6]))).length + (if bv then ("+" : Str) else "").length ≤ sizeLine)
    (ho : out = Txt.join "" (goodW (w1 ++ w2) (m1 ++ m2 ++ m3 ++ m4 ++ [m6])) ++ (if bv then ("+" : Str) else "")) (q : ∀ H', Ext H H' → Q (.str out) H') :
    tNames K a m1 m2 m3 m4 m5 m6 bv w1 w2 { nx := nx, rt := Q } [some (.ref a), none, none, none, none, none] H := by
  subst ho
  have sz : (1000 : Nat) ≤ sizeLine := by decide
  simp only [List.length_append] at l1 l2
  refine asg_lst (xs := m1.map V.bl) (by simp; omega) (fun Q q => tIs_run rfl _ _ q) fun p1 hp1 => ?_
  refine asg_cat (xs := m2.map V.bl) (ys := m1.map V.bl) (p0 := p1) rfl upd_same (by simp; omega) (fun Q q => tIs_run rfl _ _ q) fun p2 H2 x2 e2 n2 => ?_
  rw [← List.map_append] at e2
  refine asg_cat (xs := m3.map V.bl) (ys := (m1 ++ m2).map V.bl) (p0 := p2) rfl e2 (by simp; omega) (fun Q q => tIs_run rfl _ _ q) fun p3 H3 x3 e3 n3 => ?_
  rw [← List.map_append] at e3
  refine asg_cat (xs := m4.map V.bl) (ys := (m1 ++ m2 ++ m3).map V.bl) (p0 := p3) rfl e3 (by simp; omega) (fun Q q => tIs_run rfl _ _ q) fun p4 H4 x4 e4 n4 => ?_
  rw [← List.map_append] at e4
  have x04 : Ext H H4 := fun b o e => x4 b o (x3 b o (x2 b o (ext_new hp1 b o e)))
  have n04 : H p4 = none := by
    cases e : H p4 with
    | none => rfl
    | some o => rw [x3 p4 o (x2 p4 o (ext_new hp1 p4 o e))] at n4; cases n4
  refine ⟨.ref p4, rfl, .inl ⟨rfl, _, .inl (.inl e4)⟩, rfl, p4, _, .bl m6, rfl, rfl, e4, by simp; omega, ?_⟩
  have x05 : Ext H (upd H4 p4 (.lst ((m1 ++ m2 ++ m3 ++ m4).map V.bl ++ [V.bl m6]))) := fun b o e => by
    have : b ≠ p4 := fun z => by rw [z, n04] at e; cases e
    rw [upd_ne this]; exact x04 b o e
  have e5 : (upd H4 p4 (.lst ((m1 ++ m2 ++ m3 ++ m4).map V.bl ++ [V.bl m6]))) p4 = some (.lst ((m1 ++ m2 ++ m3 ++ m4 ++ [m6]).map V.bl)) := by rw [upd_same]; simp
  generalize upd H4 p4 (.lst ((m1 ++ m2 ++ m3 ++ m4).map V.bl ++ [V.bl m6])) = H5 at x05 e5
  refine asg_lst (xs := w1.map V.str) (by simp; omega) (fun Q q => tSs_run _ _ q) fun p6 hp6 => ?_
  refine asg_cat (xs := w2.map V.str) (ys := w1.map V.str) (p0 := p6) rfl upd_same (by simp; omega) (fun Q q => tSs_run _ _ q) fun p7 H7 x7 e7 n7 => ?_
  rw [← List.map_append] at e7
  have e57 := x7 p4 _ (ext_new (o := .lst (w1.map V.str)) hp6 p4 _ e5)
  refine asg_words (ws := w1 ++ w2) (bs := m1 ++ m2 ++ m3 ++ m4 ++ [m6]) hl (by simp; omega) e57 e7 rfl fun p8 H8 x8 e8 n8 => ?_
  have x08 : Ext H H8 := fun b o e => x8 b o (x7 b o (ext_new hp6 b o (x05 b o e)))
  refine ⟨⟨_, rfl⟩, .ref p8, rfl, "", p8, _, rfl, rfl, .inl (.inl (.inl e8)), hs, ?_⟩
  refine ⟨rfl, bv, rfl, ?_⟩
  cases bv with
  | true => exact ⟨_, "+", rfl, rfl, hs2, q H8 x08⟩
  | false => exact ⟨_, "", rfl, rfl, hs2, q H8 x08⟩
end Fx
namespace Fx
open PySem PySem.Spec PyProof.Rows L2

/-! ### _law_try -/
def errN : List String := ["InvalidRow", "InvalidSums", "InvalidWindow", "InvalidDay", "InvalidWeights", "InvalidTold", "InvalidPlace", "InvalidIndex", "InvalidMost", "TooShort", "NoRows", "NothingToUndo", "TooMany"]
def wordN : List Str := ["Row", "Sums", "Window", "Day", "Weights", "Told", "Place", "Index", "Most", "Short", "None", "Undo", "Many"]
def tells (c : String) : Str := Txt.join "" (goodW wordN (errN.map fun C => C == c)) ++ "+"
/-- what is known of a class that is caught -/
structure ErrC (g : GC) (c : String) (w : Str) : Prop where
  ec : ExcC g.K (g.cl c)
  kit : ∀ C ∈ errN, PySem.W.kitOne g.K (.ref (g.cl c)) (.ref (g.cl C)) = some (C == c)
  val : PySem.W.kitOne g.K (.ref (g.cl c)) (.type "ValueError") = some true
  exT : PySem.W.exmOne g.K (.ref (g.cl c)) (.ref (g.cl "TooMany")) = some false
  exS : PySem.W.exmOne g.K (.ref (g.cl c)) (.ref (g.cl "SumError")) = some true
  tl : tells c = w
  sz : ((goodW wordN (errN.map fun C => C == c)).map (·.length)).sum + (goodW wordN (errN.map fun C => C == c)).length * ("" : Str).length ≤ 16777216
  sz2 : (Txt.join "" (goodW wordN (errN.map fun C => C == c))).length + ("+" : Str).length ≤ sizeLine
structure ErrP (g : GC) (cs : List (String × Str)) : Prop where
  mgs : ∀ C ∈ "SumError" :: errN, g.mg (Str.ofString C) = some (.ref (g.cl C))
  zi : g.mg ("isinstance" : Str) = none
  zz : g.mg ("zip" : Str) = none
  zv : g.mg ("ValueError" : Str) = none
  cs : ∀ c w, (c, w) ∈ cs → ErrC g c w
section
variable {g : GC} {cs : List (String × Str)} {X : Cx} {c : String} {w : Str} {a : Addr} {oe : Obj}
structure NmX (g : GC) (cs : List (String × Str)) (X : Cx) (c : String) (w : Str) (a : Addr) (oe : Obj) : Prop where
  T : ErrP g cs
  hm : (c, w) ∈ cs
  K : X.K = g.K
  mg : X.mg = g.mg
  pn : (a, oe) ∈ X.pn
  zc : Zc (.ref (g.cl c)) none oe
  fl : ∃ vs, oe.data = .fields vs
  N0 : X.N[0]? = some ("e" : Str)
  ve : Vis X.env.scope ("e" : Str)
  gi : Gl X "isinstance"
theorem isE (h : NmX g cs X c w a oe) (C : String) (hC : C ∈ errN) (hgc : Gl X (Str.ofString C)) (hd : (Str.ofString C == ("__debug__" : Str)) = false) {p1 p2 p3 pos : Pos} :
    PE X (.Call (.Name "isinstance" p1) [.Name "e" p2, .Name (Str.ofString C) p3] [] pos) (tI a (C == c)) := by
  have E := h.T.cs _ _ h.hm
  exact pe_isW h.pn (by rw [h.K]; exact E.ec) h.zc h.fl h.gi (by rw [h.mg]; exact h.T.zi) hgc (by rw [h.mg]; exact h.T.mgs C (List.mem_cons_of_mem _ hC)) (by rw [h.K]; exact E.kit C hC) h.N0 h.ve hd
theorem isV (h : NmX g cs X c w a oe) (hgc : Gl X "ValueError") {p1 p2 p3 pos : Pos} :
    PE X (.Call (.Name "isinstance" p1) [.Name "e" p2, .Name "ValueError" p3] [] pos) (tI a true) := by
  have E := h.T.cs _ _ h.hm
  have h' := pe_callB (pos := pos) (p := p1) (call_isW h.pn (by rw [h.K]; exact E.ec) h.zc h.fl) h.gi (by rw [h.mg]; exact h.T.zi) (by decide +kernel) (pa_cons (pe_var (pos := p2) (i := 0) h.N0 h.ve) (pa_cons (pe_bltn (pos := p3) (v := V.ty "ValueError") hgc (by rw [h.mg]; exact h.T.zv) boot_ValueError rfl) pa_nil (by rfl)) (by rfl)) (by decide) (by decide) (by rfl) (by rfl)
  refine ⟨fun pins s σ H Q I q => h'.run pins s σ H Q I ?_⟩
  exact ⟨_, q.1, .ty "ValueError", .type "ValueError", true, rfl, fun u ru => ru, by rw [h.K]; exact E.val, q.2⟩
end
/-- what _law_name_of does for the class c -/
def tNmC (K : PySem.W.Frag) (a : Addr) (c : String) : TS :=
  tNames K a ["InvalidRow" == c, "InvalidSums" == c, "InvalidWindow" == c] ["InvalidDay" == c, "InvalidWeights" == c, "InvalidTold" == c] ["InvalidPlace" == c, "InvalidIndex" == c, "InvalidMost" == c] ["TooShort" == c, "NoRows" == c, "NothingToUndo" == c] [] ("TooMany" == c) true
    ["Row", "Sums", "Window", "Day", "Weights", "Told", "Place", "Index", "Most", "Short", "None"] ["Undo", "Many"]
theorem nmC_run {g : GC} {a : Addr} {c : String} {w : Str} {H : Hp} {Q : VK} {nx : L2.St → Hp → Prop} (E : ErrC g c w) (q : ∀ H', Ext H H' → Q (.str w) H') :
    tNmC g.K a c { nx := nx, rt := Q } [some (.ref a), none, none, none, none, none] H :=
  names_run (by simp) (by simp) rfl E.sz E.sz2 E.tl.symm q
/-- the def that is called with the lambda: its promise -/
def TTry (K : PySem.W.Frag) (cl : Cl) (cs : List (String × Str)) : (XK → Hp → VK → Prop) → Hp → VK → Prop := fun tl H Q =>
  tl (fun cls d H' => ∃ c w, (c, w) ∈ cs ∧ cls = .ref (cl c) ∧ d = none ∧ ∀ H'', Ext H' H'' → Q (.str w) H'') H
    fun v H1 => ([V.str "told", v]).length ≤ sizeLine ∧ ∀ p, H1 p = none → ∃ v', some (some (V.ref p)) = some (some v') ∧ Q v' (upd H1 p (.tup [.str "told", v]))
theorem pss_false {X : Cx} {b : List Stmt} : PSs X b (fun _ _ _ => False) := ⟨fun _ _ _ _ _ _ h => h.elim⟩
structure TryS (sg : Scope) : Prop where
  l0 : Vis sg "door"
  l1 : sg.names.lookup ("found" : Str) = some .local
  l2 : sg.names.lookup ("e" : Str) = some .local
  g1 : sg.names.lookup ("TooMany" : Str) = some .globalImplicit
  g2 : sg.names.lookup ("SumError" : Str) = some .globalImplicit
  g3 : sg.names.lookup ("_law_name_of" : Str) = some .globalImplicit
/-- _law_name_of -/
structure NameP (g : GC) (cs : List (String × Str)) (nb : List Stmt) (sn : Scope) : Prop where
  S : FnScope ["e", "matching", "words", "found", "word", "good"] ["e"] sn
  ps : ∀ (A : Around) (outer : List Env) (s : Shared) (H : Hp) (f : Addr) (cdv : Value) (c : String) (w : Str) (a : Addr) (oe : Obj), (c, w) ∈ cs → Zc (.ref (g.cl c)) none oe → (∃ vs, oe.data = .fields vs) → A.handled = some (.ref a) → PXN.CtxN oe →
    PSs (cxW g.P g.w g.K g.mg g.base ["e", "matching", "words", "found", "word", "good"] "_law_name_of" sn f cdv A outer s H (a, oe)) nb (tNmC g.K a c)
theorem try_gives {g : GC} {cs : List (String × Str)} {X : Cx} {sg sn : Scope} {gf f : Addr} {cdg cdv dV kV doc pm ct oc : Value} {an od : Option Addr} {osl : Array (Option Value)} {pg : Arguments} {nb : List Stmt} {q : Str} {j1 j2 k1 : Nat} {st1 : Stmt} {p1 p2 p3 p4 p5 p6 p7 p8 p9 p10 p11 p12 p13 p14 p15 p16 p17 p18 p19 p20 p21 : Pos}
    (T : ErrP g cs) (hP : X.prog = g.P) (hw : X.w = g.w) (hK : X.K = g.K) (hmg : X.mg = g.mg) (hbase : X.base = g.base) (Sc : TryS sg) (N : NameP g cs nb sn)
    (hm : g.mg "_law_name_of" = some (.ref f)) (hk : PySem.W.keepIn g.K (.ref f) = true) (lk : g.K.lookup f = some ⟨oc, od, .func (PySem.W.fnOf "_law_name_of" "_law_name_of" pg nb sn dV kV doc pm an cdv ct), osl⟩)
    (hcd : PySem.W.codeIn g.K cdv "_law_name_of" = true) (hb : Binds g.K (PySem.W.fnOf "_law_name_of" "_law_name_of" pg nb sn dV kV doc pm an cdv ct) ["e"] []) :
    GivesN X ["door", "found", "e"] "_law_try" sg gf cdg
      [.Assign [.Name "found" p1] (.Constant .none j1 p2) p3,
       .Try [.Assign [.Name "found" p4] (.Tuple [.Constant (.str "told") j2 p5, .Call (.Name "door" p6) [] [] p7] k1 p8) p9]
         [.ExceptHandler (some (.Name "TooMany" p10)) (some "e") [st1] p11,
          .ExceptHandler (some (.Name "SumError" p12)) (some "e") [.Assign [.Name "found" p13] (.Call (.Name "_law_name_of" p14) [.Name "e" p15] [] p16) p17] p18] [] [] p19,
       .Return (some (.Name "found" p20)) p21] "door" q (TTry g.K g.cl cs) := by
  intro A fl c' s H Q tl k hr hA act hc h
  subst hA
  obtain ⟨Y, hY⟩ : ∃ Y, Y = (cxOf C8.CX0 X.prog X.w X.K X.mg X.base ["door", "found", "e"] "_law_try" sg gf cdg X.A X.stack s H C8.E0).nox := ⟨_, rfl⟩
  have yN : Y.N = (["door", "found", "e"] : List Str) := by rw [hY]; rfl
  have yS : Y.env.scope = sg := by rw [hY]; rfl
  have nd0 : (["door", "found", "e"] : List Str).Nodup := by decide
  have nd : Y.N.Nodup := by rw [yN]; exact nd0
  have l1 : Y.env.scope.names.lookup ("found" : Str) = some .local := by rw [yS]; exact Sc.l1
  have l2 : Y.env.scope.names.lookup ("e" : Str) = some .local := by rw [yS]; exact Sc.l2
  let tbody : WX → TS := fun W D σ H => ∃ E : XK, (∀ cls d σ' H', E cls d H' → W cls d σ' H') ∧ σ[0]? = some (some (.ref fl)) ∧ H c' = some (LamX.CodeO c' q) ∧
    tl E H (fun v H1 => ([V.str "told", v]).length ≤ sizeLine ∧ ∀ p, H1 p = none → D.nx (σ.set 1 (some (.ref p))) (upd H1 p (.tup [.str "told", v])))
  let ts2 : Addr → Value → Option Addr → TS := fun a cls d D σ H => ∃ c w, (c, w) ∈ cs ∧ cls = .ref (g.cl c) ∧ d = none ∧ σ[2]? = some (some (.ref a)) ∧ ∀ H'', Ext H H'' → D.nx (σ.set 1 (some (.str w))) H''
  have hrH : L2H.RoomH (k + 1) Y.A := by rw [hY]; exact L2H.roomH_of hr
  have yP : Y.prog = g.P := by rw [hY]; exact hP
  have yw : Y.w = g.w := by rw [hY]; exact hw
  have yK : Y.K = g.K := by rw [hY]; exact hK
  have ymg : Y.mg = g.mg := by rw [hY]; exact hmg
  have ybase : Y.base = g.base := by rw [hY]; exact hbase
  have try_ : PS Y (.Try [.Assign [.Name "found" p4] (.Tuple [.Constant (.str "told") j2 p5, .Call (.Name "door" p6) [] [] p7] k1 p8) p9]
         [.ExceptHandler (some (.Name "TooMany" p10)) (some "e") [st1] p11,
          .ExceptHandler (some (.Name "SumError" p12)) (some "e") [.Assign [.Name "found" p13] (.Call (.Name "_law_name_of" p14) [.Name "e" p15] [] p16) p17] p18] [] [] p19)
        (fun D σ H => tbody (wCl Y.K 2 Y.N.length (fun _ _ _ _ => False) D [(.ref (g.cl "TooMany"), fun _ _ _ _ _ _ => False), (.ref (g.cl "SumError"), ts2)]) D σ H) := by
    refine ps_try_cl (tb := tbody) (i := 2) (by rw [hY]; rfl) (by rw [hY]; rfl) nd (by rw [yN]; rfl) l2 takesN0 (fun W pn xe tk po => ?_) ?_
    · refine ⟨fun pins s' σ H' D I h' => ?_⟩
      obtain ⟨E, hW, h1, h2, h3⟩ := h'
      rw [hY] at tk I ⊢
      have hp := act W pn xe E p6 p7 tk hW
      have hq := pss_one (ps_asg (tg := .Name "found" p4) (pos := p9) (pe_tup (pos := p8) (x1 := k1) (pa_cons (pe_str (x := "told") (j := j2) (pos := p5)) (pa_cons hp pa_nil (by rfl)) (by rfl))) (pg_name (i := 1) (x := "found") (pos := p4) nd0 rfl (.inl Sc.l1) (.inr Sc.l1)))
      exact hq.run pins s' σ H' D I ⟨h1, h2, h3⟩
    · refine .cons ⟨by show Y.env.scope.names.lookup _ = _; rw [yS]; exact Sc.g1, by decide, .inl (by rw [ymg]; exact T.mgs "TooMany" (by decide))⟩ (fun a oe cls d pn _ _ => pss_false)
        (.cons ⟨by show Y.env.scope.names.lookup _ = _; rw [yS]; exact Sc.g2, by decide, .inl (by rw [ymg]; exact T.mgs "SumError" (by decide))⟩ (fun a oe cls d pn hz hf => ?_) .nil)
      refine ⟨fun pins s' σ H' D I h' => ?_⟩
      obtain ⟨c, w, hcs, rfl, rfl, h2, kk⟩ := h'
      have E := T.cs c w hcs
      have hp := pe_callW (X := Y.suite a ((a, oe) :: pn)) (p := (a, oe)) (x := "_law_name_of") (k := k) (pos := p16) (q := p14) (R := fun vs H Q => vs = [V.ref a] ∧ ∀ H', Ext H H' → Q (.str w) H') (List.mem_cons_self)
        (by show Y.env.scope.names.lookup _ = _; rw [yS]; exact Sc.g3) (by show Y.mg _ = _; rw [ymg]; exact hm) (by show PySem.W.keepIn Y.K _ = _; rw [yK]; exact hk) (by show Y.K.lookup _ = _; rw [yK]; exact lk) (by show PySem.W.codeIn Y.K _ _ = _; rw [yK]; exact hcd) (by show Binds Y.K _ _ _; rw [yK]; exact hb) N.S
        ⟨hrH.dp, hrH.un⟩ (fun vs H Q z => by rw [z.1]; rfl) (fun A outer s H vs Q hA hr' z => ?_) (pa_cons (pe_var (X := Y.suite a ((a, oe) :: pn)) (pos := p15) (i := 2) (x := "e") (by show Y.N[2]? = _; rw [yN]; rfl) (.inl l2)) pa_nil (by rfl)) (by decide) (by rfl) (by rfl)
      · have hq := pss_one (ps_asg (tg := .Name "found" p13) (pos := p17) hp (pg_name (X := Y.suite a ((a, oe) :: pn)) (i := 1) (x := "found") (pos := p13) nd (by show Y.N[1]? = _; rw [yN]; rfl) (.inl l1) (.inr l1)))
        exact hq.run pins s' σ H' D I ⟨_, h2, rfl, fun H' x => kk H' x⟩
      · obtain ⟨rfl, kq⟩ := z
        refine ⟨tNmC g.K a c, ?_, ?_⟩
        · have := N.ps A outer s H f cdv c w a oe hcs hz.zc hf hA hz.2.2
          show PSs (cxW Y.prog Y.w Y.K Y.mg Y.base _ _ sn f cdv A outer s H (a, oe)) nb _
          rw [yP, yw, yK, ymg, ybase]
          exact this
        · exact nmC_run E kq
  have body := pss_cons (ps_asg (tg := .Name "found" p1) (pos := p3) (pe_non (X := Y) (j := j1) (pos := p2)) (pg_name (X := Y) (i := 1) (x := "found") (pos := p1) nd (by rw [yN]; rfl) (.inl l1) (.inr l1)))
    (pss_cons try_ (pss_one (ps_ret (pos := p21) (pe_var (X := Y) (i := 1) (x := "found") (pos := p20) (by rw [yN]; rfl) (.inl l1)))))
  rw [hY] at body
  refine ⟨_, body, ?_⟩
  refine ⟨fun cls d H' => ∃ c w, (c, w) ∈ cs ∧ cls = .ref (g.cl c) ∧ d = none ∧ ∀ H'', Ext H' H'' → Q (.str w) H'', ?_, rfl, hc, h⟩
  rintro cls d σ' H' ⟨c, w, hcs, rfl, rfl, kq⟩
  have E := T.cs c w hcs
  refine fun hlen => ⟨false, ?_, fun z => Bool.noConfusion z, fun _ _ => ⟨true, ?_, fun _ a na => ⟨c, w, hcs, rfl, rfl, ?_, fun H'' x => ⟨.str w, ?_, kq H'' x⟩⟩, fun z => Bool.noConfusion z⟩⟩
  · exact (congrArg (fun K => PySem.W.exmOne K _ _) hK).trans E.exT
  · exact (congrArg (fun K => PySem.W.exmOne K _ _) hK).trans E.exS
  · have hlen : σ'.length = 3 := hlen
    match σ', hlen with
    | [x, y, z], _ => rfl
  · have hlen : σ'.length = 3 := hlen
    match σ', hlen with
    | [x, y, z], _ => rfl

/-! ### _law_try(lambda: ..) as an expression -/
/-- what is owned is out of sight -/
def hideO (ρ : Rho) : Rho := ρ.map fun s => match s with
  | .ow _ => .no
  | s => s
def toldOf (cs : List (String × Str)) (c : String) : Option Str := cs.lookup c
/-- ("told", result), or what the class tells -/
def fTry (cs : List (String × Str)) (φ : Rho → Rz T) : Rho → Rz T := fun ρ => match φ (hideO ρ) with
  | .ok t _ => .ok (.tup [.str "told", t]) ρ
  | .rs c none => (match cs.lookup c with
    | some w => .ok (.str w) ρ
    | none => .stuck)
  | _ => .stuck
theorem hideO_get {ρ : Rho} {i : Nat} : (hideO ρ)[i]? = (ρ[i]?).map fun s => match s with
  | .ow _ => .no
  | s => s := by unfold hideO; rw [List.getElem?_map]
theorem hideO_va {ρ : Rho} {i : Nat} {t : T} (h : (hideO ρ)[i]? = some (.va t)) : ρ[i]? = some (.va t) := by
  rw [hideO_get] at h
  cases q : ρ[i]? with
  | none => rw [q] at h; cases h
  | some s => rw [q] at h; cases s <;> first | exact h | cases h
theorem hideO_ow {ρ : Rho} {i : Nat} {ts : List T} (h : (hideO ρ)[i]? = some (.ow ts)) : False := by
  rw [hideO_get] at h
  cases q : ρ[i]? with
  | none => rw [q] at h; cases h
  | some s => rw [q] at h; cases s <;> cases h
theorem mem_of_lookupS {cs : List (String × Str)} {c : String} {w : Str} (h : cs.lookup c = some w) : (c, w) ∈ cs := by
  induction cs with
  | nil => cases h
  | cons a cs ih =>
    obtain ⟨k, v⟩ := a
    rw [List.lookup_cons] at h
    split at h
    · rename_i e
      cases h
      rw [eq_of_beq e]; exact List.mem_cons_self
    · exact List.mem_cons_of_mem _ (ih h)
theorem rel_hide {K : PySem.W.Frag} {cl : Cl} {G H : Hp} {σ : L2.St} {ρ : Rho} (r : Rel K cl G H σ ρ) : Rel K cl G H σ (hideO ρ) where
  same := r.same
  len := by unfold hideO; rw [List.length_map]; exact r.len
  va := fun i t e => r.va i t (hideO_va e)
  ow := fun i ts e => (hideO_ow e).elim
  ap := fun i j ts us o e => (hideO_ow e).elim
theorem own_hide {σ : L2.St} {ρ : Rho} {o : Addr} (h : Own σ (hideO ρ) o) : False := let ⟨_, _, e, _⟩ := h; hideO_ow e
theorem Fr.none {σ : L2.St} {ρ : Rho} {G H G' H' : Hp} (f : Fr (Own σ (hideO ρ)) G H G' H') : Fr NoA G H G' H' := f.mono fun _ z => (own_hide z).elim
/-- tables grew, objects came -/
theorem ext_sm {cl : Cl} {G H H' : Hp} (s : Sm cl G H) (e : LamX.ExtN H H') (t : LamX.Tabs cl.tb H') : Sm cl G H' where
  same := fun b x q => e b x (s.same b x q) fun ps z => s.nt b ps (by rw [← z]; exact q)
  tab := t
  nt := s.nt
theorem fr_extN {H H' : Hp} (e : Ext H H') : LamX.ExtN H H' := fun b o q _ => e b o q
/-- frozen things are still there behind an exception -/
theorem sm_exc {cl : Cl} {G H G' H' : Hp} (s : Sm cl G H) (f : Fr NoA G H G' H') (t : LamX.Tabs cl.tb H') : Sm cl G H' where
  same := fun b x q => f.keep b x (s.same b x q) (fun z => z) fun ps z => s.nt b ps (by rw [← z]; exact q)
  tab := t
  nt := s.nt
theorem fr_exc {G H G' H' : Hp} (f : Fr NoA G H G' H') : Fr NoA G H G H' where
  gg := Same.refl _
  keep := f.keep
  new := fun p x e n => by rw [n] at e; cases e
  there := f.there
/-- the scope of a lambda's body -/
def SC.lam (S : SC) (scope : Scope) (k : Nat) (E : XK) : SC := { S with sc := scope, cf := fun _ => false, k := k, W := fun cls d _ H => E cls d H, pn := false, lm := none }
theorem SC.Is.lam {S : SC} {X : Cx} (h : S.Is X) {A : Around} {outer : List Env} {s : Shared} {H : Hp} {E : XK} {scope : Scope} {f c' : Addr} {k : Nat} (hr : Room k (A.deeper (LamX.lamEnv X scope s.heap.objs.size f c'))) : (S.lam scope k E).Is (lamN X A outer s H E scope f c') where
  prog := h.prog
  w := h.w
  K := h.K
  mg := h.mg
  base := h.base
  N := h.N
  sc := rfl
  fn := rfl
  calm := rfl
  room := hr
  tk := L2N.takes_of rfl rfl rfl rfl
  po := passes_of rfl
  code := fun c q z => nomatch (show (none : Option (Addr × Str)) = some (c, q) from z)
theorem ev_try {K : PySem.W.Frag} {cl : Cl} {W : WX} {cs : List (String × Str)} {φ : Rho → Rz T} {t : XK → TE} (ht : ∀ E, EvF K cl (fun cls d _ H => E cls d H) (t E) φ) : EvF K cl W (LamX.tLam cl.tb (TTry K cl cs) t) (fTry cs φ) := by
  intro σ ρ G H Q re h
  refine ⟨re.same.tab, fun H1 x1 t1 => ?_⟩
  have s1 := ext_sm re.same x1 t1
  have f1 : Fr NoA G H G H1 := Fr.tab x1
  have r1 := re.keep f1 s1
  refine ht _ σ (hideO ρ) G H1 _ (rel_hide r1) ?_
  unfold fTry at h
  cases q : φ (hideO ρ) with
  | stuck => rw [q] at h; exact h.elim
  | ok u ρ2 =>
    rw [q] at h
    intro G2 H2 r2 f2 o2 v dv
    refine ⟨by show 2 ≤ sizeLine; decide, fun p hp => ⟨_, rfl, ?_⟩⟩
    have f2' := Fr.none f2
    have s3 := sm_upd2 (o := .tup [.str "told", v]) r2.same hp
    have f3 : Fr NoA G2 H2 (upd G2 p (.tup [.str "told", v])) (upd H2 p (.tup [.str "told", v])) := Fr.frz hp r2.same
    have fa : Fr NoA G H (upd G2 p (.tup [.str "told", v])) (upd H2 p (.tup [.str "told", v])) := (f1.trans f2' fun p z => False.elim z).trans f3 fun p z => False.elim z
    exact h _ _ (re.keep fa s3) fa.noa (fun _ z => z) _ (den_tup (.inl (.inl upd_same)) (DenL.cons (den_str _) (DenL.cons (dv.mono f3.gg) DenL.nil)))
  | rs c x =>
    rw [q] at h
    cases x with
    | some n => exact h.elim
    | none =>
      dsimp only at h
      cases e : cs.lookup c with
      | none => rw [e] at h; exact h.elim
      | some w =>
        rw [e] at h
        intro G2 H2 d f2 xd
        refine ⟨c, w, mem_of_lookupS e, rfl, xd.2, fun H3 x3 => ?_⟩
        have f2' := Fr.none f2
        have s2 := sm_exc s1 f2' xd.1
        have s3 := ext_sm s2 (fr_extN x3) (xd.1.ext x3)
        have fa : Fr NoA G H G H3 := (f1.trans (fr_exc f2') fun p z => False.elim z).trans (Fr.tab (fr_extN x3)) fun p z => False.elim z
        exact h G H3 (re.keep fa s3) fa.noa (fun _ z => z) _ (den_str _)
end Fx
namespace Fx
open PySem PySem.Spec PyProof.Rows L2

/-! ### makers of lambdas -/
def lamQ (x : String) : Str := (Str.ofString x ++ ".<locals>.") ++ "<lambda>"
structure MkP (g : GC) (x : String) (c : Addr) : Prop where
  ex : ∃ P, LamX.TabB g.base g.mg c P ∧ (P, lamQ x) ∈ g.cl.tb ∧ ∀ p ∈ g.cl.tb, p.1 = P → p.2 = lamQ x
/-- the def _law_try -/
structure TryD (g : GC) (cs : List (String × Str)) : Prop where
  ex : ∃ (gf : Addr) (pg : Arguments) (bg : List Stmt) (sg : Scope) (dV kV doc pm cdv ct oc : Value) (an od : Option Addr) (osl : Array (Option Value)), g.mg "_law_try" = some (.ref gf) ∧ PySem.W.keepIn g.K (.ref gf) = true ∧
    g.K.lookup gf = some ⟨oc, od, .func (PySem.W.fnOf "_law_try" "_law_try" pg bg sg dV kV doc pm an cdv ct), osl⟩ ∧ PySem.W.codeIn g.K cdv "_law_try" = true ∧ Binds g.K (PySem.W.fnOf "_law_try" "_law_try" pg bg sg dV kV doc pm an cdv ct) ["door"] [] ∧
    FnScope ["door", "found", "e"] ["door"] sg ∧ Vis sg "door" ∧ ∀ (X : Cx) (q : Str), X.prog = g.P → X.w = g.w → X.K = g.K → X.mg = g.mg → X.base = g.base → GivesN X ["door", "found", "e"] "_law_try" sg gf cdv bg "door" q (TTry g.K g.cl cs)
theorem pef_try {S : SC} {cs : List (String × Str)} {x : String} {c : Addr} {k : Nat} {params : Arguments} {body : Expr} {scope : Scope} {p lpos pos : Pos} {φ : Rho → Rz T} (D : TryD S.toGC cs) (M : MkP S.toGC x c) (hl : S.lm = some (c, Str.ofString x ++ ".<locals>.")) (hk : k + 2 ≤ S.k)
    (hg : S.sc.names.lookup ("_law_try" : Str) = some .globalImplicit) (L : LamX.lamSB S.sc scope = true) (hbody : ∀ E, PEF (S.lam scope k E) body φ)
    (hdef : ∀ X : Cx, defaultsOf params X.env = ([], []) := by intro _; rfl)
    (hbind : ∀ (q : Str) (cl : List (Str × Addr)) (pm cv ctv : Value), bindArgs (PySem.W.kla_fn "<lambda>" q params body scope cl pm cv ctv) ⟨[], []⟩ = pure [] := by intros; rfl) :
    PEF S (.Call (.Name "_law_try" p) [.Lambda params body scope lpos] [] pos) (fTry cs φ) := by
  obtain ⟨gf, pg, bg, sg, dV, kV, doc, pm, cdv, ct, oc, an, od, osl, hm, hkp, lk, hcd, hb, Sg, hva, gives⟩ := D.ex
  obtain ⟨P, TB, hmT, hu⟩ := M.ex
  refine ⟨LamX.tLam S.cl.tb (TTry S.K S.cl cs) (fun E => (hbody E).choose), fun X hX => ?_, ev_try fun E => (hbody E).choose_spec.2⟩
  obtain ⟨hc, hq⟩ := hX.code c _ hl
  have eq : X.env.qual ++ "<lambda>" = lamQ x := by rw [hq]; rfl
  have LS : LamX.LamS X.env.scope scope := by rw [hX.sc]; exact LamX.lamS_by L
  refine pe_lamN (c := c) (P := P) (k := k) (g := gf) (hX.gl hg) (by rw [hX.mg]; exact hm) (by rw [hX.K]; exact hkp) (by rw [hX.K]; exact lk) (by rw [hX.K]; exact hcd) (by rw [hX.K]; exact hb) Sg rfl hva (gives X _ hX.prog hX.w hX.K hX.mg hX.base)
    (by rw [hX.base, hX.mg]; exact TB) hc (by rw [eq]; exact hmT) (by rw [eq]; exact hu) (hX.room.mono hk) LS (hdef X) hbind (fun A outer s H E f c' hr => (hbody E).choose_spec.1 _ (SC.Is.lam hX hr))
/-! ### the end with tables -/
def tbOf (mk : List (String × Addr × Addr)) : List (Addr × Str) := mk.map fun m => (m.2.2, lamQ m.1)
theorem tabIn_of {K : PySem.W.Frag} {x : Str} {f c P : Addr} {oc oc2 : Value} {od od2 : Option Addr} {fd : FuncData} {sl sl2 : Array (Option Value)} {vs : Array Value} (a : PySem.W.nsIn K mainGlobals x = some (some (.ref f))) (l : K.lookup f = some ⟨oc, od, .func fd, sl⟩) (hc : fd.code = .ref c)
    (t : K.lookup c = some ⟨oc2, od2, .fields vs, sl2⟩) (u : vs[11]? = some (.ref P)) : PySem.W.tabIn K x = some (c, P) := by
  unfold PySem.W.tabIn
  rw [a]
  simp only [l, hc, t, u]
theorem walk_mk {l : PySem.W.OpenLaw} {n k : Nat} {q : Program} {loose : List Str} {XP : (Str → Option Value) → Heap → Prop} {YP : World → Heap → Prop} {d : DefRec} {K : Params → PySem.W.Frag} {φ : List T → FR}
    (hn : l.most = some n) (hn2 : n ≤ sizeLine) (hdf : d.params.defaults = []) (hr : Room k callerA) (hY : ∀ (w : World) (h : Heap), YP w h → (K w.params).In h)
    (F : ∀ (w : World) (mg : Str → Option Value) (fa : Addr) (h : Heap), (K w.params).In h → h.Ns mainGlobals mg → mg d.name = some (.ref fa) → ∃ mk : List (String × Addr × Addr),
      (∀ m ∈ mk, PySem.W.tabIn (K w.params) (Str.ofString m.1) = some m.2 ∧ (K w.params).lookup m.2.2 = none ∧ ∃ d', (recsOf q).find? (fun e => e.name == Str.ofString m.1) = some d') ∧
      ∃ fd : FuncData, (∀ (s : Shared) (u : Value), BindsTo s fd ⟨[u], []⟩ [("script", u)]) ∧ ∀ base : Heap, (K w.params).In base → base.Ns mainGlobals mg → (∀ m ∈ mk, LamX.TabB base mg m.2.1 m.2.2) → FnOk l.prog w (K w.params) mg base (L2N.CX l.prog w) k fa fd ["script"] (lawSp (K w.params) (tbOf mk) φ))
    (hφ : ∀ ns : List Int, ns.length ≤ n → φ [.lst (ns.map .int)] = .va (.bl true)) :
    PySem.W.WalkO q loose XP YP l.row.toRowW d [] (fun f vs => PySem.call f vs) := by
  refine Att.attach_callB hn hdf fun w s₀ s₁ mg mb fa o pm cd doc a vs ns G Y ho hd hcd hmg hobj hints hlen hbits hg => ?_
  have KX := hY w _ Y
  obtain ⟨mk, hmk, fd, hb, hF⟩ := F w mg fa _ KX G.T.g hmg
  have tab : ∀ p ∈ mk.map (fun m => m.2), PySem.W.CodeHd s₁.heap p.1 p.2 ∧ s₁.heap.get? p.2 = some (PySem.W.tabObj #[]) := fun p hp => by
    obtain ⟨m, hm, rfl⟩ := List.mem_map.mp hp
    obtain ⟨t1, t2, d', t3⟩ := hmk m hm
    exact PySem.W.tab_of G.T KX t3 t1
  refine LamX.law_callTs (cs := mk.map fun m => m.2) KX G.T.g G.T.b G.T.builtins G.T.nolimit hg (fun p hp => (tab p hp).2) (fun p hp => ?_) (fun p hp => (tab p hp).1) G.T.bmain hobj hints (Nat.le_trans hlen hn2) hr (fun base h1 h2 h3 => hF base h1 h2 fun m hm => h3 m.2 (List.mem_map.mpr ⟨m, hm, rfl⟩)) hb
    (fun H hH hS => law_sp (hφ ns hlen) (fun p hp => ?_) hS) fun H e s' h => cx_false h
  · obtain ⟨m, hm, rfl⟩ := List.mem_map.mp hp
    exact (hmk m hm).2.1
  · obtain ⟨m, hm, rfl⟩ := List.mem_map.mp hp
    exact LamX.TabS.nil (hH m.2 (List.mem_map.mpr ⟨m, hm, rfl⟩))
theorem mk_P {g : GC} {x : String} {c P : Addr} {mk : List (String × Addr × Addr)} (hcl : g.cl.tb = tbOf mk) (TB : LamX.TabB g.base g.mg c P) (hm : (x, c, P) ∈ mk) (hu : ∀ m ∈ mk, m.2.2 = P → lamQ m.1 = lamQ x) : MkP g x c :=
  ⟨P, TB, by rw [hcl]; exact List.mem_map.mpr ⟨_, hm, rfl⟩, fun p hp hq => by
    rw [hcl] at hp
    obtain ⟨m, h1, rfl⟩ := List.mem_map.mp hp
    exact hu m h1 hq⟩
theorem kit_mk {K : PySem.W.Frag} {tb : List (Addr × Str)} {c C : String} {a A : Addr} {b : Bool} (hc : PySem.W.nsIn K mainGlobals (Str.ofString c) = some (some (.ref a))) (hC : PySem.W.nsIn K mainGlobals (Str.ofString C) = some (some (.ref A))) (h : PySem.W.kitOne K (.ref a) (.ref A) = some b) (hb : b = (C == c)) :
    PySem.W.kitOne K (.ref ((clK K tb) c)) (.ref ((clK K tb) C)) = some (C == c) := by
  rw [clK_of hc, clK_of hC, h, hb]
theorem kit_v {K : PySem.W.Frag} {tb : List (Addr × Str)} {c : String} {a : Addr} (hc : PySem.W.nsIn K mainGlobals (Str.ofString c) = some (some (.ref a))) (h : PySem.W.kitOne K (.ref a) (.type "ValueError") = some true) :
    PySem.W.kitOne K (.ref ((clK K tb) c)) (.type "ValueError") = some true := by
  rw [clK_of hc, h]
theorem exm_mk {K : PySem.W.Frag} {tb : List (Addr × Str)} {c C : String} {a A : Addr} {b : Bool} (hc : PySem.W.nsIn K mainGlobals (Str.ofString c) = some (some (.ref a))) (hC : PySem.W.nsIn K mainGlobals (Str.ofString C) = some (some (.ref A))) (h : PySem.W.exmOne K (.ref a) (.ref A) = some b) :
    PySem.W.exmOne K (.ref ((clK K tb) c)) (.ref ((clK K tb) C)) = some b := by
  rw [clK_of hc, clK_of hC, h]
theorem mgx_mk {K : PySem.W.Frag} {mg : Str → Option Value} {h : Heap} {tb : List (Addr × Str)} {C : String} {A : Addr} (X : K.In h) (G : h.Ns mainGlobals mg) (hC : PySem.W.nsIn K mainGlobals (Str.ofString C) = some (some (.ref A))) : mg (Str.ofString C) = some (.ref ((clK K tb) C)) := by
  rw [clK_of hC]; exact PySem.W.mg_of X G hC
theorem mk_join {K : PySem.W.Frag} {q : Program} {mk : List (String × Addr × Addr)} {R : Prop} (h : (∀ m ∈ mk, PySem.W.tabIn K (Str.ofString m.1) = some m.2 ∧ K.lookup m.2.2 = none) ∧ R) (f : ∀ m ∈ mk, ∃ d', (recsOf q).find? (fun e => e.name == Str.ofString m.1) = some d') :
    (∀ m ∈ mk, PySem.W.tabIn K (Str.ofString m.1) = some m.2 ∧ K.lookup m.2.2 = none ∧ ∃ d', (recsOf q).find? (fun e => e.name == Str.ofString m.1) = some d') ∧ R :=
  ⟨fun m hm => ⟨(h.1 m hm).1, (h.1 m hm).2, f m hm⟩, h.2⟩
end Fx
namespace Fx
open PySem PySem.Spec PyProof.Rows L2
/-! ### name op= int -/
def sAug (i : Nat) (g : Int → Int → Int) (φ : Rho → Rz T) : Rho → Out := fun ρ => match ρ[i]? with
  | some (.va (.int a)) => (φ ρ).out fun t ρ1 => match t with
    | .int b => .nx (ρ1.set i (.va (.int (g a b))))
    | _ => .stuck
  | _ => .stuck
section
variable {S : SC} {e : Expr} {φ : Rho → Rz T} {pos : Pos} {x : Str}
theorem psf_aug {i : Nat} {op : Operator} {g : Int → Int → Int} {pos' : Pos} (hop : ∀ X : Cx, PIp X op (ipI g)) (hN : S.N.Nodup) (hi : S.N[i]? = some x) (hx : S.sc.names.lookup x = some .local ∨ S.sc.names.lookup x = some .cell) (he : PEF S e φ) (hp : S.pn = true → i ≠ 0) (hf : S.cf x = true) :
    PSF S (.AugAssign (.Name x pos') op e pos) (sAug i g φ) := by
  obtain ⟨te, he, ev⟩ := he
  refine ⟨tAug i te (ipI g), fun X hX => ps_aug (by rw [hX.N]; exact hN) (by rw [hX.N]; exact hi) (by rw [hX.sc]; exact hx) (he X hX) (hop X) (.inl (by rw [hX.fn]; exact hf)), fun A σ ρ G H D re hA h => ?_⟩
  unfold sAug at h
  split at h
  · rename_i a e0
    obtain ⟨v, e1, d0⟩ := re.va i _ e0
    refine ⟨v, e1, ?_⟩
    rw [d0.int_of]
    refine ev σ ρ G H _ re (LandS.expr re hA h fun t ρ1 G1 H1 r1 f1 o1 af h1 w d => ?_)
    split at h1
    · rename_i b
      exact ⟨a, b, rfl, d.int_of, h1 _ G1 H1 (after_set af (den_int _) hp)⟩
    · exact h1.elim
  · exact h.elim
end
/-! ### slices of tuples with a step -/
def pickS {α : Type} (xs : List α) (lo hi : Option Int) (c : Int) : List α :=
  (List.range (Builtin.Slice.slicePlaces (Builtin.Slice.sliceAdjust lo hi c xs.length).1 (Builtin.Slice.sliceAdjust lo hi c xs.length).2 c)).filterMap fun k : Nat => xs[((Builtin.Slice.sliceAdjust lo hi c xs.length).1 + (k : Int) * c).toNat]?
section
variable {prog : Program} {w : World} {A : Around} {E : Value → Shared → Prop} {s : Shared}
theorem sliceApplied_step {sl : Addr} {vl vu vs : Value} {lo hi : Option Int} {c : Int} {n : Nat} {Q : Int × Int × Nat → Shared → Prop} (hs : s.heap.IsSliceOf sl vl vu vs) (pl : IsPart vl lo) (pu : IsPart vu hi) (ps : IsPart vs (some c)) (h0 : c ≠ 0)
    (h : Q ((Builtin.Slice.sliceAdjust lo hi c n).1, c, Builtin.Slice.slicePlaces (Builtin.Slice.sliceAdjust lo hi c n).1 (Builtin.Slice.sliceAdjust lo hi c n).2 c) s) : wpAny (model prog w) A (Builtin.Slice.sliceApplied (.ref sl) (pure (n : Int))) Q E s := by
  obtain ⟨os, hos, hcs, hds⟩ := id hs
  unfold Builtin.Slice.sliceApplied Builtin.Slice.sliceFields
  refine wpAny_bind (wpAny_bind (wpAny_field hos hds (x := vl) rfl (wpAny_bind (wpAny_field hos hds (x := vu) rfl (wpAny_bind (wpAny_field hos hds (x := vs) rfl (wpAny_pure ?_)))))))
  refine wpAny_bind (HT.slicePart_ ps ?_)
  show wpAny _ _ (if (c == 0) = true then _ else _) _ _ s
  rw [if_neg (by simpa using h0)]
  refine wpAny_bind (HT.slicePart_ pl (wpAny_bind (HT.slicePart_ pu (wpAny_bind (wpAny_pure ?_)))))
  exact wpAny_pure h
theorem getItem_tuple_step {t sl : Addr} {items : Array Value} {vl vu vs : Value} {lo hi : Option Int} {c : Int} {Q : Value → Shared → Prop} (ht : IsTup s.heap t items) (hs : s.heap.IsSliceOf sl vl vu vs) (pl : IsPart vl lo) (pu : IsPart vu hi) (ps : IsPart vs (some c)) (h0 : c ≠ 0) (h1 : c ≠ 1)
    (h : Q (.ref s.heap.objs.size) { s with heap := s.heap.push { cls := .type "tuple", data := .seq (pickS items.toList lo hi c).toArray } })
    (hsz : (pickS items.toList lo hi c).length ≤ sizeLine) : wpAny (model prog w) A (getItem (.ref t) (.ref sl)) Q E s := by
  have htake : sizeOk (.seq (pickS items.toList lo hi c).toArray) := by
    show (pickS items.toList lo hi c).toArray.size ≤ sizeLine
    rw [List.size_toArray]; exact hsz
  obtain ⟨os, hos, hcs, hds⟩ := id hs
  have hTs : s.TypeIs (.ref sl) "slice" := ⟨os, hos, hcs⟩
  unfold getItem
  try with_reducible refine wpAny_holding ?_
  first | refine wpAny_bind (wpAny_pure ?_) | skip
  refine wpAny_bind (wpAny_sequenceKey ht.typeIs (by decide) ?_)
  refine wpAny_bind (wpAny_callSpecial?_slot (name := Str.ofString "__getitem__") ht.typeIs PyProof.Rows.slot_tuple_getitem
    (wpAny_call_entry PyProof.Rows.slot_tuple_getitem ht.typeIs entry_tuple_getitem ?_ (args_tuple_getitem _ _)))
  show wpAny _ _ (Builtin.Tuple.tupleItemsOf (.ref t) >>= _) _ _ s
  refine wpAny_bind (tupleItemsOf_ ht ?_)
  refine wpAny_bind (wpAny_typeOf hTs ?_)
  rw [if_pos (by decide)]
  refine wpAny_bind (sliceApplied_step hs pl pu ps h0 ?_)
  have hno : ¬ (((Builtin.Slice.sliceAdjust lo hi c items.size).1 == 0 && c == 1 && Builtin.Slice.slicePlaces (Builtin.Slice.sliceAdjust lo hi c items.size).1 (Builtin.Slice.sliceAdjust lo hi c items.size).2 c == items.size) = true) := by
    intro q
    rw [Bool.and_eq_true, Bool.and_eq_true] at q
    exact h1 (eq_of_beq q.1.2)
  show wpAny _ _ (if ((Builtin.Slice.sliceAdjust lo hi c items.size).1 == 0 && c == 1 && Builtin.Slice.slicePlaces (Builtin.Slice.sliceAdjust lo hi c items.size).1 (Builtin.Slice.sliceAdjust lo hi c items.size).2 c == items.size) = true then _ else _) _ _ s
  rw [if_neg hno]
  have hp : ((List.range (Builtin.Slice.slicePlaces (Builtin.Slice.sliceAdjust lo hi c items.size).1 (Builtin.Slice.sliceAdjust lo hi c items.size).2 c)).filterMap fun (k : Nat) => items[((Builtin.Slice.sliceAdjust lo hi c items.size).1 + (k : Int) * c).toNat]?) = pickS items.toList lo hi c := by
    unfold pickS
    simp only [Array.length_toList, Array.getElem?_toList]
  rw [hp]
  first
    | exact wpAny_bind (m := Builtin.Tuple.tupleExact _) (wpAny_newObj_type (wpAny_pure ⟨_, rfl, wpAny_pure h⟩) htake)
    | exact wpAny_bind (m := Builtin.Tuple.tupleExact _) (wpAny_newObj_type (wpAny_bind (wpAny_pure (wpAny_pure ⟨_, rfl, wpAny_pure h⟩))) htake)
    | exact wpAny_bind (wpAny_bind (m := Builtin.Tuple.tupleExact _) (wpAny_newObj_type (wpAny_pure (wpAny_pure ⟨_, rfl, wpAny_pure h⟩)) htake))
    | exact wpAny_bind (wpAny_bind (m := Builtin.Tuple.tupleExact _) (wpAny_newObj_type (wpAny_pure ⟨_, rfl, wpAny_pure h⟩) htake))
end
theorem pickS_rel {α β : Type} {R : α → β → Prop} {xs : List α} {ys : List β} (hl : xs.length = ys.length) (hR : ∀ (i : Nat) (x : α), xs[i]? = some x → ∃ y, ys[i]? = some y ∧ R x y) (lo hi : Option Int) (c : Int) : Paired R (pickS xs lo hi c) (pickS ys lo hi c) := by
  unfold pickS
  rw [hl]
  generalize List.range _ = ks
  induction ks with
  | nil => exact .nil
  | cons k ks ih =>
    cases e : xs[((Builtin.Slice.sliceAdjust lo hi c ys.length).1 + (k : Int) * c).toNat]? with
    | none =>
      have e2 : ys[((Builtin.Slice.sliceAdjust lo hi c ys.length).1 + (k : Int) * c).toNat]? = none := by
        rw [List.getElem?_eq_none_iff] at e ⊢; omega
      simpa only [List.filterMap_cons, e, e2] using ih
    | some x =>
      obtain ⟨y, e2, r⟩ := hR _ _ e
      simpa only [List.filterMap_cons, e, e2] using Paired.cons r ih
def gSl3 (t : T) (lo hi st : Option Int) : Option T := match t with
  | .lst xs => if st ≠ some 0 then some (.lst (pickT xs lo hi st)) else none
  | .tup xs => (match st with
    | some c => if c ≠ 0 ∧ c ≠ 1 ∧ (pickS xs lo hi c).length ≤ sizeLine then some (.tup (pickS xs lo hi c)) else none
    | none => none)
  | _ => none
def fSlA (a : Rho → Rz T) (l h s : Rho → Rz (Option Int)) : Rho → Rz T := fun ρ => (a ρ).bind fun x ρ1 => (l ρ1).bind fun lo ρ2 => (h ρ2).bind fun hi ρ3 => (s ρ3).bind fun st ρ4 => Rz.of (gSl3 x lo hi st) ρ4
/-- xs[lo:hi:st] of a list or a tuple -/
def tSlA (K : PySem.W.Frag) (te : TE) (tl th ts : TO) : TE := fun σ H Q => te σ H fun x H1 => tl σ H1 fun l H2 => th σ H2 fun u H3 => ts σ H3 fun st H4 =>
  (st ≠ some 0 ∧ ∃ a xs, x = .ref a ∧ SqL K H4 a xs ∧ ∀ p, H4 p = none → Q (.ref p) (upd H4 p (.lst (pickV xs l u st)))) ∨
  (∃ c, st = some c ∧ c ≠ 0 ∧ c ≠ 1 ∧ ∃ a xs, x = .ref a ∧ SqT K H4 a xs ∧ (pickS xs l u c).length ≤ sizeLine ∧ ∀ p, H4 p = none → Q (.ref p) (upd H4 p (.tup (pickS xs l u c))))
section
variable {S : SC} {a : Expr} {φa : Rho → Rz T} {pos p2 : Pos} {lo hi : Option Expr} {st : Expr} {φl φh φs : Rho → Rz (Option Int)}
theorem pe_sliceA {X : Cx} {e : Expr} {te : TE} {tl th ts : TO} (he : PE X e te) (hl : PO X lo tl) (hu : PO X hi th) (hs : PO X (some st) ts) : PE X (.Subscript e (.Slice lo hi (some st) p2) pos) (tSlA X.K te tl th ts) := by
  refine ⟨fun pins s σ H Q I h => ?_⟩
  refine Subscript_ (thn (he.run pins s σ H _ I h) fun v s1 ⟨x, H1, I1, r1, q1⟩ => ?_)
  refine wpAny_Slice (thn (hl.run pins s1 σ H1 _ I1 q1) fun vl s2 ⟨l, H2, I2, pl, q2⟩ => thn (hu.run pins s2 σ H2 _ I2 q2) fun vu s3 ⟨u, H3, I3, pu, q3⟩ => ?_)
  refine thn (hs.run pins s3 σ H3 _ I3 q3) fun vs s4 ⟨o, H4, I4, ps, q4⟩ => ?_
  have I5 : Inv X pins σ H4 { s4 with heap := s4.heap.push { cls := .type "slice", data := .fields #[vl, vu, vs] } } := I4.kept (t' := s4.toks) fun b ob q => Heap.get?_push_of_some _ q
  rcases q4 with ⟨h0, a, xs, ex, hx, q⟩ | ⟨c, ec, h0, h1, a, xs, ex, hx, hsz, q⟩
  · subst ex
    cases r1
    obtain ⟨its, r, ht, hz⟩ := I5.list hx
    have hlen := r.length
    show wpAny (model X.prog X.w) X.A (subscriptTail e (.Slice lo hi (some st) p2) (.ref a) (.ref s4.heap.objs.size)) (EP X pins σ Q) X.xe { s4 with heap := s4.heap.push { cls := .type "slice", data := .fields #[vl, vu, vs] } }
    refine tail_any (ops := [.ref a, .ref s4.heap.objs.size]) ht.isList.typeIs (PySem.slot_list_getitem.lookup) ?_ (by with_unfolding_all rfl)
    refine wpAny_getItem_list_slice ht.isList (Heap.IsSliceOf.new _ vl vu vs) pl pu ps h0 ?_ (by rw [List.size_toArray]; omega)
    have hpk : Vals (pickV xs l u o) (slicePick its.toArray l u o).toList := by
      unfold pickV slicePick
      simp only [List.size_toArray, hlen]
      simpa using vals_picks r _
    refine ⟨.ref _, _, I5.laid (t' := s4.toks) (o := .lst (pickV xs l u o)) (fun b ob q => Heap.get?_push_of_some _ q) (Nat.le_refl _) ?_, rfl, q _ (I5.hok.fresh (Nat.le_refl _))⟩
    refine ⟨?_, _, 0, hpk, by rw [Array.toArray_toList]; exact Heap.get?_push_size _ rfl⟩
    have := pick_len xs its hlen l u o
    omega
  · subst ex ec
    cases r1
    obtain ⟨its, r, ht, hz⟩ := I5.tuple hx
    have hlen : xs.length = its.length := r.length
    have pr : Paired RelV (pickS xs l u c) (pickS its l u c) := pickS_rel hlen (fun i x e => let ⟨y, e2, rr⟩ := r.get e; ⟨y, e2, rr⟩) l u c
    show wpAny (model X.prog X.w) X.A (subscriptTail e (.Slice lo hi (some st) p2) (.ref a) (.ref s4.heap.objs.size)) (EP X pins σ Q) X.xe { s4 with heap := s4.heap.push { cls := .type "slice", data := .fields #[vl, vu, vs] } }
    refine tail_any (ops := [.ref a, .ref s4.heap.objs.size]) (T := "tuple") ht.typeIs PyProof.Rows.slot_tuple_getitem.lookup ?_ (by with_unfolding_all rfl)
    refine getItem_tuple_step ht (Heap.IsSliceOf.new _ vl vu vs) pl pu ps h0 h1 ?_ (by have := pr.length; simp only [List.toList_toArray]; omega)
    refine ⟨.ref _, _, I5.laid (t' := s4.toks) (o := .tup (pickS xs l u c)) (fun b o e => Heap.get?_push_of_some _ e) (Nat.le_refl _) ⟨hsz, _, pr, ?_⟩, rfl, q _ (I5.hok.fresh (Nat.le_refl _))⟩
    exact ⟨_, Heap.get?_push_size _ rfl, rfl, 0, by simp only [List.toList_toArray]⟩
theorem pef_slA (ha : PEF S a φa) (hl : PxF S lo φl) (hh : PxF S hi φh) (hs : PxF S (some st) φs) : PEF S (.Subscript a (.Slice lo hi (some st) p2) pos) (fSlA φa φl φh φs) := by
  obtain ⟨ta, ha, ea⟩ := ha
  obtain ⟨tl, hl, el⟩ := hl
  obtain ⟨th, hh, eh⟩ := hh
  obtain ⟨ts, hs, es⟩ := hs
  refine ⟨tSlA S.K ta tl th ts, fun X hX => by rw [← hX.K]; exact pe_sliceA (ha X hX) (hl X hX) (hh X hX) (hs X hX), fun σ ρ G H Q re h => ?_⟩
  refine ea σ ρ G H _ re ((Lands.bind h).imp fun x ρ1 G1 H1 re1 fr1 ow1 h1 v dv => ?_)
  refine el σ ρ1 G1 H1 _ re1 ((Lands.bind h1).imp fun lo ρ2 G2 H2 re2 fr2 ow2 h2 => ?_)
  refine eh σ ρ2 G2 H2 _ re2 ((Lands.bind h2).imp fun hi ρ3 G3 H3 re3 fr3 ow3 h3 => ?_)
  refine es σ ρ3 G3 H3 _ re3 ((Lands.bind h3).imp fun st ρ4 G4 H4 re4 fr4 ow4 h4 => ?_)
  have dv4 := ((dv.mono fr2.gg).mono fr3.gg).mono fr4.gg
  cases e : gSl3 x lo hi st with
  | none => rw [e] at h4; exact h4.elim
  | some z =>
    rw [e] at h4
    unfold gSl3 at e
    cases x with
    | lst xs =>
      dsimp only at e
      split at e
      · rename_i h0
        cases e
        obtain ⟨b, us, e, s, d⟩ := dv4.lst_of
        refine .inl ⟨h0, b, us, e, re4.same.seq s, fun p hp => ?_⟩
        exact Lands.done h4 re4 (Fr.frz hp re4.same) (sm_upd2 re4.same hp) _ (den_lst (.inl (.inl upd_same)) ((d.pick lo hi st).mono (Fr.frz (A := NoA) hp re4.same).gg))
      · cases e
    | tup xs =>
      dsimp only at e
      cases st with
      | none => cases e
      | some c =>
        dsimp only at e
        split at e
        · rename_i h0
          cases e
          obtain ⟨b, us, e, s, d⟩ := dv4.tup_of
          have pr : Paired (Den S.K S.cl G4) (pickS xs lo hi c) (pickS us lo hi c) := pickS_rel d.len (fun i x e => d.get e) lo hi c
          refine .inr ⟨c, rfl, h0.1, h0.2.1, b, us, e, same_seqT re4.same.same s, by have := pr.length; omega, fun p hp => ?_⟩
          exact Lands.done h4 re4 (Fr.frz hp re4.same) (sm_upd2 re4.same hp) _ (den_tup (.inl (.inl upd_same)) ((DenL.iff.mpr pr).mono (Fr.frz (A := NoA) hp re4.same).gg))
        · cases e
    | _ => cases e
end
@[simp] theorem sAug_ap {i : Nat} {g : Int → Int → Int} {φ : Rho → Rz T} {ρ : Rho} : sAug i g φ ρ = match ρ[i]? with
  | some (.va (.int a)) => (φ ρ).out fun t ρ1 => match t with
    | .int b => .nx (ρ1.set i (.va (.int (g a b))))
    | _ => .stuck
  | _ => .stuck := byRfl rfl
@[simp] theorem fSlA_ap {a : Rho → Rz T} {l h s : Rho → Rz (Option Int)} {ρ : Rho} : fSlA a l h s ρ = (a ρ).bind fun x ρ1 => (l ρ1).bind fun lo ρ2 => (h ρ2).bind fun hi ρ3 => (s ρ3).bind fun st ρ4 => Rz.of (gSl3 x lo hi st) ρ4 := byRfl rfl
theorem gSl3_lst {xs : List T} {lo hi st : Option Int} (h : st ≠ some 0) : gSl3 (.lst xs) lo hi st = some (.lst (pickT xs lo hi st)) := if_pos h
theorem gSl3_tup {xs : List T} {lo hi : Option Int} {c : Int} (h0 : c ≠ 0) (h1 : c ≠ 1) (h : (pickS xs lo hi c).length ≤ sizeLine) : gSl3 (.tup xs) lo hi (some c) = some (.tup (pickS xs lo hi c)) := if_pos ⟨h0, h1, h⟩
end Fx
namespace Fx
open PySem PySem.Spec PyProof.Rows L2
/-! ### list(range(..)) -/
theorem denL_rg {K : PySem.W.Frag} {cl : Cl} {G : Hp} {a b : Int} : DenL K cl G (rangeT a (b - a).toNat) (rgV a b) := by
  unfold rangeT rgV
  generalize (b - a).toNat = n
  generalize List.range n = l
  induction l with
  | nil => exact DenL.nil
  | cons i l ih => exact DenL.cons (den_int _) ih
def fListR1 (φ : Rho → Rz T) : Rho → Rz (List T) := fun ρ => (φ ρ).bind fun t ρ1 => match t with
  | .int j => if -(2 ^ 62) ≤ j ∧ j ≤ 16777216 then .ok (rangeT 0 j.toNat) ρ1 else .stuck
  | _ => .stuck
def fListR2 (φ φ2 : Rho → Rz T) : Rho → Rz (List T) := fun ρ => (φ ρ).bind fun t ρ1 => (φ2 ρ1).bind fun u ρ2 => match t, u with
  | .int i, .int j => if 0 ≤ i ∧ i ≤ 16777216 ∧ 0 ≤ j ∧ j ≤ 16777216 then .ok (rangeT i (j - i).toNat) ρ2 else .stuck
  | _, _ => .stuck
section
variable {S : SC} {e e2 : Expr} {φ φ2 : Rho → Rz T} {p p2 pos pos2 : Pos}
theorem pof_listR1 (hg : S.sc.names.lookup ("list" : Str) = some .globalImplicit) (hm : S.mg ("list" : Str) = none) (hg2 : S.sc.names.lookup ("range" : Str) = some .globalImplicit) (hm2 : S.mg ("range" : Str) = none) (he : PEF S e φ)
    (na : ∀ X : Cx, starEach [e] X.env = (false, eval e X.env) :: starEach [] X.env := by intro _; rfl)
    (na2 : ∀ X : Cx, starEach [.Call (.Name "range" p2) [e] [] pos2] X.env = (false, eval (.Call (.Name "range" p2) [e] [] pos2) X.env) :: starEach [] X.env := by intro _; rfl) :
    POF S (.Call (.Name "list" p) [.Call (.Name "range" p2) [e] [] pos2] [] pos) (fListR1 φ) := by
  obtain ⟨te, he, ev⟩ := he
  refine ⟨tLstRg (tRg1 te), fun X hX => pe_listRg hX.calm (hX.gl hg) (by rw [hX.mg]; exact hm) (prg_1 (hX.gl hg2) (by rw [hX.mg]; exact hm2) (he X hX) (na X)) (na2 X), fun σ ρ G H Q re h => ?_⟩
  refine ev σ ρ G H _ re ((Lands.bind h).imp fun t ρ1 G1 H1 r1 f1 o1 h1 v d => ?_)
  cases t with
  | int j =>
    dsimp only at h1
    split at h1
    · rename_i hj
      refine ⟨j, d.int_of, ⟨by omega, by omega, by omega, by omega, by omega⟩, fun q hq => ?_⟩
      have den := denL_rg (K := S.K) (cl := S.cl) (G := G1) (a := 0) (b := j)
      rw [Int.sub_zero] at den
      exact h1.done r1 (Fr.made hq) (sm_new r1.same hq) q _ (f1.there q (.of hq)) (r1.same.free hq) upd_same den
    · exact h1.elim
  | _ => exact h1.elim
theorem pof_listR2 (hg : S.sc.names.lookup ("list" : Str) = some .globalImplicit) (hm : S.mg ("list" : Str) = none) (hg2 : S.sc.names.lookup ("range" : Str) = some .globalImplicit) (hm2 : S.mg ("range" : Str) = none) (he : PEF S e φ) (he2 : PEF S e2 φ2)
    (na : ∀ X : Cx, starEach [e, e2] X.env = (false, eval e X.env) :: starEach [e2] X.env := by intro _; rfl) (nb : ∀ X : Cx, starEach [e2] X.env = (false, eval e2 X.env) :: starEach [] X.env := by intro _; rfl)
    (hp : ∀ X : Cx, (backTo pos2 (starEach [e2] X.env)).any (·.1) = false := by intro _; rfl)
    (na2 : ∀ X : Cx, starEach [.Call (.Name "range" p2) [e, e2] [] pos2] X.env = (false, eval (.Call (.Name "range" p2) [e, e2] [] pos2) X.env) :: starEach [] X.env := by intro _; rfl) :
    POF S (.Call (.Name "list" p) [.Call (.Name "range" p2) [e, e2] [] pos2] [] pos) (fListR2 φ φ2) := by
  obtain ⟨te, he, ev⟩ := he
  obtain ⟨te2, he2, ev2⟩ := he2
  refine ⟨tLstRg (tRg2 te te2), fun X hX => pe_listRg hX.calm (hX.gl hg) (by rw [hX.mg]; exact hm) (prg_2 (hX.gl hg2) (by rw [hX.mg]; exact hm2) (he X hX) (he2 X hX) (na X) (nb X) (hp X)) (na2 X), fun σ ρ G H Q re h => ?_⟩
  refine ev σ ρ G H _ re ((Lands.bind h).imp fun t ρ1 G1 H1 r1 f1 o1 h1 v d => ?_)
  refine ev2 σ ρ1 G1 H1 _ r1 ((Lands.bind h1).imp fun u ρ2 G2 H2 r2 f2 o2 h2 w d2 => ?_)
  cases t with
  | int i =>
    cases u with
    | int j =>
      dsimp only at h2
      split at h2
      · rename_i hj
        refine ⟨i, j, d.int_of, d2.int_of, ⟨by omega, by omega, by omega, by omega, by omega⟩, fun q hq => ?_⟩
        exact h2.done r2 (Fr.made hq) (sm_new r2.same hq) q _ (f1.there q (f2.there q (.of hq))) (r2.same.free hq) upd_same denL_rg
      · exact h2.elim
    | _ => exact h2.elim
  | _ => exact h2.elim
end
/-! ### the call of a def that a slot holds -/
def FR.rz2 : FR → Rho → Rz T
  | .va t, ρ => .ok t ρ
  | .ow t, ρ => .ok (.lst t) ρ
  | .rs c x, _ => .rs c x
  | .stuck, _ => .stuck
def fCallV (i : Nat) (tbl : List (String × (List T → FR))) (φs : Rho → Rz (List T)) : Rho → Rz T := fun ρ => match ρ[i]? with
  | some (.va (.nm s)) => (match tbl.lookup s with
    | some φ => (φs ρ).bind fun ts ρ1 => (φ ts).rz2 ρ1
    | none => .stuck)
  | _ => .stuck
/-- what the defs that it may be promise -/
def TblP (S : SC) (k : Nat) (tbl : List (String × (List T → FR))) : Prop := ∀ s φ, (s, φ) ∈ tbl → DefP S.toGC k (Str.ofString s) φ ∧ S.mg (Str.ofString s) = some (.ref (S.cl s))
theorem TblP.nil {S : SC} {k : Nat} : TblP S k [] := fun _ _ h => nomatch h
theorem DefX.le {g : GC} {j k : Nat} {x : Str} {sp : Sp} (D : DefX g j x sp) (h : j ≤ k) : DefX g k x sp := by
  obtain ⟨f, fd, ps, F, r⟩ := D.ex
  exact ⟨f, fd, ps, ⟨F.len, fun A outer s H args us vs Q E hr => F.run A outer s H args us vs Q E (hr.mono h)⟩, r⟩
theorem TblP.cons {S : SC} {j k : Nat} {s : String} {φ : List T → FR} {tbl : List (String × (List T → FR))} (D : DefP S.toGC j (Str.ofString s) φ) (hj : j ≤ k) (hm : S.mg (Str.ofString s) = some (.ref (S.cl s))) (h : TblP S k tbl) : TblP S k ((s, φ) :: tbl) := fun s' φ' hm' => by
  rcases List.mem_cons.mp hm' with e | e
  · cases e; exact ⟨D.le hj, hm⟩
  · exact h s' φ' e
theorem mem_of_lookupT {α : Type} {cs : List (String × α)} {c : String} {w : α} (h : cs.lookup c = some w) : (c, w) ∈ cs := by
  induction cs with
  | nil => cases h
  | cons a cs ih =>
    obtain ⟨k, v⟩ := a
    rw [List.lookup_cons] at h
    split at h
    · rename_i e
      cases h
      rw [eq_of_beq e]; exact List.mem_cons_self
    · exact List.mem_cons_of_mem _ (ih h)
section
variable {S : SC} {k n : Nat} {x y : Str} {e : Expr} {es : List Expr} {φs : Rho → Rz (List T)} {p p1 pos : Pos}
theorem pef_callV (i : Nat) {tbl : List (String × (List T → FR))} (hT : TblP S k tbl) (hk : k ≤ S.k) (hN : S.N[i]? = some x) (hv : VisS S.sc x = true) (ha : PAF S (e :: es) φs) (hdb : (x == ("__debug__" : Str)) = false := by decide) (hcd : (x == ("__classdict__" : Str)) = false := by decide)
    (he : ∀ X : Cx, starEach (e :: es) X.env = (false, eval e X.env) :: starEach es X.env := by intro _; rfl) (hpl : ∀ X : Cx, (backTo pos (starEach es X.env)).any (·.1) = false := by intro _; rfl) : PEF S (.Call (.Name x p) (e :: es) [] pos) (fCallV i tbl φs) := by
  obtain ⟨ta, ha, ea⟩ := ha
  refine ⟨fun σ H Q => ∃ s φ, (s, φ) ∈ tbl ∧ σ[i]? = some (some (.ref (S.cl s))) ∧ ta σ H fun vs H1 => SpP S.K S.cl φ vs H1 Q (WE S.W σ), fun X hX => ⟨fun pins s σ H Q I h => ?_⟩, fun σ ρ G H Q re h => ?_⟩
  · obtain ⟨nm, φ, hm, hs, ht⟩ := h
    obtain ⟨D, hmg⟩ := hT nm φ hm
    obtain ⟨f, fd, ps, F, hm2, hkp, hb⟩ := D.ex
    have ef : S.cl nm = f := by
      have z := hmg.symm.trans hm2
      cases z; rfl
    rw [ef] at hs
    refine wpAny_Call_Name_kw (thn ((pe_var (pos := p) (by rw [hX.N]; exact hN) (by rw [hX.sc]; exact vis_of hv) hdb hcd).run pins s σ H (fun v H1 => v = .ref f ∧ H1 = H) I ⟨.ref f, hs, rfl, rfl⟩) fun u s1 ⟨v, H1, I1, r1, q1⟩ => ?_)
    obtain ⟨rfl, rfl⟩ := q1
    cases r1
    refine PySem.W.callWith_K (h₀ := X.base) I.ok.mod.kin (by rw [hX.K]; exact hkp) (thn ((ha X hX).run pos pins s1 σ _ _ I1 ht) fun us s2 ⟨vs, H2, I2, r, q⟩ => ⟨I2.kIn, ?_⟩) (he X) (hpl X)
    have F' : FnOk X.prog X.w X.K X.mg X.base (L2N.CX X.prog X.w) k f fd ps (SpP S.K S.cl φ) := by
      rw [hX.prog, hX.w, hX.K, hX.mg, hX.base]; exact F
    exact run_fnS (E := WE S.W) F' (hX.room.mono hk) (by rw [hX.K]; exact hb) (L2N.passAt hX.tk σ) I2 r q
  · unfold fCallV at h
    split at h
    · rename_i s e0
      split at h
      · rename_i φ e1
        obtain ⟨v, e2, d0⟩ := re.va i _ e0
        refine ⟨s, φ, mem_of_lookupT e1, by rw [e2, d0.nm_of], ?_⟩
        refine ea σ ρ G H _ re ((Lands.bind h).imp fun ts ρ1 G1 H1 r1 f1 o1 h1 vs d => ⟨G1, ts, r1.same, d, ?_⟩)
        cases q : φ ts with
        | va t =>
          rw [q] at h1
          exact fun G' H' v s f d => h1.done r1 f s v d
        | ow us =>
          rw [q] at h1
          intro G' H' pp ws s f hp gp hh dd
          have f3 : Fr NoA G1 H1 (upd G' pp (.lst ws)) H' := ⟨f.gg.trans fun b x z => by
            rw [upd_ne (ne_of_none z gp)]; exact z, f.keep, fun b x z n => by
            by_cases hb : b = pp
            · subst hb; exact .inl hp
            · rw [upd_ne hb] at z; exact f.new b x z n, f.there⟩
          exact h1.done r1 f3 (sm_frz s hh noTb_lst) _ (den_lst (.inl (.inl upd_same)) (dd.mono fun b x z => by rw [upd_ne (ne_of_none z gp)]; exact z))
        | rs c x =>
          rw [q] at h1
          exact fun G' H' d f xd => h1 G' H' d f.noa xd
        | stuck => rw [q] at h1; exact h1.elim
      · exact h.elim
    · exact h.elim
end
@[simp] theorem FR.rz2_va {t : T} {ρ : Rho} : (FR.va t).rz2 ρ = .ok t ρ := byRfl rfl
@[simp] theorem FR.rz2_ow {t : List T} {ρ : Rho} : (FR.ow t).rz2 ρ = .ok (.lst t) ρ := byRfl rfl
@[simp] theorem FR.rz2_rs {c x} {ρ : Rho} : (FR.rs c x).rz2 ρ = .rs c x := byRfl rfl
@[simp] theorem FR.rz2_ite {p : Prop} [Decidable p] {a b : FR} {ρ : Rho} : (if p then a else b).rz2 ρ = if p then a.rz2 ρ else b.rz2 ρ := by split <;> rfl
def tblR (o : Option (List T → FR)) (ρ : Rho) (φs : Rho → Rz (List T)) : Rz T := match o with
  | some φ => (φs ρ).bind fun ts ρ1 => (φ ts).rz2 ρ1
  | none => .stuck
@[simp] theorem fCallV_ap {i : Nat} {tbl : List (String × (List T → FR))} {φs : Rho → Rz (List T)} {ρ : Rho} : fCallV i tbl φs ρ = (match ρ[i]? with
  | some (.va (.nm s)) => tblR (tbl.lookup s) ρ φs
  | _ => .stuck) := byRfl rfl
theorem tblR_some {o : Option (List T → FR)} {φ : List T → FR} {ρ : Rho} {φs : Rho → Rz (List T)} (h : o = some φ) : tblR o ρ φs = (φs ρ).bind fun ts ρ1 => (φ ts).rz2 ρ1 := by rw [h]; rfl
@[simp] theorem fListR1_ap {φ : Rho → Rz T} {ρ : Rho} : fListR1 φ ρ = (φ ρ).bind fun t ρ1 => match t with
  | .int j => if -(2 ^ 62) ≤ j ∧ j ≤ 16777216 then .ok (rangeT 0 j.toNat) ρ1 else .stuck
  | _ => .stuck := byRfl rfl
@[simp] theorem fListR2_ap {φ φ2 : Rho → Rz T} {ρ : Rho} : fListR2 φ φ2 ρ = (φ ρ).bind fun t ρ1 => (φ2 ρ1).bind fun u ρ2 => match t, u with
  | .int i, .int j => if 0 ≤ i ∧ i ≤ 16777216 ∧ 0 ≤ j ∧ j ≤ 16777216 then .ok (rangeT i (j - i).toNat) ρ2 else .stuck
  | _, _ => .stuck := byRfl rfl
end Fx
namespace Fx
open PySem PySem.Spec PyProof.Rows L2
/-! ### the call of a def that gives a value or a list of its own -/
def fDefE (φ : List T → FR) (φs : Rho → Rz (List T)) : Rho → Rz T := fun ρ => (φs ρ).bind fun ts ρ1 => (φ ts).rz2 ρ1
@[simp] theorem fDefE_ap {φ : List T → FR} {φs : Rho → Rz (List T)} {ρ : Rho} : fDefE φ φs ρ = (φs ρ).bind fun ts ρ1 => (φ ts).rz2 ρ1 := byRfl rfl
section
variable {S : SC} {k n : Nat} {x y : Str} {e : Expr} {es : List Expr} {φs : Rho → Rz (List T)} {p p1 pos : Pos}
theorem pef_callE {φ : List T → FR} (D : DefP S.toGC k x φ) (hk : k ≤ S.k) (hg : S.sc.names.lookup x = some .globalImplicit) (ha : PAF S (e :: es) φs) (hdb : (x == ("__debug__" : Str)) = false := by decide)
    (he : ∀ X : Cx, starEach (e :: es) X.env = (false, eval e X.env) :: starEach es X.env := by intro _; rfl) (hpl : ∀ X : Cx, (backTo pos (starEach es X.env)).any (·.1) = false := by intro _; rfl) : PEF S (.Call (.Name x p) (e :: es) [] pos) (fDefE φ φs) := by
  obtain ⟨ta, ha, ea⟩ := ha
  refine ⟨_, fun X hX => call_pe D hk hg ha hdb he hpl X hX, fun σ ρ G H Q re h => ?_⟩
  refine ea σ ρ G H _ re ((Lands.bind h).imp fun ts ρ1 G1 H1 r1 f1 o1 h1 vs d => ⟨G1, ts, r1.same, d, ?_⟩)
  cases q : φ ts with
  | va t =>
    rw [q] at h1
    exact fun G' H' v s f d => h1.done r1 f s v d
  | ow us =>
    rw [q] at h1
    intro G' H' pp ws s f hp gp hh dd
    have f3 : Fr NoA G1 H1 (upd G' pp (.lst ws)) H' := ⟨f.gg.trans fun b x z => by
      rw [upd_ne (ne_of_none z gp)]; exact z, f.keep, fun b x z n => by
      by_cases hb : b = pp
      · subst hb; exact .inl hp
      · rw [upd_ne hb] at z; exact f.new b x z n, f.there⟩
    exact h1.done r1 f3 (sm_frz s hh noTb_lst) _ (den_lst (.inl (.inl upd_same)) (dd.mono fun b x z => by rw [upd_ne (ne_of_none z gp)]; exact z))
  | rs c x =>
    rw [q] at h1
    exact fun G' H' d f xd => h1 G' H' d f.noa xd
  | stuck => rw [q] at h1; exact h1.elim
end
/-! ### xs += ys, both lists -/
def rIaddL : V → V → Hp → VK → Prop := fun x y H Q => ∃ l b xs zs, x = .ref l ∧ y = .ref b ∧ H l = some (.lst xs) ∧ H b = some (.lst zs) ∧ xs.length + zs.length ≤ sizeLine ∧ Q (.ref l) (upd H l (.lst (xs ++ zs)))
theorem noFillI_list : fillsInplaceSlot (.type "list") "add" (Operator.Add == .Add) = pure false := by
  unfold fillsInplaceSlot
  show (typeLookup (.type "list") (dunderI "add") >>= fun fi => pure (fi.isSome && !isSeqSlot fi)) = pure false
  rw [PySem.F.slot_list_iadd.lookup]
  rfl
theorem seq_list_iadd : seqSlot? (.type "list") (dunderI "add") = pure (some (.builtin "list.__iadd__")) := PyProof.Rows.seqSlot_of PySem.F.slot_list_iadd.lookup (by decide +kernel)
theorem ip_addL {X : Cx} : PIp X .Add rIaddL := by
  intro pins s σ H x y v u Q I rx ry h
  obtain ⟨l, b, xs, zs, rfl, rfl, hH, hB, hz, k⟩ := h
  cases rx
  cases ry
  obtain ⟨z, its, n, r, hl, e⟩ := I.lstM hH
  obtain ⟨z2, its2, n2, r2, hl2, e2⟩ := I.lstM hB
  have hsz : its.toArray.size + its2.toArray.size ≤ sizeLine := by rw [List.size_toArray, List.size_toArray]; omega
  have hlong : ¬ (!its.toArray.isEmpty && Builtin.List.listTooLong (its.toArray.size + its2.toArray.size)) = true := by
    rw [notLongL hsz, Bool.and_false]
    exact Bool.false_ne_true
  unfold inplaceOp
  refine wpAny_holding ?_
  refine wpAny_bind (wpAny_typeOf ⟨_, e, rfl⟩ (wpAny_bind (wpAny_of_eq noFillI_list ?_)))
  show wpAny _ _ (if false = true then _ else _) _ _ s
  rw [if_neg Bool.false_ne_true]
  refine wpAny_bind (binaryOp1_none (nm := "add") ⟨_, e, rfl⟩ ⟨_, e2, rfl⟩ noFill_list_add ?_)
  refine wpAny_bind (wpAny_of_eq seq_list_iadd ?_)
  refine wpAny_bind (wpAny_rule ?_)
  refine call_meets PySem.F.slot_list_iadd ⟨_, e, rfl⟩ PySem.F.entry_list_iadd (PySem.F.args_list_iadd_2 _ _) (AutoSeq1.list___iadd___list_list_0 _ its.toArray n _ its2.toArray n2 hlong (by rw [List.size_toArray]; omega) (by omega)) ⟨e, e2, ?_⟩
  refine ⟨.ref l, _, I.lset (its' := its ++ its2) hH e (by simp) (r.append r2) ?_, rfl, k⟩
  rw [List.length_append]
  omega
def sExt (i : Nat) (φ : Rho → Rz (List T)) : Rho → Out := fun ρ => match isOw ρ i with
  | some _ => (φ ρ).out fun us ρ1 => match isOw ρ1 i with
    | some ts => if ts.length + us.length ≤ sizeLine then .nx (ρ1.set i (.ow (ts ++ us))) else .stuck
    | none => .stuck
  | none => .stuck
section
variable {S : SC} {e : Expr} {φ : Rho → Rz (List T)} {pos : Pos} {x : Str}
theorem psf_ext (i : Nat) {pos' : Pos} (hN : S.N.Nodup) (hi : S.N[i]? = some x) (hx : S.sc.names.lookup x = some .local ∨ S.sc.names.lookup x = some .cell) (he : POF S e φ) (hp : S.pn = true → i ≠ 0) (hf : S.cf x = true) :
    PSF S (.AugAssign (.Name x pos') .Add e pos) (sExt i φ) := by
  obtain ⟨te, he, ev⟩ := he
  refine ⟨tAug i te rIaddL, fun X hX => ps_aug (by rw [hX.N]; exact hN) (by rw [hX.N]; exact hi) (by rw [hX.sc]; exact hx) (he X hX) ip_addL (.inl (by rw [hX.fn]; exact hf)), fun A σ ρ G H D re hA h => ?_⟩
  unfold sExt at h
  split at h
  · rename_i ts0 e0
    obtain ⟨o, us0, e1, g0, h0, d0⟩ := re.ow i ts0 (isOw_of e0)
    refine ⟨.ref o, e1, ?_⟩
    refine ev σ ρ G H _ re (LandS.expr re hA h fun ts ρ1 G1 H1 r1 f1 o1 af h1 p us hp' gp hh d => ?_)
    split at h1
    · rename_i ts1 e2
      split at h1
      · rename_i hz
        obtain ⟨o', vs, e3, g1, h3, d1⟩ := r1.ow i ts1 (isOw_of e2)
        rw [e1] at e3; cases e3
        refine ⟨o, p, vs, us, rfl, rfl, h3, hh, by rw [← d1.len, ← d.len]; exact hz, ?_⟩
        have z := h1 σ G1 _ (after_mut af (isOw_of e2) e1 (d1.append d) (hA o ⟨i, ts0, isOw_of e0, e1⟩))
        have es : σ.set i (some (.ref o)) = σ := by
          apply List.ext_getElem?
          intro j
          by_cases hj : i = j
          · subst hj
            obtain ⟨hi', _⟩ := List.getElem?_eq_some_iff.mp e1
            rw [List.getElem?_set_self hi', e1]
          · rw [List.getElem?_set_ne hj]
        show D.nx (σ.set i (some (.ref o))) _
        rw [es]
        exact z
      · exact h1.elim
    · exact h1.elim
  · exact h.elim
end
/-! ### xs[k], name = a, b -/
def sParP (i : Nat) (φk : Rho → Rz T) (j : Nat) (a b : Rho → Rz T) : Rho → Out := fun ρ => (a ρ).out fun t ρ1 => (b ρ1).out fun u ρ2 => match isOw ρ2 i with
  | some _ => (φk ρ2).out fun k ρ3 => match k, isOw ρ3 i with
    | .int k, some ts => match ixN ts.length k with
      | some m => .nx ((ρ3.set i (.ow (ts.set m t))).set j (.va u))
      | none => .stuck
    | _, _ => .stuck
  | none => .stuck
def sParPO (i : Nat) (φk : Rho → Rz T) (j : Nat) (a : Rho → Rz T) (b : Rho → Rz (List T)) : Rho → Out := fun ρ => (a ρ).out fun t ρ1 => (b ρ1).out fun u ρ2 => match isOw ρ2 i with
  | some _ => (φk ρ2).out fun k ρ3 => match k, isOw ρ3 i with
    | .int k, some ts => match ixN ts.length k with
      | some m => .nx ((ρ3.set i (.ow (ts.set m t))).set j (.ow u))
      | none => .stuck
    | _, _ => .stuck
  | none => .stuck
section
variable {S : SC} {e e2 e3 : Expr} {φ φ2 φk : Rho → Rz T} {pos : Pos} {x y : Str}
theorem st_parP (i j : Nat) {px p2 py pt : Pos} {kt k2 pt2} {ta tb tk : TE} (hN : S.N.Nodup) (hi : S.N[i]? = some x) (hv : VisS S.sc x = true) (hj : S.N[j]? = some y) (hy : S.sc.names.lookup y = some .local ∨ S.sc.names.lookup y = some .cell) (hf : S.cf y = true)
    (hd : (x == ("__debug__" : Str)) = false) (hcd : (x == ("__classdict__" : Str)) = false)
    (hw : ∀ env : Env, env.scope = S.sc → swappedStores [.Tuple [.Subscript (.Name x px) e3 p2, .Name y py] kt pt] (.Tuple [e, e2] k2 pt2) env = pure none)
    (hs : ∀ X : Cx, swapsWithSole [.Tuple [.Subscript (.Name x px) e3 p2, .Name y py] kt pt] (.Tuple [e, e2] k2 pt2) pos.line X.env = pure false)
    (h1 : ∀ X : Cx, (assignEach [.Tuple [.Subscript (.Name x px) e3 p2, .Name y py] kt pt] X.env).map (·.2) = [assign (.Tuple [.Subscript (.Name x px) e3 p2, .Name y py] kt pt) X.env])
    (hn : ∀ X : Cx, (assignEach [.Subscript (.Name x px) e3 p2, .Name y py] X.env).length = 2) (hst : ∀ X : Cx, (assignEach [.Subscript (.Name x px) e3 p2, .Name y py] X.env).findIdx? (·.1) = none)
    (hz1 : ∀ X : Cx, (assignEach [.Subscript (.Name x px) e3 p2, .Name y py] X.env).map (·.2) = assign (.Subscript (.Name x px) e3 p2) X.env :: (assignEach [.Name y py] X.env).map (·.2))
    (hz2 : ∀ X : Cx, (assignEach [.Name y py] X.env).map (·.2) = assign (.Name y py) X.env :: (assignEach [] X.env).map (·.2))
    (hsub : ∀ (X : Cx) v, assign (.Subscript (.Name x px) e3 p2) X.env v = (do
      let ov ← holding [v] (eval (.Name x px) X.env)
      let iv ← holding [v, ov] (eval e3 X.env)
      standAt p2
      holding [v, ov, iv] (setItem ov iv v)
      release [v, ov, iv] []))
    (he1 : ∀ X : Cx, starEach (e :: [e2]) X.env = (false, eval e X.env) :: starEach [e2] X.env) (he2 : ∀ X : Cx, starEach (e2 :: []) X.env = (false, eval e2 X.env) :: starEach [] X.env)
    (X : Cx) (hX : S.Is X) (ha : PE X e ta) (hb : PE X e2 tb) (hk : PE X e3 tk) :
    PS X (.Assign [.Tuple [.Subscript (.Name x px) e3 p2, .Name y py] kt pt] (.Tuple [e, e2] k2 pt2) pos) (tAsg (tTup (tCons ta (tCons tb tNil))) (gTup S.K 2 (gCons (L2.gSub (tVar i) tk rSetL) (gCons (gName j) gNil)))) := by
  have hg : PG X (.Tuple [.Subscript (.Name x px) e3 p2, .Name y py] kt pt) (gTup S.K 2 (gCons (L2.gSub (tVar i) tk rSetL) (gCons (gName j) gNil))) := by
    rw [← hX.K]
    exact pg_tup hX.calm (pgs_cons (pg_sub (pe_var (i := i) (by rw [hX.N]; exact hi) (by rw [hX.sc]; exact vis_of hv) hd hcd) hk set_list (hsub X))
      (pgs_cons (pg_name (i := j) (by rw [hX.N]; exact hN) (by rw [hX.N]; exact hj) (by rw [hX.sc]; exact hy) (.inl (by rw [hX.fn]; exact hf))) pgs_nil (hz2 X)) (hz1 X)) (hn X) (hst X)
  exact ps_asg (pe_tup (pa_cons ha (pa_cons hb pa_nil (he2 X)) (he1 X))) hg (hs X) (hw X.env hX.sc) (h1 X)
theorem after_fr {K : PySem.W.Frag} {cl : Cl} {pn : Bool} {A : Addr → Prop} {σ σ1 : L2.St} {G H G1 H1 G2 H2 : Hp} {ρ1 : Rho} (af : After K cl pn A σ G H ρ1 σ1 G1 H1) (f : Fr NoA G1 H1 G2 H2) (s : Sm cl G2 H2) : After K cl pn A σ G H ρ1 σ1 G2 H2 :=
  ⟨af.rel.keep f s, af.fr.trans (A' := NoA) f fun _ z => z.elim, af.own, af.pin⟩
theorem psf_parP (i j : Nat) {px p2 py pt : Pos} {kt k2 pt2} (hN : S.N.Nodup) (hi : S.N[i]? = some x) (hv : VisS S.sc x = true) (hj : S.N[j]? = some y) (hy : S.sc.names.lookup y = some .local ∨ S.sc.names.lookup y = some .cell) (hf : S.cf y = true) (ha : PEF S e φ) (hb : PEF S e2 φ2) (hk : PEF S e3 φk) (hp : S.pn = true → j ≠ 0)
    (hd : (x == ("__debug__" : Str)) = false := by decide) (hcd : (x == ("__classdict__" : Str)) = false := by decide)
    (hw : ∀ env : Env, env.scope = S.sc → swappedStores [.Tuple [.Subscript (.Name x px) e3 p2, .Name y py] kt pt] (.Tuple [e, e2] k2 pt2) env = pure none)
    (hs : ∀ X : Cx, swapsWithSole [.Tuple [.Subscript (.Name x px) e3 p2, .Name y py] kt pt] (.Tuple [e, e2] k2 pt2) pos.line X.env = pure false := by intro _; rfl)
    (h1 : ∀ X : Cx, (assignEach [.Tuple [.Subscript (.Name x px) e3 p2, .Name y py] kt pt] X.env).map (·.2) = [assign (.Tuple [.Subscript (.Name x px) e3 p2, .Name y py] kt pt) X.env] := by intro _; rfl)
    (hn : ∀ X : Cx, (assignEach [.Subscript (.Name x px) e3 p2, .Name y py] X.env).length = 2 := by intro _; rfl) (hst : ∀ X : Cx, (assignEach [.Subscript (.Name x px) e3 p2, .Name y py] X.env).findIdx? (·.1) = none := by intro _; rfl)
    (hz1 : ∀ X : Cx, (assignEach [.Subscript (.Name x px) e3 p2, .Name y py] X.env).map (·.2) = assign (.Subscript (.Name x px) e3 p2) X.env :: (assignEach [.Name y py] X.env).map (·.2) := by intro _; rfl)
    (hz2 : ∀ X : Cx, (assignEach [.Name y py] X.env).map (·.2) = assign (.Name y py) X.env :: (assignEach [] X.env).map (·.2) := by intro _; rfl)
    (hsub : ∀ (X : Cx) v, assign (.Subscript (.Name x px) e3 p2) X.env v = (do
      let ov ← holding [v] (eval (.Name x px) X.env)
      let iv ← holding [v, ov] (eval e3 X.env)
      standAt p2
      holding [v, ov, iv] (setItem ov iv v)
      release [v, ov, iv] []) := by intro _ _; rfl)
    (he1 : ∀ X : Cx, starEach (e :: [e2]) X.env = (false, eval e X.env) :: starEach [e2] X.env := by intro _; rfl) (he2 : ∀ X : Cx, starEach (e2 :: []) X.env = (false, eval e2 X.env) :: starEach [] X.env := by intro _; rfl) :
    PSF S (.Assign [.Tuple [.Subscript (.Name x px) e3 p2, .Name y py] kt pt] (.Tuple [e, e2] k2 pt2) pos) (sParP i φk j φ φ2) := by
  obtain ⟨ta, ha, ea⟩ := ha
  obtain ⟨tb, hb, eb⟩ := hb
  obtain ⟨tk, hk, ek⟩ := hk
  refine ⟨_, fun X hX => st_parP i j hN hi hv hj hy hf hd hcd hw hs h1 hn hst hz1 hz2 hsub he1 he2 X hX (ha X hX) (hb X hX) (hk X hX), fun A σ ρ G H D re hA h => ?_⟩
  refine ea σ ρ G H _ re (LandS.expr re hA h fun t ρ1 G1 H1 r1 f1 o1 af h1 v d => ?_)
  refine eb σ ρ1 G1 H1 _ r1 (LandS.expr (A := fun p => A p ∨ Fs H p) r1 af.own (h1.step af) fun u ρ2 G2 H2 r2 f2 o2 af2 h2 w dw => ⟨(show 2 ≤ sizeLine by decide), fun q hq => ?_⟩)
  have f3 : Fr NoA G2 H2 (upd G2 q (.tup [v, w])) (upd H2 q (.tup [v, w])) := Fr.frz hq r2.same
  have s3 : Sm S.cl (upd G2 q (.tup [v, w])) (upd H2 q (.tup [v, w])) := sm_upd2 r2.same hq
  have a3 := after_fr af2 f3 s3
  refine ⟨q, [v, w], rfl, .inl (.inl upd_same), rfl, v, [w], rfl, ?_⟩
  split at h2
  · rename_i ts0 e0
    obtain ⟨o, us0, q1, g0, h0, d0⟩ := a3.rel.ow i ts0 (isOw_of e0)
    refine ⟨.ref o, q1, ?_⟩
    refine ek σ ρ2 _ _ _ a3.rel (LandS.expr (A := fun p => (A p ∨ Fs H p) ∨ Fs H1 p) a3.rel a3.own (h2.step a3) fun k ρ3 G4 H4 r4 f4 o4 af4 h4 z dk => ?_)
    split at h4
    · rename_i k ts e3
      split at h4
      · rename_i m em
        obtain ⟨o', us, q3, g4, h5, d4⟩ := r4.ow i ts (isOw_of e3)
        rw [q1] at q3; cases q3
        refine ⟨o, us, k, m, rfl, dk.int_of, h5, by rw [← d4.len]; exact em, w, [], rfl, ?_⟩
        have gg := f3.gg.trans f4.gg
        exact ⟨rfl, h4 _ G4 _ (after_set (after_mut af4 (isOw_of e3) q1 (d4.set m (d.mono (f2.gg.trans gg))) (a3.own o ⟨i, ts0, isOw_of e0, q1⟩)) (dw.mono gg) hp)⟩
      · exact h4.elim
    · exact h4.elim
  · exact h2.elim
theorem psf_parPO (i j : Nat) {φ2 : Rho → Rz (List T)} {px p2 py pt : Pos} {kt k2 pt2} (hN : S.N.Nodup) (hi : S.N[i]? = some x) (hv : VisS S.sc x = true) (hj : S.N[j]? = some y) (hy : S.sc.names.lookup y = some .local ∨ S.sc.names.lookup y = some .cell) (hf : S.cf y = true) (ha : PEF S e φ) (hb : POF S e2 φ2) (hk : PEF S e3 φk) (hp : S.pn = true → j ≠ 0)
    (hd : (x == ("__debug__" : Str)) = false := by decide) (hcd : (x == ("__classdict__" : Str)) = false := by decide)
    (hw : ∀ env : Env, env.scope = S.sc → swappedStores [.Tuple [.Subscript (.Name x px) e3 p2, .Name y py] kt pt] (.Tuple [e, e2] k2 pt2) env = pure none)
    (hs : ∀ X : Cx, swapsWithSole [.Tuple [.Subscript (.Name x px) e3 p2, .Name y py] kt pt] (.Tuple [e, e2] k2 pt2) pos.line X.env = pure false := by intro _; rfl)
    (h1 : ∀ X : Cx, (assignEach [.Tuple [.Subscript (.Name x px) e3 p2, .Name y py] kt pt] X.env).map (·.2) = [assign (.Tuple [.Subscript (.Name x px) e3 p2, .Name y py] kt pt) X.env] := by intro _; rfl)
    (hn : ∀ X : Cx, (assignEach [.Subscript (.Name x px) e3 p2, .Name y py] X.env).length = 2 := by intro _; rfl) (hst : ∀ X : Cx, (assignEach [.Subscript (.Name x px) e3 p2, .Name y py] X.env).findIdx? (·.1) = none := by intro _; rfl)
    (hz1 : ∀ X : Cx, (assignEach [.Subscript (.Name x px) e3 p2, .Name y py] X.env).map (·.2) = assign (.Subscript (.Name x px) e3 p2) X.env :: (assignEach [.Name y py] X.env).map (·.2) := by intro _; rfl)
    (hz2 : ∀ X : Cx, (assignEach [.Name y py] X.env).map (·.2) = assign (.Name y py) X.env :: (assignEach [] X.env).map (·.2) := by intro _; rfl)
    (hsub : ∀ (X : Cx) v, assign (.Subscript (.Name x px) e3 p2) X.env v = (do
      let ov ← holding [v] (eval (.Name x px) X.env)
      let iv ← holding [v, ov] (eval e3 X.env)
      standAt p2
      holding [v, ov, iv] (setItem ov iv v)
      release [v, ov, iv] []) := by intro _ _; rfl)
    (he1 : ∀ X : Cx, starEach (e :: [e2]) X.env = (false, eval e X.env) :: starEach [e2] X.env := by intro _; rfl) (he2 : ∀ X : Cx, starEach (e2 :: []) X.env = (false, eval e2 X.env) :: starEach [] X.env := by intro _; rfl) :
    PSF S (.Assign [.Tuple [.Subscript (.Name x px) e3 p2, .Name y py] kt pt] (.Tuple [e, e2] k2 pt2) pos) (sParPO i φk j φ φ2) := by
  obtain ⟨ta, ha, ea⟩ := ha
  obtain ⟨tb, hb, eb⟩ := hb
  obtain ⟨tk, hk, ek⟩ := hk
  refine ⟨_, fun X hX => st_parP i j hN hi hv hj hy hf hd hcd hw hs h1 hn hst hz1 hz2 hsub he1 he2 X hX (ha X hX) (hb X hX) (hk X hX), fun A σ ρ G H D re hA h => ?_⟩
  refine ea σ ρ G H _ re (LandS.expr re hA h fun t ρ1 G1 H1 r1 f1 o1 af h1 v d => ?_)
  refine eb σ ρ1 G1 H1 _ r1 (LandS.expr (A := fun p => A p ∨ Fs H p) r1 af.own (h1.step af) fun u ρ2 G2 H2 r2 f2 o2 af2 h2 p ws hp' gp hh dw => ⟨(show 2 ≤ sizeLine by decide), fun q hq => ?_⟩)
  have hpq : p ≠ q := fun z => by rw [z, hq] at hh; cases hh
  have f3 : Fr NoA G2 H2 (upd G2 q (.tup [v, .ref p])) (upd H2 q (.tup [v, .ref p])) := Fr.frz hq r2.same
  have s3 : Sm S.cl (upd G2 q (.tup [v, .ref p])) (upd H2 q (.tup [v, .ref p])) := sm_upd2 r2.same hq
  have a3 := after_fr af2 f3 s3
  have np : ¬ Own σ ρ2 p := fun z => by
    obtain ⟨us', z1, _⟩ := r1.own_some (o2 p z)
    exact hp'.lst z1
  refine ⟨q, [v, .ref p], rfl, .inl (.inl upd_same), rfl, v, [.ref p], rfl, ?_⟩
  split at h2
  · rename_i ts0 e0
    obtain ⟨o, us0, q1, g0, h0, d0⟩ := a3.rel.ow i ts0 (isOw_of e0)
    refine ⟨.ref o, q1, ?_⟩
    refine ek σ ρ2 _ _ _ a3.rel (LandS.expr (A := fun p => (A p ∨ Fs H p) ∨ Fs H1 p) a3.rel a3.own (h2.step a3) fun k ρ3 G4 H4 r4 f4 o4 af4 h4 z dk => ?_)
    split at h4
    · rename_i k ts e3
      split at h4
      · rename_i m em
        obtain ⟨o', us, q3, g4, h5, d4⟩ := r4.ow i ts (isOw_of e3)
        rw [q1] at q3; cases q3
        refine ⟨o, us, k, m, rfl, dk.int_of, h5, by rw [← d4.len]; exact em, .ref p, [], rfl, ?_⟩
        have gg := f3.gg.trans f4.gg
        have hop : o ≠ p := fun z => np ⟨i, ts0, isOw_of e0, by rw [← z]; exact q1⟩
        have hp4 : H4 p = some (.lst ws) := f4.keep p _ (by rw [upd_ne hpq]; exact hh) (fun z => np z) noTb_lst
        have gp4 : G4 p = none := by
          cases z : G4 p with
          | none => rfl
          | some x' =>
            rcases f4.new p x' z (by rw [upd_ne hpq]; exact gp) with y | y
            · exact y.lst (by rw [upd_ne hpq]; exact hh)
            · exact absurd y np
        refine ⟨rfl, h4 _ G4 _ ?_⟩
        have am := after_mut af4 (isOw_of e3) q1 (d4.set m (d.mono (f2.gg.trans gg))) (a3.own o ⟨i, ts0, isOw_of e0, q1⟩)
        have nz : ¬ Own σ (ρ3.set i (.ow (ts.set m t))) p := fun z => np (o4 p (own_mut (isOw_of e3) z))
        refine ⟨rel_set_ow am.rel gp4 (by rw [upd_ne (Ne.symm hop)]; exact hp4) (dw.mono gg) nz, am.fr, fun o z => ?_, fun e => by rw [List.getElem?_set_ne (hp e)]⟩
        rcases own_set_ow z am.rel.len with z | z
        · rw [z]; exact .inl (.inr hp')
        · exact am.own o z
      · exact h4.elim
    · exact h4.elim
  · exact h2.elim
end
/-! ### x, y = [..], value -/
section
variable {S : SC} {e e2 : Expr} {φ2 : Rho → Rz T} {φ : Rho → Rz (List T)} {x y : Str} {pos : Pos}
def sParO2 (i j : Nat) (a : Rho → Rz (List T)) (b : Rho → Rz T) : Rho → Out := fun ρ => (a ρ).out fun t ρ1 => (b ρ1).out fun u ρ2 => .nx ((ρ2.set i (.ow t)).set j (.va u))
theorem psf_parO2 {i j : Nat} {px py pt : Pos} {kt k2 pt2} (hN : S.N.Nodup) (hi : S.N[i]? = some x) (hj : S.N[j]? = some y) (hij : i ≠ j) (hx : S.sc.names.lookup x = some .local) (hy : S.sc.names.lookup y = some .local) (ha : POF S e φ) (hb : PEF S e2 φ2) (hp : S.pn = true → i ≠ 0 ∧ j ≠ 0)
    (hw : ∀ env : Env, env.scope = S.sc → swappedStores [.Tuple [.Name x px, .Name y py] kt pt] (.Tuple [e, e2] k2 pt2) env = pure (some [x, y]))
    (hs : ∀ X : Cx, swapsWithSole [.Tuple [.Name x px, .Name y py] kt pt] (.Tuple [e, e2] k2 pt2) pos.line X.env = pure false := by intro _; rfl)
    (he1 : ∀ X : Cx, starEach (e :: [e2]) X.env = (false, eval e X.env) :: starEach [e2] X.env := by intro _; rfl) (he2 : ∀ X : Cx, starEach (e2 :: []) X.env = (false, eval e2 X.env) :: starEach [] X.env := by intro _; rfl) :
    PSF S (.Assign [.Tuple [.Name x px, .Name y py] kt pt] (.Tuple [e, e2] k2 pt2) pos) (sParO2 i j φ φ2) := by
  obtain ⟨ta, ha, ea⟩ := ha
  obtain ⟨tb, hb, eb⟩ := hb
  refine ⟨tPar i j (tCons ta (tCons tb tNil)), fun X hX => ps_par hX.calm (by rw [hX.N]; exact hN) (by rw [hX.N]; exact hi) (by rw [hX.N]; exact hj) hij (by rw [hX.sc]; exact hx) (by rw [hX.sc]; exact hy) (pa_cons (ha X hX) (pa_cons (hb X hX) pa_nil (he2 X)) (he1 X)) (hw X.env hX.sc) (hs X), fun A σ ρ G H D re hA h => ?_⟩
  refine ea σ ρ G H _ re (LandS.expr re hA h fun t ρ1 G1 H1 r1 f1 o1 af h1 p us hp' gp hh d => ?_)
  refine eb σ ρ1 G1 H1 _ r1 (LandS.expr (A := fun p => A p ∨ Fs H p) r1 af.own (h1.step af) fun u ρ2 G2 H2 r2 f2 o2 af2 h2 w dw => ⟨.ref p, w, rfl, ?_⟩)
  have hno : ¬ Own σ ρ1 p := fun z => by
    obtain ⟨us', z1, _⟩ := re.own_some (o1 p z)
    exact hp'.lst z1
  have hh2 : H2 p = some (.lst us) := f2.keep p _ hh hno noTb_lst
  have gp2 : G2 p = none := by
    cases e : G2 p with
    | none => rfl
    | some x => exact (f2.new p x e gp).elim (fun z => z.lst hh) fun z => absurd z hno
  refine h2 _ G2 H2 (after_set (σ1 := σ.set i (some (.ref p))) (ρ1 := ρ2.set i (.ow t)) ⟨rel_set_ow af2.rel gp2 hh2 (d.mono f2.gg) fun z => hno (o2 p z), af2.fr, fun o z => (own_set_ow z af2.rel.len).elim (fun z => .inl (by rw [z]; exact .inr hp')) (af2.own o), fun e => by rw [List.getElem?_set_ne ((hp e).1)]⟩ dw fun e => (hp e).2)
theorem psf_parO2c {i j : Nat} {px py pt : Pos} {kt k2 pt2} (hN : S.N.Nodup) (hi : S.N[i]? = some x) (hj : S.N[j]? = some y)
    (hx : S.sc.names.lookup x = some .local ∨ S.sc.names.lookup x = some .cell) (hf : S.cf x = true) (hy : S.sc.names.lookup y = some .local ∨ S.sc.names.lookup y = some .cell) (hf2 : S.cf y = true) (ha : POF S e φ) (hb : PEF S e2 φ2) (hp : S.pn = true → i ≠ 0 ∧ j ≠ 0)
    (hw : ∀ env : Env, env.scope = S.sc → swappedStores [.Tuple [.Name x px, .Name y py] kt pt] (.Tuple [e, e2] k2 pt2) env = pure none)
    (hs : ∀ X : Cx, swapsWithSole [.Tuple [.Name x px, .Name y py] kt pt] (.Tuple [e, e2] k2 pt2) pos.line X.env = pure false := by intro _; rfl)
    (h1 : ∀ X : Cx, (assignEach [.Tuple [.Name x px, .Name y py] kt pt] X.env).map (·.2) = [assign (.Tuple [.Name x px, .Name y py] kt pt) X.env] := by intro _; rfl)
    (hn : ∀ X : Cx, (assignEach [.Name x px, .Name y py] X.env).length = 2 := by intro _; rfl) (hst : ∀ X : Cx, (assignEach [.Name x px, .Name y py] X.env).findIdx? (·.1) = none := by intro _; rfl)
    (hz1 : ∀ X : Cx, (assignEach [.Name x px, .Name y py] X.env).map (·.2) = assign (.Name x px) X.env :: (assignEach [.Name y py] X.env).map (·.2) := by intro _; rfl)
    (hz2 : ∀ X : Cx, (assignEach [.Name y py] X.env).map (·.2) = assign (.Name y py) X.env :: (assignEach [] X.env).map (·.2) := by intro _; rfl)
    (he1 : ∀ X : Cx, starEach (e :: [e2]) X.env = (false, eval e X.env) :: starEach [e2] X.env := by intro _; rfl) (he2 : ∀ X : Cx, starEach (e2 :: []) X.env = (false, eval e2 X.env) :: starEach [] X.env := by intro _; rfl) :
    PSF S (.Assign [.Tuple [.Name x px, .Name y py] kt pt] (.Tuple [e, e2] k2 pt2) pos) (sParO2 i j φ φ2) := by
  obtain ⟨ta, ha, ea⟩ := ha
  obtain ⟨tb, hb, eb⟩ := hb
  refine ⟨tAsg (tTup (tCons ta (tCons tb tNil))) (gTup S.K 2 (gCons (gName i) (gCons (gName j) gNil))), fun X hX => ?_, fun A σ ρ G H D re hA h => ?_⟩
  · have hg : PG X (.Tuple [.Name x px, .Name y py] kt pt) (gTup S.K 2 (gCons (gName i) (gCons (gName j) gNil))) := by
      rw [← hX.K]
      exact pg_tup hX.calm (pgs_cons (pg_name (i := i) (by rw [hX.N]; exact hN) (by rw [hX.N]; exact hi) (by rw [hX.sc]; exact hx) (.inl (by rw [hX.fn]; exact hf)))
        (pgs_cons (pg_name (i := j) (by rw [hX.N]; exact hN) (by rw [hX.N]; exact hj) (by rw [hX.sc]; exact hy) (.inl (by rw [hX.fn]; exact hf2))) pgs_nil (hz2 X)) (hz1 X)) (hn X) (hst X)
    exact ps_asg (pe_tup (pa_cons (ha X hX) (pa_cons (hb X hX) pa_nil (he2 X)) (he1 X))) hg (hs X) (hw X.env hX.sc) (h1 X)
  refine ea σ ρ G H _ re (LandS.expr re hA h fun t ρ1 G1 H1 r1 f1 o1 af h1 p us hp' gp hh d => ?_)
  refine eb σ ρ1 G1 H1 _ r1 (LandS.expr (A := fun p => A p ∨ Fs H p) r1 af.own (h1.step af) fun u ρ2 G2 H2 r2 f2 o2 af2 h2 w dw => ⟨(show 2 ≤ sizeLine by decide), fun q hq => ?_⟩)
  have hno : ¬ Own σ ρ1 p := fun z => by
    obtain ⟨us', z1, _⟩ := re.own_some (o1 p z)
    exact hp'.lst z1
  have hh2 : H2 p = some (.lst us) := f2.keep p _ hh hno noTb_lst
  have gp2 : G2 p = none := by
    cases e : G2 p with
    | none => rfl
    | some x => exact (f2.new p x e gp).elim (fun z => z.lst hh) fun z => absurd z hno
  have hpq : p ≠ q := fun z => by rw [z, hq] at hh2; cases hh2
  have f3 : Fr NoA G2 H2 (upd G2 q (.tup [.ref p, w])) (upd H2 q (.tup [.ref p, w])) := Fr.frz hq r2.same
  have s3 : Sm S.cl (upd G2 q (.tup [.ref p, w])) (upd H2 q (.tup [.ref p, w])) := sm_upd2 r2.same hq
  have a3 := after_fr af2 f3 s3
  refine ⟨q, [.ref p, w], rfl, .inl (.inl upd_same), rfl, .ref p, [w], rfl, w, [], rfl, rfl, ?_⟩
  exact h2 _ _ _ (after_set (σ1 := σ.set i (some (.ref p))) (ρ1 := ρ2.set i (.ow t)) ⟨rel_set_ow a3.rel (by rw [upd_ne hpq]; exact gp2) (by rw [upd_ne hpq]; exact hh2) (d.mono (f2.gg.trans f3.gg)) fun z => hno (o2 p z), a3.fr, fun o z => (own_set_ow z a3.rel.len).elim (fun z => .inl (by rw [z]; exact .inr hp')) (a3.own o), fun e => by rw [List.getElem?_set_ne ((hp e).1)]⟩ (dw.mono f3.gg) fun e => (hp e).2)
end
end Fx
namespace Fx
open PySem PySem.Spec PyProof.Rows L2
/-! ### a list of lists of one's own, while it is filled -/
structure Nest (K : PySem.W.Frag) (cl : Cl) (G H : Hp) (o : Addr) (bs : List Addr) (tss : List (List T)) : Prop where
  go : G o = none
  ho : H o = some (.lst (bs.map V.ref))
  nd : (o :: bs).Nodup
  len : bs.length = tss.length
  it : ∀ (j : Nat) (b : Addr) (ts : List T), bs[j]? = some b → tss[j]? = some ts → G b = none ∧ ∃ us, H b = some (.lst us) ∧ DenL K cl G ts us
section
variable {K : PySem.W.Frag} {cl : Cl} {G H G' H' : Hp} {o : Addr} {bs : List Addr} {tss : List (List T)} {A : Addr → Prop}
theorem Nest.lst (n : Nest K cl G H o bs tss) {p : Addr} (h : p ∈ o :: bs) : G p = none ∧ ∃ us, H p = some (.lst us) := by
  rcases List.mem_cons.mp h with rfl | h
  · exact ⟨n.go, _, n.ho⟩
  · obtain ⟨j, hj⟩ := List.mem_iff_getElem?.mp h
    have hl : j < tss.length := by rw [← n.len]; exact (List.getElem?_eq_some_iff.mp hj).1
    obtain ⟨g, us, e, _⟩ := n.it j p tss[j] hj (List.getElem?_eq_getElem hl)
    exact ⟨g, us, e⟩
theorem fr_none {p : Addr} {xs : List V} (f : Fr A G H G' H') (g : G p = none) (h : H p = some (.lst xs)) (n : ¬ A p) : G' p = none := by
  cases z : G' p with
  | none => rfl
  | some x =>
    rcases f.new p x z g with w | w
    · exact w.lst h
    · exact absurd w n
theorem Nest.keep (n : Nest K cl G H o bs tss) (f : Fr A G H G' H') (hA : ∀ p ∈ o :: bs, ¬ A p) : Nest K cl G' H' o bs tss where
  go := fr_none f n.go n.ho (hA o List.mem_cons_self)
  ho := f.keep o _ n.ho (hA o List.mem_cons_self) noTb_lst
  nd := n.nd
  len := n.len
  it := fun j b ts hb ht => by
    obtain ⟨g, us, e, d⟩ := n.it j b ts hb ht
    have hn := hA b (List.mem_cons_of_mem _ (List.mem_of_getElem? hb))
    exact ⟨fr_none f g e hn, us, f.keep b _ e hn noTb_lst, d.mono f.gg⟩
theorem Nest.push (n : Nest K cl G H o bs tss) {q : Addr} (hq : H q = none) (gq : G q = none) : Nest K cl G (upd (upd H q (.lst [])) o (.lst (bs.map V.ref ++ [V.ref q]))) o (bs ++ [q]) (tss ++ [[]]) := by
  have nq : q ∉ o :: bs := fun h => by
    obtain ⟨_, us, e⟩ := n.lst h
    rw [hq] at e; cases e
  have nd := n.nd
  refine ⟨n.go, by rw [upd_same, List.map_append]; rfl, ?_, by simp [n.len], fun j b ts hb ht => ?_⟩
  · rw [← List.cons_append, List.nodup_append]
    exact ⟨nd, by simp, fun a ha b hb => by
      rw [List.mem_singleton] at hb
      rw [hb]
      exact fun z => nq (by rw [← z]; exact ha)⟩
  · by_cases hj : j < bs.length
    · rw [List.getElem?_append_left hj] at hb
      rw [List.getElem?_append_left (by rw [← n.len]; exact hj)] at ht
      obtain ⟨g, us, e, d⟩ := n.it j b ts hb ht
      have hm := List.mem_of_getElem? hb
      have bo : b ≠ o := fun z => (List.nodup_cons.mp nd).1 (by rw [← z]; exact hm)
      have bq : b ≠ q := fun z => nq (by rw [← z]; exact List.mem_cons_of_mem _ hm)
      exact ⟨g, us, by rw [upd_ne bo, upd_ne bq]; exact e, d⟩
    · have hb2 := hb
      rw [List.getElem?_append_right (by omega)] at hb
      rw [List.getElem?_append_right (by rw [← n.len]; omega), ← n.len] at ht
      have hj0 : j - bs.length = 0 := by
        obtain ⟨h1, _⟩ := List.getElem?_eq_some_iff.mp hb
        simp at h1; omega
      rw [hj0] at hb ht
      simp at hb ht
      subst hb; subst ht
      exact ⟨gq, [], by rw [upd_ne (fun z => nq (by rw [z]; exact List.mem_cons_self)), upd_same], DenL.nil⟩
theorem Nest.app (n : Nest K cl G H o bs tss) {j : Nat} {b : Addr} {us : List V} {ts : List T} {t : T} {v : V} (hb : bs[j]? = some b) (ht : tss[j]? = some ts) (hu : H b = some (.lst us)) (d : Den K cl G t v) :
    Nest K cl G (upd H b (.lst (us ++ [v]))) o bs (tss.set j (ts ++ [t])) := by
  have nd := n.nd
  have hm := List.mem_of_getElem? hb
  have bo : o ≠ b := fun z => (List.nodup_cons.mp nd).1 (by rw [z]; exact hm)
  refine ⟨n.go, by rw [upd_ne bo]; exact n.ho, nd, by simp [n.len], fun i c us' hc hu' => ?_⟩
  by_cases e : j = i
  · subst e
    rw [hb] at hc; cases hc
    rw [List.getElem?_set_self (List.getElem?_eq_some_iff.mp ht).1] at hu'
    cases hu'
    obtain ⟨g, us2, e2, d2⟩ := n.it j b ts hb ht
    rw [hu] at e2; cases e2
    exact ⟨g, _, upd_same, d2.append (DenL.cons d DenL.nil)⟩
  · rw [List.getElem?_set_ne e] at hu'
    obtain ⟨g, us2, e2, d2⟩ := n.it i c us' hc hu'
    have cb : c ≠ b := fun z => by
      rw [z] at hc
      have := List.nodup_cons.mp nd
      exact e ((List.getElem?_inj (List.getElem?_eq_some_iff.mp hb).1 this.2).mp (hb.trans hc.symm))
    exact ⟨g, us2, by rw [upd_ne cb]; exact e2, d2⟩
theorem DenL.of_get : ∀ {ts : List T} {xs : List V}, ts.length = xs.length → (∀ (i : Nat) (t : T) (x : V), ts[i]? = some t → xs[i]? = some x → Den K cl G t x) → DenL K cl G ts xs
  | [], [], _, _ => DenL.nil
  | t :: ts, x :: xs, hl, h => DenL.cons (h 0 t x rfl rfl) (DenL.of_get (by simpa using hl) fun i u y e1 e2 => h (i + 1) u y (by simpa using e1) (by simpa using e2))
/-- frozen all at once -/
def frzN (G H : Hp) (ps : List Addr) : Hp := fun p => if p ∈ ps then H p else G p
theorem frzN_same {ps : List Addr} (h : ∀ p ∈ ps, G p = none) : Same G (frzN G H ps) := fun p x e => by
  unfold frzN
  rw [if_neg (fun z => by rw [h p z] at e; cases e)]
  exact e
theorem Nest.frz (n : Nest K cl G H o bs tss) (s : Sm cl G H) : Sm cl (frzN G H (o :: bs)) H ∧ Same G (frzN G H (o :: bs)) ∧ Den K cl (frzN G H (o :: bs)) (.lst (tss.map T.lst)) (.ref o) := by
  have sg : Same G (frzN G H (o :: bs)) := frzN_same fun p h => (n.lst h).1
  refine ⟨⟨fun p x e => ?_, s.tab, fun p ps e => ?_⟩, sg, den_lst (xs := bs.map V.ref) (.inl (.inl ?_)) ?_⟩
  · unfold frzN at e
    split at e
    · exact e
    · exact s.same p x e
  · unfold frzN at e
    split at e
    · rename_i h
      obtain ⟨_, us, e2⟩ := n.lst h
      rw [e2] at e; cases e
    · exact s.nt p ps e
  · unfold frzN
    rw [if_pos List.mem_cons_self]
    exact n.ho
  · refine DenL.of_get (by simp [n.len]) fun i t x ht hx => ?_
    rw [List.getElem?_map, Option.map_eq_some_iff] at ht hx
    obtain ⟨ts, ht, rfl⟩ := ht
    obtain ⟨b, hb, rfl⟩ := hx
    obtain ⟨g, us, e, d⟩ := n.it i b ts hb ht
    refine den_lst (xs := us) (.inl (.inl ?_)) (d.mono sg)
    unfold frzN
    rw [if_pos (List.mem_cons_of_mem _ (List.mem_of_getElem? hb))]
    exact e
/-- an address of none of ours changes -/
theorem rel_other {σ : L2.St} {ρ : Rho} {p : Addr} {xs ys : List V} (r : Rel K cl G H σ ρ) (g : G p = none) (h : H p = some (.lst xs)) (n : ¬ Own σ ρ p) : Rel K cl G (upd H p (.lst ys)) σ ρ :=
  ⟨sm_mut r.same g h, r.len, r.va, fun i us e => by
    obtain ⟨o, ws, e1, e2, e3, e4⟩ := r.ow i us e
    refine ⟨o, ws, e1, e2, ?_, e4⟩
    rw [upd_ne (fun z => n ⟨i, us, e, by rw [← z]; exact e1⟩)]
    exact e3, r.ap⟩
theorem fr_other {p : Addr} {G0 H0 : Hp} {xs : List V} (f : Fr A G0 H0 G H) (h : Fs H0 p) : Fr A G0 H0 G (upd H p (.lst xs)) where
  gg := f.gg
  keep := fun q x e n m => by rw [upd_ne (fun z => by rw [z] at e; exact h x e m)]; exact f.keep q x e n m
  new := f.new
  there := fun q e => f.there q e.upd
theorem after_other {pn : Bool} {σ σ0 : L2.St} {ρ : Rho} {p : Addr} {xs ys : List V} {G0 H0 : Hp} (a : After K cl pn A σ0 G0 H0 ρ σ G H) (g : G p = none) (h : H p = some (.lst xs)) (n : ¬ Own σ ρ p) (h0 : Fs H0 p) : After K cl pn A σ0 G0 H0 ρ σ G (upd H p (.lst ys)) :=
  ⟨rel_other a.rel g h n, fr_other a.fr h0, a.own, a.pin⟩
end
/-! ### near = [[] for .. in ..]; for .. in ..: near[..].append(..); near[..].append(..) -/
def nearAdd (κ φ : Rho → Rz T) (tss : List (List T)) (ρ : Rho) : Option (List (List T) × Rho) := match κ ρ with
  | .ok (.int a) ρ1 => match ixN tss.length a with
    | some j => match φ ρ1 with
      | .ok t ρ2 => if (tss.getD j []).length < sizeLine then some (tss.set j (tss.getD j [] ++ [t]), ρ2) else none
      | _ => none
    | none => none
  | _ => none
def nearGo (γ : T → Rho → Option Rho) (κ1 φ1 κ2 φ2 : Rho → Rz T) : List T → List (List T) → Rho → Option (List (List T) × Rho)
  | [], tss, ρ => some (tss, ρ)
  | t :: ts, tss, ρ => match γ t ρ with
    | none => none
    | some ρ1 => match nearAdd κ1 φ1 tss ρ1 with
      | none => none
      | some (tss2, ρ2) => match nearAdd κ2 φ2 tss2 ρ2 with
        | none => none
        | some (tss3, ρ3) => nearGo γ κ1 φ1 κ2 φ2 ts tss3 ρ3
def sNear (i i0 : Nat) (φi : Rho → Rz (List T)) (φl : Rho → Rz (List T)) (γ : T → Rho → Option Rho) (κ1 φ1 κ2 φ2 : Rho → Rz T) : Rho → Out := fun ρ => (φi ρ).out fun ts ρ1 => if ts.length ≤ sizeLine ∧ i < ρ1.length then
  (φl ((unwipe ρ1 [i0] (wipeR ρ1 [i0])).set i .no)).out fun ls ρ2 => match nearGo γ κ1 φ1 κ2 φ2 ls (List.replicate ts.length []) ρ2 with
    | some (tss, ρ3) => .nx (ρ3.set i (.va (.lst (tss.map T.lst))))
    | none => .stuck
  else .stuck
section
variable {S : SC} {K : PySem.W.Frag} {cl : Cl}
/-- the new list of new lists -/
theorem ev_near0 {W : WX} {wi : TI} {φi : Rho → Rz (List T)} {i0 : Nat}
    (ei : ∀ σ ρ G H (R : It → Hp → Prop), Rel K cl G H σ ρ → Lands K cl W σ ρ G H (φi ρ) (fun ts _ G' H' => ∀ J, Yields K cl J G' ts → R J H') → wi σ H R)
    {σ : L2.St} {ρ : Rho} {G H : Hp} {Q : VK} (re : Rel K cl G H σ ρ) (h : Lands K cl W σ ρ G H (φi ρ) (fun ts ρ1 G1 H1 => ts.length ≤ sizeLine ∧ ∀ o bs G2 H2, Rel K cl G2 H2 σ (unwipe ρ1 [i0] (wipeR ρ1 [i0])) → Fr NoA G1 H1 G2 H2 → Nest K cl G2 H2 o bs (List.replicate ts.length []) → (∀ p ∈ o :: bs, Fs H1 p) → Q (.ref o) H2)) :
    tLc wi (gName i0) tYes (tLst tNil) [i0] σ H Q := by
  refine ei σ ρ G H _ re (h.imp fun ts ρ1 G1 H1 r1 f1 o1 ⟨hlen, h1⟩ J y D hD => ?_)
  have gD : G1 D = none := r1.same.free hD
  have nOwn : ¬ Own σ ρ1 D := fun z => by
    obtain ⟨us, z1, _⟩ := r1.own_some z
    rw [hD] at z1; cases z1
  refine lc_it y.walk (fun i H' => ∃ G' bs, Rel K cl G' H' (wipe σ [i0]) (wipeR ρ1 [i0]) ∧ Fr NoA G1 H1 G' H' ∧ Nest K cl G' H' D bs (List.replicate i []) ∧ ∀ p ∈ D :: bs, Fs H1 p) ?h0 ?hG ?hs ?hd
  case h0 =>
    refine ⟨G1, [], rel_wipe (r1.keep (Fr.made hD) (sm_new r1.same hD)) [i0], Fr.made hD, ⟨gD, upd_same, by simp, rfl, fun j b ts hb => by simp at hb⟩, fun p hp => ?_⟩
    rw [List.mem_singleton] at hp
    rw [hp]; exact .of hD
  case hG => exact fun i H' _ ⟨G', bs, a, b, _⟩ => b.gg.trans a.same.same
  case hd =>
    rintro H' ⟨G', bs, a, b, n, hf⟩
    exact h1 D bs G' H' (rel_unwipe r1 b.gg (by simp) a) b n hf
  case hs =>
    rintro i x H' H2 hi ⟨G', bs, a, b, n, hf⟩ yd
    obtain ⟨t, G2, ht, f2, s2, d2⟩ := yd G' b.gg a.same
    refine ⟨?_, ?_⟩
    · show ((wipe σ [i0]).set i0 (some x)).set i0 none = (σ.set i0 none)
      unfold wipe
      rw [List.set_set, wipe, List.set_set]
    · unfold tYes
      dsimp only
      rw [if_pos rfl]
      refine ⟨Nat.zero_le _, fun q hq => ?_⟩
      have n2 := n.keep f2 fun _ _ z => z
      have b2 : Fr NoA G1 H1 G2 H2 := b.trans f2 fun _ z => z.elim
      have a2 := a.keep f2 s2
      have gq := s2.free hq
      have hqD : D ≠ q := fun z => by
        have := n2.ho
        rw [z, hq] at this; cases this
      have e1 : upd H2 q (.lst []) D = some (.lst (bs.map V.ref)) := by rw [upd_ne hqD]; exact n2.ho
      have nD : ¬ Own (wipe σ [i0]) (wipeR ρ1 [i0]) D := fun z => nOwn (own_wipe z)
      have b3 : Fr NoA G1 H1 G2 (upd H2 q (.lst [])) := b2.trans (A' := NoA) (Fr.made hq) fun _ z => z.elim
      have a3 : Rel K cl G2 (upd H2 q (.lst [])) (wipe σ [i0]) (wipeR ρ1 [i0]) := a2.keep (Fr.made hq) (sm_new s2 hq)
      refine ⟨bs.map V.ref, e1, ?_, G2, bs ++ [q], rel_other a3 n2.go e1 nD, fr_other b3 (hf D List.mem_cons_self), ?_, fun p hp => ?_⟩
      · rw [List.length_map, n.len, List.length_replicate]; omega
      · rw [List.replicate_succ']
        exact n2.push hq gq
      · rcases List.mem_cons.mp hp with rfl | hp
        · exact hf p List.mem_cons_self
        · rcases List.mem_append.mp hp with hp | hp
          · exact hf p (List.mem_cons_of_mem _ hp)
          · rw [List.mem_singleton.mp hp]
            exact b2.there q (.of hq)
/-- one append to an inner list -/
theorem ev_nearAdd {W : WX} {tk te : TE} {κ φ : Rho → Rz T} {i : Nat} (ek : EvF K cl W tk κ) (ee : EvF K cl W te φ) {σ : L2.St} {ρ ρ2 : Rho} {G H : Hp} {o : Addr} {bs : List Addr} {tss tss2 : List (List T)} {Q : VK} (re : Rel K cl G H σ ρ) (n : Nest K cl G H o bs tss) (hi : σ[i]? = some (some (.ref o)))
    (no : ∀ p ∈ o :: bs, ¬ Own σ ρ p) (h : nearAdd κ φ tss ρ = some (tss2, ρ2)) (hQ : ∀ G2 H2, Rel K cl G2 H2 σ ρ2 → Nest K cl G2 H2 o bs tss2 → (∀ p, Own σ ρ2 p → Own σ ρ p) → Fr (fun p => Own σ ρ p ∨ p ∈ bs) G H G2 H2 → Q .non H2) :
    tBM K "list" rAppend (tOp (rIx K) (tVar i) tk) (tCons te tNil) σ H Q := by
  refine ⟨.ref o, hi, ?_⟩
  refine ek σ ρ G H _ re ?_
  unfold nearAdd at h
  cases q1 : κ ρ with
  | rs c x => rw [q1] at h; cases h
  | stuck => rw [q1] at h; cases h
  | ok k ρ1 =>
  rw [q1] at h
  cases k with
  | int a =>
    dsimp only at h
    split at h
    · rename_i j hj
      cases q2 : φ ρ1 with
      | rs c x => rw [q2] at h; cases h
      | stuck => rw [q2] at h; cases h
      | ok t ρ3 =>
      rw [q2] at h
      dsimp only at h
      split at h
      · rename_i hsz
        cases h
        intro G1 H1 r1 f1 o1 v dv
        have n1 := n.keep f1 no
        have hjl : j < tss.length := (ixN_seq hj).2.1
        have hjb : j < bs.length := by rw [n.len]; exact hjl
        have hb : bs[j]? = some bs[j] := List.getElem?_eq_getElem hjb
        have ht : tss[j]? = some tss[j] := List.getElem?_eq_getElem hjl
        have hg : tss.getD j [] = tss[j] := by simp [List.getD_eq_getElem?_getD, hjl]
        generalize tss[j] = ts at ht hg
        generalize bs[j] = b at hb
        have hm : b ∈ o :: bs := List.mem_cons_of_mem _ (List.mem_of_getElem? hb)
        refine .inl ⟨o, bs.map V.ref, a, .ref b, rfl, dv.int_of, .inl (.inl n1.ho), ?_, ?_⟩
        · unfold atI
          rw [List.length_map, n.len, hj]
          simp [hb]
        · obtain ⟨gb, us, hbu, du⟩ := n1.it j b ts hb ht
          refine ⟨.inl ⟨rfl, us, .inl (.inl hbu)⟩, ?_⟩
          refine ee σ ρ1 G1 H1 _ r1 ?_
          rw [q2]
          intro G2 H2 r2 f2 o2 w dw
          have no1 : ∀ p ∈ o :: bs, ¬ Own σ ρ1 p := fun p hp z => no p hp (o1 p z)
          have n2 := n1.keep f2 no1
          have no2 : ∀ p ∈ o :: bs, ¬ Own σ ρ2 p := fun p hp z => no1 p hp (o2 p z)
          obtain ⟨gb2, us2, hbu2, du2⟩ := n2.it j b ts hb ht
          rw [hg] at hsz hQ
          show rAppend (.ref b) [w] H2 Q
          refine ⟨b, us2, w, rfl, rfl, hbu2, by rw [← du2.len]; exact hsz, hQ G2 _ (rel_other r2 gb2 hbu2 (no2 b hm)) (n2.app hb ht hbu2 dw) (fun p z => o1 p (o2 p z)) ?_⟩
          have f3 : Fr (fun p => Own σ ρ p ∨ p ∈ bs) G H G2 H2 := (f1.mono fun p z => .inl z).trans f2 fun p z => .inl (.inl (o1 p z))
          exact f3.trans (Fr.mut (A := fun p => p = b) rfl) fun p z => .inl (.inr (by rw [z]; exact List.mem_of_getElem? hb))
      · cases h
    · cases h
  | _ => cases h
/-- a slot told no more -/
theorem rel_no {σ : L2.St} {ρ : Rho} {G H : Hp} {v : Nat} {x : Option V} (r : Rel K cl G H σ ρ) : Rel K cl G H (σ.set v x) (ρ.set v .no) where
  same := r.same
  len := by simp [r.len]
  va := fun j u q => by
    rcases getElem?_set' q with ⟨rfl, z, hi⟩ | ⟨ne, q⟩
    · cases z
    · obtain ⟨w, e, d⟩ := r.va j u q
      exact ⟨w, by rw [List.getElem?_set_ne ne]; exact e, d⟩
  ow := fun j us q => by
    rcases getElem?_set' q with ⟨rfl, z, hi⟩ | ⟨ne, q⟩
    · cases z
    · obtain ⟨o, vs, e, d⟩ := r.ow j us q
      exact ⟨o, vs, by rw [List.getElem?_set_ne ne]; exact e, d⟩
  ap := fun j l us ws o h1 h2 e1 e2 => by
    rcases getElem?_set' h1 with ⟨_, z, _⟩ | ⟨ne1, h1⟩
    · cases z
    rcases getElem?_set' h2 with ⟨_, z, _⟩ | ⟨ne2, h2⟩
    · cases z
    rw [List.getElem?_set_ne ne1] at e1
    rw [List.getElem?_set_ne ne2] at e2
    exact r.ap j l us ws o h1 h2 e1 e2
theorem own_no {σ : L2.St} {ρ : Rho} {v : Nat} {x : Option V} {o : Addr} (h : Own (σ.set v x) (ρ.set v .no) o) : Own σ ρ o := by
  obtain ⟨j, us, e1, e2⟩ := h
  rcases getElem?_set' e1 with ⟨rfl, z, _⟩ | ⟨ne, e1⟩
  · cases z
  · rw [List.getElem?_set_ne ne] at e2
    exact ⟨j, us, e1, e2⟩
theorem rel_vaAt {σ : L2.St} {ρ : Rho} {G H : Hp} {i : Nat} {t : T} {v : V} (r : Rel K cl G H σ ρ) (e : σ[i]? = some (some v)) (d : Den K cl G t v) : Rel K cl G H σ (ρ.set i (.va t)) := by
  have es : σ.set i (some v) = σ := by
    apply List.ext_getElem?
    intro j
    by_cases hj : i = j
    · subst hj
      rw [List.getElem?_set_self (List.getElem?_eq_some_iff.mp e).1, e]
    · rw [List.getElem?_set_ne hj]
  have := rel_set_va (i := i) r d
  rw [es] at this
  exact this
theorem rel_frzN {σ : L2.St} {ρ : Rho} {G H G' : Hp} (r : Rel K cl G H σ ρ) (s : Sm cl G' H) (g : Same G G') (n : ∀ p, Own σ ρ p → G' p = none) : Rel K cl G' H σ ρ :=
  ⟨s, r.len, fun i t h => let ⟨v, e, d⟩ := r.va i t h; ⟨v, e, d.mono g⟩, fun i ts h => let ⟨o, us, e, g0, hh, d⟩ := r.ow i ts h; ⟨o, us, e, n o ⟨i, ts, h, e⟩, hh, d.mono g⟩, r.ap⟩
theorem pss_two {X : Cx} {s1 s2 : Stmt} {t u : TS} (h1 : PS X s1 t) (h2 : PS X s2 u) : PSs X [s1, s2] (tSeq t u) := pss_cons h1 (pss_one h2)
/-- two statements told together -/
def PSF2 (S : SC) (s1 s2 : Stmt) (ψ : Rho → Out) : Prop := ∃ t u, (∀ X, S.Is X → PS X s1 t ∧ PS X s2 u) ∧ StF S.K S.cl S.W S.pn (tSeq t u) ψ
theorem pss_cons2 {s1 s2 : Stmt} {rest : List Stmt} {ψ ψ2 : Rho → Out} (h1 : PSF2 S s1 s2 ψ) (h2 : PSsF S rest ψ2) : PSsF S (s1 :: s2 :: rest) (sSeq ψ ψ2) := by
  obtain ⟨t, t', h1, e1⟩ := h1
  obtain ⟨u, h2, e2⟩ := h2
  refine ⟨tSeq t (tSeq t' u), fun X hX => pss_cons (h1 X hX).1 (pss_cons (h1 X hX).2 (h2 X hX)), fun A σ ρ G H D re hA h => ?_⟩
  show tSeq t t' { D with nx := u D } σ H
  refine e1 A σ ρ G H { D with nx := u D } re hA ?_
  unfold sSeq at h
  cases q : ψ ρ with
  | nx ρ1 =>
    rw [q] at h
    have h : LandS S.K S.cl S.W S.pn A σ G H D (ψ2 ρ1) := h
    exact fun σ1 G1 H1 a => e2 _ σ1 ρ1 G1 H1 D a.rel a.own (h.step a)
  | rt r ρ1 => rw [q] at h; cases r <;> exact h
  | bk ρ1 => rw [q] at h; exact h
  | ct ρ1 => rw [q] at h; exact h
  | rs c x => rw [q] at h; exact h
  | stuck => rw [q] at h; exact h
variable {iter iter2 tg k1 k2 e1 e2 : Expr} {scope : Scope} {φi φl : Rho → Rz (List T)} {js : List Nat} {γ : T → Rho → Option Rho} {κ1 φ1 κ2 φ2 : Rho → Rz T} {y z : Str}
theorem psf_near {i i0 : Nat} {a1e a2e : Expr} {py pz pl pos spos fpos pb1 pb2 : Pos} (hN : S.N.Nodup) (hy : S.N[i]? = some y) (hyl : S.sc.names.lookup y = some .local) (hi0 : S.N[i0]? = some z)
    (hsw : ∀ env : Env, env.scope = S.sc → swapsWith (.ListComp (.List [] pl) [⟨.Name z pz, iter, [], 0⟩] scope pos) (some (.Name y py)) spos.line env = pure true)
    (hi : PIF S (.Name z pz) iter φi) (ok : BlkOk S.N S.sc scope [(z, i0)]) (hzl : (relS scope S.sc).names.lookup z = some .local)
    (hl : PIF S tg iter2 φl) (hg : PGF S tg js γ) (hij : i ∉ js) (hk1 : PEF S k1 κ1) (he1 : PEF S e1 φ1) (hk2 : PEF S k2 κ2) (he2 : PEF S e2 φ2) (hp : S.pn = true → i ≠ 0 ∧ 0 ∉ js)
    (hb1 : ∀ (X : Cx) tk te, S.Is X → PE X k1 tk → PE X e1 te → PE X a1e (tBM X.K "list" rAppend (tOp (rIx X.K) (tVar i) tk) (tCons te tNil)))
    (hb2 : ∀ (X : Cx) tk te, S.Is X → PE X k2 tk → PE X e2 te → PE X a2e (tBM X.K "list" rAppend (tOp (rIx X.K) (tVar i) tk) (tCons te tNil)))
    (hs : ∀ (X : Cx) x, foldedSetIterable iter X.env x = pure x := by intro _ _; rfl) (hs2 : ∀ (X : Cx) x, foldedSetIterable iter2 X.env x = pure x := by intro _ _; rfl)
    (hs3 : ∀ X : Cx, swapsWith a1e none pb1.line X.env = pure false := by intro _; rfl) (hs4 : ∀ X : Cx, swapsWith a2e none pb2.line X.env = pure false := by intro _; rfl) :
    PSF2 S (.Assign [.Name y py] (.ListComp (.List [] pl) [⟨.Name z pz, iter, [], 0⟩] scope pos) spos) (.For tg iter2 [.Expr a1e pb1, .Expr a2e pb2] [] fpos) (sNear i i0 φi φl γ κ1 φ1 κ2 φ2) := by
  obtain ⟨wi, hi, ei⟩ := hi
  obtain ⟨wl, hl, el⟩ := hl
  obtain ⟨g, hg, eg⟩ := hg
  obtain ⟨tk1, hk1, ek1⟩ := hk1
  obtain ⟨te1, he1, ee1⟩ := he1
  obtain ⟨tk2, hk2, ek2⟩ := hk2
  obtain ⟨te2, he2, ee2⟩ := he2
  refine ⟨tAsg (tLc wi (gName i0) tYes (tLst tNil) [i0]) (gName i), (tFor wl g (tSeq (tDrop (tBM S.K "list" rAppend (tOp (rIx S.K) (tVar i) tk1) (tCons te1 tNil))) (tDrop (tBM S.K "list" rAppend (tOp (rIx S.K) (tVar i) tk2) (tCons te2 tNil))))), fun X hX => ?_, fun A σ ρ G H D re hA h => ?_⟩
  · refine ⟨ps_setLc (own := [(z, i0)]) hX.calm (by rw [hX.N]; exact hN) (by rw [hX.N]; exact hy) (by rw [hX.sc]; exact hyl) (hsw X.env hX.sc) (hi X hX) (by rw [hX.N, hX.sc]; exact ok) (fun s H C cl fp => ?_) (fun s H C cl fp => pts_nil) (fun s H C cl fp => pe_lst pa_nil) (hs X), ps_for hX.po hX.calm (hl X hX) (hg X hX) (pss_two (ps_expr ?_ (hs3 X)) (ps_expr ?_ (hs4 X))) (hs2 X)⟩
    · have hB := hX.blk scope s H C cl fp
      exact pg_name (by rw [hB.N]; exact hN) (by rw [hB.N]; exact hi0) (by rw [hB.sc]; exact .inl hzl) (.inr (by rw [hB.sc]; exact hzl))
    · rw [← hX.K]; exact hb1 X tk1 te1 hX (hk1 X hX) (he1 X hX)
    · rw [← hX.K]; exact hb2 X tk2 te2 hX (hk2 X hX) (he2 X hX)
  · show tLc wi (gName i0) tYes (tLst tNil) [i0] σ H fun x H1 => tFor wl g _ D (σ.set i (some x)) H1
    refine ev_near0 ei re (LandS.expr re hA h fun ts ρ1 G1 H1 r1 f1 o1 af h1 => ?_)
    split at h1
    case isFalse => exact h1.elim
    rename_i hlen
    refine ⟨hlen.1, fun o bs G2 H2 r2 f2 n2 hf => ?_⟩
    have hfs : ∀ p ∈ o :: bs, Fs H p := fun p hp => f1.there p (hf p hp)
    have notO : ∀ {p : Addr}, p ∈ o :: bs → ¬ Own σ ρ p := fun {p} hp z => by
      obtain ⟨us, z1, _⟩ := re.own_some z
      exact (hfs p hp).lst z1
    have ow2 : ∀ p, Own σ (unwipe ρ1 [i0] (wipeR ρ1 [i0])) p → Own σ ρ p := fun p z => o1 p (own_wipe (own_unwipe z))
    have a2 : After S.K S.cl S.pn A σ G H (unwipe ρ1 [i0] (wipeR ρ1 [i0])) σ G2 H2 := ⟨r2, af.fr.trans (A' := NoA) f2 fun _ z => z.elim, fun p z => .inl (hA p (ow2 p z)), fun _ => rfl⟩
    have a3 : After S.K S.cl S.pn A σ G H ((unwipe ρ1 [i0] (wipeR ρ1 [i0])).set i .no) (σ.set i (some (.ref o))) G2 H2 := ⟨rel_no r2, a2.fr, fun p z => a2.own p (own_no z), fun e => by rw [List.getElem?_set_ne (hp e).1]⟩
    have hil : i < σ.length := by rw [← r1.len]; exact hlen.2
    have si : (σ.set i (some (V.ref o)))[i]? = some (some (V.ref o)) := List.getElem?_set_self hil
    have ow3 : ∀ p, Own (σ.set i (some (.ref o))) ((unwipe ρ1 [i0] (wipeR ρ1 [i0])).set i .no) p → Own σ ρ p := fun p z => ow2 p (own_no z)
    generalize σ.set i (some (V.ref o)) = σ3 at a3 si ow3 ⊢
    generalize (unwipe ρ1 [i0] (wipeR ρ1 [i0])).set i .no = ρ3 at a3 h1 ow3
    refine el σ3 ρ3 G2 H2 _ a3.rel ?_
    cases q0 : φl ρ3 with
    | stuck => rw [q0] at h1; exact h1.elim
    | rs c x => rw [q0] at h1; exact fun G' H' d f xd => h1 σ3 G' H' d (a3.fr.trans f fun p z => a3.own p z) xd
    | ok ls ρ4 =>
    rw [q0] at h1
    intro G4 H4 r4 f4 o4 J yl
    have h4 := h1
    unfold Rz.out at h4
    dsimp only at h4
    split at h4
    case h_2 => exact h4.elim
    rename_i tss ρ5 hgo
    have n4 := n2.keep f4 fun p hp z => notO hp (ow3 p z)
    have a4 := a3.trans (After.ex (A := fun p => A p ∨ Fs H p) a3.rel a3.own r4 f4 o4)
    refine for_it yl.walk (fun k σ' H' => ∃ G' ρ' tss', After S.K S.cl S.pn A σ G H ρ' σ' G' H' ∧ Same G4 G' ∧ σ'[i]? = some (some (.ref o)) ∧ (∀ p, Own σ' ρ' p → Own σ ρ p) ∧ Nest S.K S.cl G' H' o bs tss' ∧ nearGo γ κ1 φ1 κ2 φ2 (ls.drop k) tss' ρ' = some (tss, ρ5))
      ⟨G4, ρ4, _, a4, Same.refl _, si, fun p z => ow3 p (o4 p z), n4, by rw [List.drop_zero]; exact hgo⟩ (fun k σ' H' _ ⟨G', ρ', tss', a, s, _⟩ => s.trans a.rel.same.same) (fun k x σ' H' H5 hk ⟨G', ρ', tss', a, s, si', ow', n', hg'⟩ yd => ?_) fun σ' H' ⟨G', ρ', tss', a, s, si', ow', n', hg'⟩ => ?_
    · obtain ⟨t, G5, et, f5, s5, d5⟩ := yd G' s a.rel.same
      rw [drop_at et] at hg'
      unfold nearGo at hg'
      cases q : γ t ρ' with
      | none => rw [q] at hg'; cases hg'
      | some ρ6 =>
      rw [q] at hg'
      dsimp only at hg'
      split at hg'
      · cases hg'
      rename_i tss7 ρ7 q7
      split at hg'
      · cases hg'
      rename_i tss8 ρ8 q8
      have a5 := after_fr a f5 s5
      have n5 := n'.keep f5 fun _ _ z => z
      refine eg σ' ρ' G5 H5 x t ρ6 _ a5.rel d5 q fun σ6 r6 l6 k6 o6 => ?_
      have si6 : σ6[i]? = some (some (V.ref o)) := (k6 i hij).trans si'
      have ow6 : ∀ p, Own σ6 ρ6 p → Own σ ρ p := fun p z => ow' p (o6 p z)
      unfold tSeq tDrop
      dsimp only
      refine ev_nearAdd ek1 ee1 r6 n5 si6 (fun p hp z => notO hp (ow6 p z)) q7 fun G7 H7 r7 n7 o7 f7 => ?_
      have ow7 : ∀ p, Own σ6 ρ7 p → Own σ ρ p := fun p z => ow6 p (o7 p z)
      refine ev_nearAdd ek2 ee2 r7 n7 si6 (fun p hp z => notO hp (ow7 p z)) q8 fun G8 H8 r8 n8 o8 f8 => ?_
      have ow8 : ∀ p, Own σ6 ρ8 p → Own σ ρ p := fun p z => ow7 p (o8 p z)
      have fr7 : Fr A G H G7 H7 := a5.fr.trans f7 fun p z => z.elim (fun z => .inl (hA p (ow6 p z))) fun z => .inr (hfs p (List.mem_cons_of_mem _ z))
      have fr8 : Fr A G H G8 H8 := fr7.trans f8 fun p z => z.elim (fun z => .inl (hA p (ow7 p z))) fun z => .inr (hfs p (List.mem_cons_of_mem _ z))
      exact ⟨G8, ρ8, tss8, ⟨r8, fr8, fun p z => .inl (hA p (ow8 p z)), fun e => (k6 0 (hp e).2).trans (a.pin e)⟩, s.trans (f5.gg.trans (f7.gg.trans f8.gg)), si6, ow8, n8, hg'⟩
    · rw [List.drop_length] at hg'
      unfold nearGo at hg'
      cases hg'
      obtain ⟨s6, g6, d6⟩ := n'.frz a.rel.same
      have nf : ∀ p, Own σ' ρ5 p → frzN G' H' (o :: bs) p = none := fun p z => by
        unfold frzN
        rw [if_neg fun hp => notO hp (ow' p z)]
        obtain ⟨us, _, z2⟩ := a.rel.own_some z
        exact z2
      have r6 := rel_frzN a.rel s6 g6 nf
      have r7 := rel_vaAt r6 si' d6
      refine h4 σ' _ H' ⟨r7, ⟨a.fr.gg.trans g6, a.fr.keep, fun p x e n0 => ?_, a.fr.there⟩, fun p z => .inl (hA p (ow' p ?_)), a.pin⟩
      · by_cases hp : p ∈ o :: bs
        · exact .inl (hfs p hp)
        · unfold frzN at e
          rw [if_neg hp] at e
          exact a.fr.new p x e n0
      · obtain ⟨j, us, e1, e2⟩ := z
        rcases getElem?_set' e1 with ⟨_, z, _⟩ | ⟨ne, e1⟩
        · cases z
        · exact ⟨j, us, e1, e2⟩
end
/-! ### a tuple times a number -/
def gRepT (t u : T) : Option T := match t, u with
  | .tup xs, .int k => if 0 < xs.length ∧ 2 ≤ k ∧ k ≤ 1000 ∧ xs.length ≤ 1000 then some (.tup (List.replicate k.toNat xs).flatten) else none
  | _, _ => none
theorem rv_repT {K : PySem.W.Frag} {cl : Cl} : RvF K cl (rRepT K) gRepT := by
  intro G H x y t u z Q sm dt du e k
  unfold gRepT at e
  split at e
  · rename_i xs k'
    split at e
    · rename_i h
      cases e
      obtain ⟨a, vs, e1, s1, d1⟩ := dt.tup_of
      refine ⟨a, k', vs, e1, du.int_of, same_seqT sm.same s1, fun z => ?_, h.2.1, h.2.2.1, by rw [← d1.len]; exact h.2.2.2, fun p hp => ?_⟩
      · have := h.1
        rw [d1.len, z] at this
        exact absurd this (Nat.lt_irrefl 0)
      · have f := Fr.frz (A := NoA) (o := .tup (List.replicate k'.toNat vs).flatten) hp sm
        exact k _ _ _ (sm_upd2 sm hp) f (den_tup (.inl (.inl upd_same)) ((d1.reps _).mono f.gg))
    · cases e
  · cases e
theorem pef_repT {S : SC} {a b : Expr} {φa φb : Rho → Rz T} {pos : Pos} (ha : PEF S a φa) (hb : PEF S b φb) : PEF S (.BinOp a .Mult b pos) (fBin gRepT φa φb) := pef_op (fun X hX => hX.opK op_repT) rv_repT ha hb
end Fx
namespace Fx
open PySem PySem.Spec PyProof.Rows L2

/-! ### defs called with keyword-only parameters: f(a, .., k = v, ..) -/
structure DefK (g : GC) (k : Nat) (x : Str) (n : Nat) (ks : List Str) (φ : List T → FR) : Prop where
  ex : ∃ (f : Addr) (fd : FuncData) (ps : List Str), FnOk g.P g.w g.K g.mg g.base (L2N.CX g.P g.w) k f fd ps (SpP g.K g.cl φ) ∧ g.mg x = some (.ref f) ∧ PySem.W.keepIn g.K (.ref f) = true ∧ KBn g.K fd ps n ks (fun us ws => us ++ ws) (fun vs zs => vs ++ zs)
  len : ∀ ts, φ ts ≠ .stuck → ts.length = n + ks.length
theorem vals_app {vs zs : List V} {us ws : List Value} (h : Vals vs us) (h2 : Vals zs ws) : Vals (vs ++ zs) (us ++ ws) := by
  induction h with
  | nil => exact h2
  | cons r _ ih => exact .cons r ih
theorem kbn_of {K : PySem.W.Frag} {x qual : Str} {st : Stmt} {f : Addr} {fd : FuncData} {ps ks : List Str} {n : Nat} (F : Fun K x qual st f fd)
    (h : ∀ (kV doc pm : Value) (an : Option Addr) (cdv ct : Value) (us ws : List Value), us.length = n → ws.length = ks.length → bindArgs (PySem.W.fnOf x qual (defArgs st) (defBody st) (defScope st) .none kV doc pm an cdv ct) ⟨us, ks.zip ws⟩ = pure (ps.zip (us ++ ws))) : KBn K fd ps n ks (fun us ws => us ++ ws) (fun vs zs => vs ++ zs) := by
  obtain ⟨oc, od, kV, doc, pm, an, cdv, ct, osl, rfl, lk, hcd⟩ := F.ex
  exact ⟨fun s us ws _ l1 l2 => .of_eq (h kV doc pm an cdv ct us ws l1 l2), fun r1 r2 => vals_app r1 r2⟩
theorem fnP_len {N n : Nat} {ψ : Rho → Out} : ∀ ts, fnP N n ψ ts ≠ .stuck → ts.length = n := fun ts h => by
  unfold fnP at h
  by_cases e : ts.length = n
  · exact e
  · rw [if_neg e] at h; exact absurd rfl h
theorem defk_of {g : GC} {x qual : Str} {st : Stmt} {f : Addr} {fd : FuncData} {N ps ks : List Str} {k n : Nat} {mk : Option (Addr × Str)} {ψ : Rho → Out} (F : Fun g.K x qual st f fd) (S : FnScope N ps (defScope st)) (hm : g.mg x = some (.ref f)) (hb : KBn g.K fd ps n ks (fun us ws => us ++ ws) (fun vs zs => vs ++ zs)) (hps : ps.length = n + ks.length) (hN : ps.length ≤ N.length) (body : ∀ E, PSsF (mkS g N (defScope st) k E false mk) (defBody st) ψ) (hmk : MkOk mk qual (defScope st) fd.code := by exact mk_none) : DefK g (k + 1) x n ks (fnP N.length ps.length ψ) :=
  ⟨⟨f, fd, ps, fnp_of F S hN body hmk, hm, F.kp, hb⟩, fun ts h => by rw [← hps]; exact fnP_len ts h⟩
def tCallK (n m : Nat) (sp : Sp) (E : L2.St → XK) (t tk : TA) : TE := fun σ H Q => t σ H fun vs H1 => tk σ H1 fun zs H2 => vs.length = n ∧ zs.length = m ∧ sp (vs ++ zs) H2 Q (E σ)
theorem pe_callK {X : Cx} {CX : CXT} {k n : Nat} {f : Addr} {fd : FuncData} {ps ks : List Str} {sp : Sp} {E : L2.St → XK} {x : Str} {p pos : Pos} {e : Expr} {es : List Expr} {kws : List Keyword} {t tk : TA}
    (F : FnOk X.prog X.w X.K X.mg X.base CX k f fd ps sp) (hr : Room k X.A) (hg : Gl X x) (hm : X.mg x = some (.ref f)) (hk : PySem.W.keepIn X.K (.ref f) = true) (hb : KBn X.K fd ps n ks (fun us ws => us ++ ws) (fun vs zs => vs ++ zs)) (hx : ∀ σ, PassesAt CX X σ (E σ))
    (ha : PA X (e :: es) t) (hkw : PK X kws tk) (hall : (backToKw pos (keywordEach kws X.env)).all (·.1.isSome) = true) (hks : (backToKw pos (keywordEach kws X.env)).filterMap (·.1) = ks)
    (hdb : (x == ("__debug__" : Str)) = false) (he : starEach (e :: es) X.env = (false, eval e X.env) :: starEach es X.env)
    (hpl : ((backTo pos (starEach (e :: es) X.env)).any (·.1) || (backToKw pos (keywordEach kws X.env)).any (·.1.isNone)) = false) :
    PE X (.Call (.Name x p) (e :: es) kws pos) (tCallK n ks.length sp E t tk) := by
  refine ⟨fun pins s σ H Q I h => ?_⟩
  refine wpAny_Call_Name_kw (ld_glob I hg hm ?_ hdb)
  refine PySem.W.callWith_KW (h₀ := X.base) I.ok.mod.kin hk hall (thn (ha.run pos pins s σ H _ I h) fun us s1 ⟨vs, H1, I1, r, q⟩ => ?_) hpl he
  refine thn (hkw.run pos pins s1 σ H1 _ I1 q) fun ws s2 ⟨zs, H2, I2, rz, l1, l2, q2⟩ => ⟨I2.kIn, ?_⟩
  rw [hks]
  have r2 := hb.rel r rz
  refine wpAny_call (codeAny_mono (F.run X.A X.stack s2 H2 ⟨us, ks.zip ws⟩ (us ++ ws) (vs ++ zs) Q (E σ) hr I2.env0 (hb.to s2 us ws I2.kIn (r.length.symm.trans l1) (rz.length.symm.trans l2)) r2 q2) fun r s' hq => ?_)
  cases r with
  | error e => exact hx σ pins H2 s2 e s' I2 hq
  | ok fl =>
    cases fl with
    | ret u => exact I2.after hq
    | next => exact False.elim hq
    | brk => exact False.elim hq
    | cont => exact False.elim hq
/-- the keywords' values behind the positional ones -/
def fKw (a : Rho → Rz (List T)) (b : Rho → Rz T) : Rho → Rz (List T) := fun ρ => (a ρ).bind fun ts ρ1 => (b ρ1).bind fun u ρ2 => .ok (ts ++ [u]) ρ2
section
variable {S : SC} {k n : Nat} {x y : Str} {e e2 : Expr} {es : List Expr} {φs : Rho → Rz (List T)} {φk : Rho → Rz T} {p pos kpos : Pos}
theorem st_callK {sp : Sp} {ta tb : TE} {t : TA} {φ : List T → FR} (D : DefK S.toGC k x n [y] φ) (hk : k ≤ S.k) (hg : S.sc.names.lookup x = some .globalImplicit) (ha : ∀ X, S.Is X → PA X (e :: es) t) (hb : ∀ X, S.Is X → PE X e2 tb) (hdb : (x == ("__debug__" : Str)) = false)
    (he : ∀ X : Cx, starEach (e :: es) X.env = (false, eval e X.env) :: starEach es X.env)
    (hall : ∀ X : Cx, (backToKw pos (keywordEach [⟨some y, e2, kpos⟩] X.env)).all (·.1.isSome) = true) (hks : ∀ X : Cx, (backToKw pos (keywordEach [⟨some y, e2, kpos⟩] X.env)).filterMap (·.1) = [y])
    (hpl : ∀ X : Cx, ((backTo pos (starEach (e :: es) X.env)).any (·.1) || (backToKw pos (keywordEach [⟨some y, e2, kpos⟩] X.env)).any (·.1.isNone)) = false) (X : Cx) (hX : S.Is X) :
    PE X (.Call (.Name x p) (e :: es) [⟨some y, e2, kpos⟩] pos) (tCallK n 1 (SpP S.K S.cl φ) (WE S.W) t (tCons tb tNil)) := by
  obtain ⟨f, fd, ps, F, hm, hkp, hbn⟩ := D.ex
  refine pe_callK (k := k) (f := f) (fd := fd) (ps := ps) (ks := [y]) ?_ (hX.room.mono hk) (hX.gl hg) (by rw [hX.mg]; exact hm) (by rw [hX.K]; exact hkp) (by rw [hX.K]; exact hbn) (fun σ => L2N.passAt hX.tk σ) (ha X hX) (pk_cons (hb X hX) pk_nil) (hall X) (hks X) hdb (he X) (hpl X)
  rw [hX.prog, hX.w, hX.K, hX.mg, hX.base]
  exact F
theorem pef_callK {φ : List T → FR} (D : DefK S.toGC k x n [y] φ) (hk : k ≤ S.k) (hg : S.sc.names.lookup x = some .globalImplicit) (ha : PAF S (e :: es) φs) (hb : PEF S e2 φk) (hdb : (x == ("__debug__" : Str)) = false := by decide)
    (he : ∀ X : Cx, starEach (e :: es) X.env = (false, eval e X.env) :: starEach es X.env := by intro _; rfl)
    (hall : ∀ X : Cx, (backToKw pos (keywordEach [⟨some y, e2, kpos⟩] X.env)).all (·.1.isSome) = true := by intro _; rfl) (hks : ∀ X : Cx, (backToKw pos (keywordEach [⟨some y, e2, kpos⟩] X.env)).filterMap (·.1) = [y] := by intro _; rfl)
    (hpl : ∀ X : Cx, ((backTo pos (starEach (e :: es) X.env)).any (·.1) || (backToKw pos (keywordEach [⟨some y, e2, kpos⟩] X.env)).any (·.1.isNone)) = false := by intro _; rfl) :
    PEF S (.Call (.Name x p) (e :: es) [⟨some y, e2, kpos⟩] pos) (fDef φ (fKw φs φk)) := by
  obtain ⟨ta, ha, ea⟩ := ha
  obtain ⟨tb, hb, eb⟩ := hb
  refine ⟨_, fun X hX => st_callK (sp := SpP S.K S.cl φ) (ta := tb) D hk hg ha hb hdb he hall hks hpl X hX, fun σ ρ G H Q re h => ?_⟩
  have h : Lands S.K S.cl S.W σ ρ G H ((φs ρ).bind fun ts ρ1 => (φk ρ1).bind fun u ρ2 => match φ (ts ++ [u]) with | .va t => Rz.ok t ρ2 | .rs c x => .rs c x | _ => .stuck) (fun t _ G' H' => ∀ v, Den S.K S.cl G' t v → Q v H') := by
    unfold fDef fKw at h
    cases e1 : φs ρ with
    | ok ts ρ1 =>
      rw [e1] at h
      simp only [Rz.bind] at h ⊢
      cases e2 : φk ρ1 with
      | ok u ρ2 => rw [e2] at h; exact h
      | rs c x => rw [e2] at h; exact h
      | stuck => rw [e2] at h; exact h
    | rs c x => rw [e1] at h; exact h
    | stuck => rw [e1] at h; exact h
  refine ea σ ρ G H _ re ((Lands.bind h).imp fun ts ρ1 G1 H1 r1 f1 o1 h1 vs d => ?_)
  refine eb σ ρ1 G1 H1 _ r1 ((Lands.bind h1).imp fun u ρ2 G2 H2 r2 f2 o2 h2 w dw => ?_)
  have hlen : φ (ts ++ [u]) ≠ .stuck := fun z => by rw [z] at h2; exact h2.elim
  have hl := D.len _ hlen
  have dd : DenL S.K S.cl G2 (ts ++ [u]) (vs ++ [w]) := (d.mono f2.gg).append (DenL.cons dw DenL.nil)
  refine ⟨by rw [← d.len]; simpa using hl, rfl, G2, ts ++ [u], r2.same, dd, ?_⟩
  cases q : φ (ts ++ [u]) with
  | va t =>
    rw [q] at h2
    exact fun G' H' v s f d => h2.done r2 f s v d
  | ow us => rw [q] at h2; exact h2.elim
  | rs c x =>
    rw [q] at h2
    exact fun G' H' d f xd => h2 G' H' d f.noa xd
  | stuck => rw [q] at h2; exact h2.elim
theorem pof_callK {φ : List T → FR} (D : DefK S.toGC k x n [y] φ) (hk : k ≤ S.k) (hg : S.sc.names.lookup x = some .globalImplicit) (ha : PAF S (e :: es) φs) (hb : PEF S e2 φk) (hdb : (x == ("__debug__" : Str)) = false := by decide)
    (he : ∀ X : Cx, starEach (e :: es) X.env = (false, eval e X.env) :: starEach es X.env := by intro _; rfl)
    (hall : ∀ X : Cx, (backToKw pos (keywordEach [⟨some y, e2, kpos⟩] X.env)).all (·.1.isSome) = true := by intro _; rfl) (hks : ∀ X : Cx, (backToKw pos (keywordEach [⟨some y, e2, kpos⟩] X.env)).filterMap (·.1) = [y] := by intro _; rfl)
    (hpl : ∀ X : Cx, ((backTo pos (starEach (e :: es) X.env)).any (·.1) || (backToKw pos (keywordEach [⟨some y, e2, kpos⟩] X.env)).any (·.1.isNone)) = false := by intro _; rfl) :
    POF S (.Call (.Name x p) (e :: es) [⟨some y, e2, kpos⟩] pos) (fDefO φ (fKw φs φk)) := by
  obtain ⟨ta, ha, ea⟩ := ha
  obtain ⟨tb, hb, eb⟩ := hb
  refine ⟨_, fun X hX => st_callK (sp := SpP S.K S.cl φ) (ta := tb) D hk hg ha hb hdb he hall hks hpl X hX, fun σ ρ G H Q re h => ?_⟩
  have h : Lands S.K S.cl S.W σ ρ G H ((φs ρ).bind fun ts ρ1 => (φk ρ1).bind fun u ρ2 => match φ (ts ++ [u]) with | .ow t => Rz.ok t ρ2 | .rs c x => .rs c x | _ => .stuck) (fun ts _ G' H' => ∀ p us, Fs H p → G' p = none → H' p = some (.lst us) → DenL S.K S.cl G' ts us → Q (.ref p) H') := by
    unfold fDefO fKw at h
    cases e1 : φs ρ with
    | ok ts ρ1 =>
      rw [e1] at h
      simp only [Rz.bind] at h ⊢
      cases e2 : φk ρ1 with
      | ok u ρ2 => rw [e2] at h; exact h
      | rs c x => rw [e2] at h; exact h
      | stuck => rw [e2] at h; exact h
    | rs c x => rw [e1] at h; exact h
    | stuck => rw [e1] at h; exact h
  refine ea σ ρ G H _ re ((Lands.bind h).imp fun ts ρ1 G1 H1 r1 f1 o1 h1 vs d => ?_)
  refine eb σ ρ1 G1 H1 _ r1 ((Lands.bind h1).imp fun u ρ2 G2 H2 r2 f2 o2 h2 w dw => ?_)
  have hlen : φ (ts ++ [u]) ≠ .stuck := fun z => by rw [z] at h2; exact h2.elim
  have hl := D.len _ hlen
  have dd : DenL S.K S.cl G2 (ts ++ [u]) (vs ++ [w]) := (d.mono f2.gg).append (DenL.cons dw DenL.nil)
  refine ⟨by rw [← d.len]; simpa using hl, rfl, G2, ts ++ [u], r2.same, dd, ?_⟩
  cases q : φ (ts ++ [u]) with
  | va t => rw [q] at h2; exact h2.elim
  | ow us =>
    rw [q] at h2
    exact fun G' H' p ws s f hp gp hh d => h2.done r2 f s p ws (f1.there p (f2.there p hp)) gp hh d
  | rs c x =>
    rw [q] at h2
    exact fun G' H' d f xd => h2 G' H' d f.noa xd
  | stuck => rw [q] at h2; exact h2.elim
end
end Fx
namespace Fx
open PySem PySem.Spec PyProof.Rows L2

/-! ### the combinators, applied -/
section
variable {ρ : Rho} {i j n : Nat} {t : T} {α : Type}
@[simp] theorem fVar_ap : fVar i ρ = (match ρ[i]? with | some (.va t) => .ok t ρ | _ => .stuck) := byRfl rfl
@[simp] theorem fC_ap : fC t ρ = .ok t ρ := byRfl rfl
@[simp] theorem fBin_ap {g a b} : fBin g a b ρ = (a ρ).bind fun x ρ1 => (b ρ1).bind fun y ρ2 => Rz.of (g x y) ρ2 := byRfl rfl
@[simp] theorem fNeg_int {a : Rho → Rz T} : fNeg a ρ = (a ρ).bind fun x ρ1 => match x with | .int k => .ok (.int (-k)) ρ1 | _ => .stuck := byRfl rfl
@[simp] theorem fAnd_ap {a b} : fAnd a b ρ = (a ρ).bind fun x ρ1 => if x then b ρ1 else .ok false ρ1 := byRfl rfl
@[simp] theorem fOr_ap {a b} : fOr a b ρ = (a ρ).bind fun x ρ1 => if x then .ok true ρ1 else b ρ1 := byRfl rfl
@[simp] theorem fNot_ap {a} : fNot a ρ = (a ρ).bind fun x ρ1 => .ok (!x) ρ1 := byRfl rfl
@[simp] theorem fIf_ap {c} {a b : Rho → Rz α} : fIf c a b ρ = (c ρ).bind fun x ρ1 => if x then a ρ1 else b ρ1 := byRfl rfl
@[simp] theorem fNil_ap : fNil ρ = .ok [] ρ := byRfl rfl
@[simp] theorem fCons_ap {a b} : fCons a b ρ = (a ρ).bind fun x ρ1 => (b ρ1).bind fun xs ρ2 => .ok (x :: xs) ρ2 := byRfl rfl
@[simp] theorem fTup_ap {a} : fTup a ρ = (a ρ).bind fun xs ρ1 => if xs.length ≤ sizeLine then .ok (.tup xs) ρ1 else .stuck := byRfl rfl
@[simp] theorem fLst_ap {a} : fLst a ρ = (a ρ).bind fun xs ρ1 => if xs.length ≤ sizeLine then .ok xs ρ1 else .stuck := byRfl rfl
@[simp] theorem fFz_ap {a} : fFz a ρ = (a ρ).bind fun xs ρ1 => .ok (.lst xs) ρ1 := byRfl rfl
@[simp] theorem fPn_ap : fPn ρ = .ok none ρ := byRfl rfl
@[simp] theorem fSl_ap {a l h} : fSl a l h ρ = (a ρ).bind fun x ρ1 => (l ρ1).bind fun lo ρ2 => (h ρ2).bind fun hi ρ3 => Rz.of (gSl x lo hi) ρ3 := byRfl rfl
@[simp] theorem fCall_ap {g a} : fCall g a ρ = (a ρ).bind fun xs ρ1 => Rz.of (g xs) ρ1 := byRfl rfl
@[simp] theorem fYes_ap : fYes ρ = .ok true ρ := byRfl rfl
def roK (r : Rz T) (ρ : Rho) : Rz T := match r with
  | .ok t _ => if flatT t then .ok t ρ else .stuck
  | _ => .stuck
def roB (r : Rz Bool) (ρ : Rho) : Rz Bool := match r with
  | .ok t _ => .ok t ρ
  | _ => .stuck
@[simp] theorem roK_ok {t ρ1} : roK (.ok t ρ1) ρ = if flatT t then .ok t ρ else .stuck := byRfl rfl
@[simp] theorem roB_ok {t ρ1} : roB (.ok t ρ1) ρ = .ok t ρ := byRfl rfl
@[simp] theorem roK_ite {p : Prop} [Decidable p] {a b : Rz T} : roK (if p then a else b) ρ = if p then roK a ρ else roK b ρ := by split <;> rfl
@[simp] theorem roB_ite {p : Prop} [Decidable p] {a b : Rz Bool} : roB (if p then a else b) ρ = if p then roB a ρ else roB b ρ := by split <;> rfl
@[simp] theorem fRo_ap {φ} : fRo φ ρ = roK (φ (frzAll ρ)) ρ := by unfold fRo roK; rfl
@[simp] theorem fRoT_ap {φ} : fRoT φ ρ = roB (φ (frzAll ρ)) ρ := by unfold fRoT roB; rfl
def FR.rz : FR → Rho → Rz T
  | .va t, ρ => .ok t ρ
  | .rs c x, _ => .rs c x
  | _, _ => .stuck
def FR.rzO : FR → Rho → Rz (List T)
  | .ow t, ρ => .ok t ρ
  | .rs c x, _ => .rs c x
  | _, _ => .stuck
def FO.rz (i : Nat) : FO → Rho → Rz T
  | .va t ts', ρ => .ok t (ρ.set i (.ow ts'))
  | .rs c x, _ => .rs c x
  | .stuck, _ => .stuck
@[simp] theorem FR.rz_va : (FR.va t).rz ρ = .ok t ρ := byRfl rfl
@[simp] theorem FR.rz_rs {c x} : (FR.rs c x).rz ρ = .rs c x := byRfl rfl
@[simp] theorem FR.rzO_ow {ts} : (FR.ow ts).rzO ρ = .ok ts ρ := byRfl rfl
@[simp] theorem FR.rzO_rs {c x} : (FR.rs c x).rzO ρ = .rs c x := byRfl rfl
@[simp] theorem FO.rz_va {ts} : (FO.va t ts).rz i ρ = .ok t (ρ.set i (.ow ts)) := byRfl rfl
@[simp] theorem FO.rz_rs {c x} : (FO.rs c x).rz i ρ = .rs c x := byRfl rfl
@[simp] theorem FR.rz_ite {p : Prop} [Decidable p] {a b : FR} : (if p then a else b).rz ρ = if p then a.rz ρ else b.rz ρ := by split <;> rfl
@[simp] theorem FR.rzO_ite {p : Prop} [Decidable p] {a b : FR} : (if p then a else b).rzO ρ = if p then a.rzO ρ else b.rzO ρ := by split <;> rfl
@[simp] theorem fDef_ap {φ φs} : fDef φ φs ρ = (φs ρ).bind fun ts ρ1 => (φ ts).rz ρ1 := by
  show (φs ρ).bind _ = _; congr 1; funext ts ρ1; cases φ ts <;> rfl
@[simp] theorem fDefO_ap {φ φs} : fDefO φ φs ρ = (φs ρ).bind fun ts ρ1 => (φ ts).rzO ρ1 := by
  show (φs ρ).bind _ = _; congr 1; funext ts ρ1; cases φ ts <;> rfl
@[simp] theorem isOw_ap : isOw ρ i = (match ρ[i]? with | some (.ow ts) => some ts | _ => none) := byRfl rfl
@[simp] theorem fDef1_ap {φ φs} : fDef1 i φ φs ρ = match isOw ρ i with
  | none => .stuck
  | some _ => (φs ρ).bind fun as ρ1 => match isOw ρ1 i with
    | none => .stuck
    | some ts => (φ ts as).rz i ρ1 := by
  unfold fDef1
  cases isOw ρ i with
  | none => rfl
  | some z =>
    show (φs ρ).bind _ = (φs ρ).bind _
    congr 1; funext as ρ1
    cases isOw ρ1 i with
    | none => rfl
    | some ts =>
      show (match φ ts as with | .va t ts' => _ | .rs c x => _ | .stuck => _) = (φ ts as).rz i ρ1
      cases φ ts as <;> rfl
@[simp] theorem fIxO_ap {φk} : fIxO i φk ρ = match isOw ρ i with
  | some _ => (φk ρ).bind fun k ρ1 => match k, isOw ρ1 i with
    | .int k, some ts => Rz.of (atT ts k) ρ1
    | _, _ => .stuck
  | none => .stuck := byRfl rfl
@[simp] theorem fPop_ap : fPop i ρ = match isOw ρ i with
  | some ts => match ts[ts.length - 1]? with
    | some t => .ok t (ρ.set i (.ow ts.dropLast))
    | none => .stuck
  | none => .stuck := byRfl rfl
@[simp] theorem sPut_ap {φ φk} : sPut i φ φk ρ = (φ ρ).out fun t ρ1 => match isOw ρ1 i with
  | some _ => (φk ρ1).out fun k ρ2 => match k, isOw ρ2 i with
    | .int k, some ts => match L2.ixN ts.length k with
      | some j => .nx (ρ2.set i (.ow (ts.set j t)))
      | none => .stuck
    | _, _ => .stuck
  | none => .stuck := byRfl rfl
@[simp] theorem sApp_ap {φ} : sApp i φ ρ = match isOw ρ i with
  | some _ => (φ ρ).out fun t ρ1 => match isOw ρ1 i with
    | some ts => if ts.length < sizeLine then .nx (ρ1.set i (.ow (ts ++ [t]))) else .stuck
    | none => .stuck
  | none => .stuck := byRfl rfl
@[simp] theorem sFrz_ap {ψ} : sFrz i ψ ρ = match ρ[i]? with
  | some (.ow ts) => ψ (ρ.set i (.va (.lst ts)))
  | _ => .stuck := byRfl rfl
@[simp] theorem sRetMv_ap : sRetMv i ρ = match ρ[i]? with
  | some (.ow ts) => .rt (.ow ts) (ρ.set i .no)
  | _ => .stuck := byRfl rfl
@[simp] theorem fItems_ap {φ} : fItems φ ρ = (φ ρ).bind fun t ρ1 => Rz.of (itemsT t) ρ1 := byRfl rfl
@[simp] theorem sNext_ap : sNext ρ = .nx ρ := byRfl rfl
@[simp] theorem sSeq_ap {a b} : sSeq a b ρ = (a ρ).bind b := byRfl rfl
@[simp] theorem sBreak_ap : sBreak ρ = .bk ρ := byRfl rfl
@[simp] theorem sCont_ap : sCont ρ = .ct ρ := byRfl rfl
@[simp] theorem sDrop_ap {φ} : sDrop φ ρ = (φ ρ).out fun _ ρ1 => .nx ρ1 := byRfl rfl
@[simp] theorem sSet_ap {φ} : sSet i φ ρ = (φ ρ).out fun t ρ1 => .nx (ρ1.set i (.va t)) := byRfl rfl
@[simp] theorem sSetO_ap {φ} : sSetO i φ ρ = (φ ρ).out fun t ρ1 => .nx (ρ1.set i (.ow t)) := byRfl rfl
@[simp] theorem sRet_ap {φ} : sRet φ ρ = (φ ρ).out fun t ρ1 => .rt (.va t) ρ1 := byRfl rfl
@[simp] theorem sRetO_ap {φ} : sRetO φ ρ = (φ ρ).out fun t ρ1 => .rt (.ow t) ρ1 := byRfl rfl
@[simp] theorem sRetN_ap : sRetN ρ = .rt (.va .non) ρ := byRfl rfl
@[simp] theorem sIf_ap {c a b} : sIf c a b ρ = (c ρ).out fun k ρ1 => if k then a ρ1 else b ρ1 := byRfl rfl
@[simp] theorem sRaise_ap {c} : sRaise c ρ = .rs c none := byRfl rfl
@[simp] theorem sAsg_ap {φ γ} : sAsg φ γ ρ = (φ ρ).out fun t ρ1 => match γ t ρ1 with | some ρ2 => .nx ρ2 | none => .stuck := byRfl rfl
@[simp] theorem sFor_ap {it γ body} : sFor it γ body ρ = (it ρ).out fun ts ρ1 => forGo γ body ts ρ1 := byRfl rfl
@[simp] theorem sWhile_ap {c body} : sWhile n c body ρ = whileGo c body n ρ := byRfl rfl
@[simp] theorem sPar_ap {a b} : sPar i j a b ρ = (a ρ).out fun t ρ1 => (b ρ1).out fun u ρ2 => .nx ((ρ2.set i (.va t)).set j (.va u)) := byRfl rfl
@[simp] theorem sParO_ap {a b} : sParO i j a b ρ = (a ρ).out fun t ρ1 => (b ρ1).out fun u ρ2 => .nx ((ρ2.set i (.va t)).set j (.ow u)) := byRfl rfl
@[simp] theorem tgN_ap : tgN i t ρ = some (ρ.set i (.va t)) := byRfl rfl
end
/-! ### choices -/
def ifT {α : Type} (o : Option T) (a b : Rz α) : Rz α := match o with
  | some (.bl true) => a
  | some (.bl false) => b
  | _ => .stuck
@[simp] theorem ifT_bl {α : Type} {k : Bool} {a b : Rz α} : ifT (some (.bl k)) a b = if k then a else b := by cases k <;> rfl
@[simp] theorem ifT_map {α : Type} {k : Bool} {a b : Rz α} : ifT (Option.map T.bl (some k)) a b = if k then a else b := by cases k <;> rfl
section
variable {ρ : Rho} {i : Nat}
@[simp] theorem bind_ite {α β : Type} {p : Prop} [Decidable p] {a b : Rz α} {f : α → Rho → Rz β} : (if p then a else b).bind f = if p then a.bind f else b.bind f := by split <;> rfl
@[simp] theorem out_ite {α : Type} {p : Prop} [Decidable p] {a b : Rz α} {f : α → Rho → Out} : (if p then a else b).out f = if p then a.out f else b.out f := by split <;> rfl
@[simp] theorem obind_ite {p : Prop} [Decidable p] {a b : Out} {f : Rho → Out} : (if p then a else b).bind f = if p then a.bind f else b.bind f := by split <;> rfl
@[simp] theorem fChain_ap {g g' a b c} : fChain g g' a b c ρ = (a ρ).bind fun x ρ1 => (b ρ1).bind fun y ρ2 => ifT (g x y) ((c ρ2).bind fun z ρ3 => Rz.of (g' y z) ρ3) (.ok (.bl false) ρ2) := byRfl rfl
@[simp] theorem fAndV_ap {a b} : fAndV a b ρ = (a ρ).bind fun x ρ1 => ifT (some x) (b ρ1) (.ok (.bl false) ρ1) := by
  unfold fAndV; congr 1; funext x ρ1
  cases x <;> try rfl
  rename_i b; cases b <;> rfl
@[simp] theorem fOrV_ap {a b} : fOrV a b ρ = (a ρ).bind fun x ρ1 => ifT (some x) (.ok (.bl true) ρ1) (b ρ1) := by
  unfold fOrV; congr 1; funext x ρ1
  cases x <;> try rfl
  rename_i b; cases b <;> rfl
@[simp] theorem fTest_ap {a} : fTest a ρ = (a ρ).bind fun x ρ1 => match x with | .bl k => .ok k ρ1 | _ => .stuck := byRfl rfl
@[simp] theorem fNotV_ap {a} : fNotV a ρ = (a ρ).bind fun x ρ1 => match x with | .bl k => .ok (.bl (!k)) ρ1 | _ => .stuck := byRfl rfl
@[simp] theorem fPs_ap {a} : fPs a ρ = (a ρ).bind fun x ρ1 => match x with | .int i => .ok (some i) ρ1 | _ => .stuck := byRfl rfl
def frOf : Out → FR
  | .rt (.va t) _ => .va t
  | .rt (.ow us) _ => .ow us
  | .nx _ => .va .non
  | .rs c x => .rs c x
  | _ => .stuck
@[simp] theorem frOf_va {t ρ} : frOf (.rt (.va t) ρ) = .va t := byRfl rfl
@[simp] theorem frOf_ow {t ρ} : frOf (.rt (.ow t) ρ) = .ow t := byRfl rfl
@[simp] theorem frOf_nx {ρ} : frOf (.nx ρ) = .va .non := byRfl rfl
@[simp] theorem frOf_rs {c x} : frOf (.rs c x) = .rs c x := byRfl rfl
@[simp] theorem frOf_ite {p : Prop} [Decidable p] {a b : Out} : frOf (if p then a else b) = if p then frOf a else frOf b := by split <;> rfl
@[simp] theorem fnP_ap {N n ψ ts} : fnP N n ψ ts = if ts.length = n then frOf (ψ (ts.map .va ++ List.replicate (N - n) .no)) else .stuck := by
  unfold fnP; split
  · cases ψ (ts.map .va ++ List.replicate (N - n) .no) with
    | rt r ρ => cases r <;> rfl
    | _ => rfl
  · rfl
def foOf : Out → FO
  | .rt (.va t) ρ => (match isOw ρ 0 with
    | some ts => .va t ts
    | none => .stuck)
  | .nx ρ => (match isOw ρ 0 with
    | some ts => .va .non ts
    | none => .stuck)
  | .rs c x => .rs c x
  | _ => .stuck
@[simp] theorem foOf_va {t ts ρ} : foOf (.rt (.va t) (.ow ts :: ρ)) = .va t ts := byRfl rfl
@[simp] theorem foOf_nx {ts ρ} : foOf (.nx (.ow ts :: ρ)) = .va .non ts := byRfl rfl
@[simp] theorem foOf_rs {c x} : foOf (.rs c x) = .rs c x := byRfl rfl
@[simp] theorem foOf_ite {p : Prop} [Decidable p] {a b : Out} : foOf (if p then a else b) = if p then foOf a else foOf b := by split <;> rfl
@[simp] theorem fnO_ap {N n ψ os as} : fnO N n ψ os as = if as.length = n then foOf (ψ (.ow os :: (as.map .va ++ List.replicate (N - (n + 1)) .no))) else .stuck := by
  unfold fnO; split
  · cases ψ (.ow os :: (as.map .va ++ List.replicate (N - (n + 1)) .no)) with
    | rt r ρ => cases r <;> rfl
    | _ => rfl
  · rfl
end
@[simp] theorem bind_mat_ok {α β : Type} {a : α} {ρ : Rho} {f : α → Rho → Rz β} : (Rz.ok a ρ).bind f = f a ρ := byRfl rfl
@[simp] theorem lcGo_nil {γ tt te vs ρ} : lcGo γ tt te vs [] ρ = .ok [] ρ := byRfl rfl
@[simp] theorem forGo_nil {γ body ρ} : forGo γ body [] ρ = .nx ρ := byRfl rfl

/-! ### loops -/
theorem _root_.List.take_append_of_le_length_add_one {α : Type} (a : α) (xs done : List α) : (done ++ a :: xs).take (done.length + 1) = done ++ [a] := by
  rw [List.take_append, List.take_of_length_le (Nat.le_succ _)]
  simp
theorem lc_map {α : Type} {γ : T → Rho → Option Rho} {te : Rho → Rz T} {vs : List Nat} {ρ : Rho} (g f : α → T) : ∀ (xs : List α), (∀ a ∈ xs, ∃ ρ1 ρ2, γ (g a) ρ = some ρ1 ∧ te ρ1 = .ok (f a) ρ2 ∧ wipeR ρ2 vs = ρ) → lcGo γ fYes te vs (xs.map g) ρ = .ok (xs.map f) ρ
  | [], _ => rfl
  | a :: xs, h => by
    obtain ⟨ρ1, ρ2, h1, h2, h3⟩ := h a List.mem_cons_self
    have ih := lc_map (γ := γ) (te := te) (vs := vs) (ρ := ρ) g f xs fun b hb => h b (List.mem_cons_of_mem _ hb)
    show lcGo γ fYes te vs (g a :: xs.map g) ρ = _
    unfold lcGo
    rw [h1]
    simp only [fYes_ap, Rz.bind_ok, if_true, h2, h3, ih]
    rfl
theorem lc_filter {α : Type} {γ : T → Rho → Option Rho} {tt : Rho → Rz Bool} {te : Rho → Rz T} {vs : List Nat} {ρ : Rho} (g f : α → T) (p : α → Bool) : ∀ (xs : List α),
    (∀ a ∈ xs, ∃ ρ1 ρ2, γ (g a) ρ = some ρ1 ∧ tt ρ1 = .ok (p a) ρ2 ∧ (p a = false → wipeR ρ2 vs = ρ) ∧ (p a = true → ∃ ρ3, te ρ2 = .ok (f a) ρ3 ∧ wipeR ρ3 vs = ρ)) → lcGo γ tt te vs (xs.map g) ρ = .ok ((xs.filter p).map f) ρ
  | [], _ => rfl
  | a :: xs, h => by
    obtain ⟨ρ1, ρ2, h1, h2, h3, h4⟩ := h a List.mem_cons_self
    have ih := lc_filter (γ := γ) (tt := tt) (te := te) (vs := vs) (ρ := ρ) g f p xs fun b hb => h b (List.mem_cons_of_mem _ hb)
    show lcGo γ tt te vs (g a :: xs.map g) ρ = _
    unfold lcGo
    rw [h1]
    simp only [h2, Rz.bind_ok]
    cases hp : p a with
    | false => simp only [Bool.false_eq_true, if_false, h3 hp, ih, List.filter_cons, hp]
    | true =>
      obtain ⟨ρ3, h5, h6⟩ := h4 hp
      simp only [if_true, h5, Rz.bind_ok, h6, ih, List.filter_cons, hp, List.map_cons]
/-- the comprehension over mapped items -/
theorem fLc_map {α : Type} {it : Rho → Rz (List T)} {γ : T → Rho → Option Rho} {te : Rho → Rz T} {vs : List Nat} {ρ ρ1 ρ0 : Rho} (g f : α → T) (xs : List α) (hi : it ρ = .ok (xs.map g) ρ1) (hl : xs.length ≤ sizeLine) (hw : wipeR ρ1 vs = ρ0)
    (h : ∀ a ∈ xs, ∃ ρ1 ρ2, γ (g a) ρ0 = some ρ1 ∧ te ρ1 = .ok (f a) ρ2 ∧ wipeR ρ2 vs = ρ0) : fLc it γ fYes te vs ρ = .ok (xs.map f) (unwipe ρ1 vs ρ0) := by
  unfold fLc
  rw [hi, Rz.bind_ok, if_pos (by simpa using hl), hw, lc_map g f xs h]
theorem fLc_filter {α : Type} {it : Rho → Rz (List T)} {γ : T → Rho → Option Rho} {tt : Rho → Rz Bool} {te : Rho → Rz T} {vs : List Nat} {ρ ρ1 ρ0 : Rho} (g f : α → T) (p : α → Bool) (xs : List α) (hi : it ρ = .ok (xs.map g) ρ1) (hl : xs.length ≤ sizeLine) (hw : wipeR ρ1 vs = ρ0)
    (h : ∀ a ∈ xs, ∃ ρ1 ρ2, γ (g a) ρ0 = some ρ1 ∧ tt ρ1 = .ok (p a) ρ2 ∧ (p a = false → wipeR ρ2 vs = ρ0) ∧ (p a = true → ∃ ρ3, te ρ2 = .ok (f a) ρ3 ∧ wipeR ρ3 vs = ρ0)) : fLc it γ tt te vs ρ = .ok ((xs.filter p).map f) (unwipe ρ1 vs ρ0) := by
  unfold fLc
  rw [hi, Rz.bind_ok, if_pos (by simpa using hl), hw, lc_filter g f p xs h]
def Rz.is {α : Type} (r : Rz α) (P : α → Rho → Prop) : Prop := match r with
  | .ok a ρ => P a ρ
  | _ => False
@[simp] theorem Rz.is_ok {α : Type} {a : α} {ρ : Rho} {P : α → Rho → Prop} : (Rz.ok a ρ).is P = P a ρ := byRfl rfl
@[simp] theorem Rz.is_ite {α : Type} {p : Prop} [Decidable p] {a b : Rz α} {P : α → Rho → Prop} : (if p then a else b).is P = if p then a.is P else b.is P := by split <;> rfl
theorem Rz.is_of {α : Type} {r : Rz α} {P : α → Rho → Prop} (h : r.is P) : ∃ a ρ, r = .ok a ρ ∧ P a ρ := by
  cases r with
  | ok a ρ => exact ⟨a, ρ, rfl, h⟩
  | _ => exact h.elim
def Out.goes (o : Out) (P : Rho → Prop) : Prop := match o with
  | .nx ρ => P ρ
  | .ct ρ => P ρ
  | _ => False
@[simp] theorem Out.goes_nx {ρ : Rho} {P : Rho → Prop} : (Out.nx ρ).goes P = P ρ := byRfl rfl
@[simp] theorem Out.goes_ct {ρ : Rho} {P : Rho → Prop} : (Out.ct ρ).goes P = P ρ := byRfl rfl
@[simp] theorem Out.goes_ite {p : Prop} [Decidable p] {a b : Out} {P : Rho → Prop} : (if p then a else b).goes P = if p then a.goes P else b.goes P := by split <;> rfl
theorem Out.goes_of {o : Out} {P : Rho → Prop} (h : o.goes P) : ∃ ρ, (o = .nx ρ ∨ o = .ct ρ) ∧ P ρ := by
  cases o with
  | nx ρ => exact ⟨ρ, .inl rfl, h⟩
  | ct ρ => exact ⟨ρ, .inr rfl, h⟩
  | _ => exact h.elim
def Out.rets (o : Out) (r : Sl) : Prop := match o with
  | .rt r' _ => r' = r
  | _ => False
@[simp] theorem Out.rets_rt {ρ : Rho} {r r' : Sl} : (Out.rt r' ρ).rets r = (r' = r) := byRfl rfl
@[simp] theorem Out.rets_ite {p : Prop} [Decidable p] {a b : Out} {r : Sl} : (if p then a else b).rets r = if p then a.rets r else b.rets r := by split <;> rfl
theorem Out.rets_of {o : Out} {r : Sl} (h : o.rets r) : ∃ ρ, o = .rt r ρ := by
  cases o with
  | rt r' ρ => exact ⟨ρ, by rw [show r' = r from h]⟩
  | _ => exact h.elim
def optIs (o : Option Rho) (P : Rho → Prop) : Prop := match o with
  | some ρ => P ρ
  | none => False
@[simp] theorem optIs_some {ρ : Rho} {P : Rho → Prop} : optIs (some ρ) P = P ρ := byRfl rfl
theorem optIs_of {o : Option Rho} {P : Rho → Prop} (h : optIs o P) : ∃ ρ, o = some ρ ∧ P ρ := by
  cases o with
  | some ρ => exact ⟨ρ, rfl, h⟩
  | none => exact h.elim
/-- one turn of a comprehension -/
def LcS (γ : T → Rho → Option Rho) (te : Rho → Rz T) (vs : List Nat) (ρ0 : Rho) (t u : T) : Prop := optIs (γ t ρ0) fun ρ1 => (te ρ1).is fun v ρ2 => v = u ∧ wipeR ρ2 vs = ρ0
theorem lcS_ap {γ : T → Rho → Option Rho} {te : Rho → Rz T} {vs : List Nat} {ρ0 : Rho} {t u : T} : LcS γ te vs ρ0 t u = optIs (γ t ρ0) fun ρ1 => (te ρ1).is fun v ρ2 => v = u ∧ wipeR ρ2 vs = ρ0 := byRfl rfl
theorem fLc_is {α : Type} {it : Rho → Rz (List T)} {γ : T → Rho → Option Rho} {te : Rho → Rz T} {vs : List Nat} {ρ : Rho} (g f : α → T) (xs : List α) (hi : it ρ = .ok (xs.map g) ρ) (hl : xs.length ≤ sizeLine)
    (h : ∀ a ∈ xs, LcS γ te vs (wipeR ρ vs) (g a) (f a)) : fLc it γ fYes te vs ρ = .ok (xs.map f) (unwipe ρ vs (wipeR ρ vs)) := by
  refine fLc_map g f xs hi hl rfl fun a ha => ?_
  obtain ⟨ρ1, e1, h1⟩ := optIs_of (h a ha)
  obtain ⟨v, ρ2, e2, e3, e4⟩ := Rz.is_of h1
  exact ⟨ρ1, ρ2, e1, by rw [e2, e3], e4⟩
/-- one turn of a comprehension with a test -/
def LcF (γ : T → Rho → Option Rho) (tt : Rho → Rz Bool) (te : Rho → Rz T) (vs : List Nat) (ρ0 : Rho) (t : T) (p : Bool) (u : T) : Prop :=
  optIs (γ t ρ0) fun ρ1 => (tt ρ1).is fun b ρ2 => b = p ∧ (if p then (te ρ2).is fun v ρ3 => v = u ∧ wipeR ρ3 vs = ρ0 else wipeR ρ2 vs = ρ0)
theorem lcF_ap {γ : T → Rho → Option Rho} {tt : Rho → Rz Bool} {te : Rho → Rz T} {vs : List Nat} {ρ0 : Rho} {t u : T} {p : Bool} : LcF γ tt te vs ρ0 t p u =
  optIs (γ t ρ0) fun ρ1 => (tt ρ1).is fun b ρ2 => b = p ∧ (if p then (te ρ2).is fun v ρ3 => v = u ∧ wipeR ρ3 vs = ρ0 else wipeR ρ2 vs = ρ0) := byRfl rfl
theorem fLc_if {α : Type} {it : Rho → Rz (List T)} {γ : T → Rho → Option Rho} {tt : Rho → Rz Bool} {te : Rho → Rz T} {vs : List Nat} {ρ : Rho} (g f : α → T) (p : α → Bool) (xs : List α) (hi : it ρ = .ok (xs.map g) ρ) (hl : xs.length ≤ sizeLine)
    (h : ∀ a ∈ xs, LcF γ tt te vs (wipeR ρ vs) (g a) (p a) (f a)) : fLc it γ tt te vs ρ = .ok ((xs.filter p).map f) (unwipe ρ vs (wipeR ρ vs)) := by
  refine fLc_filter g f p xs hi hl rfl fun a ha => ?_
  obtain ⟨ρ1, e1, h1⟩ := optIs_of (h a ha)
  obtain ⟨b, ρ2, e2, rfl, h2⟩ := Rz.is_of h1
  refine ⟨ρ1, ρ2, e1, e2, fun e => ?_, fun e => ?_⟩
  · rw [e] at h2; simpa using h2
  · rw [e, if_pos rfl] at h2
    obtain ⟨v, ρ3, e3, e4, e5⟩ := Rz.is_of h2
    exact ⟨ρ3, by rw [e3, e4], e5⟩
/-- one turn of a for loop that goes on -/
def ForS (γ : T → Rho → Option Rho) (body : Rho → Out) (t : T) (ρ : Rho) (P : Rho → Prop) : Prop := optIs (γ t ρ) fun ρ1 => (body ρ1).goes P
theorem forS_ap {γ : T → Rho → Option Rho} {body : Rho → Out} {t : T} {ρ : Rho} {P : Rho → Prop} : ForS γ body t ρ P = optIs (γ t ρ) fun ρ1 => (body ρ1).goes P := byRfl rfl
theorem forS_step {γ : T → Rho → Option Rho} {body : Rho → Out} {t : T} {ts : List T} {ρ : Rho} {P : Rho → Prop} (h : ForS γ body t ρ P) : ∃ ρ2, P ρ2 ∧ forGo γ body (t :: ts) ρ = forGo γ body ts ρ2 := by
  obtain ⟨ρ1, e1, h1⟩ := optIs_of h
  obtain ⟨ρ2, e2, h2⟩ := Out.goes_of h1
  refine ⟨ρ2, h2, ?_⟩
  rw [forGo, e1]
  rcases e2 with e2 | e2 <;> simp only [e2]
/-- a for loop over mapped items whose state is known at each place -/
theorem for_is {α : Type} {γ : T → Rho → Option Rho} {body : Rho → Out} (g : α → T) (st : List α → Rho) : ∀ (xs done : List α), (∀ a k, (done ++ xs)[k]? = some a → ForS γ body (g a) (st ((done ++ xs).take k)) fun ρ => ρ = st ((done ++ xs).take (k + 1))) →
    forGo γ body (xs.map g) (st done) = .nx (st (done ++ xs))
  | [], done, _ => by simp
  | a :: xs, done, h => by
    have h1 := h a done.length (by simp)
    rw [List.take_left, List.take_append_of_le_length_add_one a xs done] at h1
    obtain ⟨ρ2, h2, h3⟩ := forS_step (ts := xs.map g) h1
    rw [List.map_cons, h3, h2]
    have := for_is (γ := γ) (body := body) g st xs (done ++ [a]) (by simpa using h)
    simpa using this
/-- a for loop by an invariant -/
theorem for_go {γ : T → Rho → Option Rho} {body : Rho → Out} (I : Nat → Rho → Prop) : ∀ (ts : List T) (k : Nat) (ρ : Rho), I k ρ →
    (∀ j t ρ, ts[j]? = some t → I (k + j) ρ → ForS γ body t ρ (I (k + j + 1))) → ∃ ρ', forGo γ body ts ρ = .nx ρ' ∧ I (k + ts.length) ρ'
  | [], k, ρ, h, _ => ⟨ρ, rfl, h⟩
  | t :: ts, k, ρ, h, hs => by
    obtain ⟨ρ2, h2, h3⟩ := forS_step (ts := ts) (hs 0 t ρ rfl h)
    obtain ⟨ρ', h4, h5⟩ := for_go I ts (k + 1) ρ2 h2 fun j u ρ3 hj hI => by
      have := hs (j + 1) u ρ3 (by simpa using hj) (by rw [show k + (j + 1) = k + 1 + j by omega]; exact hI)
      rw [show k + (j + 1) + 1 = k + 1 + j + 1 by omega] at this
      exact this
    exact ⟨ρ', by rw [h3]; exact h4, by rw [List.length_cons, show k + (ts.length + 1) = k + 1 + ts.length by omega]; exact h5⟩
/-- a for loop that ends at its items' end, by an invariant -/
theorem for_inv {γ : T → Rho → Option Rho} {body : Rho → Out} (I : Nat → Rho → Prop) : ∀ (ts : List T) (k : Nat) (ρ : Rho), I k ρ →
    (∀ j t ρ, ts[j]? = some t → I (k + j) ρ → ∃ ρ1 ρ2, γ t ρ = some ρ1 ∧ (body ρ1 = .nx ρ2 ∨ body ρ1 = .ct ρ2) ∧ I (k + j + 1) ρ2) → ∃ ρ', forGo γ body ts ρ = .nx ρ' ∧ I (k + ts.length) ρ'
  | [], k, ρ, h, _ => ⟨ρ, rfl, h⟩
  | t :: ts, k, ρ, h, hs => by
    obtain ⟨ρ1, ρ2, h1, h2, h3⟩ := hs 0 t ρ rfl h
    obtain ⟨ρ', h4, h5⟩ := for_inv I ts (k + 1) ρ2 h3 fun j u ρ3 hj hI => by
      have := hs (j + 1) u ρ3 (by simpa using hj) (by rw [show k + (j + 1) = k + 1 + j by omega]; exact hI)
      rw [show k + (j + 1) + 1 = k + 1 + j + 1 by omega] at this
      exact this
    refine ⟨ρ', ?_, by rw [List.length_cons, show k + (ts.length + 1) = k + 1 + ts.length by omega]; exact h5⟩
    unfold forGo
    rw [h1]
    rcases h2 with h2 | h2 <;> · simp only [h2]; exact h4
/-- a for loop that may return or raise: P of the end -/
theorem for_end {γ : T → Rho → Option Rho} {body : Rho → Out} (I : Nat → Rho → Prop) (P : Out → Prop) (hP : ∀ ρ k, P (.rt k ρ) ∨ True) : ∀ (ts : List T) (k : Nat) (ρ : Rho), I k ρ →
    (∀ j t ρ, ts[j]? = some t → I (k + j) ρ → ∃ ρ1, γ t ρ = some ρ1 ∧ ((∃ ρ2, (body ρ1 = .nx ρ2 ∨ body ρ1 = .ct ρ2) ∧ I (k + j + 1) ρ2) ∨ (∃ r ρ2, body ρ1 = .rt r ρ2 ∧ P (.rt r ρ2)) ∨ (∃ c x, body ρ1 = .rs c x ∧ P (.rs c x)) ∨ (∃ ρ2, body ρ1 = .bk ρ2 ∧ P (.nx ρ2)))) →
    (∀ ρ, I (k + ts.length) ρ → P (.nx ρ)) → P (forGo γ body ts ρ)
  | [], k, ρ, h, _, he => he ρ h
  | t :: ts, k, ρ, h, hs, he => by
    obtain ⟨ρ1, h1, h2⟩ := hs 0 t ρ rfl h
    unfold forGo
    rw [h1]
    rcases h2 with ⟨ρ2, h2, h3⟩ | ⟨r, ρ2, h2, h3⟩ | ⟨c, x, h2, h3⟩ | ⟨ρ2, h2, h3⟩
    · have z := for_end I P hP ts (k + 1) ρ2 h3 (fun j u ρ3 hj hI => by
        have := hs (j + 1) u ρ3 (by simpa using hj) (by rw [show k + (j + 1) = k + 1 + j by omega]; exact hI)
        rw [show k + (j + 1) + 1 = k + 1 + j + 1 by omega] at this
        exact this) (fun ρ hI => he ρ (by rw [List.length_cons, show k + (ts.length + 1) = k + 1 + ts.length by omega]; exact hI))
      rcases h2 with h2 | h2 <;> · simp only [h2]; exact z
    · simp only [h2]; exact h3
    · simp only [h2]; exact h3
    · simp only [h2]; exact h3

/-! ### == of trees without bools -/
inductive OkN : Nat → T → Prop
  | non {d} : OkN d .non
  | int {d i} : OkN d (.int i)
  | str {d x} (h : PyData.strOk x = true) : OkN d (.str x)
  | lst {d xs} (h : ∀ x ∈ xs, OkN d x) : OkN (d + 1) (.lst xs)
  | tup {d xs} (h : ∀ x ∈ xs, OkN d x) : OkN (d + 1) (.tup xs)
theorem toDL_ok : ∀ {xs : List T} {d : Nat}, (∀ x ∈ xs, isD x = true ∧ (toD x).canLay0 = true ∧ (toD x).depth ≤ d) → isDL xs = true ∧ PyData.canLayAll0 (toDL xs) = true ∧ PyData.depthAll (toDL xs) ≤ d
  | [], d, _ => by refine ⟨rfl, rfl, ?_⟩; exact Nat.zero_le _
  | x :: xs, d, h => by
    obtain ⟨h1, h2, h3⟩ := h x List.mem_cons_self
    obtain ⟨h4, h5, h6⟩ := toDL_ok (xs := xs) (d := d) fun y hy => h y (List.mem_cons_of_mem _ hy)
    refine ⟨by unfold isDL; rw [h1, h4]; rfl, by unfold toDL PyData.canLayAll0; rw [h2, h5]; rfl, ?_⟩
    unfold toDL PyData.depthAll
    omega
theorem OkN.ok {d : Nat} {t : T} (h : OkN d t) : isD t = true ∧ (toD t).canLay0 = true ∧ (toD t).depth ≤ d := by
  induction h with
  | non => exact ⟨rfl, rfl, Nat.zero_le _⟩
  | int => exact ⟨rfl, rfl, Nat.zero_le _⟩
  | str h => exact ⟨rfl, by unfold toD PyData.canLay0; exact h, Nat.zero_le _⟩
  | lst h ih =>
    obtain ⟨h1, h2, h3⟩ := toDL_ok ih
    exact ⟨by unfold isD; exact h1, by unfold toD PyData.canLay0; exact h2, by unfold toD PyData.depth; omega⟩
  | tup h ih =>
    obtain ⟨h1, h2, h3⟩ := toDL_ok ih
    exact ⟨by unfold isD; exact h1, by unfold toD PyData.canLay0; exact h2, by unfold toD PyData.depth; omega⟩
theorem eqvAll_ok : ∀ {xs ys : List T}, (∀ x ∈ xs, ∀ y ∈ ys, PyData.eqv (toD x) (toD y) = true ↔ x = y) → (PyData.eqvAll (toDL xs) (toDL ys) = true ↔ xs = ys)
  | [], [], _ => by unfold toDL PyData.eqvAll; simp
  | [], _ :: _, _ => by unfold toDL PyData.eqvAll; simp
  | _ :: _, [], _ => by unfold toDL PyData.eqvAll; simp
  | x :: xs, y :: ys, h => by
    unfold toDL PyData.eqvAll
    rw [Bool.and_eq_true, h x List.mem_cons_self y List.mem_cons_self, eqvAll_ok (xs := xs) (ys := ys) fun a ha b hb => h a (List.mem_cons_of_mem _ ha) b (List.mem_cons_of_mem _ hb), List.cons.injEq]
theorem OkN.eqv {d : Nat} {t : T} (h : OkN d t) : ∀ {e : Nat} {u : T}, OkN e u → (PyData.eqv (toD t) (toD u) = true ↔ t = u) := by
  induction h with
  | non => intro e u hu; cases hu <;> simp [toD, PyData.eqv]
  | int => intro e u hu; cases hu <;> simp [toD, PyData.eqv]
  | str h => intro e u hu; cases hu <;> simp [toD, PyData.eqv]
  | lst h ih =>
    intro e u hu
    cases hu with
    | lst h2 => unfold toD PyData.eqv; rw [eqvAll_ok fun x hx y hy => ih x hx (h2 y hy)]; simp
    | _ => simp [toD, PyData.eqv]
  | tup h ih =>
    intro e u hu
    cases hu with
    | tup h2 => unfold toD PyData.eqv; rw [eqvAll_ok fun x hx y hy => ih x hx (h2 y hy)]; simp
    | _ => simp [toD, PyData.eqv]
theorem gEqB_ok {t u : T} (h : OkN 64 t) (h2 : OkN 64 u) : ∃ b, gEqB t u = some b ∧ (b = true ↔ t = u) := by
  obtain ⟨a1, a2, a3⟩ := h.ok
  obtain ⟨b1, b2, b3⟩ := h2.ok
  refine ⟨PyData.eqv (toD t) (toD u), ?_, h.eqv h2⟩
  unfold gEqB
  rw [if_pos ⟨a1, b1, by unfold SeqAt.shaped; rw [a2]; exact decide_eq_true a3, by unfold SeqAt.shaped; rw [b2]; exact decide_eq_true b3⟩]
theorem gEqB_yes {t u : T} (h : OkN 64 t) (h2 : OkN 64 u) (e : t = u) : gEqB t u = some true := by
  obtain ⟨b, h3, h4⟩ := gEqB_ok h h2
  rw [h3, h4.mpr e]
theorem gEqB_no {t u : T} (h : OkN 64 t) (h2 : OkN 64 u) (e : t ≠ u) : gEqB t u = some false := by
  obtain ⟨b, h3, h4⟩ := gEqB_ok h h2
  rw [h3]
  cases b with
  | false => rfl
  | true => exact absurd (h4.mp rfl) e
theorem okN_ints {d : Nat} {ns : List Int} : ∀ x ∈ ns.map T.int, OkN d x := fun x hx => by
  obtain ⟨i, _, rfl⟩ := List.mem_map.mp hx
  exact .int
theorem okN_tupI {d : Nat} {ns : List Int} : OkN (d + 1) (.tup (ns.map T.int)) := .tup okN_ints
theorem okN_lstI {d : Nat} {ns : List Int} : OkN (d + 1) (.lst (ns.map T.int)) := .lst okN_ints
theorem mapInt_inj {a b : List Int} : a.map T.int = b.map T.int ↔ a = b := by
  constructor
  · intro h
    have := List.map_inj_right (f := T.int) (fun x y h => T.int.inj h) |>.mp h
    exact this
  · intro h; rw [h]
theorem gEqB_dec {t u : T} {p : Prop} [Decidable p] (h : OkN 64 t) (h2 : OkN 64 u) (e : t = u ↔ p) : gEqB t u = some (decide p) := by
  obtain ⟨b, h3, h4⟩ := gEqB_ok h h2
  rw [h3]
  congr 1
  by_cases hp : p
  · rw [decide_eq_true hp]; exact h4.mpr (e.mpr hp)
  · rw [decide_eq_false hp]; cases b with
    | false => rfl
    | true => exact absurd (e.mp (h4.mp rfl)) hp
@[simp] theorem gEqB_int {i j : Int} : gEqB (.int i) (.int j) = some (decide (i = j)) := gEqB_dec .int .int (by simp)
@[simp] theorem gEqB_tupI {a b : List Int} : gEqB (.tup (a.map T.int)) (.tup (b.map T.int)) = some (decide (a = b)) := gEqB_dec okN_tupI okN_tupI (by rw [T.tup.injEq, mapInt_inj])
@[simp] theorem gEqB_lstI {a b : List Int} : gEqB (.lst (a.map T.int)) (.lst (b.map T.int)) = some (decide (a = b)) := gEqB_dec okN_lstI okN_lstI (by rw [T.lst.injEq, mapInt_inj])
@[simp] theorem gEq_ap {t u : T} : gEq t u = (gEqB t u).map .bl := byRfl rfl
@[simp] theorem gNe_ap {t u : T} : gNe t u = (gEqB t u).map fun b => .bl (!b) := byRfl rfl
@[simp] theorem gAdd_int {i j : Int} : gAdd (.int i) (.int j) = some (.int (i + j)) := byRfl rfl
@[simp] theorem gSub_int {i j : Int} : gSub (.int i) (.int j) = some (.int (i - j)) := byRfl rfl
@[simp] theorem gLt_int {i j : Int} : gLt (.int i) (.int j) = some (.bl (decide (i < j))) := byRfl rfl
@[simp] theorem gLe_int {i j : Int} : gLe (.int i) (.int j) = some (.bl (decide (i ≤ j))) := byRfl rfl
@[simp] theorem gGt_int {i j : Int} : gGt (.int i) (.int j) = some (.bl (decide (j < i))) := byRfl rfl
@[simp] theorem gGe_int {i j : Int} : gGe (.int i) (.int j) = some (.bl (decide (j ≤ i))) := byRfl rfl
theorem gMod_int {i j : Int} (h : 0 < j) : gMod (.int i) (.int j) = some (.int (i % j)) := by show (if 0 < j then _ else _) = _; rw [if_pos h]
@[simp] theorem gLen_lst {xs : List T} : gLen [.lst xs] = some (.int xs.length) := byRfl rfl
@[simp] theorem gLen_tup {xs : List T} : gLen [.tup xs] = some (.int xs.length) := byRfl rfl
@[simp] theorem gTuple_lst {xs : List T} : gTuple [.lst xs] = some (.tup xs) := byRfl rfl
@[simp] theorem gSum_lst {ns : List Int} : gSum [.lst (ns.map T.int)] = some (.int ns.sum) := by unfold gSum; simp
@[simp] theorem gSum_tup {ns : List Int} : gSum [.tup (ns.map T.int)] = some (.int ns.sum) := by unfold gSum; simp
@[simp] theorem itemsT_lst {xs : List T} : itemsT (.lst xs) = some xs := byRfl rfl
@[simp] theorem itemsT_tup {xs : List T} : itemsT (.tup xs) = some xs := byRfl rfl
section
variable {α : Type} {xs : List α}
theorem mapI {f : α → Int} : xs.map (fun i => T.int (f i)) = (xs.map f).map T.int := by rw [List.map_map]; rfl
theorem mapB {f : α → Bool} : xs.map (fun i => T.bl (f i)) = (xs.map f).map T.bl := by rw [List.map_map]; rfl
@[simp] theorem intsT_f {f : α → Int} : intsT (xs.map fun i => T.int (f i)) = some (xs.map f) := by rw [mapI, intsT_map]
@[simp] theorem blsT_f {f : α → Bool} : blsT (xs.map fun i => T.bl (f i)) = some (xs.map f) := by rw [mapB, blsT_map]
@[simp] theorem gAll_f {p : α → Bool} : gAll [.lst (xs.map fun i => T.bl (p i))] = some (.bl (xs.all p)) := by unfold gAll; simp
@[simp] theorem gAny_f {p : α → Bool} : gAny [.lst (xs.map fun i => T.bl (p i))] = some (.bl (xs.any p)) := by unfold gAny; simp
@[simp] theorem gSum_f {f : α → Int} : gSum [.lst (xs.map fun i => T.int (f i))] = some (.int (xs.map f).sum) := by unfold gSum; simp
@[simp] theorem gSum_ft {f : α → Int} : gSum [.tup (xs.map fun i => T.int (f i))] = some (.int (xs.map f).sum) := by unfold gSum; simp
theorem gMax_f {f : α → Int} (h : xs ≠ []) : gMax [.lst (xs.map fun i => T.int (f i))] = some (.int (maxI (xs.map f))) := by unfold gMax; simp [h]
theorem gMin_f {f : α → Int} (h : xs ≠ []) : gMin [.lst (xs.map fun i => T.int (f i))] = some (.int (minI (xs.map f))) := by unfold gMin; simp [h]
theorem gMin_t {xs : List Int} (h : xs ≠ []) : gMin [.tup (xs.map T.int)] = some (.int (minI xs)) := by unfold gMin; simp [h]
theorem gMax_t {xs : List Int} (h : xs ≠ []) : gMax [.tup (xs.map T.int)] = some (.int (maxI xs)) := by unfold gMax; simp [h]
/-- a list by its places -/
theorem tab_list {d : α} : xs = (List.range xs.length).map fun i => xs.getD i d := by
  apply List.ext_getElem (by simp)
  intro i h1 h2
  simp [List.getElem?_eq_getElem h1]
end
theorem tab_ints (ns : List Int) : ns.map T.int = (List.range ns.length).map fun i => .int (ns.getD i 0) := by
  conv => lhs; rw [tab_list (xs := ns) (d := 0), List.map_map]
  rfl
theorem enum_tab {n : Nat} {f : Nat → T} : pairT (numsT n) ((List.range n).map f) = (List.range n).map fun i => .tup [.int (i : Nat), f i] := by
  unfold pairT numsT
  rw [List.zip_map, List.map_map]
  have : (List.range n).zip (List.range n) = (List.range n).map fun i => (i, i) := by
    apply List.ext_getElem (by simp)
    intro i h1 h2
    simp
  rw [this, List.map_map]
  rfl
theorem enum_ints (ns : List Int) : pairT (numsT ns.length) (ns.map T.int) = (List.range ns.length).map fun i => .tup [.int (i : Nat), .int (ns.getD i 0)] := by
  rw [tab_ints ns, enum_tab]
theorem atT_nat {xs : List T} {i : Nat} {t : T} (h : xs[i]? = some t) : atT xs (i : Nat) = some t := by
  have hi : i < xs.length := (List.getElem?_eq_some_iff.mp h).1
  unfold atT L2.ixN
  rw [if_pos (by omega), if_pos (by omega)]
  simpa using h
theorem atT_tab {n : Nat} {f : Nat → T} {i : Nat} (h : i < n) : atT ((List.range n).map f) (i : Nat) = some (f i) := atT_nat (by simp [h])
theorem gIx_tab {n : Nat} {f : Nat → T} {i : Nat} (h : i < n) : gIx (.lst ((List.range n).map f)) (.int (i : Nat)) = some (f i) := by
  show atT _ _ = _; exact atT_tab h
theorem gIx_tabT {n : Nat} {f : Nat → T} {i : Nat} (h : i < n) : gIx (.tup ((List.range n).map f)) (.int (i : Nat)) = some (f i) := by
  show atT _ _ = _; exact atT_tab h
@[simp] theorem gIx_lst {xs : List T} {i : Int} : gIx (.lst xs) (.int i) = atT xs i := byRfl rfl
@[simp] theorem gIx_tup {xs : List T} {i : Int} : gIx (.tup xs) (.int i) = atT xs i := byRfl rfl
theorem gMod_nat {i w : Nat} (h : 0 < w) : gMod (.int (i : Nat)) (.int (w : Nat)) = some (.int ((i % w : Nat) : Int)) := by
  rw [gMod_int (by omega)]; rfl
theorem rangeT_nat {n : Nat} : rangeT 0 n = (List.range n).map fun k => .int (k : Nat) := by
  unfold rangeT; simp
theorem rangeT_eq {lo : Int} {n : Nat} : rangeT lo n = (List.range n).map fun k => .int (lo + (k : Nat)) := rfl
@[simp] theorem rangeT_len {lo : Int} {n : Nat} : (rangeT lo n).length = n := by unfold rangeT; simp
@[simp] theorem fRange1_ap {φ : Rho → Rz T} {ρ : Rho} : fRange1 φ ρ = (φ ρ).bind fun t ρ1 => match t with
  | .int j => if -(2 ^ 62) ≤ j ∧ j < 2 ^ 62 then .ok (rangeT 0 j.toNat) ρ1 else .stuck
  | _ => .stuck := byRfl rfl
@[simp] theorem fRange2_ap {φ φ2 : Rho → Rz T} {ρ : Rho} : fRange2 φ φ2 ρ = (φ ρ).bind fun t ρ1 => (φ2 ρ1).bind fun u ρ2 => match t, u with
  | .int i, .int j => if -(2 ^ 62) ≤ i ∧ i < 2 ^ 62 ∧ -(2 ^ 62) ≤ j ∧ j < 2 ^ 62 then .ok (rangeT i (j - i).toNat) ρ2 else .stuck
  | _, _ => .stuck := byRfl rfl
@[simp] theorem fEnum_ap {φ : Rho → Rz T} {ρ : Rho} : fEnum φ ρ = (φ ρ).bind fun t ρ1 => match itemsT t with
  | some ts => .ok (pairT (numsT ts.length) ts) ρ1
  | none => .stuck := byRfl rfl
@[simp] theorem fZip_ap {φ φ2 : Rho → Rz T} {ρ : Rho} : fZip φ φ2 ρ = (φ ρ).bind fun t ρ1 => (φ2 ρ1).bind fun u ρ2 => match t, u with
  | .lst ts, .lst us => .ok (pairT ts us) ρ2
  | .tup ts, .tup us => .ok (pairT ts us) ρ2
  | _, _ => .stuck := byRfl rfl
@[simp] theorem fRep_ap {a : Rho → Rz (List T)} {b : Rho → Rz T} {ρ : Rho} : fRep a b ρ = (a ρ).bind fun xs ρ1 => (b ρ1).bind fun k ρ2 => match k with
  | .int k => if -(2 ^ 63) ≤ k ∧ k < 2 ^ 63 ∧ xs.length * k.toNat ≤ sizeLine then .ok (List.replicate k.toNat xs).flatten ρ2 else .stuck
  | _ => .stuck := byRfl rfl
@[simp] theorem fSl3_ap {a : Rho → Rz T} {l h s : Rho → Rz (Option Int)} {ρ : Rho} : fSl3 a l h s ρ = (a ρ).bind fun x ρ1 => (l ρ1).bind fun lo ρ2 => (h ρ2).bind fun hi ρ3 => (s ρ3).bind fun st ρ4 => match x with
  | .lst xs => if st ≠ some 0 then .ok (.lst (pickT xs lo hi st)) ρ4 else .stuck
  | _ => .stuck := byRfl rfl
@[simp] theorem tgNil_ap {ρ : Rho} : tgNil [] ρ = some ρ := byRfl rfl
@[simp] theorem tgCons_ap {γ δ t ts} {ρ : Rho} : tgCons γ δ (t :: ts) ρ = (γ t ρ).bind fun ρ1 => δ ts ρ1 := byRfl rfl
@[simp] theorem tgT_ap {n δ ts} {ρ : Rho} : tgT n δ (.tup ts) ρ = if ts.length = n then δ ts ρ else none := byRfl rfl
@[simp] theorem gSl_lst {xs : List T} {lo hi} : gSl (.lst xs) lo hi = some (.lst (cutT xs lo hi)) := byRfl rfl
@[simp] theorem gSl_tup {xs : List T} {lo hi} : gSl (.tup xs) lo hi = some (.tup (cutT xs lo hi)) := byRfl rfl
theorem cutT_nat {xs : List T} {i j : Nat} : cutT xs (some (i : Nat)) (some (j : Nat)) = (xs.drop i).take (j - i) := by
  unfold cutT
  rw [HT.sIx_nat, HT.sIx_nat]
  by_cases h : i ≤ xs.length
  · rw [Nat.min_eq_left h]
    by_cases h2 : j ≤ xs.length
    · rw [Nat.min_eq_left h2]
    · rw [Nat.min_eq_right (by omega), List.take_of_length_le (by simp), List.take_of_length_le (by simp; omega)]
  · rw [List.drop_of_length_le (by omega : xs.length ≤ min i xs.length), List.drop_of_length_le (by omega : xs.length ≤ i)]; simp
theorem cutT_from {xs : List T} {i : Nat} : cutT xs (some (i : Nat)) none = xs.drop i := by
  unfold cutT
  rw [HT.sIx_nat, HT.sIx_none]
  by_cases h : i ≤ xs.length
  · rw [Nat.min_eq_left h, List.take_of_length_le (by simp)]
  · rw [List.drop_of_length_le (by omega : xs.length ≤ min i xs.length), List.drop_of_length_le (by omega : xs.length ≤ i)]; simp
theorem cutT_to {xs : List T} {j : Nat} : cutT xs none (some (j : Nat)) = xs.take j := by
  unfold cutT
  rw [HT.sIx_nat, HT.sIx_none]
  by_cases h : j ≤ xs.length
  · rw [Nat.min_eq_left h]; simp
  · rw [Nat.min_eq_right (by omega), List.take_of_length_le (by simp), List.take_of_length_le (by omega)]; rfl

theorem le_line {n : Nat} (h : n ≤ 100000) : n ≤ sizeLine := Nat.le_trans h (by decide)
theorem lt_line {n : Nat} (h : n ≤ 100000) : n < sizeLine := Nat.lt_of_le_of_lt h (by decide)
theorem rng1 {φ : Rho → Rz T} {ρ ρ1 : Rho} {j : Int} (e : φ ρ = .ok (.int j) ρ1) (h : -100000 ≤ j) (h2 : j ≤ 100000) : fRange1 φ ρ = .ok ((List.range j.toNat).map fun k => .int (k : Nat)) ρ1 := by
  have h3 : -(2 ^ 62) ≤ j ∧ j < 2 ^ 62 := by
    have a : (2 : Int) ^ 62 = 4611686018427387904 := by decide
    rw [a]; omega
  rw [fRange1_ap, e, Rz.bind_ok]
  show (if _ then _ else _) = _
  rw [if_pos h3, rangeT_nat]
theorem rng2 {φ φ2 : Rho → Rz T} {ρ ρ1 ρ2 : Rho} {i j : Int} (e : φ ρ = .ok (.int i) ρ1) (e2 : φ2 ρ1 = .ok (.int j) ρ2) (h : -100000 ≤ i) (h2 : i ≤ 100000) (h3 : -100000 ≤ j) (h4 : j ≤ 100000) :
    fRange2 φ φ2 ρ = .ok ((List.range (j - i).toNat).map fun k => .int (i + (k : Nat))) ρ2 := by
  have a : (2 : Int) ^ 62 = 4611686018427387904 := by decide
  rw [fRange2_ap, e, Rz.bind_ok, e2, Rz.bind_ok]
  show (if _ then _ else _) = _
  rw [if_pos (by rw [a]; omega), rangeT_eq]
/-- one turn of a loop that seeks -/
def ForK (γ : T → Rho → Option Rho) (body : Rho → Out) (t : T) (ρ : Rho) (p : Bool) (r : Sl) (I : Rho → Prop) : Prop := optIs (γ t ρ) fun ρ1 => if p then (body ρ1).rets r else (body ρ1).goes I
theorem forK_ap {γ : T → Rho → Option Rho} {body : Rho → Out} {t : T} {ρ : Rho} {p : Bool} {r : Sl} {I : Rho → Prop} : ForK γ body t ρ p r I = optIs (γ t ρ) fun ρ1 => if p then (body ρ1).rets r else (body ρ1).goes I := byRfl rfl
theorem for_seek {α : Type} {γ : T → Rho → Option Rho} {body : Rho → Out} (I : Rho → Prop) (g : α → T) (p : α → Bool) (r : α → Sl) : ∀ (xs : List α) (ρ : Rho), I ρ → (∀ a ∈ xs, ∀ ρ, I ρ → ForK γ body (g a) ρ (p a) (r a) I) →
    (xs.find? p = none → ∃ ρ', forGo γ body (xs.map g) ρ = .nx ρ' ∧ I ρ') ∧ ∀ b, xs.find? p = some b → ∃ ρ', forGo γ body (xs.map g) ρ = .rt (r b) ρ'
  | [], ρ, h, _ => ⟨fun _ => ⟨ρ, rfl, h⟩, fun b hb => by cases hb⟩
  | a :: xs, ρ, h, hs => by
    obtain ⟨ρ1, q, z⟩ := optIs_of (hs a List.mem_cons_self ρ h)
    cases hp : p a with
    | true =>
      rw [hp, if_pos rfl] at z
      obtain ⟨ρ2, q2⟩ := Out.rets_of z
      rw [List.find?_cons_of_pos hp]
      refine ⟨fun h => (nomatch h), fun b hb => ?_⟩
      cases hb
      exact ⟨ρ2, by rw [List.map_cons, forGo, q]; simp only [q2]⟩
    | false =>
      rw [hp, if_neg Bool.false_ne_true] at z
      obtain ⟨ρ2, e, i2⟩ := Out.goes_of z
      have ih := for_seek I g p r xs ρ2 i2 fun b hb => hs b (List.mem_cons_of_mem _ hb)
      have e2 : forGo γ body ((a :: xs).map g) ρ = forGo γ body (xs.map g) ρ2 := by
        rw [List.map_cons, forGo, q]
        rcases e with e | e <;> simp only [e]
      rw [List.find?_cons_of_neg (by rw [hp]; exact Bool.false_ne_true), e2]
      exact ih
/-- a for loop and what follows, by an invariant -/
theorem for_bind (P : Out → Prop) (I : Nat → Rho → Prop) {γ : T → Rho → Option Rho} {body : Rho → Out} {ts : List T} {ρ : Rho} {rest : Rho → Out} (h0 : I 0 ρ)
    (hs : ∀ j t ρ, ts[j]? = some t → I j ρ → ForS γ body t ρ (I (j + 1))) (hr : ∀ ρ', I ts.length ρ' → P (rest ρ')) : P ((forGo γ body ts ρ).bind rest) := by
  obtain ⟨ρ', e, i⟩ := for_go I ts 0 ρ h0 fun j t ρ hj hI => by rw [Nat.zero_add] at hI ⊢; exact hs j t ρ hj hI
  rw [e, Out.bind_nx]
  rw [Nat.zero_add] at i
  exact hr ρ' i
def boR (o : Option T) (ρ : Rho) : Rz Bool := match o with
  | some (.bl k) => .ok k ρ
  | _ => .stuck
@[simp] theorem boR_bl {k : Bool} {ρ : Rho} : boR (some (.bl k)) ρ = .ok k ρ := byRfl rfl
@[simp] theorem fChain3_ap {g g' g'' : T → T → Option T} {a b c d : Rho → Rz T} {ρ : Rho} : fChain3 g g' g'' a b c d ρ = (a ρ).bind fun x ρ1 => (b ρ1).bind fun y ρ2 => ifT (g x y) ((c ρ2).bind fun z ρ3 => ifT (g' y z) ((d ρ3).bind fun w ρ4 => boR (g'' z w) ρ4) (.ok false ρ3)) (.ok false ρ2) := byRfl rfl
theorem zip_tab {n : Nat} {f g : Nat → T} : pairT ((List.range n).map f) ((List.range n).map g) = (List.range n).map fun i => .tup [f i, g i] := by
  unfold pairT
  rw [List.zip_map, List.map_map]
  have : (List.range n).zip (List.range n) = (List.range n).map fun i => (i, i) := by
    apply List.ext_getElem (by simp)
    intro i h1 h2
    simp
  rw [this, List.map_map]
  rfl
theorem gAdd_lst {xs ys : List T} (h : xs.length + ys.length ≤ sizeLine) : gAdd (.lst xs) (.lst ys) = some (.lst (xs ++ ys)) := if_pos h
theorem gAdd_tup {xs ys : List T} (h : xs.length + ys.length ≤ sizeLine) : gAdd (.tup xs) (.tup ys) = some (.tup (xs ++ ys)) := if_pos h
theorem cut_tab {xs : List T} {s l : Nat} : cutT xs (some (s : Nat)) (some ((s : Int) + (l : Nat))) = (xs.drop s).take l := by
  rw [show (s : Int) + (l : Nat) = ((s + l : Nat) : Int) by omega, cutT_nat, show s + l - s = l by omega]
end Fx
namespace Fx
open PySem PySem.Spec PyProof.Rows L2

/-! ### sums over windows, in plain numbers -/
def wsum (x : Nat → Int) (i w : Nat) : Int := ((List.range w).map fun j => x (i + j)).sum
theorem sum_app (a b : List Int) : (a ++ b).sum = a.sum + b.sum := by
  induction a with
  | nil => simp
  | cons x xs ih => rw [List.cons_append, List.sum_cons, List.sum_cons, ih]; omega
@[simp] theorem wsum_zero {x i} : wsum x i 0 = 0 := rfl
theorem wsum_succ {x : Nat → Int} {i w : Nat} : wsum x i (w + 1) = wsum x i w + x (i + w) := by
  unfold wsum
  rw [List.range_succ, List.map_append, sum_app]
  simp
def psum (x : Nat → Int) (d : Nat) : Int := wsum x 0 d
theorem psum_succ {x : Nat → Int} {d : Nat} : psum x (d + 1) = psum x d + x d := by
  unfold psum; rw [wsum_succ, Nat.zero_add]
theorem wsum_psum {x : Nat → Int} {i : Nat} : ∀ w, wsum x i w = psum x (i + w) - psum x i
  | 0 => by simp
  | w + 1 => by rw [wsum_succ, wsum_psum w, ← Nat.add_assoc, psum_succ]; omega
theorem wsum_shift {x : Nat → Int} {i w : Nat} : wsum x (i + 1) w = wsum x i w + x (i + w) - x i := by
  rw [wsum_psum, wsum_psum, show i + 1 + w = (i + w) + 1 by omega, psum_succ, psum_succ]; omega
theorem wsum_congr {x y : Nat → Int} {i k w : Nat} (h : ∀ j < w, x (i + j) = y (k + j)) : wsum x i w = wsum y k w := by
  unfold wsum
  congr 1
  exact List.map_congr_left fun j hj => h j (List.mem_range.mp hj)
theorem sum_map_add {α : Type} (f g : α → Int) : ∀ xs : List α, (xs.map fun a => f a + g a).sum = (xs.map f).sum + (xs.map g).sum
  | [] => rfl
  | a :: xs => by simp only [List.map_cons, List.sum_cons, sum_map_add f g xs]; omega
theorem sum_map_sub {α : Type} (f g : α → Int) : ∀ xs : List α, (xs.map fun a => f a - g a).sum = (xs.map f).sum - (xs.map g).sum
  | [] => rfl
  | a :: xs => by simp only [List.map_cons, List.sum_cons, sum_map_sub f g xs]; omega
theorem sum_map_mul {α : Type} (f : α → Int) (c : Int) : ∀ xs : List α, (xs.map fun a => c * f a).sum = c * (xs.map f).sum
  | [] => by simp
  | a :: xs => by simp only [List.map_cons, List.sum_cons, sum_map_mul f c xs]; rw [Int.mul_add]
theorem sum_map_le {α : Type} (f g : α → Int) : ∀ xs : List α, (∀ a ∈ xs, f a ≤ g a) → (xs.map f).sum ≤ (xs.map g).sum
  | [], _ => Int.le_refl _
  | a :: xs, h => by
    simp only [List.map_cons, List.sum_cons]
    have h1 := h a List.mem_cons_self
    have h2 := sum_map_le f g xs fun b hb => h b (List.mem_cons_of_mem _ hb)
    omega
theorem sum_nonneg {xs : List Int} (h : ∀ a ∈ xs, 0 ≤ a) : 0 ≤ xs.sum := by
  induction xs with
  | nil => exact Int.le_refl _
  | cons a xs ih =>
    have h1 := h a List.mem_cons_self
    have h2 := ih fun b hb => h b (List.mem_cons_of_mem _ hb)
    simp only [List.sum_cons]; omega
theorem sum_le_mul {xs : List Int} {c : Int} (h : ∀ a ∈ xs, a ≤ c) : xs.sum ≤ xs.length * c := by
  induction xs with
  | nil => simp
  | cons a xs ih =>
    have h1 := h a List.mem_cons_self
    have h2 := ih fun b hb => h b (List.mem_cons_of_mem _ hb)
    simp only [List.sum_cons, List.length_cons]
    have : ((xs.length + 1 : Nat) : Int) * c = xs.length * c + c := by rw [Int.natCast_add, Int.add_mul]; simp
    omega
theorem sum_perm {a b : List Int} (h : a.Perm b) : a.sum = b.sum := by
  induction h with
  | nil => rfl
  | cons x _ ih => simp only [List.sum_cons, ih]
  | swap x y l => simp only [List.sum_cons]; omega
  | trans _ _ h1 h2 => exact h1.trans h2

/-! ### largest and smallest -/
theorem maxI_eq {ns : List Int} {m : Int} (h : m ∈ ns) (h2 : ∀ x ∈ ns, x ≤ m) : maxI ns = m :=
  Int.le_antisymm (h2 _ (maxI_mem (List.ne_nil_of_mem h))) (le_maxI h)
theorem minI_eq {ns : List Int} {m : Int} (h : m ∈ ns) (h2 : ∀ x ∈ ns, m ≤ x) : minI ns = m :=
  Int.le_antisymm (minI_le h) (h2 _ (minI_mem (List.ne_nil_of_mem h)))

/-! ### the days of one kind -/
def cls (w N r : Nat) : List Nat := (List.range ((N - r + w - 1) / w)).map fun j => r + w * j
theorem mem_cls {w N r d : Nat} (hr : r < w) : d ∈ cls w N r ↔ d < N ∧ d % w = r := by
  unfold cls
  rw [List.mem_map]
  constructor
  · rintro ⟨j, hj, rfl⟩
    have hj := List.mem_range.mp hj
    have h1 : w * (j + 1) ≤ N - r + w - 1 := by
      have := Nat.mul_le_of_le_div _ _ _ (Nat.succ_le_of_lt hj)
      rw [Nat.mul_comm]; exact this
    rw [Nat.mul_add, Nat.mul_one] at h1
    exact ⟨by omega, by rw [Nat.add_mul_mod_self_left, Nat.mod_eq_of_lt hr]⟩
  · rintro ⟨h1, rfl⟩
    refine ⟨d / w, List.mem_range.mpr ?_, Nat.mod_add_div d w⟩
    have e := Nat.mod_add_div d w
    have : d / w + 1 ≤ (N - d % w + w - 1) / w := by
      rw [Nat.le_div_iff_mul_le (by omega), Nat.add_mul, Nat.one_mul, Nat.mul_comm]
      omega
    omega
theorem cls_ne {w N r : Nat} (hr : r < w) (hN : r < N) : cls w N r ≠ [] := List.ne_nil_of_mem ((mem_cls hr).mpr ⟨hN, Nat.mod_eq_of_lt hr⟩)
def cmin (x : Nat → Int) (w N r : Nat) : Int := minI ((cls w N r).map x)
theorem cmin_le {x : Nat → Int} {w N d : Nat} (hw : 0 < w) (hd : d < N) : cmin x w N (d % w) ≤ x d :=
  minI_le (List.mem_map.mpr ⟨d, (mem_cls (Nat.mod_lt _ hw)).mpr ⟨hd, rfl⟩, rfl⟩)
theorem cmin_ex {x : Nat → Int} {w N r : Nat} (hr : r < w) (hN : r < N) : ∃ d < N, d % w = r ∧ x d = cmin x w N r := by
  have h := minI_mem (ns := (cls w N r).map x) (by simpa using cls_ne hr hN)
  obtain ⟨d, h1, h2⟩ := List.mem_map.mp h
  obtain ⟨h3, h4⟩ := (mem_cls hr).mp h1
  exact ⟨d, h3, h4, h2⟩
theorem le_cmin {x : Nat → Int} {w N r : Nat} {m : Int} (hr : r < w) (hN : r < N) (h : ∀ d < N, d % w = r → m ≤ x d) : m ≤ cmin x w N r := by
  obtain ⟨d, h1, h2, h3⟩ := cmin_ex (x := x) hr hN
  rw [← h3]; exact h d h1 h2
theorem cmin_eq {x : Nat → Int} {w N r d : Nat} (hr : r < w) (hd : d < N) (hdr : d % w = r) (h : ∀ e < N, e % w = r → x d ≤ x e) : cmin x w N r = x d := by
  have h1 := cmin_le (x := x) (w := w) (N := N) (d := d) (by omega) hd
  rw [hdr] at h1
  exact Int.le_antisymm h1 (le_cmin hr (by have := Nat.mod_le d w; omega) h)
theorem cmin_congr {x y : Nat → Int} {w N r : Nat} (hr : r < w) (h : ∀ d < N, d % w = r → x d = y d) : cmin x w N r = cmin y w N r := by
  unfold cmin
  congr 1
  exact List.map_congr_left fun d hd => h d ((mem_cls hr).mp hd).1 ((mem_cls hr).mp hd).2
/-- the least value of a kind from its differences -/
def lowI (D : Nat → Int) (w N r : Nat) : Int := maxI ((cls w N r).map fun d => 0 - D d)
theorem lowI_row {D x : Nat → Int} {w N r : Nat} (hr : r < w) (hN : r < N) (h : ∀ d < N, D d = x d - x (d % w)) : lowI D w N r = x r - cmin x w N r := by
  unfold lowI
  obtain ⟨d, h1, h2, h3⟩ := cmin_ex (x := x) hr hN
  refine maxI_eq (List.mem_map.mpr ⟨d, (mem_cls hr).mpr ⟨h1, h2⟩, by rw [h d h1, h2, ← h3]; omega⟩) fun y hy => ?_
  obtain ⟨e, h4, rfl⟩ := List.mem_map.mp hy
  obtain ⟨h5, h6⟩ := (mem_cls hr).mp h4
  have h7 := cmin_le (x := x) (w := w) (N := N) (d := e) (by omega) h5
  rw [h6] at h7
  rw [h e h5, h6]
  omega

/-! ### sums and their rows -/
def Bs (S : List Int) (w d : Nat) : Int := if h : d < w ∨ w = 0 then 0 else Bs S w (d - w) + S.getD (d - w) 0
termination_by d
decreasing_by omega
theorem Bs_lt {S : List Int} {w d : Nat} (h : d < w) : Bs S w d = 0 := by rw [Bs, dif_pos (.inl h)]
theorem Bs_add {S : List Int} {w d : Nat} (hw : 0 < w) : Bs S w (d + w) = Bs S w d + S.getD d 0 := by
  rw [Bs, dif_neg (by omega), Nat.add_sub_cancel]
def St (S : List Int) (w d : Nat) : Int := Bs S w (d + 1) - Bs S w d
def Dd (S : List Int) (w d : Nat) : Int := St S w d - St S w (d % w)
def IsRow (x : Nat → Int) (S : List Int) (w : Nat) : Prop := ∀ i < S.length, wsum x i w = S.getD i 0
theorem Bs_row {x : Nat → Int} {S : List Int} {w : Nat} (hw : 0 < w) (hx : IsRow x S w) : ∀ d, d < S.length + w → Bs S w d = psum x d - psum x (d % w) := by
  intro d
  induction d using Nat.strongRecOn with
  | _ d ih =>
    intro hd
    by_cases h : d < w
    · rw [Bs_lt h, Nat.mod_eq_of_lt h]; omega
    · obtain ⟨e, rfl⟩ : ∃ e, d = e + w := ⟨d - w, by omega⟩
      rw [Bs_add hw, ih e (by omega) (by omega), Nat.add_mod_right, ← hx e (by omega), wsum_psum]; omega
theorem mod_succ_mod (d w : Nat) : (d % w + 1) % w = (d + 1) % w := by
  rw [Nat.add_mod (d % w), Nat.mod_mod, ← Nat.add_mod]
theorem Dd_row {x : Nat → Int} {S : List Int} {w : Nat} (hw : 0 < w) (hx : IsRow x S w) {d : Nat} (hd : d + 1 < S.length + w) : Dd S w d = x d - x (d % w) := by
  have hm := Nat.mod_lt d hw
  have hm' := Nat.mod_le d w
  unfold Dd St
  rw [Bs_row hw hx (d + 1) hd, Bs_row hw hx d (by omega), Bs_row hw hx (d % w + 1) (by omega), Bs_row hw hx (d % w) (by omega), psum_succ, psum_succ, Nat.mod_mod, mod_succ_mod]
  omega
/-- the number of days -/
def dys (S : List Int) (w : Nat) : Nat := S.length + w - 1
def slackI (S : List Int) (w : Nat) : Int := S.getD 0 0 - ((List.range w).map fun r => lowI (Dd S w) w (dys S w) r).sum
def leastI (S : List Int) (w d : Nat) : Int := lowI (Dd S w) w (dys S w) (d % w) + Dd S w d
section
variable {x : Nat → Int} {S : List Int} {w : Nat}
theorem low_row (hw : 0 < w) (hS : S ≠ []) (hx : IsRow x S w) {r : Nat} (hr : r < w) : lowI (Dd S w) w (dys S w) r = x r - cmin x w (dys S w) r := by
  have := List.length_pos_iff.mpr hS
  unfold dys
  exact lowI_row hr (by omega) fun d hd => Dd_row hw hx (by omega)
theorem slack_row (hw : 0 < w) (hS : S ≠ []) (hx : IsRow x S w) : slackI S w = ((List.range w).map fun r => cmin x w (dys S w) r).sum := by
  have h0 := hx 0 (List.length_pos_iff.mpr hS)
  unfold slackI
  rw [List.map_congr_left (g := fun r => x r - cmin x w (dys S w) r) fun r hr => low_row hw hS hx (List.mem_range.mp hr), sum_map_sub, ← h0]
  unfold wsum
  simp only [Nat.zero_add]
  exact Int.sub_sub_self _ _
theorem least_row (hw : 0 < w) (hS : S ≠ []) (hx : IsRow x S w) {d : Nat} (hd : d < dys S w) : leastI S w d = x d - cmin x w (dys S w) (d % w) := by
  have := List.length_pos_iff.mpr hS
  unfold leastI
  rw [low_row hw hS hx (Nat.mod_lt _ hw), Dd_row hw hx (by unfold dys at hd; omega)]
  omega
/-- each sums have a row of integers -/
def rowOf (S : List Int) (w d : Nat) : Int := if h : d < w ∨ w = 0 then (if d = 0 then S.getD 0 0 else 0) else rowOf S w (d - w) + S.getD (d - w + 1) 0 - S.getD (d - w) 0
termination_by d
decreasing_by omega
theorem rowOf_lt {d : Nat} (h : d < w) : rowOf S w d = if d = 0 then S.getD 0 0 else 0 := by rw [rowOf, dif_pos (.inl h)]
theorem rowOf_add {d : Nat} (hw : 0 < w) : rowOf S w (d + w) = rowOf S w d + S.getD (d + 1) 0 - S.getD d 0 := by
  rw [rowOf, dif_neg (by omega), Nat.add_sub_cancel]
theorem wsum_one {c : Int} : ∀ w, 0 < w → wsum (fun d => if d = 0 then c else 0) 0 w = c
  | 1, _ => by simp [wsum]
  | w + 2, _ => by rw [wsum_succ, wsum_one (w + 1) (by omega)]; simp
theorem rowOf_row (hw : 0 < w) : IsRow (rowOf S w) S w := by
  intro i
  induction i with
  | zero =>
    intro h
    rw [wsum_congr (y := fun d => if d = 0 then S.getD 0 0 else 0) (k := 0) fun j hj => by rw [Nat.zero_add]; exact rowOf_lt hj]
    exact wsum_one w hw
  | succ i ih =>
    intro h
    rw [wsum_shift, ih (by omega), rowOf_add hw]
    omega
end

/-! ### slices with a step -/
theorem filterMap_tab {α : Type} {xs : List α} {is : List Nat} {f : Nat → α} (h : ∀ i ∈ is, xs[i]? = some (f i)) : is.filterMap (xs[·]?) = is.map f := by
  induction is with
  | nil => rfl
  | cons i is ih => rw [List.filterMap_cons_some (h i List.mem_cons_self), ih fun j hj => h j (List.mem_cons_of_mem _ hj)]; rfl
theorem sliceRange_cls {w N r : Nat} (hw : 0 < w) (hr : r ≤ N) : sliceRange (r : Int) (N : Int) (w : Int) = cls w N r := by
  unfold sliceRange cls
  have h1 : (w : Int) > 0 := by omega
  rw [if_pos h1]
  by_cases h : r < N
  · rw [if_pos (by omega : (r : Int) < N)]
    have e : ((N : Int) - r + w - 1) / w = (((N - r + w - 1) / w : Nat) : Int) := by
      rw [Int.natCast_ediv]; congr 1; omega
    rw [e]
    show List.map _ (List.range (Int.toNat (((N - r + w - 1) / w : Nat) : Int))) = _
    rw [Int.toNat_natCast]
    refine List.map_congr_left fun k _ => ?_
    rw [← Int.natCast_mul, ← Int.natCast_add, Int.toNat_natCast]
  · have : r = N := by omega
    subst this
    have h3 : (r - r + w - 1) / w = 0 := Nat.div_eq_of_lt (by omega)
    rw [if_neg (by omega), h3]
    rfl
theorem bounds_step {w N r : Nat} (hw : 0 < w) (hr : r ≤ N) : sliceBounds (some (r : Int)) none (some (w : Int)) N = ((r : Int), (N : Int), (w : Int)) := by
  have h1 : (w : Int) > 0 := by omega
  have h2 : ¬ ((r : Int) < 0) := by omega
  simp only [sliceBounds, Option.getD_some, h1, h2, if_true, if_false]
  rw [show max (0 : Int) (min (r : Int) (N : Int)) = r by omega]
theorem pickT_cls {w N r : Nat} {f : Nat → T} (hw : 0 < w) (hr : r ≤ N) (hrw : r < w) : pickT ((List.range N).map f) (some (r : Int)) none (some (w : Int)) = (cls w N r).map f := by
  unfold pickT
  rw [show ((List.range N).map f).length = N by simp, bounds_step hw hr]
  show (sliceRange (r : Int) N w).filterMap _ = _
  rw [sliceRange_cls hw hr]
  refine filterMap_tab fun i hi => ?_
  have := ((mem_cls hrw).mp hi).1
  simp [this]
theorem pickT_rev {xs : List T} : pickT xs none none (some (-1)) = xs.reverse := by
  unfold pickT
  have hb : sliceBounds none none (some (-1)) xs.length = ((xs.length : Int) - 1, -1, -1) := rfl
  rw [hb]
  have e : sliceRange ((xs.length : Int) - 1) (-1) (-1) = (List.range xs.length).map fun k => xs.length - 1 - k := by
    unfold sliceRange
    have h1 : ¬ ((-1 : Int) > 0) := by decide
    rw [if_neg h1]
    by_cases h : (xs.length : Int) - 1 > -1
    · rw [if_pos h]
      have e : ((xs.length : Int) - 1 - -1 - -1 - 1) / (- -1) = (xs.length : Int) := by
        rw [show (- -1 : Int) = 1 by decide, Int.ediv_one]; omega
      rw [e]
      show List.map _ (List.range (Int.toNat ((xs.length : Nat) : Int))) = _
      rw [Int.toNat_natCast]
      refine List.map_congr_left fun k hk => ?_
      have := List.mem_range.mp hk
      omega
    · have e : xs.length = 0 := by omega
      rw [e, if_neg (by omega)]
      rfl
  rw [e, filterMap_tab (f := fun i => xs.getD i .non) fun i hi => ?_]
  · apply List.ext_getElem (by simp)
    intro i h1 h2
    simp only [List.length_map, List.length_range] at h1
    simp [List.getElem?_eq_getElem (show xs.length - 1 - i < xs.length by omega)]
  · obtain ⟨k, hk, rfl⟩ := List.mem_map.mp hi
    have := List.mem_range.mp hk
    rw [List.getD_eq_getElem?_getD, List.getElem?_eq_getElem (by omega)]
    rfl

/-! ### a row and its sums -/
def sumsI (R : List Int) (w : Nat) : List Int := (List.range (R.length + 1 - w)).map fun k => ((R.drop k).take w).sum
def rx (R : List Int) (d : Nat) : Int := R.getD d 0
theorem wsum_rx {R : List Int} {i w : Nat} (h : i + w ≤ R.length) : wsum (rx R) i w = ((R.drop i).take w).sum := by
  unfold wsum
  congr 1
  apply List.ext_getElem (by simp; omega)
  intro j h1 h2
  have hj : j < w := by simpa using h1
  simp [rx, show i + j < R.length by omega]
theorem sumsI_len {R : List Int} {w : Nat} : (sumsI R w).length = R.length + 1 - w := by unfold sumsI; simp
theorem sumsI_get {R : List Int} {w i : Nat} (h : i < R.length + 1 - w) : (sumsI R w).getD i 0 = ((R.drop i).take w).sum := by
  unfold sumsI; simp [h]
theorem isRow_sums {R : List Int} {w : Nat} : IsRow (rx R) (sumsI R w) w := by
  intro i hi
  rw [sumsI_len] at hi
  rw [sumsI_get hi, wsum_rx (by omega)]
theorem sums_of_row {R S : List Int} {w : Nat} (hl : R.length + 1 - w = S.length) (h : IsRow (rx R) S w) : sumsI R w = S := by
  apply List.ext_getElem (by rw [sumsI_len, hl])
  intro i h1 h2
  have h3 := h i h2
  rw [sumsI_len] at h1
  rw [wsum_rx (by omega)] at h3
  have e1 := sumsI_get (R := R) (w := w) h1
  rw [h3, List.getD_eq_getElem?_getD, List.getD_eq_getElem?_getD, List.getElem?_eq_getElem h2, List.getElem?_eq_getElem (by rw [sumsI_len]; exact h1)] at e1
  exact e1
theorem dys_sums {R : List Int} {w : Nat} (h : w ≤ R.length) : dys (sumsI R w) w = R.length := by unfold dys; rw [sumsI_len]; omega
def numB (i : Int) : Bool := decide (0 ≤ i ∧ i ≤ 1000000000)
def okSums (S : List Int) : Bool := decide (1 ≤ S.length ∧ S.length ≤ 40) && S.all numB
theorem okSums_iff {S : List Int} (h : okSums S = true) : S ≠ [] ∧ S.length ≤ 40 ∧ ∀ i ∈ S, 0 ≤ i ∧ i ≤ 1000000000 := by
  unfold okSums at h
  rw [Bool.and_eq_true, decide_eq_true_eq, List.all_eq_true] at h
  refine ⟨fun e => ?_, h.1.2, fun i hi => of_decide_eq_true (h.2 i hi)⟩
  rw [e] at h
  exact absurd h.1.1 (by decide)
theorem okSums_mk {S : List Int} (h1 : 1 ≤ S.length) (h2 : S.length ≤ 40) (h3 : ∀ i ∈ S, 0 ≤ i ∧ i ≤ 1000000000) : okSums S = true := by
  unfold okSums
  rw [Bool.and_eq_true, decide_eq_true_eq, List.all_eq_true]
  exact ⟨⟨h1, h2⟩, fun i hi => decide_eq_true (h3 i hi)⟩
theorem sumsI_bounds {R : List Int} {w : Nat} {c : Int} (hR : ∀ v ∈ R, 0 ≤ v ∧ v ≤ c) (hc : 0 ≤ c) : ∀ i ∈ sumsI R w, 0 ≤ i ∧ i ≤ w * c := by
  intro i hi
  obtain ⟨k, _, rfl⟩ := List.mem_map.mp hi
  have hm : ∀ v ∈ (R.drop k).take w, 0 ≤ v ∧ v ≤ c := fun v hv => hR v (List.mem_of_mem_drop (List.mem_of_mem_take hv))
  refine ⟨sum_nonneg fun a ha => (hm a ha).1, Int.le_trans (sum_le_mul fun a ha => (hm a ha).2) ?_⟩
  exact Int.mul_le_mul_of_nonneg_right (by simp; omega) hc
theorem okSums_row {R : List Int} {w : Nat} {c : Int} (hR : ∀ v ∈ R, 0 ≤ v ∧ v ≤ c) (hc : 0 ≤ c) (hw : w * c ≤ 1000000000) (h1 : w ≤ R.length) (h2 : R.length + 1 - w ≤ 40) : okSums (sumsI R w) = true :=
  okSums_mk (by rw [sumsI_len]; omega) (by rw [sumsI_len]; omega) fun i hi => ⟨(sumsI_bounds hR hc i hi).1, Int.le_trans (sumsI_bounds hR hc i hi).2 hw⟩
theorem rx_nonneg {R : List Int} (hR : ∀ v ∈ R, 0 ≤ v) (d : Nat) : 0 ≤ rx R d := by
  unfold rx
  by_cases h : d < R.length
  · rw [List.getD_eq_getElem?_getD, List.getElem?_eq_getElem h]; exact hR _ (List.getElem_mem h)
  · rw [List.getD_eq_getElem?_getD, List.getElem?_eq_none (by omega)]; exact Int.le_refl _
/-! ### stretches -/
theorem wsum_per {f : Nat → Int} {w : Nat} : ∀ s, wsum (fun d => f (d % w)) s w = wsum (fun d => f (d % w)) 0 w
  | 0 => rfl
  | s + 1 => by
    rw [wsum_shift, wsum_per s]
    simp only [Nat.add_mod_right]
    omega
theorem sum_rot {f : Nat → Int} {w : Nat} (s : Nat) : ((List.range w).map fun r => f ((s + r) % w)).sum = ((List.range w).map f).sum := by
  have h : wsum (fun d => f (d % w)) s w = wsum (fun d => f (d % w)) 0 w := wsum_per s
  unfold wsum at h
  rw [h]
  congr 1
  refine List.map_congr_left fun r hr => ?_
  show f ((0 + r) % w) = f r
  rw [Nat.zero_add, Nat.mod_eq_of_lt (List.mem_range.mp hr)]
def cutI (S : List Int) (s l : Nat) : List Int := (S.drop s).take l
theorem cutI_len {S : List Int} {s l : Nat} (h : s + l ≤ S.length) : (cutI S s l).length = l := by unfold cutI; simp; omega
theorem cutI_get {S : List Int} {s l i : Nat} (h : s + l ≤ S.length) (hi : i < l) : (cutI S s l).getD i 0 = S.getD (s + i) 0 := by
  unfold cutI
  simp [hi]
theorem isRow_cut {x : Nat → Int} {S : List Int} {w s l : Nat} (hx : IsRow x S w) (h : s + l ≤ S.length) : IsRow (fun d => x (s + d)) (cutI S s l) w := by
  intro i hi
  rw [cutI_len h] at hi
  rw [cutI_get h hi, ← hx (s + i) (by omega)]
  exact wsum_congr fun j _ => by rw [Nat.add_assoc]
section
variable {x : Nat → Int} {S : List Int} {w s l : Nat} (hw : 0 < w) (hx : IsRow x S w) (h : s + l ≤ S.length) (hl : 0 < l)
include hw hx h hl
theorem cut_ne : cutI S s l ≠ [] := List.length_pos_iff.mp (by rw [cutI_len h]; exact hl)
theorem cmin_cut {r : Nat} (hr : r < w) : cmin x w (dys S w) ((s + r) % w) ≤ cmin (fun d => x (s + d)) w (dys (cutI S s l) w) r := by
  have hd : dys (cutI S s l) w = l + w - 1 := by unfold dys; rw [cutI_len h]
  rw [hd]
  refine le_cmin hr (by omega) fun d h1 h2 => ?_
  have e : (s + d) % w = (s + r) % w := by rw [Nat.add_mod, h2, Nat.add_mod s r, Nat.mod_eq_of_lt hr]
  rw [← e]
  exact cmin_le hw (by unfold dys; omega)
theorem slack_cut : slackI S w ≤ slackI (cutI S s l) w := by
  have hS : S ≠ [] := List.length_pos_iff.mp (by omega)
  rw [slack_row hw hS hx, slack_row hw (cut_ne hw hx h hl) (isRow_cut hx h), ← sum_rot (f := fun r => cmin x w (dys S w) r) s]
  exact sum_map_le _ _ _ fun r hr => cmin_cut hw hx h hl (List.mem_range.mp hr)
theorem least_cut {d : Nat} (hd : d < l + w - 1) : leastI (cutI S s l) w d ≤ leastI S w (s + d) ∧ leastI S w (s + d) + slackI S w ≤ leastI (cutI S s l) w d + slackI (cutI S s l) w := by
  have hS : S ≠ [] := List.length_pos_iff.mp (by omega)
  have hc := cut_ne hw hx h hl
  have hr := isRow_cut (w := w) hx h
  have hd1 : dys (cutI S s l) w = l + w - 1 := by unfold dys; rw [cutI_len h]
  have e : (s + d) % w = (s + d % w) % w := by rw [Nat.add_mod s (d % w), Nat.mod_mod, ← Nat.add_mod]
  rw [least_row hw hc hr (by omega), least_row hw hS hx (by unfold dys; omega), slack_row hw hS hx, slack_row hw hc hr, ← sum_rot (f := fun r => cmin x w (dys S w) r) s, e]
  have h1 := cmin_cut hw hx h hl (Nat.mod_lt d hw)
  refine ⟨by omega, ?_⟩
  have key : ∀ (L : List Nat), (∀ r ∈ L, r < w) → d % w ∈ L → (L.map fun r => cmin x w (dys S w) ((s + r) % w)).sum - cmin x w (dys S w) ((s + d % w) % w) ≤
      (L.map fun r => cmin (fun d => x (s + d)) w (dys (cutI S s l) w) r).sum - cmin (fun d => x (s + d)) w (dys (cutI S s l) w) (d % w) := by
    intro L
    induction L with
    | nil => intro _ hm; cases hm
    | cons a L ih =>
      intro hL hm
      simp only [List.map_cons, List.sum_cons]
      rcases List.mem_cons.mp hm with e1 | hm
      · rw [← e1]
        have := sum_map_le (fun r => cmin x w (dys S w) ((s + r) % w)) (fun r => cmin (fun d => x (s + d)) w (dys (cutI S s l) w) r) L fun r hr => cmin_cut hw hx h hl (hL r (List.mem_cons_of_mem _ hr))
        omega
      · have h2 := ih (fun r hr => hL r (List.mem_cons_of_mem _ hr)) hm
        have h3 := cmin_cut hw hx h hl (hL a List.mem_cons_self)
        omega
  have := key (List.range w) (fun r hr => List.mem_range.mp hr) (List.mem_range.mpr (Nat.mod_lt d hw))
  omega
end
theorem slack_nonneg {x : Nat → Int} {S : List Int} {w : Nat} (hw : 0 < w) (hS : S ≠ []) (hx : IsRow x S w) (h0 : ∀ d, 0 ≤ x d) : 0 ≤ slackI S w := by
  rw [slack_row hw hS hx]
  refine sum_nonneg fun a ha => ?_
  obtain ⟨r, hr, rfl⟩ := List.mem_map.mp ha
  have hp := List.length_pos_iff.mpr hS
  exact le_cmin (List.mem_range.mp hr) (by have := List.mem_range.mp hr; unfold dys; omega) fun d _ _ => h0 d
/-- one sum alone -/
theorem slack_one {S : List Int} {w : Nat} (hw : 0 < w) (h : S.length = 1) : slackI S w = S.getD 0 0 := by
  have hr := rowOf_row (S := S) hw
  rw [slack_row hw (List.length_pos_iff.mp (by omega)) hr, ← hr 0 (by omega)]
  unfold wsum
  congr 1
  refine List.map_congr_left fun r hr => ?_
  have hr := List.mem_range.mp hr
  rw [Nat.zero_add]
  refine cmin_eq hr (by unfold dys; omega) (Nat.mod_eq_of_lt hr) fun e he e2 => ?_
  have : e < w := by unfold dys at he; omega
  rw [Nat.mod_eq_of_lt this] at e2
  rw [e2]; exact Int.le_refl _
end Fx
namespace Fx
open PySem PySem.Spec PyProof.Rows L2
/-! ### _law_try, applied -/
def tryK (cs : List (String × Str)) (ρ : Rho) (r : Rz T) : Rz T := match r with
  | .ok t _ => .ok (.tup [.str "told", t]) ρ
  | .rs c none => (match cs.lookup c with
    | some w => .ok (.str w) ρ
    | none => .stuck)
  | _ => .stuck
@[simp] theorem fTry_ap {cs : List (String × Str)} {φ : Rho → Rz T} {ρ : Rho} : fTry cs φ ρ = tryK cs ρ (φ (hideO ρ)) := by
  unfold fTry tryK; rfl
@[simp] theorem tryK_ok {cs : List (String × Str)} {ρ ρ1 : Rho} {t : T} : tryK cs ρ (.ok t ρ1) = .ok (.tup [.str "told", t]) ρ := byRfl rfl
theorem tryK_rs {cs : List (String × Str)} {ρ : Rho} {c : String} {w : Str} (h : cs.lookup c = some w) : tryK cs ρ (.rs c none) = .ok (.str w) ρ := by
  unfold tryK; simp only [h]
@[simp] theorem hideO_nil : hideO [] = [] := byRfl rfl
@[simp] theorem hideO_va' {t : T} {ρ : Rho} : hideO (.va t :: ρ) = .va t :: hideO ρ := byRfl rfl
@[simp] theorem hideO_ow' {ts : List T} {ρ : Rho} : hideO (.ow ts :: ρ) = .no :: hideO ρ := byRfl rfl
@[simp] theorem hideO_no {ρ : Rho} : hideO (.no :: ρ) = .no :: hideO ρ := byRfl rfl
def hideS (s : Sl) : Sl := match s with
  | .ow _ => .no
  | s => s
theorem hideO_cons {s : Sl} {ρ : Rho} : hideO (s :: ρ) = hideS s :: hideO ρ := by cases s <;> rfl
def frzS (s : Sl) : Sl := match s with
  | .ow ts => .va (.lst ts)
  | s => s
theorem frzAll_cons {s : Sl} {ρ : Rho} : frzAll (s :: ρ) = frzS s :: frzAll ρ := by cases s <;> rfl
theorem frzAll_nil : frzAll [] = [] := rfl
@[simp] theorem fList_ap {a : Rho → Rz T} {ρ : Rho} : fList a ρ = (a ρ).bind fun t ρ1 => Rz.of (itemsT t) ρ1 := byRfl rfl
/-- a for loop at the end of a body -/
theorem for_goes {γ : T → Rho → Option Rho} {body : Rho → Out} {P : Rho → Prop} {ts : List T} {ρ : Rho} (I : Nat → Rho → Prop) (h0 : I 0 ρ) (hs : ∀ j t ρ, ts[j]? = some t → I j ρ → ForS γ body t ρ (I (j + 1))) (he : ∀ ρ, I ts.length ρ → P ρ) : (forGo γ body ts ρ).goes P := by
  obtain ⟨ρ', e, h⟩ := for_go I ts 0 ρ h0 fun j t ρ hj hI => by
    rw [Nat.zero_add] at hI ⊢
    exact hs j t ρ hj hI
  rw [e]
  rw [Nat.zero_add] at h
  exact he ρ' h
theorem forGo_step {γ : T → Rho → Option Rho} {body : Rho → Out} {t : T} {ts : List T} {ρ ρ1 ρ2 : Rho} (h : γ t ρ = some ρ1) (h2 : body ρ1 = .nx ρ2) : forGo γ body (t :: ts) ρ = forGo γ body ts ρ2 := by
  rw [forGo, h]
  simp only [h2]
theorem goes_cons {γ : T → Rho → Option Rho} {body : Rho → Out} {P : Rho → Prop} {t : T} {ts : List T} {ρ : Rho} (I : Rho → Prop) (h : ForS γ body t ρ I) (h2 : ∀ ρ2, I ρ2 → (forGo γ body ts ρ2).goes P) : (forGo γ body (t :: ts) ρ).goes P := by
  obtain ⟨ρ2, h3, h4⟩ := forS_step (ts := ts) h
  rw [h4]
  exact h2 ρ2 h3
/-! ### binomial coefficients -/
def ch : Nat → Nat → Nat
  | _, 0 => 1
  | 0, _ + 1 => 0
  | n + 1, k + 1 => ch n k + ch n (k + 1)
@[simp] theorem ch_zero {n : Nat} : ch n 0 = 1 := by cases n <;> rfl
theorem ch_succ {n k : Nat} : ch (n + 1) (k + 1) = ch n k + ch n (k + 1) := rfl
theorem ch_lt : ∀ {n k : Nat}, n < k → ch n k = 0
  | 0, k + 1, _ => rfl
  | n + 1, k + 1, h => by rw [ch_succ, ch_lt (show n < k by omega), ch_lt (show n < k + 1 by omega)]
theorem ch_step : ∀ {n k : Nat}, ch n (k + 1) * (k + 1) = ch n k * (n - k)
  | 0, k => by simp [ch]
  | n + 1, 0 => by
    have := ch_step (n := n) (k := 0)
    simp [ch_succ] at this ⊢
    omega
  | n + 1, k + 1 => by
    have h1 := ch_step (n := n) (k := k)
    have h2 := ch_step (n := n) (k := k + 1)
    rw [ch_succ, ch_succ]
    by_cases hk : k + 1 ≤ n
    · obtain ⟨m, rfl⟩ : ∃ m, n = k + 1 + m := ⟨n - (k + 1), by omega⟩
      rw [show k + 1 + m - (k + 1) = m by omega] at h2
      rw [show k + 1 + m - k = m + 1 by omega] at h1
      rw [show k + 1 + m + 1 - (k + 1) = m + 1 by omega]
      generalize ch (k + 1 + m) k = a at *
      generalize ch (k + 1 + m) (k + 1) = b at *
      generalize ch (k + 1 + m) (k + 1 + 1) = c at *
      rw [Nat.add_mul, Nat.add_mul, h2, ← h1]
      simp only [Nat.mul_add, Nat.mul_one]
      omega
    · rw [ch_lt (show n < k + 1 by omega), ch_lt (show n < k + 1 + 1 by omega), show n + 1 - (k + 1) = n - k by omega]
      rw [ch_lt (show n < k + 1 by omega)] at h1
      rw [Nat.add_zero]; simpa using h1
theorem ch_mono : ∀ {m n k : Nat}, m ≤ n → ch m k ≤ ch n k := by
  intro m n k h
  induction h with
  | refl => exact Nat.le_refl _
  | step h ih =>
    refine Nat.le_trans ih ?_
    cases k with
    | zero => simp
    | succ k => rw [ch_succ]; omega
theorem ch_le : ∀ {n k : Nat}, ch n k ≤ (n + 1) ^ k
  | n, 0 => by simp
  | 0, k + 1 => by simp [ch]
  | n + 1, k + 1 => by
    have h1 := ch_le (n := n) (k := k)
    have h2 := ch_le (n := n) (k := k + 1)
    rw [ch_succ]
    have h3 : (n + 1) ^ k ≤ (n + 1 + 1) ^ k := Nat.pow_le_pow_left (by omega) k
    have h4 : (n + 1 + 1) ^ (k + 1) = (n + 1 + 1) ^ k * (n + 1) + (n + 1 + 1) ^ k := by rw [Nat.pow_succ, Nat.mul_add, Nat.mul_one]
    have h5 : (n + 1) ^ (k + 1) ≤ (n + 1 + 1) ^ k * (n + 1) := by rw [Nat.pow_succ]; exact Nat.mul_le_mul_right _ h3
    omega
theorem ch_log {n k : Nat} (hn : n < 2 ^ 40) (hk : k ≤ 1000) : (ch n k).log2 ≤ 41000 := by
  by_cases h0 : ch n k = 0
  · rw [h0]; decide
  · have h1 := ch_le (n := n) (k := k)
    have h2 : (n + 1) ^ k ≤ (2 ^ 40) ^ k := Nat.pow_le_pow_left (by omega) k
    rw [← Nat.pow_mul] at h2
    have h3 : ch n k < 2 ^ (41000 + 1) := Nat.lt_of_le_of_lt (Nat.le_trans h1 h2) (Nat.pow_lt_pow_right (by omega) (by omega))
    exact Nat.lt_succ_iff.mp ((Nat.log2_lt h0).mpr h3)
/-! ### slacks of grown sums, of added sums -/
theorem getD_map_add {S : List Int} {c : Int} {i : Nat} (h : i < S.length) : (S.map (· + c)).getD i 0 = S.getD i 0 + c := by
  simp [h]
theorem wsum_head {w : Nat} {c : Int} (hw : 0 < w) : ∀ i, wsum (fun d => if d % w = 0 then c else 0) i w = c := by
  intro i
  have h := wsum_per (f := fun r => if r = 0 then c else 0) (w := w) i
  have h0 : wsum (fun d => if d % w = 0 then c else 0) 0 w = wsum (fun d => if d = 0 then c else 0) 0 w := wsum_congr fun j hj => by rw [Nat.zero_add, Nat.mod_eq_of_lt hj]
  rw [wsum_one w hw] at h0
  exact h.trans h0
theorem wsum_add {x y : Nat → Int} {i w : Nat} : wsum (fun d => x d + y d) i w = wsum x i w + wsum y i w := by
  unfold wsum
  exact sum_map_add _ _ _
section
variable {S : List Int} {w : Nat} {c : Int} (hw : 0 < w) (hS : S ≠ [])
include hw hS
theorem grown_row {x : Nat → Int} (hx : IsRow x S w) : IsRow (fun d => x d + if d % w = 0 then c else 0) (S.map (· + c)) w := by
  intro i hi
  rw [List.length_map] at hi
  rw [wsum_add, wsum_head hw, hx i hi, getD_map_add hi]
theorem dys_map {f : Int → Int} : dys (S.map f) w = dys S w := by unfold dys; rw [List.length_map]
theorem cmin_grown {x : Nat → Int} {r : Nat} (hr : r < w) : cmin (fun d => x d + if d % w = 0 then c else 0) w (dys S w) r = cmin x w (dys S w) r + if r = 0 then c else 0 := by
  have hp := List.length_pos_iff.mpr hS
  obtain ⟨d, h1, h2, h3⟩ := cmin_ex (x := x) hr (show r < dys S w by unfold dys; omega)
  rw [cmin_eq (d := d) hr h1 h2 fun e he h4 => ?_, ← h3, h2]
  have h5 := cmin_le (x := x) hw he
  rw [h4, ← h3] at h5
  rw [h2, h4]
  omega
theorem slack_grown : slackI (S.map (· + c)) w = slackI S w + c := by
  have hx := rowOf_row (S := S) hw
  have hS2 : S.map (· + c) ≠ [] := by simpa using hS
  rw [slack_row hw hS2 (grown_row hw hS hx), slack_row hw hS hx, dys_map hw hS, List.map_congr_left (g := fun r => cmin (rowOf S w) w (dys S w) r + if r = 0 then c else 0) fun r hr => cmin_grown hw hS (List.mem_range.mp hr), sum_map_add]
  congr 1
  have := wsum_one (c := c) w hw
  unfold wsum at this
  simpa using this
theorem least_grown {d : Nat} (hd : d < dys S w) : leastI (S.map (· + c)) w d = leastI S w d := by
  have hx := rowOf_row (S := S) hw
  have hS2 : S.map (· + c) ≠ [] := by simpa using hS
  rw [least_row hw hS2 (grown_row hw hS hx) (by rw [dys_map hw hS]; exact hd), least_row hw hS hx hd, dys_map hw hS, cmin_grown hw hS (Nat.mod_lt _ hw)]
  omega
end
/-- place by place -/
def addI (A B : List Int) : List Int := (A.zip B).map fun p => p.1 + p.2
theorem addI_len {A B : List Int} : (addI A B).length = min A.length B.length := by unfold addI; simp
theorem addI_get {A B : List Int} {i : Nat} (h1 : i < A.length) (h2 : i < B.length) : (addI A B).getD i 0 = A.getD i 0 + B.getD i 0 := by
  unfold addI
  have : i < (A.zip B).length := by simp; omega
  simp [List.getElem?_eq_getElem this, h1, h2]
theorem addI_row {x y : Nat → Int} {A B : List Int} {w : Nat} (hl : A.length = B.length) (hx : IsRow x A w) (hy : IsRow y B w) : IsRow (fun d => x d + y d) (addI A B) w := by
  intro i hi
  rw [addI_len] at hi
  rw [wsum_add, hx i (by omega), hy i (by omega), addI_get (by omega) (by omega)]
theorem slack_add {A B : List Int} {w : Nat} (hw : 0 < w) (hA : A ≠ []) (hl : A.length = B.length) : slackI A w + slackI B w ≤ slackI (addI A B) w := by
  have hp := List.length_pos_iff.mpr hA
  have hB : B ≠ [] := List.length_pos_iff.mp (by omega)
  have hC : addI A B ≠ [] := List.length_pos_iff.mp (by rw [addI_len]; omega)
  have hx := rowOf_row (S := A) hw
  have hy := rowOf_row (S := B) hw
  have e1 : dys B w = dys A w := by unfold dys; omega
  have e2 : dys (addI A B) w = dys A w := by unfold dys; rw [addI_len]; omega
  rw [slack_row hw hA hx, slack_row hw hB hy, slack_row hw hC (addI_row hl hx hy), e1, e2, ← sum_map_add]
  refine sum_map_le _ _ _ fun r hr => ?_
  have hr := List.mem_range.mp hr
  refine le_cmin hr (by unfold dys; omega) fun d h1 h2 => ?_
  have h3 := cmin_le (x := rowOf A w) hw h1
  have h4 := cmin_le (x := rowOf B w) hw h1
  rw [h2] at h3 h4
  omega
theorem addI_take {A B : List Int} : addI A B = addI (A.take (min A.length B.length)) (B.take (min A.length B.length)) := by
  unfold addI
  apply List.ext_getElem
  · simp
  · intro i h1 h2
    simp
end Fx
namespace Fx
open PySem PySem.Spec PyProof.Rows L2
/-! ### slices of tuples with a step, told -/
theorem pickS_rev {α : Type} {xs : List α} : pickS xs none none (-1) = xs.reverse := by
  unfold pickS
  have h1 : (Builtin.Slice.sliceAdjust none none (-1) xs.length) = ((xs.length : Int) - 1, -1) := by
    unfold Builtin.Slice.sliceAdjust; rfl
  rw [h1]
  have h2 : Builtin.Slice.slicePlaces ((xs.length : Int) - 1) (-1) (-1) = xs.length := by
    unfold Builtin.Slice.slicePlaces
    rw [if_neg (by decide)]
    by_cases h : xs.length = 0
    · rw [h]; rfl
    · rw [if_pos (by omega)]
      rw [show (- -1 : Int) = 1 by decide, Int.ediv_one]
      omega
  show (List.range (Builtin.Slice.slicePlaces ((xs.length : Int) - 1) (-1) (-1))).filterMap _ = _
  rw [h2]
  have e : (fun k : Nat => xs[(((xs.length : Int) - 1, (-1 : Int)).1 + (k : Int) * -1).toNat]?) = fun k : Nat => xs[xs.length - 1 - k]? := by
    funext k
    congr 1
    show ((xs.length : Int) - 1 + (k : Int) * -1).toNat = _
    omega
  rw [e]
  have key : ∀ n, n ≤ xs.length → (List.range n).filterMap (fun k : Nat => xs[xs.length - 1 - k]?) = (xs.drop (xs.length - n)).reverse := by
    intro n
    induction n with
    | zero => intro _; simp
    | succ n ih =>
      intro h
      rw [List.range_succ, List.filterMap_append, ih (by omega)]
      have hi : xs.length - 1 - n < xs.length := by omega
      rw [show xs.drop (xs.length - (n + 1)) = xs[xs.length - 1 - n] :: xs.drop (xs.length - n) by
        rw [show xs.length - (n + 1) = xs.length - 1 - n by omega, List.drop_eq_getElem_cons hi, show xs.length - 1 - n + 1 = xs.length - n by omega]]
      rw [List.reverse_cons]
      congr 1
      simp [List.getElem?_eq_getElem hi]
  rw [key xs.length (Nat.le_refl _)]
  simp
theorem pickS_cls {w N r : Nat} {f : Nat → T} (hw : 0 < w) (hr : r ≤ N) : pickS ((List.range N).map f) (some (r : Int)) none (w : Int) = (cls w N r).map f := by
  unfold pickS
  rw [show ((List.range N).map f).length = N by simp]
  have h1 : Builtin.Slice.sliceAdjust (some (r : Int)) none (w : Int) (N : Int) = ((r : Int), (N : Int)) := by
    unfold Builtin.Slice.sliceAdjust
    have a : ¬ ((w : Int) < 0) := by omega
    have b : ¬ ((r : Int) < 0) := by omega
    simp only [a, b, if_false]
    rw [show min (r : Int) (N : Int) = r by omega]
  rw [h1]
  have h2 : Builtin.Slice.slicePlaces (r : Int) (N : Int) (w : Int) = (N - r + w - 1) / w := by
    unfold Builtin.Slice.slicePlaces
    rw [if_pos (by omega)]
    by_cases h : r < N
    · rw [if_pos (by omega)]
      have e : ((N : Int) - r - 1) / w + 1 = (((N - r + w - 1) / w : Nat) : Int) := by
        rw [show N - r + w - 1 = (N - r - 1) + w by omega, Nat.add_div_right _ hw, Int.natCast_add, Int.natCast_ediv]
        congr 2
        omega
      rw [e]; rfl
    · rw [if_neg (by omega), show N - r + w - 1 = w - 1 by omega, Nat.div_eq_of_lt (by omega)]; rfl
  show (List.range (Builtin.Slice.slicePlaces (r : Int) (N : Int) (w : Int))).filterMap _ = _
  rw [h2]
  unfold cls
  rw [List.map_map]
  have hlt : ∀ j, j < (N - r + w - 1) / w → r + w * j < N := fun j hj => by
    have h3 : w * (j + 1) ≤ N - r + w - 1 := by
      have := (Nat.le_div_iff_mul_le hw).mp (show j + 1 ≤ (N - r + w - 1) / w by omega)
      rw [Nat.mul_comm]; exact this
    rw [Nat.mul_add, Nat.mul_one] at h3
    omega
  generalize (N - r + w - 1) / w = n at hlt
  induction n with
  | zero => rfl
  | succ n ih =>
    rw [List.range_succ, List.filterMap_append, List.map_append, ih fun j hj => hlt j (by omega)]
    congr 1
    have h4 := hlt n (by omega)
    have e : ((r : Int) + (n : Int) * w).toNat = r + w * n := by
      rw [← Int.natCast_mul, ← Int.natCast_add, Int.toNat_natCast, Nat.mul_comm]
    have h5 : ((List.range N).map f)[((r : Int) + (n : Int) * w).toNat]? = some (f (r + w * n)) := by
      rw [e]; simp [h4]
    simp only [List.filterMap_cons, List.filterMap_nil, List.map_cons, List.map_nil, Function.comp]
    rw [h5]
theorem pickS_len {α : Type} {xs : List α} {lo hi : Option Int} {c : Int} {n : Nat} (h : pickS xs lo hi c = pickS xs lo hi c) : True := trivial
/-! ### sums by kinds -/
theorem cls_succ {w N r : Nat} (hr : r < w) : cls w (N + 1) r = if N % w = r then cls w N r ++ [N] else cls w N r := by
  have hw : 0 < w := by omega
  unfold cls
  by_cases hN : r ≤ N
  · have e1 : N + 1 - r + w - 1 = (N - r) + w := by omega
    have e2 : (N - r + w - 1) / w = if N % w = r then (N - r) / w else (N - r) / w + 1 := by
      have hm := Nat.mod_add_div (N - r) w
      have hl := Nat.mod_lt (N - r) hw
      have hiff : N % w = r ↔ (N - r) % w = 0 := by
        constructor
        · intro h
          have := Nat.mod_add_div N w
          rw [show N - r = w * (N / w) by omega]
          simp
        · intro h
          have := Nat.mod_add_div (N - r) w
          rw [h] at this
          rw [show N = r + w * ((N - r) / w) by omega, Nat.add_mul_mod_self_left, Nat.mod_eq_of_lt hr]
      by_cases h0 : (N - r) % w = 0
      · rw [if_pos (hiff.mpr h0)]
        rw [show N - r + w - 1 = (w - 1) + w * ((N - r) / w) by omega, Nat.add_mul_div_left _ _ hw, Nat.div_eq_of_lt (by omega)]
        omega
      · rw [if_neg fun h => h0 (hiff.mp h)]
        rw [show N - r + w - 1 = ((N - r) % w - 1) + w * ((N - r) / w + 1) by rw [Nat.mul_add, Nat.mul_one]; omega, Nat.add_mul_div_left _ _ hw, Nat.div_eq_of_lt (by omega)]
        omega
    rw [e1, Nat.add_div_right _ hw, e2]
    by_cases h : N % w = r
    · rw [if_pos h, if_pos h, List.range_succ, List.map_append]
      congr 1
      have := Nat.mod_add_div N w
      simp
      have : (N - r) = w * (N / w) := by omega
      rw [this, Nat.mul_div_cancel_left _ hw]
      omega
    · rw [if_neg h, if_neg h]
  · have h1 : N % w ≠ r := by rw [Nat.mod_eq_of_lt (by omega)]; omega
    rw [if_neg h1, show N + 1 - r + w - 1 = w - 1 by omega, show N - r + w - 1 = w - 1 by omega]
theorem sum_pick {w k : Nat} {c : Int} (h : k < w) : ((List.range w).map fun r => if k = r then c else 0).sum = c := by
  induction w with
  | zero => omega
  | succ w ih =>
    rw [List.range_succ, List.map_append, sum_app]
    by_cases hk : k = w
    · subst hk
      have : ((List.range k).map fun r => if k = r then c else 0) = (List.range k).map fun _ => (0 : Int) := List.map_congr_left fun r hr => if_neg (by have := List.mem_range.mp hr; omega)
      rw [this]
      have z : ∀ l : List Nat, (l.map fun _ => (0 : Int)).sum = 0 := fun l => by induction l with
        | nil => rfl
        | cons a l ih => simpa using ih
      rw [z]; simp
    · rw [ih (by omega)]; simp [hk]
theorem sum_cls {w : Nat} (hw : 0 < w) (f : Nat → Int) : ∀ N, ((List.range N).map f).sum = ((List.range w).map fun r => ((cls w N r).map f).sum).sum
  | 0 => by
    have : ((List.range w).map fun r => ((cls w 0 r).map f).sum) = (List.range w).map fun _ => (0 : Int) := List.map_congr_left fun r hr => by
      unfold cls
      rw [show 0 - r + w - 1 = w - 1 by omega, Nat.div_eq_of_lt (by omega)]; rfl
    rw [this]
    have z : ∀ l : List Nat, (l.map fun _ => (0 : Int)).sum = 0 := fun l => by induction l with
      | nil => rfl
      | cons a l ih => simpa using ih
    rw [z]; rfl
  | N + 1 => by
    rw [List.range_succ, List.map_append, sum_app, sum_cls hw f N]
    have : ((List.range w).map fun r => ((cls w (N + 1) r).map f).sum) = (List.range w).map fun r => ((cls w N r).map f).sum + (if N % w = r then f N else 0) := List.map_congr_left fun r hr => by
      rw [cls_succ (List.mem_range.mp hr)]
      split
      · rw [List.map_append, sum_app]; simp
      · simp
    rw [this, sum_map_add, sum_pick (Nat.mod_lt _ hw)]
    simp
/-! ### a total by its weights -/
def headI (W : Nat → Int) (w N r : Nat) : Int := ((cls w N r).map W).sum
def fixI (W : Nat → Int) (S : List Int) (w : Nat) : Int := ((List.range (dys S w)).map fun d => W d * leastI S w d).sum
theorem fix_split {W D : Nat → Int} {L : Nat → Int} {w N : Nat} (hw : 0 < w) : ((List.range N).map fun d => W d * D d).sum + ((List.range w).map fun r => headI W w N r * L r).sum = ((List.range N).map fun d => W d * (L (d % w) + D d)).sum := by
  have e : ((List.range w).map fun r => headI W w N r * L r).sum = ((List.range N).map fun d => W d * L (d % w)).sum := by
    rw [sum_cls hw (fun d => W d * L (d % w)) N]
    congr 1
    refine List.map_congr_left fun r hr => ?_
    have hr := List.mem_range.mp hr
    have : (cls w N r).map (fun d => W d * L (d % w)) = (cls w N r).map fun d => L r * W d := List.map_congr_left fun d hd => by rw [((mem_cls hr).mp hd).2, Int.mul_comm]
    rw [this, sum_map_mul, Int.mul_comm]
    rfl
  rw [e, ← sum_map_add]
  congr 1
  exact List.map_congr_left fun d _ => by rw [Int.mul_add]; omega
theorem head_ind {W : Nat → Int} {w r : Nat} (hr : r < w) : ∀ {N : Nat}, headI W w N r = ((List.range N).map fun d => if d % w = r then W d else 0).sum
  | 0 => by
    unfold headI cls
    rw [show 0 - r + w - 1 = w - 1 by omega, Nat.div_eq_of_lt (by omega)]; rfl
  | N + 1 => by
    have ih := head_ind (W := W) hr (N := N)
    unfold headI at ih ⊢
    rw [cls_succ hr, List.range_succ, List.map_append, sum_app, ← ih]
    split
    · rename_i h
      rw [List.map_append, sum_app]; simp [h]
    · rename_i h
      simp [h]
/-! ### sums read backwards -/
theorem sum_reverse (xs : List Int) : xs.reverse.sum = xs.sum := sum_perm (List.reverse_perm xs)
theorem map_range_rev {α : Type} (f : Nat → α) (n : Nat) : ((List.range n).map f).reverse = (List.range n).map fun i => f (n - 1 - i) := by
  apply List.ext_getElem (by simp)
  intro i h1 h2
  simp
theorem wsum_rev {x : Nat → Int} {N i w : Nat} (h : i + w ≤ N) : wsum (fun d => x (N - 1 - d)) i w = wsum x (N - w - i) w := by
  unfold wsum
  rw [← sum_reverse, map_range_rev]
  congr 1
  refine List.map_congr_left fun j hj => ?_
  have := List.mem_range.mp hj
  show x (N - 1 - (i + (w - 1 - j))) = x (N - w - i + j)
  congr 1
  omega
section
variable {S : List Int} {w : Nat} (hw : 0 < w) (hS : S ≠ [])
include hw hS
theorem rev_row {x : Nat → Int} (hx : IsRow x S w) : IsRow (fun d => x (dys S w - 1 - d)) S.reverse w := by
  have hp := List.length_pos_iff.mpr hS
  intro i hi
  rw [List.length_reverse] at hi
  rw [wsum_rev (by unfold dys; omega), show dys S w - w - i = S.length - 1 - i by unfold dys; omega, hx _ (by omega)]
  rw [List.getD_eq_getElem?_getD, List.getD_eq_getElem?_getD, List.getElem?_reverse (by omega)]
theorem dys_rev : dys S.reverse w = dys S w := by unfold dys; rw [List.length_reverse]
theorem kind_rev {d e : Nat} (hd : d < dys S w) (he : e < dys S w) (h : d % w = e % w) : (dys S w - 1 - d) % w = (dys S w - 1 - e) % w := by
  have h1 := Nat.mod_add_div d w
  have h2 := Nat.mod_add_div e w
  rcases Nat.le_total (d / w) (e / w) with hle | hle
  · obtain ⟨k, hk⟩ := Nat.le.dest hle
    have : w * (e / w) = w * (d / w) + w * k := by rw [← hk, Nat.mul_add]
    rw [show dys S w - 1 - d = (dys S w - 1 - e) + w * k by omega, Nat.add_mul_mod_self_left]
  · obtain ⟨k, hk⟩ := Nat.le.dest hle
    have : w * (d / w) = w * (e / w) + w * k := by rw [← hk, Nat.mul_add]
    rw [show dys S w - 1 - e = (dys S w - 1 - d) + w * k by omega, Nat.add_mul_mod_self_left]
theorem cmin_rev {x : Nat → Int} {r : Nat} (hr : r < w) : cmin (fun d => x (dys S w - 1 - d)) w (dys S w) r = cmin x w (dys S w) ((dys S w - 1 - r) % w) := by
  have hp := List.length_pos_iff.mpr hS
  have hN : w ≤ dys S w := by unfold dys; omega
  have km := fun d e h1 h2 h3 => kind_rev (d := d) (e := e) hw hS h1 h2 h3
  obtain ⟨d, h1, h2, h3⟩ := cmin_ex (x := x) (w := w) (N := dys S w) (Nat.mod_lt (dys S w - 1 - r) hw) (Nat.lt_of_lt_of_le (Nat.mod_lt _ hw) hN)
  have hd' : (dys S w - 1 - d) % w = r := by
    have := km d (dys S w - 1 - r) h1 (by omega) h2
    rw [this, show dys S w - 1 - (dys S w - 1 - r) = r by omega, Nat.mod_eq_of_lt hr]
  rw [cmin_eq (d := dys S w - 1 - d) hr (by omega) hd' fun e he her => ?_, ← h3, show dys S w - 1 - (dys S w - 1 - d) = d by omega]
  have h5 := cmin_le (x := x) hw (show dys S w - 1 - e < dys S w by omega)
  have h6 := km e r he (by omega) (by rw [her, Nat.mod_eq_of_lt hr])
  rw [h6, ← h3] at h5
  rw [show dys S w - 1 - (dys S w - 1 - d) = d by omega]
  exact h5
theorem sum_refl {f : Nat → Int} : ((List.range w).map fun r => f ((dys S w - 1 - r) % w)).sum = ((List.range w).map f).sum := by
  have hp := List.length_pos_iff.mpr hS
  have hN : w ≤ dys S w := by unfold dys; omega
  rw [← sum_rot (f := f) (dys S w - w), ← sum_reverse, map_range_rev]
  congr 1
  refine List.map_congr_left fun r hr => ?_
  have := List.mem_range.mp hr
  congr 2
  omega
theorem slack_rev : slackI S.reverse w = slackI S w := by
  have hx := rowOf_row (S := S) hw
  have hS2 : S.reverse ≠ [] := by simpa using hS
  rw [slack_row hw hS2 (rev_row hw hS hx), slack_row hw hS hx, dys_rev hw hS, List.map_congr_left (g := fun r => cmin (rowOf S w) w (dys S w) ((dys S w - 1 - r) % w)) fun r hr => cmin_rev hw hS (List.mem_range.mp hr)]
  exact sum_refl hw hS
theorem least_rev {d : Nat} (hd : d < dys S w) : leastI S.reverse w d = leastI S w (dys S w - 1 - d) := by
  have hx := rowOf_row (S := S) hw
  have hS2 : S.reverse ≠ [] := by simpa using hS
  have hp := List.length_pos_iff.mpr hS
  have hN : w ≤ dys S w := by unfold dys; omega
  rw [least_row hw hS2 (rev_row hw hS hx) (by rw [dys_rev hw hS]; exact hd), least_row hw hS hx (show dys S w - 1 - d < dys S w by omega), dys_rev hw hS, cmin_rev hw hS (Nat.mod_lt _ hw)]
  congr 2
  have h1 := Nat.mod_add_div d w
  rw [show dys S w - 1 - d % w = (dys S w - 1 - d) + w * (d / w) by omega, Nat.add_mul_mod_self_left]
/-- weights read backwards -/
theorem fix_rev {W : Nat → Int} : fixI (fun d => W (dys S w - 1 - d)) S.reverse w = fixI W S w := by
  unfold fixI
  rw [dys_rev hw hS, ← sum_reverse, map_range_rev]
  congr 1
  refine List.map_congr_left fun d hd => ?_
  have := List.mem_range.mp hd
  show W (dys S w - 1 - (dys S w - 1 - d)) * leastI S.reverse w (dys S w - 1 - d) = _
  rw [least_rev hw hS (by omega), show dys S w - 1 - (dys S w - 1 - d) = d by omega]
theorem head_rev {W : Nat → Int} {r : Nat} (hr : r < w) : headI (fun d => W (dys S w - 1 - d)) w (dys S w) r = headI W w (dys S w) ((dys S w - 1 - r) % w) := by
  have hp := List.length_pos_iff.mpr hS
  have hN : w ≤ dys S w := by unfold dys; omega
  rw [head_ind hr, head_ind (Nat.mod_lt _ hw), ← sum_reverse, map_range_rev]
  congr 1
  refine List.map_congr_left fun d hd => ?_
  have hd := List.mem_range.mp hd
  show (if (dys S w - 1 - d) % w = r then W (dys S w - 1 - (dys S w - 1 - d)) else 0) = _
  rw [show dys S w - 1 - (dys S w - 1 - d) = d by omega]
  by_cases h : (dys S w - 1 - d) % w = r
  · have := kind_rev (d := dys S w - 1 - d) (e := r) hw hS (by omega) (by omega) (by rw [h, Nat.mod_eq_of_lt hr])
    rw [show dys S w - 1 - (dys S w - 1 - d) = d by omega] at this
    rw [if_pos h, if_pos this]
  · rw [if_neg h, if_neg fun h2 => h ?_]
    have := kind_rev (d := d) (e := dys S w - 1 - r) hw hS hd (by omega) h2
    rw [this, show dys S w - 1 - (dys S w - 1 - r) = r by omega, Nat.mod_eq_of_lt hr]
end
theorem sumsI_rev {R : List Int} {w : Nat} (hw : 0 < w) (h : w ≤ R.length) : sumsI R.reverse w = (sumsI R w).reverse := by
  refine sums_of_row (by rw [List.length_reverse, List.length_reverse, sumsI_len]) ?_
  intro i hi
  rw [List.length_reverse, sumsI_len] at hi
  have e : wsum (rx R.reverse) i w = wsum (fun d => rx R (R.length - 1 - d)) i w := wsum_congr fun j hj => by
    unfold rx
    rw [List.getD_eq_getElem?_getD, List.getD_eq_getElem?_getD, List.getElem?_reverse (by omega)]
  rw [e, wsum_rev (by omega), wsum_rx (by omega), ← sumsI_get (by omega), List.getD_eq_getElem?_getD, List.getD_eq_getElem?_getD, List.getElem?_reverse (by rw [sumsI_len]; omega), sumsI_len]
  congr 2
  omega
end Fx
namespace Fx
open PySem PySem.Spec PyProof.Rows L2
/-! ### all ways to share a number -/
def en : Nat → Nat → List (List Nat)
  | 0, n => if n = 0 then [[]] else []
  | k + 1, n => (List.range (n + 1)).flatMap fun a => (en k (n - a)).map (a :: ·)
theorem en_succ {k n : Nat} : en (k + 1) n = (List.range (n + 1)).flatMap fun a => (en k (n - a)).map (a :: ·) := rfl
theorem flatMap_nil' {α β : Type} {xs : List α} {f : α → List β} (h : ∀ a ∈ xs, f a = []) : xs.flatMap f = [] := by
  induction xs with
  | nil => rfl
  | cons x xs ih => rw [List.flatMap_cons, h x List.mem_cons_self, ih fun a ha => h a (List.mem_cons_of_mem _ ha)]; rfl
theorem flatMap_congr' {α β : Type} {xs : List α} {f g : α → List β} (h : ∀ a ∈ xs, f a = g a) : xs.flatMap f = xs.flatMap g := by
  induction xs with
  | nil => rfl
  | cons x xs ih => rw [List.flatMap_cons, List.flatMap_cons, h x List.mem_cons_self, ih fun a ha => h a (List.mem_cons_of_mem _ ha)]
theorem range_cut {β : Type} {f : Nat → List β} {l K n : Nat} (hn : l + K < n) (h : ∀ a < n, ¬ (l ≤ a ∧ a ≤ l + K) → f a = []) : (List.range n).flatMap f = (List.range (K + 1)).flatMap fun b => f (l + b) := by
  have e : n = (l + (K + 1)) + (n - (l + K + 1)) := by omega
  rw [e, List.range_add, List.range_add, List.flatMap_append, List.flatMap_append]
  rw [flatMap_nil' (xs := List.range l) fun a ha => h a (by have := List.mem_range.mp ha; omega) (by have := List.mem_range.mp ha; omega)]
  rw [flatMap_nil' (xs := (List.range (n - (l + K + 1))).map fun x => l + (K + 1) + x) fun a ha => by
    obtain ⟨b, hb, rfl⟩ := List.mem_map.mp ha
    have := List.mem_range.mp hb
    exact h _ (by omega) (by omega)]
  rw [List.nil_append, List.append_nil]
  generalize List.range (K + 1) = xs
  induction xs with
  | nil => rfl
  | cons x xs ih => rw [List.map_cons, List.flatMap_cons, List.flatMap_cons, ih]
theorem en_one {n : Nat} : en 1 n = [[n]] := by
  rw [en_succ, range_cut (l := n) (K := 0) (by omega) fun a ha h => by
    show List.map _ (if n - a = 0 then [[]] else []) = []
    rw [if_neg (by omega)]; rfl]
  simp [en]
theorem mem_en : ∀ {k n : Nat} {h : List Nat}, h ∈ en k n ↔ h.length = k ∧ h.sum = n
  | 0, n, h => by
    unfold en
    split
    · rename_i e
      subst e
      simp only [List.mem_singleton]
      constructor
      · rintro rfl; simp
      · rintro ⟨h1, _⟩; exact List.length_eq_zero_iff.mp h1
    · rename_i e
      simp only [List.not_mem_nil, false_iff]
      rintro ⟨h1, h2⟩
      rw [List.length_eq_zero_iff.mp h1] at h2
      exact e h2.symm
  | k + 1, n, h => by
    rw [en_succ, List.mem_flatMap]
    constructor
    · rintro ⟨a, ha, hm⟩
      obtain ⟨g, hg, rfl⟩ := List.mem_map.mp hm
      have := List.mem_range.mp ha
      obtain ⟨h1, h2⟩ := mem_en.mp hg
      exact ⟨by simp [h1], by simp [h2]; omega⟩
    · rintro ⟨h1, h2⟩
      cases h with
      | nil => simp at h1
      | cons a g =>
        rw [List.sum_cons] at h2
        exact ⟨a, List.mem_range.mpr (by omega), List.mem_map.mpr ⟨g, mem_en.mpr ⟨by simpa using h1, by omega⟩, rfl⟩⟩
theorem hockey (k : Nat) : ∀ n, ((List.range (n + 1)).map fun a => ch (n - a + k) k).sum = ch (n + k + 1) (k + 1)
  | 0 => by
    simp [ch_succ, ch_lt]
  | n + 1 => by
    have ih := hockey k n
    rw [List.range_succ_eq_map, List.map_cons, List.sum_cons, List.map_map]
    have e : ((fun a => ch (n + 1 - a + k) k) ∘ Nat.succ) = fun a => ch (n - a + k) k := by
      funext a
      show ch (n + 1 - (a + 1) + k) k = _
      rw [show n + 1 - (a + 1) = n - a by omega]
    rw [e, ih, show n + 1 + k + 1 = (n + k + 1) + 1 by omega, ch_succ (n := n + k + 1) (k := k), Nat.sub_zero, show n + 1 + k = n + k + 1 by omega]
theorem en_len : ∀ {k n : Nat}, (en (k + 1) n).length = ch (n + k) k
  | 0, n => by rw [en_one]; simp
  | k + 1, n => by
    rw [en_succ, List.length_flatMap, ← show n + k + 1 = n + (k + 1) by omega, ← hockey]
    congr 1
    refine List.map_congr_left fun a ha => ?_
    rw [List.length_map, en_len]
/-- place by place at least -/
def geB (h ls : List Nat) : Bool := (h.zip ls).all fun p => decide (p.2 ≤ p.1)
def addL (ls h : List Nat) : List Nat := (ls.zip h).map fun p => p.1 + p.2
theorem filter_flatMap' {α β : Type} {p : β → Bool} {f : α → List β} : ∀ xs : List α, (xs.flatMap f).filter p = xs.flatMap fun a => (f a).filter p
  | [] => rfl
  | x :: xs => by rw [List.flatMap_cons, List.filter_append, filter_flatMap' xs, List.flatMap_cons]
theorem map_flatMap' {α β γ : Type} {p : β → γ} {f : α → List β} : ∀ xs : List α, (xs.flatMap f).map p = xs.flatMap fun a => (f a).map p
  | [] => rfl
  | x :: xs => by rw [List.flatMap_cons, List.map_append, map_flatMap' xs, List.flatMap_cons]
theorem en_ge : ∀ (ls : List Nat) (n : Nat), (en ls.length n).filter (fun h => geB h ls) = if ls.sum ≤ n then (en ls.length (n - ls.sum)).map (addL ls) else []
  | [], n => by
    show (en 0 n).filter _ = if 0 ≤ n then (en 0 (n - 0)).map _ else []
    rw [if_pos (Nat.zero_le n), Nat.sub_zero]
    unfold en
    split
    · rfl
    · rfl
  | l :: ls, n => by
    have e1 : (en (l :: ls).length n).filter (fun h => geB h (l :: ls)) = (List.range (n + 1)).flatMap fun a => if l ≤ a ∧ ls.sum ≤ n - a then ((en ls.length (n - a - ls.sum)).map (addL ls)).map (a :: ·) else [] := by
      rw [List.length_cons, en_succ, filter_flatMap']
      refine flatMap_congr' fun a ha => ?_
      rw [List.filter_map]
      have e : ((fun h => geB h (l :: ls)) ∘ fun x => a :: x) = fun h => decide (l ≤ a) && geB h ls := by
        funext h; unfold geB; simp
      rw [e]
      by_cases hl : l ≤ a
      · have e2 : (fun h => decide (l ≤ a) && geB h ls) = fun h => geB h ls := by funext h; simp [hl]
        rw [e2, en_ge ls (n - a)]
        by_cases h2 : ls.sum ≤ n - a
        · rw [if_pos h2, if_pos ⟨hl, h2⟩]
        · rw [if_neg h2, if_neg fun z => h2 z.2]; rfl
      · rw [if_neg fun z => hl z.1]
        have e2 : (fun h => decide (l ≤ a) && geB h ls) = fun _ => false := by funext h; simp [hl]
        rw [e2]; simp
    rw [e1, List.sum_cons]
    by_cases hK : l + ls.sum ≤ n
    · rw [if_pos hK, range_cut (l := l) (K := n - (l + ls.sum)) (by omega) fun a ha h => if_neg (by omega), List.length_cons, en_succ, map_flatMap']
      refine flatMap_congr' fun b hb => ?_
      have := List.mem_range.mp hb
      rw [if_pos (by omega), List.map_map, List.map_map, show n - (l + b) - ls.sum = n - (l + ls.sum) - b by omega]
      rfl
    · rw [if_neg hK]
      exact flatMap_nil' fun a ha => if_neg (by have := List.mem_range.mp ha; omega)
theorem en_le {k n : Nat} {h : List Nat} (hm : h ∈ en k n) : ∀ a ∈ h, a ≤ n := by
  have hs := (mem_en.mp hm).2
  clear hm
  induction h generalizing n with
  | nil => intro a ha; cases ha
  | cons x xs ih =>
    rw [List.sum_cons] at hs
    intro a ha
    rcases List.mem_cons.mp ha with rfl | ha
    · omega
    · have := ih rfl a ha; omega
/-! ### the rows of sums -/
def lowsN (S : List Int) (w : Nat) : List Nat := (List.range w).map fun r => (lowI (Dd S w) w (dys S w) r).toNat
/-- the row with these first days -/
def rowH (S : List Int) (w : Nat) (h : List Nat) : List Int := (List.range (dys S w)).map fun d => (h.getD (d % w) 0 : Int) + Dd S w d
/-- the row with these shares of the slack -/
def rowC (S : List Int) (w : Nat) (c : List Nat) : List Int := (List.range (dys S w)).map fun d => leastI S w d + (c.getD (d % w) 0 : Int)
def rowsI (S : List Int) (w : Nat) : List (List Int) := if 0 ≤ slackI S w then (en w (slackI S w).toNat).map (rowC S w) else []
section
variable {S : List Int} {w : Nat} (hw : 0 < w) (hS : S ≠ [])
include hw hS
theorem low_nonneg {r : Nat} (hr : r < w) : 0 ≤ lowI (Dd S w) w (dys S w) r := by
  have hp := List.length_pos_iff.mpr hS
  have hx := rowOf_row (S := S) hw
  rw [low_row hw hS hx hr]
  have := cmin_le (x := rowOf S w) hw (show r < dys S w by unfold dys; omega)
  rw [Nat.mod_eq_of_lt hr] at this
  omega
theorem lowsN_get {r : Nat} (hr : r < w) : (((lowsN S w).getD r 0 : Nat) : Int) = lowI (Dd S w) w (dys S w) r := by
  unfold lowsN
  simp [hr]
  exact Int.max_eq_left (low_nonneg hw hS hr)
theorem lowsN_sum : (((lowsN S w).sum : Nat) : Int) = S.getD 0 0 - slackI S w := by
  unfold slackI lowsN
  rw [Int.sub_sub_self]
  have : ∀ n, n ≤ w → ((((List.range n).map fun r => (lowI (Dd S w) w (dys S w) r).toNat).sum : Nat) : Int) = ((List.range n).map fun r => lowI (Dd S w) w (dys S w) r).sum := by
    intro n
    induction n with
    | zero => intro _; rfl
    | succ n ih =>
      intro h
      rw [List.range_succ, List.map_append, List.map_append, List.sum_append, sum_app, Int.natCast_add, ih (by omega)]
      have := low_nonneg hw hS (show n < w by omega)
      simp
      omega
  exact this w (Nat.le_refl _)
/-- no day is negative just if the first days are at least the least ones -/
theorem row_ge {h : List Nat} (hl : h.length = w) : (∀ v ∈ rowH S w h, 0 ≤ v) ↔ geB h (lowsN S w) = true := by
  have hp := List.length_pos_iff.mpr hS
  have hN : w ≤ dys S w := by unfold dys; omega
  have hll : (lowsN S w).length = w := by unfold lowsN; simp
  unfold geB
  rw [List.all_eq_true]
  have key : (∀ v ∈ rowH S w h, 0 ≤ v) ↔ ∀ r < w, lowI (Dd S w) w (dys S w) r ≤ (h.getD r 0 : Int) := by
    constructor
    · intro h1 r hr
      unfold lowI
      by_cases hc : (cls w (dys S w) r).map (fun d => 0 - Dd S w d) = []
      · exact absurd hc (by simpa using cls_ne hr (by omega))
      · obtain ⟨d, hd, e⟩ := List.mem_map.mp (maxI_mem hc)
        rw [← e]
        obtain ⟨h2, h3⟩ := (mem_cls hr).mp hd
        have := h1 _ (List.mem_map.mpr ⟨d, List.mem_range.mpr h2, rfl⟩)
        rw [h3] at this
        omega
    · intro h1 v hv
      obtain ⟨d, hd, rfl⟩ := List.mem_map.mp hv
      have hd := List.mem_range.mp hd
      have h2 := h1 (d % w) (Nat.mod_lt _ hw)
      have h3 : 0 - Dd S w d ≤ lowI (Dd S w) w (dys S w) (d % w) := le_maxI (List.mem_map.mpr ⟨d, (mem_cls (Nat.mod_lt _ hw)).mpr ⟨hd, rfl⟩, rfl⟩)
      omega
  rw [key]
  constructor
  · intro h1 p hp
    obtain ⟨i, hi, rfl⟩ := List.mem_iff_getElem.mp hp
    have hiw : i < w := by simp at hi; omega
    have h2 := h1 i hiw
    rw [← lowsN_get hw hS hiw] at h2
    rw [List.getElem_zip]
    refine decide_eq_true ?_
    have e1 : (lowsN S w).getD i 0 = (lowsN S w)[i]'(by omega) := by simp [List.getD_eq_getElem?_getD, List.getElem?_eq_getElem (show i < (lowsN S w).length by omega)]
    have e2 : h.getD i 0 = h[i]'(by omega) := by simp [List.getD_eq_getElem?_getD, List.getElem?_eq_getElem (show i < h.length by omega)]
    rw [e1, e2] at h2
    show (lowsN S w)[i]'(by omega) ≤ h[i]'(by omega)
    omega
  · intro h1 r hr
    have h2 := h1 (h[r]'(by omega), (lowsN S w)[r]'(by omega)) (by
      have : r < (h.zip (lowsN S w)).length := by simp; omega
      rw [← List.getElem_zip (h := this)]
      exact List.getElem_mem _)
    have h2 := of_decide_eq_true h2
    rw [← lowsN_get hw hS hr]
    have e1 : (lowsN S w).getD r 0 = (lowsN S w)[r]'(by omega) := by simp [List.getD_eq_getElem?_getD, List.getElem?_eq_getElem (show r < (lowsN S w).length by omega)]
    have e2 : h.getD r 0 = h[r]'(by omega) := by simp [List.getD_eq_getElem?_getD, List.getElem?_eq_getElem (show r < h.length by omega)]
    rw [e1, e2]
    have : (lowsN S w)[r]'(by omega) ≤ h[r]'(by omega) := h2
    omega
theorem rowH_add {c : List Nat} (hc : c.length = w) : rowH S w (addL (lowsN S w) c) = rowC S w c := by
  unfold rowH rowC
  refine List.map_congr_left fun d hd => ?_
  have hm := Nat.mod_lt d hw
  have hll : (lowsN S w).length = w := by unfold lowsN; simp
  have e : (addL (lowsN S w) c).getD (d % w) 0 = (lowsN S w).getD (d % w) 0 + c.getD (d % w) 0 := by
    unfold addL
    have h1 : d % w < ((lowsN S w).zip c).length := by simp; omega
    simp [List.getD_eq_getElem?_getD, List.getElem?_map, List.getElem?_eq_getElem h1, List.getElem_zip, List.getElem?_eq_getElem (show d % w < (lowsN S w).length by omega), List.getElem?_eq_getElem (show d % w < c.length by omega)]
  rw [e, Int.natCast_add, lowsN_get hw hS hm]
  unfold leastI
  omega
/-- all rows, by all first days -/
theorem rows_en (h0 : 0 ≤ S.getD 0 0) : ((en w (S.getD 0 0).toNat).filter fun h => geB h (lowsN S w)).map (rowH S w) = rowsI S w := by
  have hll : (lowsN S w).length = w := by unfold lowsN; simp
  have hs := lowsN_sum hw hS
  have := en_ge (lowsN S w) (S.getD 0 0).toNat
  rw [hll] at this
  rw [this]
  unfold rowsI
  by_cases hk : 0 ≤ slackI S w
  · rw [if_pos (by omega), if_pos hk, List.map_map, show (S.getD 0 0).toNat - (lowsN S w).sum = (slackI S w).toNat by omega]
    exact List.map_congr_left fun c hc => rowH_add hw hS (mem_en.mp hc).1
  · rw [if_neg (by omega), if_neg hk]; rfl
end
end Fx
namespace Fx
open PySem PySem.Spec PyProof.Rows L2
/-! ### the mean of a share -/
theorem nsum_flatMap {α : Type} (f : List Nat → Nat) (g : α → List (List Nat)) : ∀ xs : List α, ((xs.flatMap g).map f).sum = (xs.map fun a => ((g a).map f).sum).sum
  | [] => rfl
  | x :: xs => by rw [List.flatMap_cons, List.map_append, List.sum_append, nsum_flatMap f g xs, List.map_cons, List.sum_cons]
theorem nsum_const {α : Type} (c : Nat) : ∀ xs : List α, (xs.map fun _ => c).sum = xs.length * c
  | [] => by simp
  | x :: xs => by rw [List.map_cons, List.sum_cons, nsum_const c xs, List.length_cons, Nat.add_mul, Nat.one_mul, Nat.add_comm]
theorem nsum_mul {α : Type} (c : Nat) (f : α → Nat) : ∀ xs : List α, (xs.map fun a => f a * c).sum = (xs.map f).sum * c
  | [] => by simp
  | x :: xs => by rw [List.map_cons, List.sum_cons, nsum_mul c f xs, List.map_cons, List.sum_cons, Nat.add_mul]
theorem nsum_add {α : Type} (f g : α → Nat) : ∀ xs : List α, (xs.map fun a => f a + g a).sum = (xs.map f).sum + (xs.map g).sum
  | [] => rfl
  | x :: xs => by simp only [List.map_cons, List.sum_cons, nsum_add f g xs]; omega
theorem hockey2 (k : Nat) : ∀ n, ((List.range (n + 1)).map fun a => a * ch (n - a + k) k).sum = ch (n + k + 1) (k + 2)
  | 0 => by simp [ch_lt]
  | n + 1 => by
    have ih := hockey2 k n
    have h1 := hockey k n
    rw [List.range_succ_eq_map, List.map_cons, List.sum_cons, List.map_map]
    have e : ((fun a => a * ch (n + 1 - a + k) k) ∘ Nat.succ) = fun a => a * ch (n - a + k) k + ch (n - a + k) k := by
      funext a
      show (a + 1) * ch (n + 1 - (a + 1) + k) k = _
      rw [show n + 1 - (a + 1) = n - a by omega, Nat.add_mul, Nat.one_mul]
    rw [e, nsum_add, ih, h1, show n + 1 + k + 1 = (n + k + 1) + 1 by omega, ch_succ (n := n + k + 1) (k := k + 1)]
    have : ch (n + k + 1) (k + 1 + 1) = ch (n + k + 1) (k + 2) := rfl
    omega
/-- the total of the first share -/
theorem en_first {k n : Nat} : ((en (k + 1) n).map fun c => c.getD 0 0).sum * (k + 1) = n * (en (k + 1) n).length := by
  rw [en_len]
  cases k with
  | zero => rw [en_one]; simp
  | succ k =>
    have e : ((en (k + 1 + 1) n).map fun c => c.getD 0 0).sum = ch (n + k + 1) (k + 2) := by
      rw [← hockey2, en_succ, nsum_flatMap]
      congr 1
      refine List.map_congr_left fun a ha => ?_
      rw [List.map_map]
      have : ((fun c : List Nat => c.getD 0 0) ∘ fun x => a :: x) = fun _ => a := by funext c; simp
      rw [this, nsum_const, en_len, Nat.mul_comm]
    rw [e, show k + 2 = (k + 1) + 1 by omega, ch_step, show n + k + 1 - (k + 1) = n by omega, Nat.mul_comm]
    rfl
theorem en_mean : ∀ {k n r : Nat}, r < k + 1 → ((en (k + 1) n).map fun c => c.getD r 0).sum * (k + 1) = n * (en (k + 1) n).length
  | k, n, 0, _ => en_first
  | 0, n, r + 1, h => by omega
  | k + 1, n, r + 1, h => by
    have h1 := en_first (k := k + 1) (n := n)
    have e0 : ((en (k + 1 + 1) n).map fun c => c.getD 0 0).sum = ((List.range (n + 1)).map fun a => a * (en (k + 1) (n - a)).length).sum := by
      rw [en_succ, nsum_flatMap]
      congr 1
      refine List.map_congr_left fun a ha => ?_
      rw [List.map_map]
      have : ((fun c : List Nat => c.getD 0 0) ∘ fun x => a :: x) = fun _ => a := by funext c; simp
      rw [this, nsum_const, Nat.mul_comm]
    have eN : (en (k + 1 + 1) n).length = ((List.range (n + 1)).map fun a => (en (k + 1) (n - a)).length).sum := by
      rw [en_succ, List.length_flatMap]
      congr 1
      exact List.map_congr_left fun a _ => by rw [List.length_map]
    have e1 : ((en (k + 1 + 1) n).map fun c => c.getD (r + 1) 0).sum * (k + 1) = ((List.range (n + 1)).map fun a => (n - a) * (en (k + 1) (n - a)).length).sum := by
      rw [en_succ, nsum_flatMap, ← nsum_mul]
      congr 1
      refine List.map_congr_left fun a ha => ?_
      rw [List.map_map]
      have : ((fun c : List Nat => c.getD (r + 1) 0) ∘ fun x => a :: x) = fun c => c.getD r 0 := by funext c; simp
      rw [this, en_mean (by omega)]
    have e2 : ((List.range (n + 1)).map fun a => (n - a) * (en (k + 1) (n - a)).length).sum + ((List.range (n + 1)).map fun a => a * (en (k + 1) (n - a)).length).sum = n * (en (k + 1 + 1) n).length := by
      rw [← nsum_add, eN, Nat.mul_comm, ← nsum_mul]
      congr 1
      refine List.map_congr_left fun a ha => ?_
      have := List.mem_range.mp ha
      rw [← Nat.add_mul, show n - a + a = n by omega, Nat.mul_comm]
    rw [e0] at h1
    generalize ((List.range (n + 1)).map fun a => a * (en (k + 1) (n - a)).length).sum = A at h1 e2
    generalize ((List.range (n + 1)).map fun a => (n - a) * (en (k + 1) (n - a)).length).sum = B at e1 e2
    generalize ((en (k + 1 + 1) n).map fun c => c.getD (r + 1) 0).sum = C at e1 ⊢
    generalize (en (k + 1 + 1) n).length = M at h1 e2 ⊢
    -- C (k+1) = B, A (k+2) = n M, B + A = n M
    refine Nat.eq_of_mul_eq_mul_right (show 0 < k + 1 by omega) ?_
    rw [Nat.mul_right_comm, e1]
    have h3 : (B + A) * (k + 1 + 1) = n * M * (k + 1 + 1) := by rw [e2]
    rw [Nat.add_mul, h1] at h3
    have h4 : n * M * (k + 1 + 1) = n * M * (k + 1) + n * M := by rw [Nat.mul_add, Nat.mul_one]
    omega
/-! ### fractions -/
def fracI (a : Int) (b : Nat) : Int × Int := (a / (Nat.gcd a.natAbs b : Nat), (b / Nat.gcd a.natAbs b : Nat))
theorem frac_eq {a c : Int} {b d : Nat} (hb : 0 < b) (hd : 0 < d) (h : a * d = c * b) : fracI a b = fracI c d := by
  have hg : 0 < Nat.gcd a.natAbs b := Nat.gcd_pos_of_pos_right _ hb
  have hk : 0 < Nat.gcd c.natAbs d := Nat.gcd_pos_of_pos_right _ hd
  have hN : a.natAbs * d = c.natAbs * b := by
    have := congrArg Int.natAbs h
    rwa [Int.natAbs_mul, Int.natAbs_mul, Int.natAbs_natCast, Int.natAbs_natCast] at this
  -- b / gcd a b = d / gcd c d
  have e1 : Nat.gcd a.natAbs b * d = b * Nat.gcd c.natAbs d := by
    rw [← Nat.gcd_mul_right, hN, Nat.mul_comm b d, Nat.gcd_mul_right, Nat.mul_comm]
  have e2 : b / Nat.gcd a.natAbs b = d / Nat.gcd c.natAbs d := by
    obtain ⟨p, hp⟩ := Nat.gcd_dvd_right a.natAbs b
    obtain ⟨q, hq⟩ := Nat.gcd_dvd_right c.natAbs d
    rw [Nat.div_eq_of_eq_mul_right hg hp, Nat.div_eq_of_eq_mul_right hk hq]
    generalize Nat.gcd a.natAbs b = g at *
    generalize Nat.gcd c.natAbs d = k at *
    subst hp hq
    have : g * k * q = g * k * p := by
      calc g * k * q = g * (k * q) := by rw [Nat.mul_assoc]
        _ = g * p * k := e1
        _ = g * k * p := by rw [Nat.mul_right_comm]
    exact (Nat.eq_of_mul_eq_mul_left (Nat.mul_pos hg hk) this).symm
  have e3 : a / (Nat.gcd a.natAbs b : Nat) = c / (Nat.gcd c.natAbs d : Nat) := by
    obtain ⟨p, hp⟩ : ((Nat.gcd a.natAbs b : Nat) : Int) ∣ a := Int.ofNat_dvd_left.mpr (Nat.gcd_dvd_left _ _)
    obtain ⟨q, hq⟩ : ((Nat.gcd c.natAbs d : Nat) : Int) ∣ c := Int.ofNat_dvd_left.mpr (Nat.gcd_dvd_left _ _)
    have hg0 : ((Nat.gcd a.natAbs b : Nat) : Int) ≠ 0 := by omega
    have hk0 : ((Nat.gcd c.natAbs d : Nat) : Int) ≠ 0 := by omega
    have p1 : a / (Nat.gcd a.natAbs b : Nat) = p := Int.ediv_eq_of_eq_mul_right hg0 hp
    have q1 : c / (Nat.gcd c.natAbs d : Nat) = q := Int.ediv_eq_of_eq_mul_right hk0 hq
    rw [p1, q1]
    have e1' : ((Nat.gcd a.natAbs b : Nat) : Int) * d = b * (Nat.gcd c.natAbs d : Nat) := by rw [← Int.natCast_mul, e1, Int.natCast_mul]
    generalize Nat.gcd a.natAbs b = g at *
    generalize Nat.gcd c.natAbs d = k at *
    -- g p d = k q b, g d = b k
    have h2 : (g : Int) * p * d = k * q * b := by rw [← hp, ← hq]; exact h
    have h3 : (b : Int) * k * p = b * k * q := by
      calc (b : Int) * k * p = g * d * p := by rw [e1']
        _ = g * p * d := by rw [Int.mul_right_comm]
        _ = k * q * b := h2
        _ = b * k * q := by rw [Int.mul_comm (k * q) b, Int.mul_assoc]
    exact Int.eq_of_mul_eq_mul_left (Int.mul_ne_zero (by omega) hk0) h3
  unfold fracI
  rw [e2, e3]
/-- Euclid's steps -/
theorem gcd_step {a b : Nat} (hb : 0 < b) : Nat.gcd a b = Nat.gcd b (a % b) := by
  rw [Nat.gcd_comm a b, Nat.gcd_rec b a, Nat.gcd_comm]
theorem euclid {γ : Rho → Rz Bool} {body : Rho → Out} {st : Nat → Nat → Rho} (ht : ∀ a b, γ (st a b) = .ok (decide (0 < b)) (st a b)) (hs : ∀ a b, 0 < b → body (st a b) = .nx (st b (a % b))) : ∀ (f a b n : Nat), b < 2 ^ f → 2 * f + 1 ≤ n → whileGo γ body n (st a b) = .nx (st (Nat.gcd a b) 0)
  | 0, a, b, n, hb, hn => by
    obtain ⟨m, rfl⟩ : ∃ m, n = m + 1 := ⟨n - 1, by omega⟩
    have : b = 0 := by simpa using hb
    subst this
    unfold whileGo
    rw [ht]
    simp
  | f + 1, a, b, n, hb, hn => by
    obtain ⟨m, rfl⟩ : ∃ m, n = m + 2 := ⟨n - 2, by omega⟩
    by_cases h0 : b = 0
    · subst h0
      unfold whileGo
      rw [ht]
      simp
    · have hb0 : 0 < b := by omega
      have h1 := Nat.mod_lt a hb0
      unfold whileGo
      rw [ht]
      simp only [Rz.out_ok, decide_eq_true hb0, if_true, hs a b hb0]
      rw [gcd_step hb0]
      by_cases h2 : a % b = 0
      · rw [h2]
        unfold whileGo
        rw [ht]
        simp
      · have h3 : 0 < a % b := by omega
        have h4 : b % (a % b) < 2 ^ f := by
          have h5 := Nat.mod_lt b h3
          have h6 : 2 * (b % (a % b)) < b := by
            have h7 := Nat.mod_add_div b (a % b)
            have h8 : 0 < b / (a % b) := Nat.div_pos (by omega) h3
            have h9 : a % b ≤ (a % b) * (b / (a % b)) := Nat.le_mul_of_pos_right _ h8
            omega
          rw [Nat.pow_succ] at hb
          omega
        unfold whileGo
        rw [ht]
        simp only [Rz.out_ok, decide_eq_true h3, if_true, hs b (a % b) h3]
        rw [gcd_step h3]
        exact euclid ht hs f (a % b) (b % (a % b)) m h4 (by omega)
end Fx
namespace Fx
open PySem PySem.Spec PyProof.Rows L2
/-! ### functions changed at one place -/
def up {α : Type} (F : Nat → α) (j : Nat) (x : α) : Nat → α := fun i => if i = j then x else F i
@[simp] theorem up_self {α : Type} {F : Nat → α} {j : Nat} {x : α} : up F j x j = x := by unfold up; rw [if_pos rfl]
theorem up_ne {α : Type} {F : Nat → α} {j i : Nat} {x : α} (h : i ≠ j) : up F j x i = F i := by unfold up; rw [if_neg h]
theorem set_tab {α : Type} {n j : Nat} {g : Nat → α} {x : α} : ((List.range n).map g).set j x = (List.range n).map (up g j x) := by
  apply List.ext_getElem (by simp)
  intro i h1 h2
  have hi : i < n := by simpa using h1
  rw [List.getElem_set]
  by_cases e : j = i
  · subst e; simp
  · rw [if_neg e]; simp [up_ne (Ne.symm e)]
def cnt (F : Nat → Option Int) : Nat → Nat
  | 0 => 0
  | n + 1 => cnt F n + if (F n).isNone then 1 else 0
theorem cnt_le {F : Nat → Option Int} : ∀ {n : Nat}, cnt F n ≤ n
  | 0 => Nat.le_refl _
  | n + 1 => by
    unfold cnt
    have := cnt_le (F := F) (n := n)
    split <;> omega
theorem cnt_out {F : Nat → Option Int} {j : Nat} {x : Option Int} : ∀ {n : Nat}, n ≤ j → cnt (up F j x) n = cnt F n
  | 0, _ => rfl
  | n + 1, h => by
    unfold cnt
    rw [cnt_out (by omega), up_ne (by omega)]
theorem cnt_up {F : Nat → Option Int} {j : Nat} {v : Int} (h0 : F j = none) : ∀ {n : Nat}, j < n → cnt (up F j (some v)) n + 1 = cnt F n
  | n + 1, h => by
    unfold cnt
    by_cases e : j = n
    · subst e
      rw [cnt_out (Nat.le_refl _), up_self, h0]
      simp
    · rw [up_ne (Ne.symm e)]
      have := cnt_up (n := n) (v := v) h0 (by omega)
      omega
/-- a while loop by an invariant and a measure -/
theorem while_inv {γ : Rho → Rz Bool} {body : Rho → Out} (I : Nat → Rho → Prop) (P : Rho → Prop) (hs : ∀ m ρ, I m ρ → (γ ρ = .ok false ρ ∧ P ρ) ∨ (γ ρ = .ok true ρ ∧ (body ρ).goes fun ρ2 => ∃ m2, m2 < m ∧ I m2 ρ2)) : ∀ (k m : Nat) (ρ : Rho), m < k → I m ρ → ∃ ρ', whileGo γ body k ρ = .nx ρ' ∧ P ρ'
  | 0, m, ρ, h, _ => absurd h (Nat.not_lt_zero _)
  | k + 1, m, ρ, h, i => by
    unfold whileGo
    rcases hs m ρ i with ⟨e, p⟩ | ⟨e, g⟩
    · rw [e]
      exact ⟨ρ, rfl, p⟩
    · rw [e]
      obtain ⟨ρ2, e2, m2, h2, i2⟩ := Out.goes_of g
      obtain ⟨ρ', e3, p⟩ := while_inv I P hs k m2 ρ2 (by omega) i2
      refine ⟨ρ', ?_, p⟩
      rcases e2 with e2 | e2
      · simp [e2, e3]
      · simp [e2, e3]
/-! ### links -/
abbrev Lk := Nat × Nat × Int
def Agr (P : Nat → Int) (L : List Lk) : Prop := ∀ l ∈ L, P l.2.1 - P l.1 = l.2.2
def nbr (L : List Lk) (i : Nat) : List (Nat × Int) := L.flatMap fun l => (if l.1 = i then [(l.2.1, l.2.2)] else []) ++ if l.2.1 = i then [(l.1, -l.2.2)] else []
theorem mem_nbr {L : List Lk} {i o : Nat} {v : Int} : (o, v) ∈ nbr L i ↔ (i, o, v) ∈ L ∨ (o, i, -v) ∈ L := by
  unfold nbr
  rw [List.mem_flatMap]
  constructor
  · rintro ⟨⟨s, p, w⟩, hm, h⟩
    rcases List.mem_append.mp h with h | h
    · split at h
      · rename_i e; simp at h e; obtain ⟨rfl, rfl⟩ := h; subst e; exact .inl hm
      · cases h
    · split at h
      · rename_i e; simp at h e; obtain ⟨rfl, rfl⟩ := h; subst e; rw [Int.neg_neg]; exact .inr hm
      · cases h
  · rintro (h | h)
    · exact ⟨_, h, List.mem_append.mpr (.inl (by simp))⟩
    · exact ⟨_, h, List.mem_append.mpr (.inr (by simp))⟩
theorem nbr_sym {L : List Lk} {i o : Nat} {v : Int} (h : (o, v) ∈ nbr L i) : (i, -v) ∈ nbr L o := by
  rw [mem_nbr] at h ⊢
  rw [Int.neg_neg]
  exact h.symm
theorem nbr_agr {L : List Lk} {P : Nat → Int} {i o : Nat} {v : Int} (a : Agr P L) (h : (o, v) ∈ nbr L i) : P o = P i + v := by
  rcases mem_nbr.mp h with h | h
  · have := a _ h; dsimp only at this; omega
  · have := a _ h; dsimp only at this; omega
/-- the state of the search: F the totals found, r the first place of each, op the places still to be looked at, all of the tree of pl -/
structure Sk (L : List Lk) (n : Nat) (F : Nat → Option Int) (r : Nat → Nat) (op : Nat → Prop) (pl : Nat) : Prop where
  agr : ∀ P, Agr P L → ∀ i v, F i = some v → v = P i - P (r i)
  cl : ∀ i, F i ≠ none → ¬ op i → ∀ j v, (j, v) ∈ nbr L i → F j ≠ none ∧ r j = r i
  op : ∀ i, op i → F i ≠ none ∧ r i = pl
theorem Sk.start {L : List Lk} {n : Nat} {pl : Nat} : Sk L n (fun _ => none) (fun i => i) (fun _ => False) pl :=
  ⟨fun P _ i v h => (nomatch h), fun i h => absurd rfl h, fun i h => h.elim⟩
theorem Sk.root {L : List Lk} {n : Nat} {F : Nat → Option Int} {r : Nat → Nat} {pl p : Nat} (s : Sk L n F r (fun _ => False) pl) (h : F p = none) : Sk L n (up F p (some 0)) (up r p p) (fun i => i = p) p where
  agr := fun P a i v e => by
    by_cases ei : i = p
    · subst ei
      rw [up_self] at e ⊢
      cases e; omega
    · rw [up_ne ei] at e ⊢
      exact s.agr P a i v e
  cl := fun i hi ho j v hj => by
    rw [up_ne ho] at hi ⊢
    obtain ⟨h1, h2⟩ := s.cl i hi (fun z => z) j v hj
    have hjp : j ≠ p := fun z => h1 (by rw [z]; exact h)
    rw [up_ne hjp, up_ne hjp]
    exact ⟨h1, h2⟩
  op := fun i e => by
    subst e
    rw [up_self, up_self]
    exact ⟨fun z => (nomatch z), rfl⟩
/-- a neighbour that was found -/
theorem Sk.seen {L : List Lk} {n : Nat} {F : Nat → Option Int} {r : Nat → Nat} {op : Nat → Prop} {pl h o : Nat} {v : Int} (s : Sk L n F r op pl) (hh : op h) (ho : (o, v) ∈ nbr L h) (hf : F o ≠ none) : r o = pl := by
  by_cases z : op o
  · exact (s.op o z).2
  · rw [← (s.cl o hf z h (-v) (nbr_sym ho)).2]
    exact (s.op h hh).2
/-- a neighbour that is new -/
theorem Sk.new {L : List Lk} {n : Nat} {F : Nat → Option Int} {r : Nat → Nat} {op op' : Nat → Prop} {pl h o : Nat} {v w : Int} (s : Sk L n F r op pl) (hh : op h) (hw : F h = some w) (ho : (o, v) ∈ nbr L h) (hf : F o = none) (hop : ∀ i, op' i ↔ op i ∨ i = o) : Sk L n (up F o (some (w + v))) (up r o pl) op' pl where
  agr := fun P a i x e => by
    by_cases ei : i = o
    · subst ei
      rw [up_self] at e ⊢
      cases e
      have h1 := s.agr P a h w hw
      have h2 := nbr_agr a ho
      rw [(s.op h hh).2] at h1
      omega
    · rw [up_ne ei] at e ⊢
      exact s.agr P a i x e
  cl := fun i hi hn j x hj => by
    have ei : i ≠ o := fun z => hn ((hop i).mpr (.inr z))
    rw [up_ne ei] at hi ⊢
    obtain ⟨h1, h2⟩ := s.cl i hi (fun z => hn ((hop i).mpr (.inl z))) j x hj
    have hjo : j ≠ o := fun z => h1 (by rw [z]; exact hf)
    rw [up_ne hjo, up_ne hjo]
    exact ⟨h1, h2⟩
  op := fun i z => by
    by_cases ei : i = o
    · subst ei
      rw [up_self, up_self]
      exact ⟨fun z => (nomatch z), rfl⟩
    · rw [up_ne ei, up_ne ei]
      exact s.op i (((hop i).mp z).resolve_right ei)
/-- a place that was looked at -/
theorem Sk.done {L : List Lk} {n : Nat} {F : Nat → Option Int} {r : Nat → Nat} {op op' : Nat → Prop} {pl h : Nat} (s : Sk L n F r op pl) (hh : op h) (hd : ∀ o v, (o, v) ∈ nbr L h → F o ≠ none ∧ r o = pl) (hop : ∀ i, op' i → op i) (hop2 : ∀ i, op i → op' i ∨ i = h) : Sk L n F r op' pl where
  agr := s.agr
  cl := fun i hi hn j x hj => by
    by_cases z : op i
    · have e := (hop2 i z).resolve_left hn
      subst e
      obtain ⟨h1, h2⟩ := hd j x hj
      exact ⟨h1, by rw [h2, (s.op i hh).2]⟩
    · exact s.cl i hi z j x hj
  op := fun i z => s.op i (hop i z)
theorem Sk.mono {L : List Lk} {n : Nat} {F : Nat → Option Int} {r : Nat → Nat} {op op' : Nat → Prop} {pl : Nat} (s : Sk L n F r op pl) (h : ∀ i, op i ↔ op' i) : Sk L n F r op' pl :=
  ⟨s.agr, fun i hi hn => s.cl i hi fun z => hn ((h i).mp z), fun i z => s.op i ((h i).mpr z)⟩
theorem _root_.Fx.Out.goes_mono {o : Out} {P Q : Rho → Prop} (h : o.goes P) (i : ∀ ρ, P ρ → Q ρ) : o.goes Q := by
  cases o <;> first | exact i _ h | exact h
/-- at the end: a link that does not fit, and no totals agree -/
theorem Sk.bad {L : List Lk} {n : Nat} {F : Nat → Option Int} {r : Nat → Nat} {pl : Nat} (s : Sk L n F r (fun _ => False) pl) {l : Lk} (hl : l ∈ L) {x y : Int} (hx : F l.1 = some x) (hy : F l.2.1 = some y) (h : y - x ≠ l.2.2) (P : Nat → Int) : ¬ Agr P L := fun a => by
  have h1 := s.agr P a _ x hx
  have h2 := s.agr P a _ y hy
  have h3 := (s.cl l.1 (by rw [hx]; exact fun z => (nomatch z)) (fun z => z) l.2.1 l.2.2 (mem_nbr.mpr (.inl hl))).2
  have h4 := a l hl
  rw [h3] at h2
  omega
/-! ### what the new statements do -/
section
variable {ρ : Rho} {i j : Nat}
@[simp] theorem sParO2_ap {a b} : sParO2 i j a b ρ = (a ρ).out fun t ρ1 => (b ρ1).out fun u ρ2 => .nx ((ρ2.set i (.ow t)).set j (.va u)) := byRfl rfl
@[simp] theorem sParP_ap {φk a b} : sParP i φk j a b ρ = (a ρ).out fun t ρ1 => (b ρ1).out fun u ρ2 => match isOw ρ2 i with
  | some _ => (φk ρ2).out fun k ρ3 => match k, isOw ρ3 i with
    | .int k, some ts => match L2.ixN ts.length k with
      | some m => .nx ((ρ3.set i (.ow (ts.set m t))).set j (.va u))
      | none => .stuck
    | _, _ => .stuck
  | none => .stuck := byRfl rfl
@[simp] theorem sParPO_ap {φk a b} : sParPO i φk j a b ρ = (a ρ).out fun t ρ1 => (b ρ1).out fun u ρ2 => match isOw ρ2 i with
  | some _ => (φk ρ2).out fun k ρ3 => match k, isOw ρ3 i with
    | .int k, some ts => match L2.ixN ts.length k with
      | some m => .nx ((ρ3.set i (.ow (ts.set m t))).set j (.ow u))
      | none => .stuck
    | _, _ => .stuck
  | none => .stuck := byRfl rfl
@[simp] theorem sExt_ap {φ} : sExt i φ ρ = match isOw ρ i with
  | some _ => (φ ρ).out fun us ρ1 => match isOw ρ1 i with
    | some ts => if ts.length + us.length ≤ sizeLine then .nx (ρ1.set i (.ow (ts ++ us))) else .stuck
    | none => .stuck
  | none => .stuck := byRfl rfl
def nearK (i : Nat) (o : Option (List (List T) × Rho)) : Out := match o with
  | some (tss, ρ3) => .nx (ρ3.set i (.va (.lst (tss.map T.lst))))
  | none => .stuck
@[simp] theorem nearK_some {i : Nat} {tss : List (List T)} {ρ3 : Rho} : nearK i (some (tss, ρ3)) = .nx (ρ3.set i (.va (.lst (tss.map T.lst)))) := byRfl rfl
@[simp] theorem sNear_ap {i0 φi φl γ κ1 φ1 κ2 φ2} : sNear i i0 φi φl γ κ1 φ1 κ2 φ2 ρ = (φi ρ).out fun ts ρ1 => if ts.length ≤ sizeLine ∧ i < ρ1.length then
  (φl ((unwipe ρ1 [i0] (wipeR ρ1 [i0])).set i .no)).out fun ls ρ2 => nearK i (nearGo γ κ1 φ1 κ2 φ2 ls (List.replicate ts.length []) ρ2)
  else .stuck := byRfl rfl
end
theorem ixN_nat {n j : Nat} (h : j < n) : L2.ixN n (j : Nat) = some j := by
  unfold L2.ixN
  rw [if_pos (by omega), if_pos (by omega)]
  simp
theorem nearAdd_is {κ φ : Rho → Rz T} {n j : Nat} {A : Nat → List T} {t : T} {ρ : Rho} (hk : κ ρ = .ok (.int (j : Nat)) ρ) (hf : φ ρ = .ok t ρ) (hj : j < n) (hl : (A j).length < sizeLine) :
    nearAdd κ φ ((List.range n).map A) ρ = some ((List.range n).map (up A j (A j ++ [t])), ρ) := by
  have hg : ((List.range n).map A).getD j [] = A j := by simp [List.getD_eq_getElem?_getD, hj]
  unfold nearAdd
  rw [hk]
  dsimp only
  rw [List.length_map, List.length_range, ixN_nat hj]
  dsimp only
  rw [hf]
  dsimp only
  rw [hg, if_pos hl, set_tab]
def lnkT (l : Lk) : T := .tup [.int (l.1 : Nat), .int (l.2.1 : Nat), .int l.2.2]
def nbT (p : Nat × Int) : T := .tup [.int (p.1 : Nat), .int p.2]
def optT : Option Int → T
  | none => .non
  | some i => .int i
theorem nbr_cons {l : Lk} {L : List Lk} {i : Nat} : nbr (l :: L) i = (if l.1 = i then [(l.2.1, l.2.2)] else []) ++ (if l.2.1 = i then [(l.1, -l.2.2)] else []) ++ nbr L i := by
  unfold nbr
  rw [List.flatMap_cons]
theorem near_go {γ : T → Rho → Option Rho} {κ1 φ1 κ2 φ2 : Rho → Rz T} {n : Nat} (st : Lk → Rho) (I : Rho → Prop) (hγ : ∀ l ρ, I ρ → γ (lnkT l) ρ = some (st l) ∧ I (st l)) (h1 : ∀ l, κ1 (st l) = .ok (.int (l.1 : Nat)) (st l)) (h2 : ∀ l, φ1 (st l) = .ok (nbT (l.2.1, l.2.2)) (st l))
    (h3 : ∀ l, κ2 (st l) = .ok (.int (l.2.1 : Nat)) (st l)) (h4 : ∀ l, φ2 (st l) = .ok (nbT (l.1, -l.2.2)) (st l)) : ∀ (L : List Lk) (A : Nat → List T) (ρ : Rho), I ρ → (∀ l ∈ L, l.1 < n ∧ l.2.1 < n) → (∀ i, (A i).length + 2 * L.length < sizeLine) →
    ∃ ρ', I ρ' ∧ nearGo γ κ1 φ1 κ2 φ2 (L.map lnkT) ((List.range n).map A) ρ = some ((List.range n).map fun i => A i ++ (nbr L i).map nbT, ρ')
  | [], A, ρ, hI, _, _ => ⟨ρ, hI, by unfold nearGo; simp [nbr]⟩
  | l :: L, A, ρ, hI, hb, hs => by
    obtain ⟨e1, hI1⟩ := hγ l ρ hI
    obtain ⟨b1, b2⟩ := hb l List.mem_cons_self
    have hs' : ∀ i, (A i).length + 2 * L.length + 2 < sizeLine := fun i => by have := hs i; simp at this; omega
    have q1 := nearAdd_is (n := n) (A := A) (h1 l) (h2 l) b1 (by have := hs' l.1; omega)
    have q2 := nearAdd_is (n := n) (A := up A l.1 (A l.1 ++ [nbT (l.2.1, l.2.2)])) (h3 l) (h4 l) b2 (by
      have h1 := hs' l.1
      have h2 := hs' l.2.1
      unfold up; split
      · rw [List.length_append]; simp; omega
      · omega)
    obtain ⟨ρ', i', e⟩ := near_go st I hγ h1 h2 h3 h4 L (up (up A l.1 (A l.1 ++ [nbT (l.2.1, l.2.2)])) l.2.1 (up A l.1 (A l.1 ++ [nbT (l.2.1, l.2.2)]) l.2.1 ++ [nbT (l.1, -l.2.2)])) (st l) hI1 (fun m hm => hb m (List.mem_cons_of_mem _ hm)) (fun i => by
      have h1 := hs' l.1
      have h2 := hs' l.2.1
      have h3 := hs' i
      unfold up
      repeat' split
      all_goals (try simp only [List.length_append, List.length_cons, List.length_nil])
      all_goals omega)
    refine ⟨ρ', i', ?_⟩
    rw [List.map_cons]
    unfold nearGo
    rw [e1]
    dsimp only
    rw [q1]
    dsimp only
    rw [q2]
    dsimp only
    rw [e]
    congr 2
    refine List.map_congr_left fun i _ => ?_
    rw [nbr_cons]
    obtain ⟨s, p, v⟩ := l
    dsimp only
    by_cases ea : p = i
    · subst ea
      by_cases eb : s = p
      · subst eb; simp
      · rw [up_self, up_ne (Ne.symm eb), if_neg eb, if_pos rfl]
        simp
    · rw [up_ne (Ne.symm ea), if_neg ea]
      by_cases eb : s = i
      · subst eb; simp
      · rw [up_ne (Ne.symm eb), if_neg eb]
        simp
end Fx
namespace Fx
open PySem PySem.Spec PyProof.Rows L2
/-! ### periods -/
theorem per_mul {c : Nat → Int} {p : Nat} (h : ∀ i, c (i + p) = c i) (i : Nat) : ∀ k, c (i + p * k) = c i
  | 0 => by rw [Nat.mul_zero, Nat.add_zero]
  | k + 1 => by rw [Nat.mul_succ, ← Nat.add_assoc, h, per_mul h i k]
theorem per_gcd {c : Nat → Int} (p q : Nat) : (∀ i, c (i + p) = c i) → (∀ i, c (i + q) = c i) → ∀ i, c (i + Nat.gcd p q) = c i := by
  induction p, q using Nat.gcd.induction with
  | H0 q => intro _ h2; rw [Nat.gcd_zero_left]; exact h2
  | H1 p q hp ih =>
    intro h1 h2
    rw [Nat.gcd_rec]
    refine ih (fun i => ?_) h1
    have e := per_mul h1 (i + q % p) (q / p)
    rw [show i + q % p + p * (q / p) = i + q by have := Nat.mod_add_div q p; omega] at e
    rw [← e, h2]
theorem per_mod {c : Nat → Int} {p : Nat} (h : ∀ i, c (i + p) = c i) (i : Nat) : c i = c (i % p) := by
  have e := per_mul h (i % p) (i / p)
  rw [Nat.mod_add_div] at e
  exact e
/-! ### rings -/
/-- a row of n days around, by its totals: T the total of all days -/
def rsum (x : Nat → Int) (n d w : Nat) : Int := ((List.range w).map fun j => x ((d + j) % n)).sum
def RR (x : Nat → Int) (S : List Int) (w : Nat) : Prop := ∀ d < S.length, rsum x S.length d w = S.getD d 0
/-- the totals before each day, going round and round -/
def ptot (x : Nat → Int) (n d : Nat) : Int := psum (fun i => x (i % n)) d
theorem rsum_ptot {x : Nat → Int} {n d w : Nat} : rsum x n d w = ptot x n (d + w) - ptot x n d := by
  unfold ptot
  rw [← wsum_psum]
  rfl
theorem ptot_round {x : Nat → Int} {n : Nat} : ∀ d, ptot x n (d + n) = ptot x n d + ptot x n n
  | 0 => by rw [Nat.zero_add]; unfold ptot psum wsum; simp
  | d + 1 => by
    have ih := ptot_round (x := x) (n := n) d
    unfold ptot at ih ⊢
    rw [show d + 1 + n = d + n + 1 by omega, psum_succ, psum_succ, ih, Nat.add_mod_right]
    omega
/-- all sums together -/
theorem ring_total {x : Nat → Int} {n : Nat} : ∀ w, ((List.range n).map fun d => rsum x n d w).sum = w * ptot x n n
  | 0 => by
    rw [Int.natCast_zero, Int.zero_mul]
    have : ((List.range n).map fun d => rsum x n d 0) = (List.range n).map fun _ => 0 := List.map_congr_left fun d _ => rfl
    rw [this]
    generalize List.range n = L
    induction L with
    | nil => rfl
    | cons a L ih => rw [List.map_cons, List.sum_cons, ih]; rfl
  | w + 1 => by
    have e : ((List.range n).map fun d => rsum x n d (w + 1)) = (List.range n).map fun d => rsum x n d w + x ((d + w) % n) := List.map_congr_left fun d _ => by
      rw [rsum_ptot, rsum_ptot]
      unfold ptot
      rw [← Nat.add_assoc, psum_succ]
      omega
    have hr : ((List.range n).map fun d => x ((d + w) % n)).sum = ptot x n n := by
      have h1 := rsum_ptot (x := x) (n := n) (d := w) (w := n)
      rw [ptot_round] at h1
      have : ((List.range n).map fun d => x ((d + w) % n)).sum = rsum x n w n := by
        unfold rsum
        congr 1
        exact List.map_congr_left fun d _ => by rw [Nat.add_comm]
      rw [this, h1]
      omega
    rw [e, Fx.sum_map_add, ring_total w, hr, Int.natCast_add, Int.add_mul]
    simp
theorem rr_mod {x : Nat → Int} {n d w : Nat} : rsum x n (d % n) w = rsum x n d w := by
  unfold rsum
  congr 1
  exact List.map_congr_left fun j _ => by rw [Nat.mod_add_mod]
/-- the links of a ring -/
def rlnks (S : List Int) (w : Nat) (τ : Int) : List Lk := (0, S.length, τ) :: (List.range S.length).map fun d => if d + w ≤ S.length then (d, d + w, S.getD d 0) else (d, d + w - S.length, S.getD d 0 - τ)
theorem agr_ring1 {x : Nat → Int} {S : List Int} {w : Nat} {τ : Int} (h : RR x S w) (ht : ptot x S.length S.length = τ) : Agr (ptot x S.length) (rlnks S w τ) := fun l hl => by
  rcases List.mem_cons.mp hl with rfl | hl
  · dsimp only
    rw [ht]; unfold ptot psum wsum; simp
  · obtain ⟨d, hd, rfl⟩ := List.mem_map.mp hl
    have e := h d (List.mem_range.mp hd)
    rw [rsum_ptot] at e
    by_cases hw : d + w ≤ S.length
    · rw [if_pos hw]; exact e
    · rw [if_neg hw]
      dsimp only
      have e2 := ptot_round (x := x) (n := S.length) (d + w - S.length)
      rw [show d + w - S.length + S.length = d + w by omega] at e2
      omega
def dif (P : Nat → Int) (d : Nat) : Int := P (d + 1) - P d
theorem ptot_dif {P : Nat → Int} {n : Nat} : ∀ d, d ≤ n → ptot (dif P) n d = P d - P 0
  | 0, _ => by unfold ptot psum wsum; simp
  | d + 1, h => by
    have ih := ptot_dif (P := P) (n := n) d (by omega)
    unfold ptot at ih ⊢
    rw [psum_succ, ih, Nat.mod_eq_of_lt (by omega)]
    unfold dif
    omega
theorem agr_ring2 {P : Nat → Int} {S : List Int} {w : Nat} {τ : Int} (hw : w ≤ S.length) (h : Agr P (rlnks S w τ)) : RR (dif P) S w ∧ ptot (dif P) S.length S.length = τ := by
  have h0 := h (0, S.length, τ) List.mem_cons_self
  dsimp only at h0
  have ht : ptot (dif P) S.length S.length = τ := by rw [ptot_dif _ (Nat.le_refl _)]; exact h0
  refine ⟨fun d hd => ?_, ht⟩
  have hl := h _ (List.mem_cons_of_mem _ (List.mem_map.mpr ⟨d, List.mem_range.mpr hd, rfl⟩))
  rw [rsum_ptot]
  by_cases hdw : d + w ≤ S.length
  · rw [if_pos hdw] at hl
    rw [ptot_dif _ hdw, ptot_dif _ (by omega)]
    dsimp only at hl
    omega
  · rw [if_neg hdw] at hl
    dsimp only at hl
    have e2 := ptot_round (x := dif P) (n := S.length) (d + w - S.length)
    rw [show d + w - S.length + S.length = d + w by omega] at e2
    rw [e2, ht, ptot_dif _ (by omega), ptot_dif _ (by omega)]
    omega
theorem ring_sum {x : Nat → Int} {S : List Int} {w : Nat} (h : RR x S w) : S.sum = w * ptot x S.length S.length := by
  rw [← ring_total]
  conv => lhs; rw [tab_list (xs := S) (d := 0)]
  congr 1
  exact List.map_congr_left fun d hd => (h d (List.mem_range.mp hd)).symm
/-- two rows of a ring differ by what the residue tells -/
theorem ring_two {x y : Nat → Int} {S : List Int} {w : Nat} (hw : 0 < w) (hn : 0 < S.length) (hx : RR x S w) (hy : RR y S w) : ptot x S.length (Nat.gcd S.length w) = ptot y S.length (Nat.gcd S.length w) ∧ ∀ d < S.length, x d - x (d % Nat.gcd S.length w) = y d - y (d % Nat.gcd S.length w) := by
  have e1 := ring_sum hx
  have e2 := ring_sum hy
  have et : ptot x S.length S.length = ptot y S.length S.length := by
    have : (w : Int) * ptot x S.length S.length = w * ptot y S.length S.length := by rw [← e1, ← e2]
    exact Int.eq_of_mul_eq_mul_left (by omega) this
  have hc := per_gcd (c := fun i => ptot x S.length i - ptot y S.length i) S.length w (fun i => by
    try dsimp only
    rw [ptot_round, ptot_round (x := y)]
    omega) (fun i => by
    have a := hx (i % S.length) (Nat.mod_lt _ hn)
    have b := hy (i % S.length) (Nat.mod_lt _ hn)
    rw [rr_mod, rsum_ptot] at a b
    try dsimp only
    omega)
  have z : ∀ x : Nat → Int, ptot x S.length 0 = 0 := fun x => by unfold ptot psum wsum; simp
  refine ⟨?_, fun d hd => ?_⟩
  · have := hc 0
    rw [Nat.zero_add, z, z] at this
    omega
  · have hg : 0 < Nat.gcd S.length w := Nat.gcd_pos_of_pos_left _ hn
    have hp : ∀ i, (x (i % S.length) - y (i % S.length)) = ((ptot x S.length (i + 1) - ptot y S.length (i + 1)) - (ptot x S.length i - ptot y S.length i)) := fun i => by
      unfold ptot
      rw [psum_succ, psum_succ]
      omega
    have hq := per_mod (c := fun i => x (i % S.length) - y (i % S.length)) (p := Nat.gcd S.length w) (fun i => by
      try dsimp only
      rw [hp, hp i]
      have h1 := hc i
      have h2 := hc (i + 1)
      try dsimp only at h1 h2
      rw [show i + 1 + Nat.gcd S.length w = i + Nat.gcd S.length w + 1 by omega] at h2
      omega) d
    try dsimp only at hq
    have hgl : d % Nat.gcd S.length w < S.length := by
      have := Nat.mod_le d (Nat.gcd S.length w)
      omega
    rw [Nat.mod_eq_of_lt hd, Nat.mod_eq_of_lt hgl] at hq
    omega
/-! ### a ring, turned -/
def trn (S : List Int) (f : Nat) : List Int := (List.range S.length).map fun d => S.getD ((d + f) % S.length) 0
theorem trn_len {S : List Int} {f : Nat} : (trn S f).length = S.length := by unfold trn; simp
theorem trn_get {S : List Int} {f d : Nat} (h : d < S.length) : (trn S f).getD d 0 = S.getD ((d + f) % S.length) 0 := by unfold trn; simp [h]
theorem rr_trn {x : Nat → Int} {S : List Int} {w f : Nat} (h : RR x S w) : RR (fun d => x ((d + f) % S.length)) (trn S f) w := fun d hd => by
  rw [trn_len] at hd ⊢
  rw [trn_get hd, ← h _ (Nat.mod_lt _ (by omega)), rr_mod]
  unfold rsum
  congr 1
  refine List.map_congr_left fun j _ => ?_
  dsimp only
  rw [Nat.mod_add_mod, show d + f + j = d + j + f by omega]
theorem trn_back {S : List Int} {f : Nat} (h : f ≤ S.length) : trn (trn S f) (S.length - f) = S := by
  conv => rhs; rw [tab_list (xs := S) (d := 0)]
  unfold trn
  rw [List.length_map, List.length_range]
  refine List.map_congr_left fun d hd => ?_
  have hd := List.mem_range.mp hd
  have hm := Nat.mod_lt (d + (S.length - f)) (show 0 < S.length by omega)
  have := trn_get (S := S) (f := f) hm
  unfold trn at this
  rw [this, Nat.mod_add_mod, show d + (S.length - f) + f = d + S.length by omega, Nat.add_mod_right, Nat.mod_eq_of_lt hd]
theorem rr_trn_iff {S : List Int} {w f : Nat} (h : f ≤ S.length) : (∃ x, RR x (trn S f) w) ↔ ∃ x, RR x S w := by
  constructor
  · rintro ⟨x, hx⟩
    have := rr_trn (f := S.length - f) hx
    rw [trn_back h] at this
    exact ⟨_, this⟩
  · rintro ⟨x, hx⟩
    exact ⟨_, rr_trn hx⟩
theorem cmin_trn {x : Nat → Int} {n g f r : Nat} (hg : 0 < g) (hd : g ∣ n) (hn : 0 < n) (hf : f ≤ n) (hr : r < g) : cmin (fun d => x ((d + f) % n)) g n r = cmin x g n ((f + r) % g) := by
  have hgn := Nat.le_of_dvd hn hd
  have hm := Nat.mod_lt (f + r) hg
  apply Int.le_antisymm
  · refine le_cmin hm (by omega) fun e he hc => ?_
    have hk := cmin_le (x := fun d => x ((d + f) % n)) (w := g) (N := n) (d := (e + (n - f)) % n) hg (Nat.mod_lt _ hn)
    try dsimp only at hk
    rw [Nat.mod_add_mod, show e + (n - f) + f = e + n by omega, Nat.add_mod_right, Nat.mod_eq_of_lt he, Nat.mod_mod_of_dvd _ hd] at hk
    have hr2 : (e + (n - f)) % g = r := by
      have h1 : (e + (n - f)) % g = ((f + r) + (n - f)) % g := by rw [Nat.add_mod, hc, ← Nat.add_mod]
      rw [h1, show f + r + (n - f) = r + n by omega, Nat.add_mod, Nat.mod_eq_zero_of_dvd hd, Nat.add_zero, Nat.mod_mod, Nat.mod_eq_of_lt hr]
    rw [hr2] at hk
    exact hk
  · refine le_cmin hr (by omega) fun d hd2 hc => ?_
    have hk := cmin_le (x := x) (w := g) (N := n) (d := (d + f) % n) hg (Nat.mod_lt _ hn)
    have e : (d + f) % n % g = (f + r) % g := by
      rw [Nat.mod_mod_of_dvd _ hd, Nat.add_mod, hc, Nat.add_comm f r, Nat.add_mod r f, Nat.mod_eq_of_lt hr]
    rw [e] at hk
    exact hk
/-! ### loops over doors that all answer the same -/
theorem loopF {F : Rho → Rz T} {w : Str} {ds : List T} {i : Nat} (st : Sl → Rho) (hset : ∀ t b, tgN i t (st b) = some (st (.va t))) (hN : gEqB (.str w) (.str w) = some true)
    (hF : ∀ t ∈ ds, F (st (.va t)) = .ok (.str w) (st (.va t))) (b : Sl) {P : Rho → Prop} (hP : ∀ b, P (st b)) : (forGo (tgN i) (sIf (fTest (fBin gNe F (fC (.str w)))) (sRet (fC (.bl false))) sNext) ds (st b)).goes P := by
  refine for_goes (fun _ ρ => ∃ b, ρ = st b) ⟨b, rfl⟩ ?_ ?_
  · rintro _ t ρ hi ⟨b, rfl⟩
    have h1 := hF t (List.mem_of_getElem? hi)
    rw [forS_ap, hset, optIs_some]
    simp [h1, hN]
    exact ⟨_, rfl⟩
  · rintro ρ ⟨b, rfl⟩
    exact hP b
theorem loopFb {F : Rho → Rz T} {w : Str} {ds : List T} {i : Nat} {rest : Rho → Out} (st : Sl → Rho) (hset : ∀ t b, tgN i t (st b) = some (st (.va t))) (hN : gEqB (.str w) (.str w) = some true)
    (hF : ∀ t ∈ ds, F (st (.va t)) = .ok (.str w) (st (.va t))) (b : Sl) {P : Rho → Prop} (hr : ∀ b, (rest (st b)).goes P) : ((forGo (tgN i) (sIf (fTest (fBin gNe F (fC (.str w)))) (sRet (fC (.bl false))) sNext) ds (st b)).bind rest).goes P := by
  refine for_bind (fun o => o.goes P) (fun _ ρ => ∃ b, ρ = st b) ⟨b, rfl⟩ ?_ ?_
  · rintro _ t ρ hi ⟨b, rfl⟩
    have h1 := hF t (List.mem_of_getElem? hi)
    rw [forS_ap, hset, optIs_some]
    simp [h1, hN]
    exact ⟨_, rfl⟩
  · rintro ρ ⟨b, rfl⟩
    exact hr b
end Fx
namespace Lw
open PySem PySem.Spec PyProof.Rows L2 Fx
def topS (i : Nat) : Stmt := PySem.Challenge.pw_movingsums_k12_whole_largest_numbers.main.body.getD i (.Pass ⟨0, 0, 0, 0⟩)
structure Txt (g : GC) : Prop where
  b_all : g.mg ("all" : Str) = none
  b_any : g.mg ("any" : Str) = none
  b_bool : g.mg ("bool" : Str) = none
  b_enumerate : g.mg ("enumerate" : Str) = none
  b_int : g.mg ("int" : Str) = none
  b_isinstance : g.mg ("isinstance" : Str) = none
  b_len : g.mg ("len" : Str) = none
  b_list : g.mg ("list" : Str) = none
  b_max : g.mg ("max" : Str) = none
  b_min : g.mg ("min" : Str) = none
  b_range : g.mg ("range" : Str) = none
  b_str : g.mg ("str" : Str) = none
  b_sum : g.mg ("sum" : Str) = none
  b_tuple : g.mg ("tuple" : Str) = none
  b_zip : g.mg ("zip" : Str) = none
  c_LARGEST : ∃ u, g.mg ("LARGEST" : Str) = some u ∧ RelV (.int 1000000000) u
  c_MOST_SUMS : ∃ u, g.mg ("MOST_SUMS" : Str) = some u ∧ RelV (.int 40) u
  c_LONGEST : ∃ u, g.mg ("LONGEST" : Str) = some u ∧ RelV (.int 12) u
  e_InvalidMost : ExcP g "InvalidMost" "InvalidMost"
  e_InvalidSums : ExcP g "InvalidSums" "InvalidSums"
  e_InvalidWindow : ExcP g "InvalidWindow" "InvalidWindow"
  e_NoRows : ExcP g "NoRows" "NoRows"
abbrev csT : List (String × Str) := [("InvalidMost", "Most+"), ("NoRows", "None+")]
abbrev s_is_from : Stmt := topS 19
theorem sc_is_from : FnScope ["value", "low", "high"] ["value", "low", "high"] (defScope s_is_from) := ⟨rfl, rfl, rfl, by decide +kernel, rfl, by decide +kernel, by decide +kernel⟩
def psi_is_from : Rho → Out :=
  sRet (fAndV (fIsi isInt (fVar 0)) (fAndV (fNotV (fIsi isBl (fVar 0))) (fChain (gLe) (gLe) (fVar 1) (fVar 0) (fVar 2))))
def phi_is_from : List T → FR := fnP 3 3 psi_is_from
theorem body_is_from {g : GC} (T : Txt g) (E : XK) : PSsF (mkS g ["value", "low", "high"] (defScope s_is_from) 0 E false) (defBody s_is_from) psi_is_from :=
  pss_one' (psf_ret (pef_and (pef_isi i_int rfl T.b_isinstance rfl T.b_int (by decide +kernel) (pef_var 0 rfl rfl)) (pef_and (pef_not (pef_isi i_bool rfl T.b_isinstance rfl T.b_bool (by decide +kernel) (pef_var 0 rfl rfl))) (pef_one (pef_c2 c_le c_le (pef_var 1 rfl rfl) (pef_var 0 rfl rfl) (pef_var 2 rfl rfl))))))
theorem ok_is_from {g : GC} (T : Txt g) {f : Addr} {fd : FuncData} (F : Fun g.K "is_from" "is_from" s_is_from f fd) (hm : g.mg "is_from" = some (.ref f)) : DefP g 1 "is_from" phi_is_from :=
  defp_of F sc_is_from hm (F.binds (ps := ["value", "low", "high"]) fun _ _ _ _ _ _ us hl => match us, hl with | [_, _, _], _ => rfl) (by decide) (body_is_from T)
abbrev s_is_numbers : Stmt := topS 20
theorem sc_is_numbers : FnScope ["value", "least", "most", "number"] ["value", "least", "most"] (defScope s_is_numbers) := ⟨rfl, rfl, rfl, by decide +kernel, rfl, by decide +kernel, by decide +kernel⟩
def psi_is_numbers : Rho → Out :=
  sSeq (sIf (fOr (fNot (fTest (fIsi isTup (fVar 0)))) (fNot (fTest (fChain (gLe) (gLe) (fVar 1) (fCall gLen (fCons (fVar 0) (fNil))) (fVar 2))))) (sRet (fC (.bl false))) (sNext))
    (sRet (fCall gAll (fCons (fFz (fLc (fItems (fVar 0)) (tgN 3) (fYes) (fDef phi_is_from (fCons (fVar 3) (fCons (fC (.int 0)) (fCons (fC (.int 1000000000)) (fNil))))) [3])) (fNil))))
def phi_is_numbers : List T → FR := fnP 4 3 psi_is_numbers
theorem body_is_numbers {g : GC} (T : Txt g) (d_is_from : DefP g 1 "is_from" phi_is_from) (E : XK) : PSsF (mkS g ["value", "least", "most", "number"] (defScope s_is_numbers) 1 E false) (defBody s_is_numbers) psi_is_numbers :=
  pss_cons' (psf_if (ptf_w (pwf_or (ptf_not (ptf_val (pef_isi i_tuple rfl T.b_isinstance rfl T.b_tuple (by decide +kernel) (pef_var 0 rfl rfl)))) (pwf_or1 (ptf_not (ptf_c2 c_le c_le (pef_var 1 rfl rfl) (pef_b b_len rfl T.b_len (paf_cons (pef_var 0 rfl rfl) (paf_nil))) (pef_var 2 rfl rfl)))))) (pss_one' (psf_ret (pef_bl))) (pss_nil'))
    (pss_one' (psf_ret (pef_b b_all rfl T.b_all (paf_cons (pef_fz (pof_lc [("number", 3)] sc_is_numbers.nd (pif_seq (pef_var 0 rfl rfl)) (blkOk_by (by kernel_rfl)) (by decide) (by decide) (pgf_name 3 sc_is_numbers.nd rfl (.inl rfl) (.inr rfl)) (ptsf_nil) (pef_call d_is_from (show 1 ≤ 1 by decide) rfl (paf_cons (pef_var 3 rfl rfl) (paf_cons (pef_int) (paf_cons (pef_gint rfl T.c_LARGEST) (paf_nil))))))) (paf_nil)))))
theorem ok_is_numbers {g : GC} (T : Txt g) {f : Addr} {fd : FuncData} (F : Fun g.K "is_numbers" "is_numbers" s_is_numbers f fd) (hm : g.mg "is_numbers" = some (.ref f)) (d_is_from : DefP g 1 "is_from" phi_is_from) : DefP g 2 "is_numbers" phi_is_numbers :=
  defp_of F sc_is_numbers hm (F.binds (ps := ["value", "least", "most"]) fun _ _ _ _ _ _ us hl => match us, hl with | [_, _, _], _ => rfl) (by decide) (body_is_numbers T d_is_from)
abbrev s_is_sums : Stmt := topS 21
theorem sc_is_sums : FnScope ["value"] ["value"] (defScope s_is_sums) := ⟨rfl, rfl, rfl, by decide +kernel, rfl, by decide +kernel, by decide +kernel⟩
def psi_is_sums : Rho → Out :=
  sRet (fDef phi_is_numbers (fCons (fVar 0) (fCons (fC (.int 1)) (fCons (fC (.int 40)) (fNil)))))
def phi_is_sums : List T → FR := fnP 1 1 psi_is_sums
theorem body_is_sums {g : GC} (T : Txt g) (d_is_numbers : DefP g 2 "is_numbers" phi_is_numbers) (E : XK) : PSsF (mkS g ["value"] (defScope s_is_sums) 2 E false) (defBody s_is_sums) psi_is_sums :=
  pss_one' (psf_ret (pef_call d_is_numbers (show 2 ≤ 2 by decide) rfl (paf_cons (pef_var 0 rfl rfl) (paf_cons (pef_int) (paf_cons (pef_gint rfl T.c_MOST_SUMS) (paf_nil))))))
theorem ok_is_sums {g : GC} (T : Txt g) {f : Addr} {fd : FuncData} (F : Fun g.K "is_sums" "is_sums" s_is_sums f fd) (hm : g.mg "is_sums" = some (.ref f)) (d_is_numbers : DefP g 2 "is_numbers" phi_is_numbers) : DefP g 3 "is_sums" phi_is_sums :=
  defp_of F sc_is_sums hm (F.binds (ps := ["value"]) fun _ _ _ _ _ _ us hl => match us, hl with | [_], _ => rfl) (by decide) (body_is_sums T d_is_numbers)
abbrev s_need_window : Stmt := topS 22
theorem sc_need_window : FnScope ["window"] ["window"] (defScope s_need_window) := ⟨rfl, rfl, rfl, by decide +kernel, rfl, by decide +kernel, by decide +kernel⟩
def psi_need_window : Rho → Out :=
  sIf (fNot (fTest (fDef phi_is_from (fCons (fVar 0) (fCons (fC (.int 2)) (fCons (fC (.int 12)) (fNil))))))) (sRaise "InvalidWindow") (sNext)
def phi_need_window : List T → FR := fnP 1 1 psi_need_window
theorem body_need_window {g : GC} (T : Txt g) (d_is_from : DefP g 1 "is_from" phi_is_from) (E : XK) : PSsF (mkS g ["window"] (defScope s_need_window) 1 E false) (defBody s_need_window) psi_need_window :=
  pss_one' (psf_if (ptf_not (ptf_val (pef_call d_is_from (show 1 ≤ 1 by decide) rfl (paf_cons (pef_var 0 rfl rfl) (paf_cons (pef_int) (paf_cons (pef_gint rfl T.c_LONGEST) (paf_nil))))))) (pss_one' (psf_raise T.e_InvalidWindow rfl)) (pss_nil'))
theorem ok_need_window {g : GC} (T : Txt g) {f : Addr} {fd : FuncData} (F : Fun g.K "need_window" "need_window" s_need_window f fd) (hm : g.mg "need_window" = some (.ref f)) (d_is_from : DefP g 1 "is_from" phi_is_from) : DefP g 2 "need_window" phi_need_window :=
  defp_of F sc_need_window hm (F.binds (ps := ["window"]) fun _ _ _ _ _ _ us hl => match us, hl with | [_], _ => rfl) (by decide) (body_need_window T d_is_from)
abbrev s_need_sums : Stmt := topS 23
theorem sc_need_sums : FnScope ["sums", "window"] ["sums", "window"] (defScope s_need_sums) := ⟨rfl, rfl, rfl, by decide +kernel, rfl, by decide +kernel, by decide +kernel⟩
def psi_need_sums : Rho → Out :=
  sSeq (sIf (fNot (fTest (fDef phi_is_sums (fCons (fVar 0) (fNil))))) (sRaise "InvalidSums") (sNext))
    (sDrop (fDef phi_need_window (fCons (fVar 1) (fNil))))
def phi_need_sums : List T → FR := fnP 2 2 psi_need_sums
theorem body_need_sums {g : GC} (T : Txt g) (d_is_sums : DefP g 3 "is_sums" phi_is_sums) (d_need_window : DefP g 2 "need_window" phi_need_window) (E : XK) : PSsF (mkS g ["sums", "window"] (defScope s_need_sums) 3 E false) (defBody s_need_sums) psi_need_sums :=
  pss_cons' (psf_if (ptf_not (ptf_val (pef_call d_is_sums (show 3 ≤ 3 by decide) rfl (paf_cons (pef_var 0 rfl rfl) (paf_nil))))) (pss_one' (psf_raise T.e_InvalidSums rfl)) (pss_nil'))
    (pss_one' (psf_expr (pef_call d_need_window (show 2 ≤ 3 by decide) rfl (paf_cons (pef_var 1 rfl rfl) (paf_nil)))))
theorem ok_need_sums {g : GC} (T : Txt g) {f : Addr} {fd : FuncData} (F : Fun g.K "need_sums" "need_sums" s_need_sums f fd) (hm : g.mg "need_sums" = some (.ref f)) (d_is_sums : DefP g 3 "is_sums" phi_is_sums) (d_need_window : DefP g 2 "need_window" phi_need_window) : DefP g 4 "need_sums" phi_need_sums :=
  defp_of F sc_need_sums hm (F.binds (ps := ["sums", "window"]) fun _ _ _ _ _ _ us hl => match us, hl with | [_, _], _ => rfl) (by decide) (body_need_sums T d_is_sums d_need_window)
abbrev s_shape_of : Stmt := topS 25
theorem sc_shape_of : FnScope ["base", "period", "steps", "differences", "before", "after", "day", "step"] ["base", "period"] (defScope s_shape_of) := ⟨rfl, rfl, rfl, by decide +kernel, rfl, by decide +kernel, by decide +kernel⟩
def psi_shape_of : Rho → Out :=
  sSeq (sSet 2 (fFz (fLc (fZip (fVar 0) (fSl (fVar 0) (fPs (fC (.int 1))) (fPn))) (tgT 2 (tgCons (tgN 4) (tgCons (tgN 5) (tgNil)))) (fYes) (fBin gSub (fVar 5) (fVar 4)) [4, 5])))
    (sSeq (sSet 3 (fFz (fLc (fEnum (fVar 2)) (tgT 2 (tgCons (tgN 6) (tgCons (tgN 7) (tgNil)))) (fYes) (fBin gSub (fVar 7) (fBin gIx (fVar 2) (fBin gMod (fVar 6) (fVar 1)))) [6, 7])))
    (sRet (fTup (fCons (fVar 3) (fCons (fVar 1) (fCons (fBin gSub (fBin gIx (fVar 0) (fVar 1)) (fBin gIx (fVar 0) (fC (.int 0)))) (fNil)))))))
def phi_shape_of : List T → FR := fnP 8 2 psi_shape_of
theorem body_shape_of {g : GC} (T : Txt g) (E : XK) : PSsF (mkS g ["base", "period", "steps", "differences", "before", "after", "day", "step"] (defScope s_shape_of) 0 E false) (defBody s_shape_of) psi_shape_of :=
  pss_cons' (psf_set (i := 2) sc_shape_of.nd rfl (.inr rfl) (pef_fz (pof_lc [("before", 4), ("after", 5)] sc_shape_of.nd (pif_zip rfl T.b_zip (pef_var 0 rfl rfl) (pef_sl (pef_var 0 rfl rfl) (px_some (pef_int)) (px_none))) (blkOk_by (by kernel_rfl)) (by decide) (by decide) (pgf_tup (pgsf_cons (pgf_name 4 sc_shape_of.nd rfl (.inl rfl) (.inr rfl)) (pgsf_cons (pgf_name 5 sc_shape_of.nd rfl (.inl rfl) (.inr rfl)) (pgsf_nil)))) (ptsf_nil) (pef_sub (pef_var 5 rfl rfl) (pef_var 4 rfl rfl)))) (fun _ => by decide) rfl (by intro env h; cases env; cases h; rfl))
    (pss_cons' (psf_setLcV (i := 3) [("day", 6), ("step", 7)] sc_shape_of.nd rfl rfl (by intro env h; cases env; cases h; rfl) (pif_enum rfl T.b_enumerate (pef_var 2 rfl rfl)) (blkOk_by (by kernel_rfl)) (by decide) (by decide) (pgf_tup (pgsf_cons (pgf_name 6 sc_shape_of.nd rfl (.inl rfl) (.inr rfl)) (pgsf_cons (pgf_name 7 sc_shape_of.nd rfl (.inl rfl) (.inr rfl)) (pgsf_nil)))) (ptsf_nil) (pef_sub (pef_var 7 rfl rfl) (pef_ix (pef_var 2 rfl rfl) (pef_mod (pef_var 6 rfl rfl) (pef_var 1 rfl rfl)) (fun _ _ => rfl))) (fun _ => by decide))
    (pss_one' (psf_ret (pef_tup (paf_cons (pef_var 3 rfl rfl) (paf_cons (pef_var 1 rfl rfl) (paf_cons (pef_sub (pef_ix (pef_var 0 rfl rfl) (pef_var 1 rfl rfl) (fun _ _ => rfl)) (pef_ix (pef_var 0 rfl rfl) (pef_int) (fun _ _ => rfl))) (paf_nil))))))))
theorem ok_shape_of {g : GC} (T : Txt g) {f : Addr} {fd : FuncData} (F : Fun g.K "shape_of" "shape_of" s_shape_of f fd) (hm : g.mg "shape_of" = some (.ref f)) : DefP g 1 "shape_of" phi_shape_of :=
  defp_of F sc_shape_of hm (F.binds (ps := ["base", "period"]) fun _ _ _ _ _ _ us hl => match us, hl with | [_, _], _ => rfl) (by decide) (body_shape_of T)
abbrev s_window_shape : Stmt := topS 26
theorem sc_window_shape : FnScope ["sums", "window", "base", "place", "number"] ["sums", "window"] (defScope s_window_shape) := ⟨rfl, rfl, rfl, by decide +kernel, rfl, by decide +kernel, by decide +kernel⟩
def psi_window_shape : Rho → Out :=
  sSeq (sSetO 2 (fRep (fLst (fCons (fC (.int 0)) (fNil))) (fVar 1)))
    (sSeq (sFor (fEnum (fVar 0)) (tgT 2 (tgCons (tgN 3) (tgCons (tgN 4) (tgNil)))) (sApp 2 (fBin gAdd (fIxO 2 (fVar 3)) (fVar 4))))
    (sFrz 2 (sRet (fDef phi_shape_of (fCons (fVar 2) (fCons (fVar 1) (fNil)))))))
def phi_window_shape : List T → FR := fnP 5 2 psi_window_shape
theorem body_window_shape {g : GC} (T : Txt g) (d_shape_of : DefP g 1 "shape_of" phi_shape_of) (E : XK) : PSsF (mkS g ["sums", "window", "base", "place", "number"] (defScope s_window_shape) 1 E false) (defBody s_window_shape) psi_window_shape :=
  pss_cons' (psf_setO (i := 2) sc_window_shape.nd rfl (.inl rfl) (pof_rep (pof_lst (paf_cons (pef_int) (paf_nil))) (pef_var 1 rfl rfl)) (fun _ => by decide) rfl)
    (pss_cons' (psf_for (pif_enum rfl T.b_enumerate (pef_var 0 rfl rfl)) (pgf_tup (pgsf_cons (pgf_name 3 sc_window_shape.nd rfl (.inl rfl) (.inl rfl)) (pgsf_cons (pgf_name 4 sc_window_shape.nd rfl (.inl rfl) (.inl rfl)) (pgsf_nil)))) (pss_one' (psf_append 2 rfl rfl (pef_add (pef_ixO 2 rfl rfl (pef_var 3 rfl rfl) (fun _ _ => rfl)) (pef_var 4 rfl rfl)) (hpe := fun X t hX h => pe_bm PySem.F.plainAttrs_list PySem.F.slot_list_append PySem.F.type_list_append mt_append (pe_var (i := 2) (by rw [hX.N]; rfl) (by rw [hX.sc]; exact vis_of rfl)) (pa_cons h pa_nil)))) (fun _ => by decide))
    (pss_one' (psf_frz 2 (psf_ret (pef_call d_shape_of (show 1 ≤ 1 by decide) rfl (paf_cons (pef_var 2 rfl rfl) (paf_cons (pef_var 1 rfl rfl) (paf_nil))))))))
theorem ok_window_shape {g : GC} (T : Txt g) {f : Addr} {fd : FuncData} (F : Fun g.K "window_shape" "window_shape" s_window_shape f fd) (hm : g.mg "window_shape" = some (.ref f)) (d_shape_of : DefP g 1 "shape_of" phi_shape_of) : DefP g 2 "window_shape" phi_window_shape :=
  defp_of F sc_window_shape hm (F.binds (ps := ["sums", "window"]) fun _ _ _ _ _ _ us hl => match us, hl with | [_, _], _ => rfl) (by decide) (body_window_shape T d_shape_of)
abbrev s_lows_of : Stmt := topS 27
theorem sc_lows_of : FnScope ["shape", "differences", "period", "total", "residue", "one"] ["shape"] (defScope s_lows_of) := ⟨rfl, rfl, rfl, by decide +kernel, rfl, by decide +kernel, by decide +kernel⟩
def psi_lows_of : Rho → Out :=
  sSeq (sAsg (fVar 0) (tgT 3 (tgCons (tgN 1) (tgCons (tgN 2) (tgCons (tgN 3) (tgNil))))))
    (sRetO (fLc (fRange1 (fVar 2)) (tgN 4) (fYes) (fCall gMax (fCons (fFz (fLc (fItems (fSlA (fVar 1) (fPs (fVar 4)) (fPn) (fPs (fVar 2)))) (tgN 5) (fYes) (fBin gSub (fC (.int 0)) (fVar 5)) [5])) (fNil))) [4]))
def phi_lows_of : List T → FR := fnP 6 1 psi_lows_of
theorem body_lows_of {g : GC} (T : Txt g) (E : XK) : PSsF (mkS g ["shape", "differences", "period", "total", "residue", "one"] (defScope s_lows_of) 0 E false) (defBody s_lows_of) psi_lows_of :=
  pss_cons' (psf_asg (pef_var 0 rfl rfl) (pgf_tup (pgsf_cons (pgf_name 1 sc_lows_of.nd rfl (.inr rfl) (.inl rfl)) (pgsf_cons (pgf_name 2 sc_lows_of.nd rfl (.inr rfl) (.inl rfl)) (pgsf_cons (pgf_name 3 sc_lows_of.nd rfl (.inl rfl) (.inl rfl)) (pgsf_nil))))) (fun _ => by decide) (hw := by intro env h; cases env; cases h; rfl))
    (pss_one' (psf_retO (pof_lc [("residue", 4)] sc_lows_of.nd (pif_range1 rfl T.b_range (pef_var 2 rfl rfl)) (blkOk_by (by kernel_rfl)) (by decide) (by decide) (pgf_name 4 sc_lows_of.nd rfl (.inl rfl) (.inr rfl)) (ptsf_nil) (pef_b b_max rfl T.b_max (paf_cons (pef_fz (pof_lc [("one", 5)] sc_lows_of.nd (pif_seq (pef_slA (pef_var 1 rfl rfl) (px_some (pef_var 4 rfl rfl)) (px_none) (px_some (pef_var 2 rfl rfl)))) (blkOk_by (by kernel_rfl)) (by decide) (by decide) (pgf_name 5 sc_lows_of.nd rfl (.inl rfl) (.inr rfl)) (ptsf_nil) (pef_sub (pef_int) (pef_var 5 rfl rfl)))) (paf_nil))))))
theorem ok_lows_of {g : GC} (T : Txt g) {f : Addr} {fd : FuncData} (F : Fun g.K "lows_of" "lows_of" s_lows_of f fd) (hm : g.mg "lows_of" = some (.ref f)) : DefP g 1 "lows_of" phi_lows_of :=
  defp_of F sc_lows_of hm (F.binds (ps := ["shape"]) fun _ _ _ _ _ _ us hl => match us, hl with | [_], _ => rfl) (by decide) (body_lows_of T)
abbrev s_slack_of : Stmt := topS 28
theorem sc_slack_of : FnScope ["shape"] ["shape"] (defScope s_slack_of) := ⟨rfl, rfl, rfl, by decide +kernel, rfl, by decide +kernel, by decide +kernel⟩
def psi_slack_of : Rho → Out :=
  sRet (fBin gSub (fBin gIx (fVar 0) (fC (.int 2))) (fCall gSum (fCons (fFz (fDefO phi_lows_of (fCons (fVar 0) (fNil)))) (fNil))))
def phi_slack_of : List T → FR := fnP 1 1 psi_slack_of
theorem body_slack_of {g : GC} (T : Txt g) (d_lows_of : DefP g 1 "lows_of" phi_lows_of) (E : XK) : PSsF (mkS g ["shape"] (defScope s_slack_of) 1 E false) (defBody s_slack_of) psi_slack_of :=
  pss_one' (psf_ret (pef_sub (pef_ix (pef_var 0 rfl rfl) (pef_int) (fun _ _ => rfl)) (pef_b b_sum rfl T.b_sum (paf_cons (pef_fz (pof_call d_lows_of (show 1 ≤ 1 by decide) rfl (paf_cons (pef_var 0 rfl rfl) (paf_nil)))) (paf_nil)))))
theorem ok_slack_of {g : GC} (T : Txt g) {f : Addr} {fd : FuncData} (F : Fun g.K "slack_of" "slack_of" s_slack_of f fd) (hm : g.mg "slack_of" = some (.ref f)) (d_lows_of : DefP g 1 "lows_of" phi_lows_of) : DefP g 2 "slack_of" phi_slack_of :=
  defp_of F sc_slack_of hm (F.binds (ps := ["shape"]) fun _ _ _ _ _ _ us hl => match us, hl with | [_], _ => rfl) (by decide) (body_slack_of T d_lows_of)
abbrev s_choose : Stmt := topS 29
theorem sc_choose : FnScope ["many", "few", "found", "k"] ["many", "few"] (defScope s_choose) := ⟨rfl, rfl, rfl, by decide +kernel, rfl, by decide +kernel, by decide +kernel⟩
def psi_choose : Rho → Out :=
  sSeq (sIf (fOr (fTest (fBin (gLt) (fVar 1) (fC (.int 0)))) (fTest (fBin (gLt) (fVar 0) (fVar 1)))) (sRet (fC (.int 0))) (sNext))
    (sSeq (sSet 2 (fC (.int 1)))
    (sSeq (sFor (fRange1 (fVar 1)) (tgN 3) (sSet 2 (fBin gDiv (fBin gMul (fVar 2) (fBin gSub (fVar 0) (fVar 3))) (fBin gAdd (fVar 3) (fC (.int 1))))))
    (sRet (fVar 2))))
def phi_choose : List T → FR := fnP 4 2 psi_choose
theorem body_choose {g : GC} (T : Txt g) (E : XK) : PSsF (mkS g ["many", "few", "found", "k"] (defScope s_choose) 0 E false) (defBody s_choose) psi_choose :=
  pss_cons' (psf_if (ptf_w (pwf_or (ptf_c c_lt (pef_var 1 rfl rfl) (pef_int)) (pwf_or1 (ptf_c c_lt (pef_var 0 rfl rfl) (pef_var 1 rfl rfl))))) (pss_one' (psf_ret (pef_int))) (pss_nil'))
    (pss_cons' (psf_set (i := 2) sc_choose.nd rfl (.inl rfl) (pef_int) (fun _ => by decide) rfl)
    (pss_cons' (psf_for (pif_range1 rfl T.b_range (pef_var 1 rfl rfl)) (pgf_name 3 sc_choose.nd rfl (.inl rfl) (.inl rfl)) (pss_one' (psf_set (i := 2) sc_choose.nd rfl (.inl rfl) (pef_div (pef_mul (pef_var 2 rfl rfl) (pef_sub (pef_var 0 rfl rfl) (pef_var 3 rfl rfl))) (pef_add (pef_var 3 rfl rfl) (pef_int))) (fun _ => by decide) rfl)) (fun _ => by decide))
    (pss_one' (psf_ret (pef_var 2 rfl rfl)))))
theorem ok_choose {g : GC} (T : Txt g) {f : Addr} {fd : FuncData} (F : Fun g.K "choose" "choose" s_choose f fd) (hm : g.mg "choose" = some (.ref f)) : DefP g 1 "choose" phi_choose :=
  defp_of F sc_choose hm (F.binds (ps := ["many", "few"]) fun _ _ _ _ _ _ us hl => match us, hl with | [_, _], _ => rfl) (by decide) (body_choose T)
abbrev s_count_of : Stmt := topS 30
theorem sc_count_of : FnScope ["shape", "slack"] ["shape"] (defScope s_count_of) := ⟨rfl, rfl, rfl, by decide +kernel, rfl, by decide +kernel, by decide +kernel⟩
def psi_count_of : Rho → Out :=
  sSeq (sSet 1 (fDef phi_slack_of (fCons (fVar 0) (fNil))))
    (sRet (fIf (fTest (fBin (gGe) (fVar 1) (fC (.int 0)))) (fDef phi_choose (fCons (fBin gSub (fBin gAdd (fVar 1) (fBin gIx (fVar 0) (fC (.int 1)))) (fC (.int 1))) (fCons (fBin gSub (fBin gIx (fVar 0) (fC (.int 1))) (fC (.int 1))) (fNil)))) (fC (.int 0))))
def phi_count_of : List T → FR := fnP 2 1 psi_count_of
theorem body_count_of {g : GC} (T : Txt g) (d_slack_of : DefP g 2 "slack_of" phi_slack_of) (d_choose : DefP g 1 "choose" phi_choose) (E : XK) : PSsF (mkS g ["shape", "slack"] (defScope s_count_of) 2 E false) (defBody s_count_of) psi_count_of :=
  pss_cons' (psf_set (i := 1) sc_count_of.nd rfl (.inl rfl) (pef_call d_slack_of (show 2 ≤ 2 by decide) rfl (paf_cons (pef_var 0 rfl rfl) (paf_nil))) (fun _ => by decide) rfl)
    (pss_one' (psf_ret (pef_if (ptf_c c_ge (pef_var 1 rfl rfl) (pef_int)) (pef_call d_choose (show 1 ≤ 2 by decide) rfl (paf_cons (pef_sub (pef_add (pef_var 1 rfl rfl) (pef_ix (pef_var 0 rfl rfl) (pef_int) (fun _ _ => rfl))) (pef_int)) (paf_cons (pef_sub (pef_ix (pef_var 0 rfl rfl) (pef_int) (fun _ _ => rfl)) (pef_int)) (paf_nil)))) (pef_int))))
theorem ok_count_of {g : GC} (T : Txt g) {f : Addr} {fd : FuncData} (F : Fun g.K "count_of" "count_of" s_count_of f fd) (hm : g.mg "count_of" = some (.ref f)) (d_slack_of : DefP g 2 "slack_of" phi_slack_of) (d_choose : DefP g 1 "choose" phi_choose) : DefP g 3 "count_of" phi_count_of :=
  defp_of F sc_count_of hm (F.binds (ps := ["shape"]) fun _ _ _ _ _ _ us hl => match us, hl with | [_], _ => rfl) (by decide) (body_count_of T d_slack_of d_choose)
abbrev s_bounds_of : Stmt := topS 32
theorem sc_bounds_of : FnScope ["sums", "window", "most", "shape", "highs", "residue", "one"] ["sums", "window", "most"] (defScope s_bounds_of) := ⟨rfl, rfl, rfl, by decide +kernel, rfl, by decide +kernel, by decide +kernel⟩
def psi_bounds_of : Rho → Out :=
  sSeq (sDrop (fDef phi_need_sums (fCons (fVar 0) (fCons (fVar 1) (fNil)))))
    (sSeq (sIf (fNot (fTest (fDef phi_is_from (fCons (fVar 2) (fCons (fC (.int 0)) (fCons (fC (.int 1000000000)) (fNil))))))) (sRaise "InvalidMost") (sNext))
    (sSeq (sSet 3 (fDef phi_window_shape (fCons (fVar 0) (fCons (fVar 1) (fNil)))))
    (sSeq (sSet 4 (fFz (fLc (fRange1 (fVar 1)) (tgN 5) (fYes) (fCall gMin (fCons (fFz (fLc (fItems (fSlA (fBin gIx (fVar 3) (fC (.int 0))) (fPs (fVar 5)) (fPn) (fPs (fVar 1)))) (tgN 6) (fYes) (fBin gSub (fVar 2) (fVar 6)) [6])) (fNil))) [5])))
    (sRet (fTup (fCons (fVar 3) (fCons (fFz (fDefO phi_lows_of (fCons (fVar 3) (fNil)))) (fCons (fVar 4) (fNil)))))))))
def phi_bounds_of : List T → FR := fnP 7 3 psi_bounds_of
theorem body_bounds_of {g : GC} (T : Txt g) (d_need_sums : DefP g 4 "need_sums" phi_need_sums) (d_is_from : DefP g 1 "is_from" phi_is_from) (d_window_shape : DefP g 2 "window_shape" phi_window_shape) (d_lows_of : DefP g 1 "lows_of" phi_lows_of) (E : XK) : PSsF (mkS g ["sums", "window", "most", "shape", "highs", "residue", "one"] (defScope s_bounds_of) 4 E false) (defBody s_bounds_of) psi_bounds_of :=
  pss_cons' (psf_expr (pef_call d_need_sums (show 4 ≤ 4 by decide) rfl (paf_cons (pef_var 0 rfl rfl) (paf_cons (pef_var 1 rfl rfl) (paf_nil)))))
    (pss_cons' (psf_if (ptf_not (ptf_val (pef_call d_is_from (show 1 ≤ 4 by decide) rfl (paf_cons (pef_var 2 rfl rfl) (paf_cons (pef_int) (paf_cons (pef_gint rfl T.c_LARGEST) (paf_nil))))))) (pss_one' (psf_raise T.e_InvalidMost rfl)) (pss_nil'))
    (pss_cons' (psf_set (i := 3) sc_bounds_of.nd rfl (.inr rfl) (pef_call d_window_shape (show 2 ≤ 4 by decide) rfl (paf_cons (pef_var 0 rfl rfl) (paf_cons (pef_var 1 rfl rfl) (paf_nil)))) (fun _ => by decide) rfl)
    (pss_cons' (psf_setLcV (i := 4) [("residue", 5)] sc_bounds_of.nd rfl rfl (by intro env h; cases env; cases h; rfl) (pif_range1 rfl T.b_range (pef_var 1 rfl rfl)) (blkOk_by (by kernel_rfl)) (by decide) (by decide) (pgf_name 5 sc_bounds_of.nd rfl (.inl rfl) (.inr rfl)) (ptsf_nil) (pef_b b_min rfl T.b_min (paf_cons (pef_fz (pof_lc [("one", 6)] sc_bounds_of.nd (pif_seq (pef_slA (pef_ix (pef_var 3 rfl rfl) (pef_int) (fun _ _ => rfl)) (px_some (pef_var 5 rfl rfl)) (px_none) (px_some (pef_var 1 rfl rfl)))) (blkOk_by (by kernel_rfl)) (by decide) (by decide) (pgf_name 6 sc_bounds_of.nd rfl (.inl rfl) (.inr rfl)) (ptsf_nil) (pef_sub (pef_var 2 rfl rfl) (pef_var 6 rfl rfl)))) (paf_nil))) (fun _ => by decide))
    (pss_one' (psf_ret (pef_tup (paf_cons (pef_var 3 rfl rfl) (paf_cons (pef_fz (pof_call d_lows_of (show 1 ≤ 4 by decide) rfl (paf_cons (pef_var 3 rfl rfl) (paf_nil)))) (paf_cons (pef_var 4 rfl rfl) (paf_nil))))))))))
theorem ok_bounds_of {g : GC} (T : Txt g) {f : Addr} {fd : FuncData} (F : Fun g.K "bounds_of" "bounds_of" s_bounds_of f fd) (hm : g.mg "bounds_of" = some (.ref f)) (d_need_sums : DefP g 4 "need_sums" phi_need_sums) (d_is_from : DefP g 1 "is_from" phi_is_from) (d_window_shape : DefP g 2 "window_shape" phi_window_shape) (d_lows_of : DefP g 1 "lows_of" phi_lows_of) : DefP g 5 "bounds_of" phi_bounds_of :=
  defp_of F sc_bounds_of hm (F.binds (ps := ["sums", "window", "most"]) fun _ _ _ _ _ _ us hl => match us, hl with | [_, _, _], _ => rfl) (by decide) (body_bounds_of T d_need_sums d_is_from d_window_shape d_lows_of)
abbrev s_count_limited : Stmt := topS 33
theorem sc_count_limited : FnScope ["sums", "window", "most", "shape", "lows", "highs", "low", "high", "rests", "rest", "sign"] ["sums", "window", "most"] (defScope s_count_limited) := ⟨rfl, rfl, rfl, by decide +kernel, rfl, by decide +kernel, by decide +kernel⟩
def psi_count_limited : Rho → Out :=
  sSeq (sAsg (fDef phi_bounds_of (fCons (fVar 0) (fCons (fVar 1) (fCons (fVar 2) (fNil))))) (tgT 3 (tgCons (tgN 3) (tgCons (tgN 4) (tgCons (tgN 5) (tgNil))))))
    (sSeq (sIf (fTest (fCall gAny (fCons (fFz (fLc (fZip (fVar 4) (fVar 5)) (tgT 2 (tgCons (tgN 6) (tgCons (tgN 7) (tgNil)))) (fYes) (fBin (gLt) (fVar 7) (fVar 6)) [6, 7])) (fNil)))) (sRet (fC (.int 0))) (sNext))
    (sSeq (sSet 8 (fFz (fLst (fCons (fTup (fCons (fBin gSub (fBin gIx (fVar 3) (fC (.int 2))) (fCall gSum (fCons (fVar 4) (fNil)))) (fCons (fC (.int 1)) (fNil)))) (fNil)))))
    (sSeq (sFor (fZip (fVar 4) (fVar 5)) (tgT 2 (tgCons (tgN 6) (tgCons (tgN 7) (tgNil)))) (sSet 8 (fBin gAdd (fVar 8) (fFz (fLc (fItems (fVar 8)) (tgT 2 (tgCons (tgN 9) (tgCons (tgN 10) (tgNil)))) (fYes) (fTup (fCons (fBin gSub (fVar 9) (fBin gAdd (fBin gSub (fVar 7) (fVar 6)) (fC (.int 1)))) (fCons (fBin gSub (fC (.int 0)) (fVar 10)) (fNil)))) [9, 10])))))
    (sRet (fCall gSum (fCons (fFz (fLc (fItems (fVar 8)) (tgT 2 (tgCons (tgN 9) (tgCons (tgN 10) (tgNil)))) (fTest (fBin (gGe) (fVar 9) (fC (.int 0)))) (fBin gMul (fVar 10) (fDef phi_choose (fCons (fBin gSub (fBin gAdd (fVar 9) (fVar 1)) (fC (.int 1))) (fCons (fBin gSub (fVar 1) (fC (.int 1))) (fNil))))) [9, 10])) (fNil)))))))
def phi_count_limited : List T → FR := fnP 11 3 psi_count_limited
theorem body_count_limited {g : GC} (T : Txt g) (d_bounds_of : DefP g 5 "bounds_of" phi_bounds_of) (d_choose : DefP g 1 "choose" phi_choose) (E : XK) : PSsF (mkS g ["sums", "window", "most", "shape", "lows", "highs", "low", "high", "rests", "rest", "sign"] (defScope s_count_limited) 5 E false) (defBody s_count_limited) psi_count_limited :=
  pss_cons' (psf_asg (pef_call d_bounds_of (show 5 ≤ 5 by decide) rfl (paf_cons (pef_var 0 rfl rfl) (paf_cons (pef_var 1 rfl rfl) (paf_cons (pef_var 2 rfl rfl) (paf_nil))))) (pgf_tup (pgsf_cons (pgf_name 3 sc_count_limited.nd rfl (.inl rfl) (.inl rfl)) (pgsf_cons (pgf_name 4 sc_count_limited.nd rfl (.inl rfl) (.inl rfl)) (pgsf_cons (pgf_name 5 sc_count_limited.nd rfl (.inl rfl) (.inl rfl)) (pgsf_nil))))) (fun _ => by decide) (hw := by intro env h; cases env; cases h; rfl))
    (pss_cons' (psf_if (ptf_val (pef_b b_any rfl T.b_any (paf_cons (pef_fz (pof_lc [("low", 6), ("high", 7)] sc_count_limited.nd (pif_zip rfl T.b_zip (pef_var 4 rfl rfl) (pef_var 5 rfl rfl)) (blkOk_by (by kernel_rfl)) (by decide) (by decide) (pgf_tup (pgsf_cons (pgf_name 6 sc_count_limited.nd rfl (.inl rfl) (.inr rfl)) (pgsf_cons (pgf_name 7 sc_count_limited.nd rfl (.inl rfl) (.inr rfl)) (pgsf_nil)))) (ptsf_nil) (pef_c c_lt (pef_var 7 rfl rfl) (pef_var 6 rfl rfl)))) (paf_nil)))) (pss_one' (psf_ret (pef_int))) (pss_nil'))
    (pss_cons' (psf_set (i := 8) sc_count_limited.nd rfl (.inl rfl) (pef_fz (pof_lst (paf_cons (pef_tup (paf_cons (pef_sub (pef_ix (pef_var 3 rfl rfl) (pef_int) (fun _ _ => rfl)) (pef_b b_sum rfl T.b_sum (paf_cons (pef_var 4 rfl rfl) (paf_nil)))) (paf_cons (pef_int) (paf_nil)))) (paf_nil)))) (fun _ => by decide) rfl)
    (pss_cons' (psf_for (pif_zip rfl T.b_zip (pef_var 4 rfl rfl) (pef_var 5 rfl rfl)) (pgf_tup (pgsf_cons (pgf_name 6 sc_count_limited.nd rfl (.inr rfl) (.inl rfl)) (pgsf_cons (pgf_name 7 sc_count_limited.nd rfl (.inr rfl) (.inl rfl)) (pgsf_nil)))) (pss_one' (psf_set (i := 8) sc_count_limited.nd rfl (.inl rfl) (pef_add (pef_var 8 rfl rfl) (pef_fz (pof_lc [("rest", 9), ("sign", 10)] sc_count_limited.nd (pif_seq (pef_var 8 rfl rfl)) (blkOk_by (by kernel_rfl)) (by decide) (by decide) (pgf_tup (pgsf_cons (pgf_name 9 sc_count_limited.nd rfl (.inl rfl) (.inr rfl)) (pgsf_cons (pgf_name 10 sc_count_limited.nd rfl (.inl rfl) (.inr rfl)) (pgsf_nil)))) (ptsf_nil) (pef_tup (paf_cons (pef_sub (pef_var 9 rfl rfl) (pef_add (pef_sub (pef_var 7 rfl rfl) (pef_var 6 rfl rfl)) (pef_int))) (paf_cons (pef_sub (pef_int) (pef_var 10 rfl rfl)) (paf_nil))))))) (fun _ => by decide) rfl)) (fun _ => by decide))
    (pss_one' (psf_ret (pef_b b_sum rfl T.b_sum (paf_cons (pef_fz (pof_lc [("rest", 9), ("sign", 10)] sc_count_limited.nd (pif_seq (pef_var 8 rfl rfl)) (blkOk_by (by kernel_rfl)) (by decide) (by decide) (pgf_tup (pgsf_cons (pgf_name 9 sc_count_limited.nd rfl (.inl rfl) (.inr rfl)) (pgsf_cons (pgf_name 10 sc_count_limited.nd rfl (.inl rfl) (.inr rfl)) (pgsf_nil)))) (ptsf_one (ptf_c c_ge (pef_var 9 rfl rfl) (pef_int))) (pef_mul (pef_var 10 rfl rfl) (pef_call d_choose (show 1 ≤ 5 by decide) rfl (paf_cons (pef_sub (pef_add (pef_var 9 rfl rfl) (pef_var 1 rfl rfl)) (pef_int)) (paf_cons (pef_sub (pef_var 1 rfl rfl) (pef_int)) (paf_nil))))))) (paf_nil))))))))
theorem ok_count_limited {g : GC} (T : Txt g) {f : Addr} {fd : FuncData} (F : Fun g.K "count_limited" "count_limited" s_count_limited f fd) (hm : g.mg "count_limited" = some (.ref f)) (d_bounds_of : DefP g 5 "bounds_of" phi_bounds_of) (d_choose : DefP g 1 "choose" phi_choose) : DefK g 6 "count_limited" 2 ["most"] phi_count_limited :=
  defk_of F sc_count_limited hm (kbn_of (ps := ["sums", "window", "most"]) (ks := ["most"]) (n := 2) F fun _ _ _ _ _ _ us ws h1 h2 => match us, ws, h1, h2 with | [_, _], [_], _, _ => rfl) rfl (by decide) (body_count_limited T d_bounds_of d_choose)
abbrev s_ranges_limited : Stmt := topS 34
theorem sc_ranges_limited : FnScope ["sums", "window", "most", "shape", "lows", "highs", "total", "low", "high", "found", "day", "one", "least"] ["sums", "window", "most"] (defScope s_ranges_limited) := ⟨rfl, rfl, rfl, by decide +kernel, rfl, by decide +kernel, by decide +kernel⟩
def psi_ranges_limited : Rho → Out :=
  sSeq (sAsg (fDef phi_bounds_of (fCons (fVar 0) (fCons (fVar 1) (fCons (fVar 2) (fNil))))) (tgT 3 (tgCons (tgN 3) (tgCons (tgN 4) (tgCons (tgN 5) (tgNil))))))
    (sSeq (sSet 6 (fBin gIx (fVar 3) (fC (.int 2))))
    (sSeq (sIf (fOr (fTest (fCall gAny (fCons (fFz (fLc (fZip (fVar 4) (fVar 5)) (tgT 2 (tgCons (tgN 7) (tgCons (tgN 8) (tgNil)))) (fYes) (fBin (gLt) (fVar 8) (fVar 7)) [7, 8])) (fNil)))) (fNot (fTest (fChain (gLe) (gLe) (fCall gSum (fCons (fVar 4) (fNil))) (fVar 6) (fCall gSum (fCons (fVar 5) (fNil))))))) (sRaise "NoRows") (sNext))
    (sSeq (sSetO 9 (fLst (fNil)))
    (sSeq (sFor (fEnum (fBin gIx (fVar 3) (fC (.int 0)))) (tgT 2 (tgCons (tgN 10) (tgCons (tgN 11) (tgNil)))) (sSeq (sPar 7 8 (fBin gIx (fVar 4) (fBin gMod (fVar 10) (fVar 1))) (fBin gIx (fVar 5) (fBin gMod (fVar 10) (fVar 1))))
    (sSeq (sSet 12 (fCall gMax (fCons (fVar 7) (fCons (fBin gSub (fVar 6) (fBin gSub (fCall gSum (fCons (fVar 5) (fNil))) (fVar 8))) (fNil)))))
    (sApp 9 (fTup (fCons (fBin gAdd (fVar 12) (fVar 11)) (fCons (fBin gAdd (fCall gMin (fCons (fVar 8) (fCons (fBin gSub (fVar 6) (fBin gSub (fCall gSum (fCons (fVar 4) (fNil))) (fVar 7))) (fNil)))) (fVar 11)) (fNil))))))))
    (sRetMv 9)))))
def phi_ranges_limited : List T → FR := fnP 13 3 psi_ranges_limited
theorem body_ranges_limited {g : GC} (T : Txt g) (d_bounds_of : DefP g 5 "bounds_of" phi_bounds_of) (E : XK) : PSsF (mkS g ["sums", "window", "most", "shape", "lows", "highs", "total", "low", "high", "found", "day", "one", "least"] (defScope s_ranges_limited) 5 E false) (defBody s_ranges_limited) psi_ranges_limited :=
  pss_cons' (psf_asg (pef_call d_bounds_of (show 5 ≤ 5 by decide) rfl (paf_cons (pef_var 0 rfl rfl) (paf_cons (pef_var 1 rfl rfl) (paf_cons (pef_var 2 rfl rfl) (paf_nil))))) (pgf_tup (pgsf_cons (pgf_name 3 sc_ranges_limited.nd rfl (.inl rfl) (.inl rfl)) (pgsf_cons (pgf_name 4 sc_ranges_limited.nd rfl (.inl rfl) (.inl rfl)) (pgsf_cons (pgf_name 5 sc_ranges_limited.nd rfl (.inl rfl) (.inl rfl)) (pgsf_nil))))) (fun _ => by decide) (hw := by intro env h; cases env; cases h; rfl))
    (pss_cons' (psf_set (i := 6) sc_ranges_limited.nd rfl (.inl rfl) (pef_ix (pef_var 3 rfl rfl) (pef_int) (fun _ _ => rfl)) (fun _ => by decide) rfl)
    (pss_cons' (psf_if (ptf_w (pwf_or (ptf_val (pef_b b_any rfl T.b_any (paf_cons (pef_fz (pof_lc [("low", 7), ("high", 8)] sc_ranges_limited.nd (pif_zip rfl T.b_zip (pef_var 4 rfl rfl) (pef_var 5 rfl rfl)) (blkOk_by (by kernel_rfl)) (by decide) (by decide) (pgf_tup (pgsf_cons (pgf_name 7 sc_ranges_limited.nd rfl (.inl rfl) (.inr rfl)) (pgsf_cons (pgf_name 8 sc_ranges_limited.nd rfl (.inl rfl) (.inr rfl)) (pgsf_nil)))) (ptsf_nil) (pef_c c_lt (pef_var 8 rfl rfl) (pef_var 7 rfl rfl)))) (paf_nil)))) (pwf_or1 (ptf_not (ptf_c2 c_le c_le (pef_b b_sum rfl T.b_sum (paf_cons (pef_var 4 rfl rfl) (paf_nil))) (pef_var 6 rfl rfl) (pef_b b_sum rfl T.b_sum (paf_cons (pef_var 5 rfl rfl) (paf_nil)))))))) (pss_one' (psf_raise T.e_NoRows rfl)) (pss_nil'))
    (pss_cons' (psf_setO (i := 9) sc_ranges_limited.nd rfl (.inl rfl) (pof_lst (paf_nil)) (fun _ => by decide) rfl)
    (pss_cons' (psf_for (pif_enum rfl T.b_enumerate (pef_ix (pef_var 3 rfl rfl) (pef_int) (fun _ _ => rfl))) (pgf_tup (pgsf_cons (pgf_name 10 sc_ranges_limited.nd rfl (.inl rfl) (.inl rfl)) (pgsf_cons (pgf_name 11 sc_ranges_limited.nd rfl (.inl rfl) (.inl rfl)) (pgsf_nil)))) (pss_cons' (psf_par (i := 7) (j := 8) sc_ranges_limited.nd rfl rfl (by decide) rfl rfl (pef_ix (pef_var 4 rfl rfl) (pef_mod (pef_var 10 rfl rfl) (pef_var 1 rfl rfl)) (fun _ _ => rfl)) (pef_ix (pef_var 5 rfl rfl) (pef_mod (pef_var 10 rfl rfl) (pef_var 1 rfl rfl)) (fun _ _ => rfl)) (fun _ => by decide) (by intro env h; cases env; cases h; rfl))
    (pss_cons' (psf_set (i := 12) sc_ranges_limited.nd rfl (.inl rfl) (pef_b b_max rfl T.b_max (paf_cons (pef_var 7 rfl rfl) (paf_cons (pef_sub (pef_var 6 rfl rfl) (pef_sub (pef_b b_sum rfl T.b_sum (paf_cons (pef_var 5 rfl rfl) (paf_nil))) (pef_var 8 rfl rfl))) (paf_nil)))) (fun _ => by decide) rfl)
    (pss_one' (psf_append 9 rfl rfl (pef_tup (paf_cons (pef_add (pef_var 12 rfl rfl) (pef_var 11 rfl rfl)) (paf_cons (pef_add (pef_b b_min rfl T.b_min (paf_cons (pef_var 8 rfl rfl) (paf_cons (pef_sub (pef_var 6 rfl rfl) (pef_sub (pef_b b_sum rfl T.b_sum (paf_cons (pef_var 4 rfl rfl) (paf_nil))) (pef_var 7 rfl rfl))) (paf_nil)))) (pef_var 11 rfl rfl)) (paf_nil)))) (hpe := fun X t hX h => pe_bm PySem.F.plainAttrs_list PySem.F.slot_list_append PySem.F.type_list_append mt_append (pe_var (i := 9) (by rw [hX.N]; rfl) (by rw [hX.sc]; exact vis_of rfl)) (pa_cons h pa_nil)))))) (fun _ => by decide))
    (pss_one' (psf_retMv 9 rfl rfl))))))
theorem ok_ranges_limited {g : GC} (T : Txt g) {f : Addr} {fd : FuncData} (F : Fun g.K "ranges_limited" "ranges_limited" s_ranges_limited f fd) (hm : g.mg "ranges_limited" = some (.ref f)) (d_bounds_of : DefP g 5 "bounds_of" phi_bounds_of) : DefK g 6 "ranges_limited" 2 ["most"] phi_ranges_limited :=
  defk_of F sc_ranges_limited hm (kbn_of (ps := ["sums", "window", "most"]) (ks := ["most"]) (n := 2) F fun _ _ _ _ _ _ us ws h1 h2 => match us, ws, h1, h2 with | [_, _], [_], _, _ => rfl) rfl (by decide) (body_ranges_limited T d_bounds_of)
abbrev s_least_limit : Stmt := topS 35
theorem sc_least_limit : FnScope ["sums", "window", "low", "high", "middle"] ["sums", "window"] (defScope s_least_limit) := ⟨rfl, rfl, rfl, by decide +kernel, rfl, by decide +kernel, by decide +kernel⟩
def psi_least_limit : Rho → Out :=
  sSeq (sDrop (fDef phi_need_sums (fCons (fVar 0) (fCons (fVar 1) (fNil)))))
    (sSeq (sIf (fTest (fBin (gEq) (fDef phi_count_limited (fKw (fCons (fVar 0) (fCons (fVar 1) (fNil))) (fC (.int 1000000000)))) (fC (.int 0)))) (sRaise "NoRows") (sNext))
    (sSeq (sPar 2 3 (fC (.int 0)) (fC (.int 1000000000)))
    (sSeq (sWhile 100 (fTest (fBin (gLt) (fVar 2) (fVar 3))) (sSeq (sSet 4 (fBin gDiv (fBin gAdd (fVar 2) (fVar 3)) (fC (.int 2))))
    (sIf (fTest (fBin (gGt) (fDef phi_count_limited (fKw (fCons (fVar 0) (fCons (fVar 1) (fNil))) (fVar 4))) (fC (.int 0)))) (sSet 3 (fVar 4)) (sSet 2 (fBin gAdd (fVar 4) (fC (.int 1)))))))
    (sRet (fVar 2)))))
def phi_least_limit : List T → FR := fnP 5 2 psi_least_limit
theorem body_least_limit {g : GC} (T : Txt g) (d_need_sums : DefP g 4 "need_sums" phi_need_sums) (d_count_limited : DefK g 6 "count_limited" 2 ["most"] phi_count_limited) (E : XK) : PSsF (mkS g ["sums", "window", "low", "high", "middle"] (defScope s_least_limit) 6 E false) (defBody s_least_limit) psi_least_limit :=
  pss_cons' (psf_expr (pef_call d_need_sums (show 4 ≤ 6 by decide) rfl (paf_cons (pef_var 0 rfl rfl) (paf_cons (pef_var 1 rfl rfl) (paf_nil)))))
    (pss_cons' (psf_if (ptf_c c_eq (pef_callK d_count_limited (show 6 ≤ 6 by decide) rfl (paf_cons (pef_var 0 rfl rfl) (paf_cons (pef_var 1 rfl rfl) (paf_nil))) (pef_gint rfl T.c_LARGEST)) (pef_int)) (pss_one' (psf_raise T.e_NoRows rfl)) (pss_nil'))
    (pss_cons' (psf_par (i := 2) (j := 3) sc_least_limit.nd rfl rfl (by decide) rfl rfl (pef_int) (pef_gint rfl T.c_LARGEST) (fun _ => by decide) (by intro env h; cases env; cases h; rfl))
    (pss_cons' (psf_while 100 (ptf_c c_lt (pef_var 2 rfl rfl) (pef_var 3 rfl rfl)) (pss_cons' (psf_set (i := 4) sc_least_limit.nd rfl (.inl rfl) (pef_div (pef_add (pef_var 2 rfl rfl) (pef_var 3 rfl rfl)) (pef_int)) (fun _ => by decide) rfl)
    (pss_one' (psf_if (ptf_c c_gt (pef_callK d_count_limited (show 6 ≤ 6 by decide) rfl (paf_cons (pef_var 0 rfl rfl) (paf_cons (pef_var 1 rfl rfl) (paf_nil))) (pef_var 4 rfl rfl)) (pef_int)) (pss_one' (psf_set (i := 3) sc_least_limit.nd rfl (.inl rfl) (pef_var 4 rfl rfl) (fun _ => by decide) rfl)) (pss_one' (psf_set (i := 2) sc_least_limit.nd rfl (.inl rfl) (pef_add (pef_var 4 rfl rfl) (pef_int)) (fun _ => by decide) rfl))))))
    (pss_one' (psf_ret (pef_var 2 rfl rfl))))))
theorem ok_least_limit {g : GC} (T : Txt g) {f : Addr} {fd : FuncData} (F : Fun g.K "least_limit" "least_limit" s_least_limit f fd) (hm : g.mg "least_limit" = some (.ref f)) (d_need_sums : DefP g 4 "need_sums" phi_need_sums) (d_count_limited : DefK g 6 "count_limited" 2 ["most"] phi_count_limited) : DefP g 7 "least_limit" phi_least_limit :=
  defp_of F sc_least_limit hm (F.binds (ps := ["sums", "window"]) fun _ _ _ _ _ _ us hl => match us, hl with | [_, _], _ => rfl) (by decide) (body_least_limit T d_need_sums d_count_limited)
abbrev s_count_rows : Stmt := topS 37
theorem sc_count_rows : FnScope ["sums", "window"] ["sums", "window"] (defScope s_count_rows) := ⟨rfl, rfl, rfl, by decide +kernel, rfl, by decide +kernel, by decide +kernel⟩
def psi_count_rows : Rho → Out :=
  sSeq (sDrop (fDef phi_need_sums (fCons (fVar 0) (fCons (fVar 1) (fNil)))))
    (sRet (fDef phi_count_of (fCons (fDef phi_window_shape (fCons (fVar 0) (fCons (fVar 1) (fNil)))) (fNil))))
def phi_count_rows : List T → FR := fnP 2 2 psi_count_rows
theorem body_count_rows {g : GC} (T : Txt g) (d_need_sums : DefP g 4 "need_sums" phi_need_sums) (d_count_of : DefP g 3 "count_of" phi_count_of) (d_window_shape : DefP g 2 "window_shape" phi_window_shape) (E : XK) : PSsF (mkS g ["sums", "window"] (defScope s_count_rows) 4 E false) (defBody s_count_rows) psi_count_rows :=
  pss_cons' (psf_expr (pef_call d_need_sums (show 4 ≤ 4 by decide) rfl (paf_cons (pef_var 0 rfl rfl) (paf_cons (pef_var 1 rfl rfl) (paf_nil)))))
    (pss_one' (psf_ret (pef_call d_count_of (show 3 ≤ 4 by decide) rfl (paf_cons (pef_call d_window_shape (show 2 ≤ 4 by decide) rfl (paf_cons (pef_var 0 rfl rfl) (paf_cons (pef_var 1 rfl rfl) (paf_nil)))) (paf_nil)))))
theorem ok_count_rows {g : GC} (T : Txt g) {f : Addr} {fd : FuncData} (F : Fun g.K "count_rows" "count_rows" s_count_rows f fd) (hm : g.mg "count_rows" = some (.ref f)) (d_need_sums : DefP g 4 "need_sums" phi_need_sums) (d_count_of : DefP g 3 "count_of" phi_count_of) (d_window_shape : DefP g 2 "window_shape" phi_window_shape) : DefP g 5 "count_rows" phi_count_rows :=
  defp_of F sc_count_rows hm (F.binds (ps := ["sums", "window"]) fun _ _ _ _ _ _ us hl => match us, hl with | [_, _], _ => rfl) (by decide) (body_count_rows T d_need_sums d_count_of d_window_shape)
abbrev s__law_deck : Stmt := topS 39
theorem sc__law_deck : FnScope ["cell", "turn"] ["cell", "turn"] (defScope s__law_deck) := ⟨rfl, rfl, rfl, by decide +kernel, rfl, by decide +kernel, by decide +kernel⟩
def psi__law_deck : Rho → Out :=
  sSeq (sIf (fTest (fBin (gGe) (fVar 0) (fBin gPow (fC (.int 10)) (fC (.int 18))))) (sRetO (fLst (fCons (fBin gSub (fVar 0) (fBin gPow (fC (.int 10)) (fC (.int 18)))) (fCons (fBin gMod (fVar 0) (fC (.int 2147483579))) (fCons (fVar 1) (fNil)))))) (sNext))
    (sRetO (fLst (fCons (fC (.int 0)) (fCons (fBin gMod (fVar 0) (fC (.int 2147483579))) (fCons (fVar 1) (fNil))))))
def phi__law_deck : List T → FR := fnP 2 2 psi__law_deck
theorem body__law_deck {g : GC} (T : Txt g) (E : XK) : PSsF (mkS g ["cell", "turn"] (defScope s__law_deck) 0 E false) (defBody s__law_deck) psi__law_deck :=
  pss_cons' (psf_if (ptf_c c_ge (pef_var 0 rfl rfl) (pef_pow (pef_int) (pef_int))) (pss_one' (psf_retO (pof_lst (paf_cons (pef_sub (pef_var 0 rfl rfl) (pef_pow (pef_int) (pef_int))) (paf_cons (pef_mod (pef_var 0 rfl rfl) (pef_int)) (paf_cons (pef_var 1 rfl rfl) (paf_nil))))))) (pss_nil'))
    (pss_one' (psf_retO (pof_lst (paf_cons (pef_int) (paf_cons (pef_mod (pef_var 0 rfl rfl) (pef_int)) (paf_cons (pef_var 1 rfl rfl) (paf_nil)))))))
theorem ok__law_deck {g : GC} (T : Txt g) {f : Addr} {fd : FuncData} (F : Fun g.K "_law_deck" "_law_deck" s__law_deck f fd) (hm : g.mg "_law_deck" = some (.ref f)) : DefP g 1 "_law_deck" phi__law_deck :=
  defp_of F sc__law_deck hm (F.binds (ps := ["cell", "turn"]) fun _ _ _ _ _ _ us hl => match us, hl with | [_, _], _ => rfl) (by decide) (body__law_deck T)
abbrev s__law_pick : Stmt := topS 40
theorem sc__law_pick : FnScope ["deck", "limit", "found", "number"] ["deck", "limit"] (defScope s__law_pick) := ⟨rfl, rfl, rfl, by decide +kernel, rfl, by decide +kernel, by decide +kernel⟩
def psi__law_pick : Rho → Out :=
  sSeq (sIf (fTest (fBin (gGt) (fIxO 0 (fC (.int 0))) (fC (.int 1)))) (sSeq (sSet 2 (fBin gMod (fIxO 0 (fC (.int 0))) (fVar 1)))
    (sSeq (sPut 0 (fBin gDiv (fIxO 0 (fC (.int 0))) (fVar 1)) (fC (.int 0)))
    (sRet (fVar 2)))) (sNext))
    (sSeq (sPut 0 (fBin gAdd (fIxO 0 (fC (.int 2))) (fC (.int 1))) (fC (.int 2)))
    (sSeq (sSet 3 (fBin gMod (fBin gPow (fBin gAdd (fIxO 0 (fC (.int 1))) (fBin gMul (fC (.int 15485867)) (fIxO 0 (fC (.int 2))))) (fC (.int 5))) (fC (.int 2147483647))))
    (sSeq (sSet 2 (fBin gDiv (fBin gMod (fBin gPow (fBin gAdd (fVar 3) (fBin gMul (fC (.int 7919)) (fIxO 0 (fC (.int 2))))) (fC (.int 3))) (fC (.int 2147483629))) (fC (.int 32))))
    (sSeq (sIf (fTest (fBin (gGt) (fVar 1) (fC (.int 1000000)))) (sRet (fBin gMod (fBin gAdd (fBin gMul (fVar 2) (fC (.int 2147483563))) (fVar 3)) (fVar 1))) (sNext))
    (sRet (fBin gMod (fVar 2) (fVar 1)))))))
def phi__law_pick : List T → List T → FO := fnO 4 1 psi__law_pick
theorem body__law_pick {g : GC} (T : Txt g) (E : XK) : PSsF (mkS g ["deck", "limit", "found", "number"] (defScope s__law_pick) 0 E true) (defBody s__law_pick) psi__law_pick :=
  pss_cons' (psf_if (ptf_c c_gt (pef_ixO 0 rfl rfl (pef_int) (fun _ _ => rfl)) (pef_int)) (pss_cons' (psf_set (i := 2) sc__law_pick.nd rfl (.inl rfl) (pef_mod (pef_ixO 0 rfl rfl (pef_int) (fun _ _ => rfl)) (pef_var 1 rfl rfl)) (fun _ => by decide) rfl)
    (pss_cons' (psf_put 0 rfl rfl (pef_div (pef_ixO 0 rfl rfl (pef_int) (fun _ _ => rfl)) (pef_var 1 rfl rfl)) (pef_int))
    (pss_one' (psf_ret (pef_var 2 rfl rfl))))) (pss_nil'))
    (pss_cons' (psf_put 0 rfl rfl (pef_add (pef_ixO 0 rfl rfl (pef_int) (fun _ _ => rfl)) (pef_int)) (pef_int))
    (pss_cons' (psf_set (i := 3) sc__law_pick.nd rfl (.inl rfl) (pef_mod (pef_pow (pef_add (pef_ixO 0 rfl rfl (pef_int) (fun _ _ => rfl)) (pef_mul (pef_int) (pef_ixO 0 rfl rfl (pef_int) (fun _ _ => rfl)))) (pef_int)) (pef_int)) (fun _ => by decide) rfl)
    (pss_cons' (psf_set (i := 2) sc__law_pick.nd rfl (.inl rfl) (pef_div (pef_mod (pef_pow (pef_add (pef_var 3 rfl rfl) (pef_mul (pef_int) (pef_ixO 0 rfl rfl (pef_int) (fun _ _ => rfl)))) (pef_int)) (pef_int)) (pef_int)) (fun _ => by decide) rfl)
    (pss_cons' (psf_if (ptf_c c_gt (pef_var 1 rfl rfl) (pef_int)) (pss_one' (psf_ret (pef_mod (pef_add (pef_mul (pef_var 2 rfl rfl) (pef_int)) (pef_var 3 rfl rfl)) (pef_var 1 rfl rfl)))) (pss_nil'))
    (pss_one' (psf_ret (pef_mod (pef_var 2 rfl rfl) (pef_var 1 rfl rfl))))))))
theorem ok__law_pick {g : GC} (T : Txt g) {f : Addr} {fd : FuncData} (F : Fun g.K "_law_pick" "_law_pick" s__law_pick f fd) (hm : g.mg "_law_pick" = some (.ref f)) : DefO g 1 "_law_pick" phi__law_pick :=
  defo_of F sc__law_pick hm (F.binds (ps := ["deck", "limit"]) fun _ _ _ _ _ _ us hl => match us, hl with | [_, _], _ => rfl) (by decide) (body__law_pick T)
abbrev s__law_one : Stmt := topS 43
theorem sc__law_one : FnScope ["deck", "some"] ["deck", "some"] (defScope s__law_one) := ⟨rfl, rfl, rfl, by decide +kernel, rfl, by decide +kernel, by decide +kernel⟩
def psi__law_one : Rho → Out :=
  sRet (fBin gIx (fVar 1) (fDef1 0 phi__law_pick (fCons (fCall gLen (fCons (fVar 1) (fNil))) (fNil))))
def phi__law_one : List T → List T → FO := fnO 2 1 psi__law_one
theorem body__law_one {g : GC} (T : Txt g) (d__law_pick : DefO g 1 "_law_pick" phi__law_pick) (E : XK) : PSsF (mkS g ["deck", "some"] (defScope s__law_one) 1 E true) (defBody s__law_one) psi__law_one :=
  pss_one' (psf_ret (pef_ix (pef_var 1 rfl rfl) (pef_call1 0 d__law_pick (show 1 ≤ 1 by decide) rfl rfl rfl (paf_cons (pef_b b_len rfl T.b_len (paf_cons (pef_var 1 rfl rfl) (paf_nil))) (paf_nil))) (fun _ _ => rfl)))
theorem ok__law_one {g : GC} (T : Txt g) {f : Addr} {fd : FuncData} (F : Fun g.K "_law_one" "_law_one" s__law_one f fd) (hm : g.mg "_law_one" = some (.ref f)) (d__law_pick : DefO g 1 "_law_pick" phi__law_pick) : DefO g 2 "_law_one" phi__law_one :=
  defo_of F sc__law_one hm (F.binds (ps := ["deck", "some"]) fun _ _ _ _ _ _ us hl => match us, hl with | [_, _], _ => rfl) (by decide) (body__law_one T d__law_pick)
abbrev s__law_sort : Stmt := topS 44
theorem sc__law_sort : FnScope ["thing"] ["thing"] (defScope s__law_sort) := ⟨rfl, rfl, rfl, by decide +kernel, rfl, by decide +kernel, by decide +kernel⟩
def psi__law_sort : Rho → Out :=
  sSeq (sIf (fTest (fIsi isBl (fVar 0))) (sRet (fC (.int 1))) (sNext))
    (sSeq (sIf (fTest (fIsi isInt (fVar 0))) (sRet (fC (.int 2))) (sNext))
    (sSeq (sIf (fTest (fIsi isStr (fVar 0))) (sRet (fC (.int 3))) (sNext))
    (sSeq (sIf (fTest (fIsi isLst (fVar 0))) (sRet (fC (.int 4))) (sNext))
    (sRet (fIf (fTest (fIsi isTup (fVar 0))) (fC (.int 5)) (fC (.int 6)))))))
def phi__law_sort : List T → FR := fnP 1 1 psi__law_sort
theorem body__law_sort {g : GC} (T : Txt g) (E : XK) : PSsF (mkS g ["thing"] (defScope s__law_sort) 0 E false) (defBody s__law_sort) psi__law_sort :=
  pss_cons' (psf_if (ptf_val (pef_isi i_bool rfl T.b_isinstance rfl T.b_bool (by decide +kernel) (pef_var 0 rfl rfl))) (pss_one' (psf_ret (pef_int))) (pss_nil'))
    (pss_cons' (psf_if (ptf_val (pef_isi i_int rfl T.b_isinstance rfl T.b_int (by decide +kernel) (pef_var 0 rfl rfl))) (pss_one' (psf_ret (pef_int))) (pss_nil'))
    (pss_cons' (psf_if (ptf_val (pef_isi i_str rfl T.b_isinstance rfl T.b_str (by decide +kernel) (pef_var 0 rfl rfl))) (pss_one' (psf_ret (pef_int))) (pss_nil'))
    (pss_cons' (psf_if (ptf_val (pef_isi i_list rfl T.b_isinstance rfl T.b_list (by decide +kernel) (pef_var 0 rfl rfl))) (pss_one' (psf_ret (pef_int))) (pss_nil'))
    (pss_one' (psf_ret (pef_if (ptf_val (pef_isi i_tuple rfl T.b_isinstance rfl T.b_tuple (by decide +kernel) (pef_var 0 rfl rfl))) (pef_int) (pef_int)))))))
theorem ok__law_sort {g : GC} (T : Txt g) {f : Addr} {fd : FuncData} (F : Fun g.K "_law_sort" "_law_sort" s__law_sort f fd) (hm : g.mg "_law_sort" = some (.ref f)) : DefP g 1 "_law_sort" phi__law_sort :=
  defp_of F sc__law_sort hm (F.binds (ps := ["thing"]) fun _ _ _ _ _ _ us hl => match us, hl with | [_], _ => rfl) (by decide) (body__law_sort T)
abbrev s__law_same : Stmt := topS 45
theorem sc__law_same : FnScope ["told", "due", "k", "part"] ["told", "due"] (defScope s__law_same) := ⟨rfl, rfl, rfl, by decide +kernel, rfl, by decide +kernel, by decide +kernel⟩
def psi__law_same (rec : List T → FR) : Rho → Out :=
  sSeq (sIf (fTest (fBin (gNe) (fDef phi__law_sort (fCons (fVar 0) (fNil))) (fDef phi__law_sort (fCons (fVar 1) (fNil))))) (sRet (fC (.bl false))) (sNext))
    (sSeq (sIf (fAnd (fTest (fBin (gGt) (fDef phi__law_sort (fCons (fVar 0) (fNil))) (fC (.int 3)))) (fTest (fBin (gLt) (fDef phi__law_sort (fCons (fVar 0) (fNil))) (fC (.int 6))))) (sSeq (sIf (fTest (fBin (gNe) (fCall gLen (fCons (fVar 0) (fNil))) (fCall gLen (fCons (fVar 1) (fNil))))) (sRet (fC (.bl false))) (sNext))
    (sRet (fBin (gEq) (fFz (fLc (fEnum (fVar 0)) (tgT 2 (tgCons (tgN 2) (tgCons (tgN 3) (tgNil)))) (fNot (fTest (fDef rec (fCons (fVar 3) (fCons (fBin gIx (fVar 1) (fVar 2)) (fNil)))))) (fVar 2) [2, 3])) (fFz (fLst (fNil)))))) (sNext))
    (sRet (fBin (gEq) (fVar 0) (fVar 1))))
def phi__law_same : Nat → List T → FR
  | 0 => fun _ => .stuck
  | d + 1 => fnP 4 2 (psi__law_same (phi__law_same d))
theorem body__law_same {g : GC} (T : Txt g) (d__law_sort : DefP g 1 "_law_sort" phi__law_sort) {d : Nat} (ih : DefP g (2 + d) "_law_same" (phi__law_same d)) (E : XK) : PSsF (mkS g ["told", "due", "k", "part"] (defScope s__law_same) (2 + d) E false) (defBody s__law_same) (psi__law_same (phi__law_same d)) :=
  pss_cons' (psf_if (ptf_c c_ne (pef_call d__law_sort (show 1 ≤ 2 + d by omega) rfl (paf_cons (pef_var 0 rfl rfl) (paf_nil))) (pef_call d__law_sort (show 1 ≤ 2 + d by omega) rfl (paf_cons (pef_var 1 rfl rfl) (paf_nil)))) (pss_one' (psf_ret (pef_bl))) (pss_nil'))
    (pss_cons' (psf_if (ptf_w (pwf_and (ptf_c c_gt (pef_call d__law_sort (show 1 ≤ 2 + d by omega) rfl (paf_cons (pef_var 0 rfl rfl) (paf_nil))) (pef_int)) (pwf_and1 (ptf_c c_lt (pef_call d__law_sort (show 1 ≤ 2 + d by omega) rfl (paf_cons (pef_var 0 rfl rfl) (paf_nil))) (pef_int))))) (pss_cons' (psf_if (ptf_c c_ne (pef_b b_len rfl T.b_len (paf_cons (pef_var 0 rfl rfl) (paf_nil))) (pef_b b_len rfl T.b_len (paf_cons (pef_var 1 rfl rfl) (paf_nil)))) (pss_one' (psf_ret (pef_bl))) (pss_nil'))
    (pss_one' (psf_ret (pef_c c_eq (pef_fz (pof_lc [("k", 2), ("part", 3)] sc__law_same.nd (pif_enum rfl T.b_enumerate (pef_var 0 rfl rfl)) (blkOk_by (by kernel_rfl)) (by decide) (by decide) (pgf_tup (pgsf_cons (pgf_name 2 sc__law_same.nd rfl (.inl rfl) (.inr rfl)) (pgsf_cons (pgf_name 3 sc__law_same.nd rfl (.inl rfl) (.inr rfl)) (pgsf_nil)))) (ptsf_one (ptf_not (ptf_val (pef_call ih (Nat.le_refl _) rfl (paf_cons (pef_var 3 rfl rfl) (paf_cons (pef_ix (pef_var 1 rfl rfl) (pef_var 2 rfl rfl) (fun _ _ => rfl)) (paf_nil))))))) (pef_var 2 rfl rfl))) (pef_fz (pof_lst (paf_nil))))))) (pss_nil'))
    (pss_one' (psf_ret (pef_c c_eq (pef_var 0 rfl rfl) (pef_var 1 rfl rfl)))))
theorem ok__law_same {g : GC} (T : Txt g) {f : Addr} {fd : FuncData} (F : Fun g.K "_law_same" "_law_same" s__law_same f fd) (hm : g.mg "_law_same" = some (.ref f)) (d__law_sort : DefP g 1 "_law_sort" phi__law_sort) : ∀ d, DefP g (2 + d) "_law_same" (phi__law_same d)
  | 0 => defx_stuck F.kp hm (F.binds (ps := ["told", "due"]) fun _ _ _ _ _ _ us hl => match us, hl with | [_, _], _ => rfl)
  | d + 1 => defp_of F sc__law_same hm (F.binds (ps := ["told", "due"]) fun _ _ _ _ _ _ us hl => match us, hl with | [_, _], _ => rfl) (by decide) (body__law_same T d__law_sort (ok__law_same T F hm d__law_sort d))
abbrev s__law_sums : Stmt := topS 46
theorem sc__law_sums : FnScope ["row", "width", "k"] ["row", "width"] (defScope s__law_sums) := ⟨rfl, rfl, rfl, by decide +kernel, rfl, by decide +kernel, by decide +kernel⟩
def psi__law_sums : Rho → Out :=
  sRet (fCall gTuple (fCons (fFz (fLc (fRange1 (fBin gAdd (fBin gSub (fCall gLen (fCons (fVar 0) (fNil))) (fVar 1)) (fC (.int 1)))) (tgN 2) (fYes) (fCall gSum (fCons (fSl (fVar 0) (fPs (fVar 2)) (fPs (fBin gAdd (fVar 2) (fVar 1)))) (fNil))) [2])) (fNil)))
def phi__law_sums : List T → FR := fnP 3 2 psi__law_sums
theorem body__law_sums {g : GC} (T : Txt g) (E : XK) : PSsF (mkS g ["row", "width", "k"] (defScope s__law_sums) 0 E false) (defBody s__law_sums) psi__law_sums :=
  pss_one' (psf_ret (pef_b b_tuple rfl T.b_tuple (paf_cons (pef_fz (pof_lc [("k", 2)] sc__law_sums.nd (pif_range1 rfl T.b_range (pef_add (pef_sub (pef_b b_len rfl T.b_len (paf_cons (pef_var 0 rfl rfl) (paf_nil))) (pef_var 1 rfl rfl)) (pef_int))) (blkOk_by (by kernel_rfl)) (by decide) (by decide) (pgf_name 2 sc__law_sums.nd rfl (.inl rfl) (.inr rfl)) (ptsf_nil) (pef_b b_sum rfl T.b_sum (paf_cons (pef_sl (pef_var 0 rfl rfl) (px_some (pef_var 2 rfl rfl)) (px_some (pef_add (pef_var 2 rfl rfl) (pef_var 1 rfl rfl)))) (paf_nil))))) (paf_nil))))
theorem ok__law_sums {g : GC} (T : Txt g) {f : Addr} {fd : FuncData} (F : Fun g.K "_law_sums" "_law_sums" s__law_sums f fd) (hm : g.mg "_law_sums" = some (.ref f)) : DefP g 1 "_law_sums" phi__law_sums :=
  defp_of F sc__law_sums hm (F.binds (ps := ["row", "width"]) fun _ _ _ _ _ _ us hl => match us, hl with | [_, _], _ => rfl) (by decide) (body__law_sums T)
abbrev s__law_row : Stmt := topS 50
theorem sc__law_row : FnScope ["deck", "few", "many", "wide", "top", "found", "day"] ["deck", "few", "many", "wide"] (defScope s__law_row) := ⟨rfl, rfl, rfl, by decide +kernel, rfl, by decide +kernel, by decide +kernel⟩
def psi__law_row : Rho → Out :=
  sSeq (sParO 4 5 (fDef1 0 phi__law_one (fCons (fFz (fLst (fCons (fC (.int 1)) (fCons (fVar 3) (fCons (fVar 3) (fCons (fCall gMax (fCons (fC (.int 1)) (fCons (fBin gDiv (fVar 3) (fC (.int 3))) (fNil)))) (fNil))))))) (fNil))) (fLst (fNil)))
    (sSeq (sFor (fRange1 (fBin gAdd (fVar 1) (fDef1 0 phi__law_pick (fCons (fBin gAdd (fBin gSub (fVar 2) (fVar 1)) (fC (.int 1))) (fNil))))) (tgN 6) (sApp 5 (fDef1 0 phi__law_one (fCons (fFz (fLst (fCons (fDef1 0 phi__law_pick (fCons (fBin gAdd (fVar 4) (fC (.int 1))) (fNil))) (fCons (fDef1 0 phi__law_pick (fCons (fBin gAdd (fVar 4) (fC (.int 1))) (fNil))) (fCons (fC (.int 0)) (fCons (fVar 3) (fNil))))))) (fNil)))))
    (sFrz 5 (sRet (fCall gTuple (fCons (fVar 5) (fNil))))))
def phi__law_row : List T → List T → FO := fnO 7 3 psi__law_row
theorem body__law_row {g : GC} (T : Txt g) (d__law_one : DefO g 2 "_law_one" phi__law_one) (d__law_pick : DefO g 1 "_law_pick" phi__law_pick) (E : XK) : PSsF (mkS g ["deck", "few", "many", "wide", "top", "found", "day"] (defScope s__law_row) 2 E true) (defBody s__law_row) psi__law_row :=
  pss_cons' (psf_parO (i := 4) (j := 5) sc__law_row.nd rfl rfl (by decide) rfl rfl (pef_call1 0 d__law_one (show 2 ≤ 2 by decide) rfl rfl rfl (paf_cons (pef_fz (pof_lst (paf_cons (pef_int) (paf_cons (pef_var 3 rfl rfl) (paf_cons (pef_var 3 rfl rfl) (paf_cons (pef_b b_max rfl T.b_max (paf_cons (pef_int) (paf_cons (pef_div (pef_var 3 rfl rfl) (pef_int)) (paf_nil)))) (paf_nil))))))) (paf_nil))) (pof_lst (paf_nil)) (fun _ => by decide) (by intro env h; cases env; cases h; rfl))
    (pss_cons' (psf_for (pif_range1 rfl T.b_range (pef_add (pef_var 1 rfl rfl) (pef_call1 0 d__law_pick (show 1 ≤ 2 by decide) rfl rfl rfl (paf_cons (pef_add (pef_sub (pef_var 2 rfl rfl) (pef_var 1 rfl rfl)) (pef_int)) (paf_nil))))) (pgf_name 6 sc__law_row.nd rfl (.inl rfl) (.inl rfl)) (pss_one' (psf_append 5 rfl rfl (pef_call1 0 d__law_one (show 2 ≤ 2 by decide) rfl rfl rfl (paf_cons (pef_fz (pof_lst (paf_cons (pef_call1 0 d__law_pick (show 1 ≤ 2 by decide) rfl rfl rfl (paf_cons (pef_add (pef_var 4 rfl rfl) (pef_int)) (paf_nil))) (paf_cons (pef_call1 0 d__law_pick (show 1 ≤ 2 by decide) rfl rfl rfl (paf_cons (pef_add (pef_var 4 rfl rfl) (pef_int)) (paf_nil))) (paf_cons (pef_int) (paf_cons (pef_var 3 rfl rfl) (paf_nil))))))) (paf_nil))) (hpe := fun X t hX h => pe_bm PySem.F.plainAttrs_list PySem.F.slot_list_append PySem.F.type_list_append mt_append (pe_var (i := 5) (by rw [hX.N]; rfl) (by rw [hX.sc]; exact vis_of rfl)) (pa_cons h pa_nil)))) (fun _ => by decide))
    (pss_one' (psf_frz 5 (psf_ret (pef_b b_tuple rfl T.b_tuple (paf_cons (pef_var 5 rfl rfl) (paf_nil)))))))
theorem ok__law_row {g : GC} (T : Txt g) {f : Addr} {fd : FuncData} (F : Fun g.K "_law_row" "_law_row" s__law_row f fd) (hm : g.mg "_law_row" = some (.ref f)) (d__law_one : DefO g 2 "_law_one" phi__law_one) (d__law_pick : DefO g 1 "_law_pick" phi__law_pick) : DefO g 3 "_law_row" phi__law_row :=
  defo_of F sc__law_row hm (F.binds (ps := ["deck", "few", "many", "wide"]) fun _ _ _ _ _ _ us hl => match us, hl with | [_, _, _, _], _ => rfl) (by decide) (body__law_row T d__law_one d__law_pick)
abbrev s__law_case : Stmt := topS 51
theorem sc__law_case : FnScope ["deck", "days", "width", "wide", "totals", "at", "changed"] ["deck", "days", "width", "wide"] (defScope s__law_case) := ⟨rfl, rfl, rfl, by decide +kernel, rfl, by decide +kernel, by decide +kernel⟩
def psi__law_case : Rho → Out :=
  sSeq (sSet 4 (fSl (fDef phi__law_sums (fCons (fDef1 0 phi__law_row (fCons (fVar 2) (fCons (fCall gMax (fCons (fVar 2) (fCons (fVar 1) (fNil)))) (fCons (fVar 3) (fNil))))) (fCons (fVar 2) (fNil)))) (fPn) (fPs (fC (.int 40)))))
    (sSeq (sSet 5 (fDef1 0 phi__law_pick (fCons (fCall gLen (fCons (fVar 4) (fNil))) (fNil))))
    (sSeq (sSet 6 (fCall gMax (fCons (fC (.int 0)) (fCons (fBin gSub (fBin gAdd (fBin gIx (fVar 4) (fVar 5)) (fDef1 0 phi__law_pick (fCons (fBin gAdd (fBin gMul (fC (.int 2)) (fVar 3)) (fC (.int 1))) (fNil)))) (fVar 3)) (fNil)))))
    (sRet (fIf (fTest (fBin (gEq) (fDef1 0 phi__law_pick (fCons (fC (.int 4)) (fNil))) (fC (.int 0)))) (fBin gAdd (fBin gAdd (fSl (fVar 4) (fPn) (fPs (fVar 5))) (fTup (fCons (fVar 6) (fNil)))) (fSl (fVar 4) (fPs (fBin gAdd (fVar 5) (fC (.int 1)))) (fPn))) (fVar 4)))))
def phi__law_case : List T → List T → FO := fnO 7 3 psi__law_case
theorem body__law_case {g : GC} (T : Txt g) (d__law_sums : DefP g 1 "_law_sums" phi__law_sums) (d__law_row : DefO g 3 "_law_row" phi__law_row) (d__law_pick : DefO g 1 "_law_pick" phi__law_pick) (E : XK) : PSsF (mkS g ["deck", "days", "width", "wide", "totals", "at", "changed"] (defScope s__law_case) 3 E true) (defBody s__law_case) psi__law_case :=
  pss_cons' (psf_set (i := 4) sc__law_case.nd rfl (.inl rfl) (pef_sl (pef_call d__law_sums (show 1 ≤ 3 by decide) rfl (paf_cons (pef_call1 0 d__law_row (show 3 ≤ 3 by decide) rfl rfl rfl (paf_cons (pef_var 2 rfl rfl) (paf_cons (pef_b b_max rfl T.b_max (paf_cons (pef_var 2 rfl rfl) (paf_cons (pef_var 1 rfl rfl) (paf_nil)))) (paf_cons (pef_var 3 rfl rfl) (paf_nil))))) (paf_cons (pef_var 2 rfl rfl) (paf_nil)))) (px_none) (px_some (pef_int))) (fun _ => by decide) rfl)
    (pss_cons' (psf_set (i := 5) sc__law_case.nd rfl (.inl rfl) (pef_call1 0 d__law_pick (show 1 ≤ 3 by decide) rfl rfl rfl (paf_cons (pef_b b_len rfl T.b_len (paf_cons (pef_var 4 rfl rfl) (paf_nil))) (paf_nil))) (fun _ => by decide) rfl)
    (pss_cons' (psf_set (i := 6) sc__law_case.nd rfl (.inl rfl) (pef_b b_max rfl T.b_max (paf_cons (pef_int) (paf_cons (pef_sub (pef_add (pef_ix (pef_var 4 rfl rfl) (pef_var 5 rfl rfl) (fun _ _ => rfl)) (pef_call1 0 d__law_pick (show 1 ≤ 3 by decide) rfl rfl rfl (paf_cons (pef_add (pef_mul (pef_int) (pef_var 3 rfl rfl)) (pef_int)) (paf_nil)))) (pef_var 3 rfl rfl)) (paf_nil)))) (fun _ => by decide) rfl)
    (pss_one' (psf_ret (pef_if (ptf_c c_eq (pef_call1 0 d__law_pick (show 1 ≤ 3 by decide) rfl rfl rfl (paf_cons (pef_int) (paf_nil))) (pef_int)) (pef_add (pef_add (pef_sl (pef_var 4 rfl rfl) (px_none) (px_some (pef_var 5 rfl rfl))) (pef_tup (paf_cons (pef_var 6 rfl rfl) (paf_nil)))) (pef_sl (pef_var 4 rfl rfl) (px_some (pef_add (pef_var 5 rfl rfl) (pef_int))) (px_none))) (pef_var 4 rfl rfl))))))
theorem ok__law_case {g : GC} (T : Txt g) {f : Addr} {fd : FuncData} (F : Fun g.K "_law_case" "_law_case" s__law_case f fd) (hm : g.mg "_law_case" = some (.ref f)) (d__law_sums : DefP g 1 "_law_sums" phi__law_sums) (d__law_row : DefO g 3 "_law_row" phi__law_row) (d__law_pick : DefO g 1 "_law_pick" phi__law_pick) : DefO g 4 "_law_case" phi__law_case :=
  defo_of F sc__law_case hm (F.binds (ps := ["deck", "days", "width", "wide"]) fun _ _ _ _ _ _ us hl => match us, hl with | [_, _, _, _], _ => rfl) (by decide) (body__law_case T d__law_sums d__law_row d__law_pick)
abbrev s__law_all : Stmt := topS 52
theorem sc__law_all : FnScope ["totals", "width", "heads", "day", "longer", "head", "rest", "some", "found", "row", "k", "number"] ["totals", "width"] (defScope s__law_all) := ⟨rfl, rfl, rfl, by decide +kernel, rfl, by decide +kernel, by decide +kernel⟩
def psi__law_all : Rho → Out :=
  sSeq (sSet 2 (fFz (fLst (fCons (fTup (fNil)) (fNil)))))
    (sSeq (sFor (fRange1 (fVar 1)) (tgN 3) (sSeq (sSet 4 (fFz (fLst (fNil))))
    (sSeq (sFor (fItems (fVar 2)) (tgN 5) (sSeq (sSet 6 (fBin gSub (fBin gIx (fVar 0) (fC (.int 0))) (fCall gSum (fCons (fVar 5) (fNil)))))
    (sSeq (sSet 7 (fIf (fTest (fBin (gEq) (fVar 3) (fBin gSub (fVar 1) (fC (.int 1))))) (fFz (fLst (fCons (fVar 6) (fNil)))) (fFz (fListR1 (fBin gAdd (fVar 6) (fC (.int 1)))))))
    (sSet 4 (fBin gAdd (fVar 4) (fFz (fLc (fItems (fVar 7)) (tgN 11) (fYes) (fBin gAdd (fVar 5) (fTup (fCons (fVar 11) (fNil)))) [11])))))))
    (sSet 2 (fVar 4)))))
    (sSeq (sSetO 8 (fLst (fNil)))
    (sSeq (sFor (fItems (fVar 2)) (tgN 5) (sSeq (sSetO 9 (fList (fVar 5)))
    (sSeq (sFor (fRange1 (fBin gSub (fCall gLen (fCons (fVar 0) (fNil))) (fC (.int 1)))) (tgN 10) (sApp 9 (fBin gSub (fBin gAdd (fIxO 9 (fVar 10)) (fBin gIx (fVar 0) (fBin gAdd (fVar 10) (fC (.int 1))))) (fBin gIx (fVar 0) (fVar 10)))))
    (sIf (fTest (fBin (gGe) (fRo (fCall gMin (fCons (fVar 9) (fNil)))) (fC (.int 0)))) (sFrz 9 (sApp 8 (fCall gTuple (fCons (fVar 9) (fNil))))) (sNext)))))
    (sRetMv 8))))
def phi__law_all : List T → FR := fnP 12 2 psi__law_all
theorem body__law_all {g : GC} (T : Txt g) (E : XK) : PSsF (mkS g ["totals", "width", "heads", "day", "longer", "head", "rest", "some", "found", "row", "k", "number"] (defScope s__law_all) 0 E false) (defBody s__law_all) psi__law_all :=
  pss_cons' (psf_set (i := 2) sc__law_all.nd rfl (.inl rfl) (pef_fz (pof_lst (paf_cons (pef_tup (paf_nil)) (paf_nil)))) (fun _ => by decide) rfl)
    (pss_cons' (psf_for (pif_range1 rfl T.b_range (pef_var 1 rfl rfl)) (pgf_name 3 sc__law_all.nd rfl (.inl rfl) (.inl rfl)) (pss_cons' (psf_set (i := 4) sc__law_all.nd rfl (.inl rfl) (pef_fz (pof_lst (paf_nil))) (fun _ => by decide) rfl)
    (pss_cons' (psf_for (pif_seq (pef_var 2 rfl rfl)) (pgf_name 5 sc__law_all.nd rfl (.inr rfl) (.inl rfl)) (pss_cons' (psf_set (i := 6) sc__law_all.nd rfl (.inl rfl) (pef_sub (pef_ix (pef_var 0 rfl rfl) (pef_int) (fun _ _ => rfl)) (pef_b b_sum rfl T.b_sum (paf_cons (pef_var 5 rfl rfl) (paf_nil)))) (fun _ => by decide) rfl)
    (pss_cons' (psf_set (i := 7) sc__law_all.nd rfl (.inl rfl) (pef_if (ptf_c c_eq (pef_var 3 rfl rfl) (pef_sub (pef_var 1 rfl rfl) (pef_int))) (pef_fz (pof_lst (paf_cons (pef_var 6 rfl rfl) (paf_nil)))) (pef_fz (pof_listR1 rfl T.b_list rfl T.b_range (pef_add (pef_var 6 rfl rfl) (pef_int))))) (fun _ => by decide) rfl)
    (pss_one' (psf_set (i := 4) sc__law_all.nd rfl (.inl rfl) (pef_add (pef_var 4 rfl rfl) (pef_fz (pof_lc [("number", 11)] sc__law_all.nd (pif_seq (pef_var 7 rfl rfl)) (blkOk_by (by kernel_rfl)) (by decide) (by decide) (pgf_name 11 sc__law_all.nd rfl (.inl rfl) (.inr rfl)) (ptsf_nil) (pef_add (pef_var 5 rfl rfl) (pef_tup (paf_cons (pef_var 11 rfl rfl) (paf_nil))))))) (fun _ => by decide) rfl)))) (fun _ => by decide))
    (pss_one' (psf_set (i := 2) sc__law_all.nd rfl (.inl rfl) (pef_var 4 rfl rfl) (fun _ => by decide) rfl)))) (fun _ => by decide))
    (pss_cons' (psf_setO (i := 8) sc__law_all.nd rfl (.inl rfl) (pof_lst (paf_nil)) (fun _ => by decide) rfl)
    (pss_cons' (psf_for (pif_seq (pef_var 2 rfl rfl)) (pgf_name 5 sc__law_all.nd rfl (.inr rfl) (.inl rfl)) (pss_cons' (psf_setO (i := 9) sc__law_all.nd rfl (.inl rfl) (pof_list rfl T.b_list (pef_var 5 rfl rfl)) (fun _ => by decide) rfl)
    (pss_cons' (psf_for (pif_range1 rfl T.b_range (pef_sub (pef_b b_len rfl T.b_len (paf_cons (pef_var 0 rfl rfl) (paf_nil))) (pef_int))) (pgf_name 10 sc__law_all.nd rfl (.inl rfl) (.inl rfl)) (pss_one' (psf_append 9 rfl rfl (pef_sub (pef_add (pef_ixO 9 rfl rfl (pef_var 10 rfl rfl) (fun _ _ => rfl)) (pef_ix (pef_var 0 rfl rfl) (pef_add (pef_var 10 rfl rfl) (pef_int)) (fun _ _ => rfl))) (pef_ix (pef_var 0 rfl rfl) (pef_var 10 rfl rfl) (fun _ _ => rfl))) (hpe := fun X t hX h => pe_bm PySem.F.plainAttrs_list PySem.F.slot_list_append PySem.F.type_list_append mt_append (pe_var (i := 9) (by rw [hX.N]; rfl) (by rw [hX.sc]; exact vis_of rfl)) (pa_cons h pa_nil)))) (fun _ => by decide))
    (pss_one' (psf_if (ptf_c c_ge (pef_ro (pef_b b_min rfl T.b_min (paf_cons (pef_var 9 rfl rfl) (paf_nil)))) (pef_int)) (pss_one' (psf_frz 9 (psf_append 8 rfl rfl (pef_b b_tuple rfl T.b_tuple (paf_cons (pef_var 9 rfl rfl) (paf_nil))) (hpe := fun X t hX h => pe_bm PySem.F.plainAttrs_list PySem.F.slot_list_append PySem.F.type_list_append mt_append (pe_var (i := 8) (by rw [hX.N]; rfl) (by rw [hX.sc]; exact vis_of rfl)) (pa_cons h pa_nil))))) (pss_nil'))))) (fun _ => by decide))
    (pss_one' (psf_retMv 8 rfl rfl)))))
theorem ok__law_all {g : GC} (T : Txt g) {f : Addr} {fd : FuncData} (F : Fun g.K "_law_all" "_law_all" s__law_all f fd) (hm : g.mg "_law_all" = some (.ref f)) : DefP g 1 "_law_all" phi__law_all :=
  defp_of F sc__law_all hm (F.binds (ps := ["totals", "width"]) fun _ _ _ _ _ _ us hl => match us, hl with | [_, _], _ => rfl) (by decide) (body__law_all T)
abbrev s__law_small_right : Stmt := topS 53
theorem sc__law_small_right : FnScope ["totals", "width", "rows", "bound", "good", "due", "day", "values", "row"] ["totals", "width", "rows", "bound"] (defScope s__law_small_right) := ⟨rfl, rfl, rfl, by decide +kernel, rfl, by decide +kernel, by decide +kernel⟩
def psi__law_small_right : Rho → Out :=
  sSeq (sSet 4 (fFz (fLc (fItems (fVar 2)) (tgN 8) (fTest (fBin (gLe) (fCall gMax (fCons (fVar 8) (fNil))) (fVar 3))) (fVar 8) [8])))
    (sSeq (sIf (fNot (fTest (fDef (phi__law_same 4) (fCons (fDef phi_count_limited (fKw (fCons (fVar 0) (fCons (fVar 1) (fNil))) (fVar 3))) (fCons (fCall gLen (fCons (fVar 4) (fNil))) (fNil)))))) (sRet (fC (.bl false))) (sNext))
    (sSeq (sIf (fTest (fBin (gEq) (fVar 4) (fFz (fLst (fNil))))) (sRet (fBin (gEq) (fTry csT (fFz (fDefO phi_ranges_limited (fKw (fCons (fVar 0) (fCons (fVar 1) (fNil))) (fVar 3))))) (fC (.str "None+")))) (sNext))
    (sSeq (sSetO 5 (fLst (fNil)))
    (sSeq (sFor (fRange1 (fCall gLen (fCons (fBin gIx (fVar 4) (fC (.int 0))) (fNil)))) (tgN 6) (sSeq (sSet 7 (fFz (fLc (fItems (fVar 4)) (tgN 8) (fYes) (fBin gIx (fVar 8) (fVar 6)) [8])))
    (sApp 5 (fTup (fCons (fCall gMin (fCons (fVar 7) (fNil))) (fCons (fCall gMax (fCons (fVar 7) (fNil))) (fNil)))))))
    (sRet (fRo (fDef (phi__law_same 4) (fCons (fFz (fDefO phi_ranges_limited (fKw (fCons (fVar 0) (fCons (fVar 1) (fNil))) (fVar 3)))) (fCons (fVar 5) (fNil))))))))))
def phi__law_small_right : List T → FR := fnP 9 4 psi__law_small_right
theorem body__law_small_right {g : GC} (T : Txt g) {c : Addr} (Y : TryD g csT) (M : MkP g "_law_small_right" c) (d__law_same : ∀ d, DefP g (2 + d) "_law_same" (phi__law_same d)) (d_count_limited : DefK g 6 "count_limited" 2 ["most"] phi_count_limited) (d_ranges_limited : DefK g 6 "ranges_limited" 2 ["most"] phi_ranges_limited) (E : XK) : PSsF (mkS g ["totals", "width", "rows", "bound", "good", "due", "day", "values", "row"] (defScope s__law_small_right) 8 E false (some (c, Str.ofString "_law_small_right" ++ ".<locals>."))) (defBody s__law_small_right) psi__law_small_right :=
  pss_cons' (psf_setLcV (i := 4) [("row", 8)] sc__law_small_right.nd rfl rfl (by intro env h; cases env; cases h; rfl) (pif_seq (pef_var 2 rfl rfl)) (blkOk_by (by kernel_rfl)) (by decide) (by decide) (pgf_name 8 sc__law_small_right.nd rfl (.inl rfl) (.inr rfl)) (ptsf_one (ptf_c c_le (pef_b b_max rfl T.b_max (paf_cons (pef_var 8 rfl rfl) (paf_nil))) (pef_var 3 rfl rfl))) (pef_var 8 rfl rfl) (fun _ => by decide))
    (pss_cons' (psf_if (ptf_not (ptf_val (pef_call (d__law_same 4) (show 6 ≤ 8 by decide) rfl (paf_cons (pef_callK d_count_limited (show 6 ≤ 8 by decide) rfl (paf_cons (pef_var 0 rfl rfl) (paf_cons (pef_var 1 rfl rfl) (paf_nil))) (pef_var 3 rfl rfl)) (paf_cons (pef_b b_len rfl T.b_len (paf_cons (pef_var 4 rfl rfl) (paf_nil))) (paf_nil)))))) (pss_one' (psf_ret (pef_bl))) (pss_nil'))
    (pss_cons' (psf_if (ptf_c c_eq (pef_var 4 rfl rfl) (pef_fz (pof_lst (paf_nil)))) (pss_one' (psf_ret (pef_c c_eq (pef_try Y M rfl (show 6 + 2 ≤ 8 by decide) rfl (by kernel_rfl) (fun E => pef_fz (pof_callK d_ranges_limited (show 6 ≤ 6 by decide) rfl (paf_cons (pef_var 0 rfl rfl) (paf_cons (pef_var 1 rfl rfl) (paf_nil))) (pef_var 3 rfl rfl)))) (pef_str)))) (pss_nil'))
    (pss_cons' (psf_setO (i := 5) sc__law_small_right.nd rfl (.inl rfl) (pof_lst (paf_nil)) (fun _ => by decide) rfl)
    (pss_cons' (psf_for (pif_range1 rfl T.b_range (pef_b b_len rfl T.b_len (paf_cons (pef_ix (pef_var 4 rfl rfl) (pef_int) (fun _ _ => rfl)) (paf_nil)))) (pgf_name 6 sc__law_small_right.nd rfl (.inr rfl) (.inl rfl)) (pss_cons' (psf_setLcV (i := 7) [("row", 8)] sc__law_small_right.nd rfl rfl (by intro env h; cases env; cases h; rfl) (pif_seq (pef_var 4 rfl rfl)) (blkOk_by (by kernel_rfl)) (by decide) (by decide) (pgf_name 8 sc__law_small_right.nd rfl (.inl rfl) (.inr rfl)) (ptsf_nil) (pef_ix (pef_var 8 rfl rfl) (pef_var 6 rfl rfl) (fun _ _ => rfl)) (fun _ => by decide))
    (pss_one' (psf_append 5 rfl rfl (pef_tup (paf_cons (pef_b b_min rfl T.b_min (paf_cons (pef_var 7 rfl rfl) (paf_nil))) (paf_cons (pef_b b_max rfl T.b_max (paf_cons (pef_var 7 rfl rfl) (paf_nil))) (paf_nil)))) (hpe := fun X t hX h => pe_bm PySem.F.plainAttrs_list PySem.F.slot_list_append PySem.F.type_list_append mt_append (pe_var (i := 5) (by rw [hX.N]; rfl) (by rw [hX.sc]; exact vis_of rfl)) (pa_cons h pa_nil))))) (fun _ => by decide))
    (pss_one' (psf_ret (pef_ro (pef_call (d__law_same 4) (show 6 ≤ 8 by decide) rfl (paf_cons (pef_fz (pof_callK d_ranges_limited (show 6 ≤ 8 by decide) rfl (paf_cons (pef_var 0 rfl rfl) (paf_cons (pef_var 1 rfl rfl) (paf_nil))) (pef_var 3 rfl rfl))) (paf_cons (pef_var 5 rfl rfl) (paf_nil)))))))))))
theorem ok__law_small_right {g : GC} (T : Txt g) {f : Addr} {fd : FuncData} (F : Fun g.K "_law_small_right" "_law_small_right" s__law_small_right f fd) (hm : g.mg "_law_small_right" = some (.ref f)) {c : Addr} (Y : TryD g csT) (M : MkP g "_law_small_right" c) (hcode : fd.code = .ref c) (d__law_same : ∀ d, DefP g (2 + d) "_law_same" (phi__law_same d)) (d_count_limited : DefK g 6 "count_limited" 2 ["most"] phi_count_limited) (d_ranges_limited : DefK g 6 "ranges_limited" 2 ["most"] phi_ranges_limited) : DefP g 9 "_law_small_right" phi__law_small_right :=
  defp_of F sc__law_small_right hm (F.binds (ps := ["totals", "width", "rows", "bound"]) fun _ _ _ _ _ _ us hl => match us, hl with | [_, _, _, _], _ => rfl) (by decide) (body__law_small_right T Y M d__law_same d_count_limited d_ranges_limited) (hmk := fun c' q z => by cases z; exact ⟨hcode, rfl⟩)
abbrev s__law_large_right : Stmt := topS 54
theorem sc__law_large_right : FnScope ["deck", "row", "width", "totals", "least", "told", "pair", "number"] ["deck", "row", "width"] (defScope s__law_large_right) := ⟨rfl, rfl, rfl, by decide +kernel, rfl, by decide +kernel, by decide +kernel⟩
def psi__law_large_right : Rho → Out :=
  sSeq (sSet 3 (fDef phi__law_sums (fCons (fVar 1) (fCons (fVar 2) (fNil)))))
    (sSeq (sSet 4 (fDef phi_least_limit (fCons (fVar 3) (fCons (fVar 2) (fNil)))))
    (sSeq (sIf (fOr (fNot (fTest (fDef (phi__law_same 4) (fCons (fVar 4) (fCons (fCall gInt1 (fCons (fVar 4) (fNil))) (fNil)))))) (fOr (fTest (fBin (gGt) (fVar 4) (fCall gMax (fCons (fVar 1) (fNil))))) (fTest (fBin (gLt) (fDef phi_count_limited (fKw (fCons (fVar 3) (fCons (fVar 2) (fNil))) (fVar 4))) (fC (.int 1)))))) (sRet (fC (.bl false))) (sNext))
    (sSeq (sIf (fAnd (fTest (fBin (gGt) (fVar 4) (fC (.int 0)))) (fTest (fBin (gNe) (fDef phi_count_limited (fKw (fCons (fVar 3) (fCons (fVar 2) (fNil))) (fBin gSub (fVar 4) (fC (.int 1))))) (fC (.int 0))))) (sRet (fC (.bl false))) (sNext))
    (sSeq (sSet 5 (fFz (fDefO phi_ranges_limited (fKw (fCons (fVar 3) (fCons (fVar 2) (fNil))) (fCall gMax (fCons (fVar 1) (fNil)))))))
    (sSeq (sFor (fZip (fVar 5) (fVar 1)) (tgT 2 (tgCons (tgN 6) (tgCons (tgN 7) (tgNil)))) (sIf (fNot (fChain3 (gLe) (gLe) (gLe) (fBin gIx (fVar 6) (fC (.int 0))) (fVar 7) (fBin gIx (fVar 6) (fC (.int 1))) (fCall gMax (fCons (fVar 1) (fNil))))) (sRet (fC (.bl false))) (sNext)))
    (sRet (fBin (gEq) (fDef phi_count_limited (fKw (fCons (fVar 3) (fCons (fVar 2) (fNil))) (fBin gPow (fC (.int 10)) (fC (.int 9))))) (fDef phi_count_rows (fCons (fVar 3) (fCons (fVar 2) (fNil)))))))))))
def phi__law_large_right : List T → List T → FO := fnO 8 2 psi__law_large_right
theorem body__law_large_right {g : GC} (T : Txt g) (d__law_sums : DefP g 1 "_law_sums" phi__law_sums) (d_least_limit : DefP g 7 "least_limit" phi_least_limit) (d__law_same : ∀ d, DefP g (2 + d) "_law_same" (phi__law_same d)) (d_count_limited : DefK g 6 "count_limited" 2 ["most"] phi_count_limited) (d_ranges_limited : DefK g 6 "ranges_limited" 2 ["most"] phi_ranges_limited) (d_count_rows : DefP g 5 "count_rows" phi_count_rows) (E : XK) : PSsF (mkS g ["deck", "row", "width", "totals", "least", "told", "pair", "number"] (defScope s__law_large_right) 7 E true) (defBody s__law_large_right) psi__law_large_right :=
  pss_cons' (psf_set (i := 3) sc__law_large_right.nd rfl (.inl rfl) (pef_call d__law_sums (show 1 ≤ 7 by decide) rfl (paf_cons (pef_var 1 rfl rfl) (paf_cons (pef_var 2 rfl rfl) (paf_nil)))) (fun _ => by decide) rfl)
    (pss_cons' (psf_set (i := 4) sc__law_large_right.nd rfl (.inl rfl) (pef_call d_least_limit (show 7 ≤ 7 by decide) rfl (paf_cons (pef_var 3 rfl rfl) (paf_cons (pef_var 2 rfl rfl) (paf_nil)))) (fun _ => by decide) rfl)
    (pss_cons' (psf_if (ptf_w (pwf_or (ptf_not (ptf_val (pef_call (d__law_same 4) (show 6 ≤ 7 by decide) rfl (paf_cons (pef_var 4 rfl rfl) (paf_cons (pef_b b_int rfl T.b_int (paf_cons (pef_var 4 rfl rfl) (paf_nil))) (paf_nil)))))) (pwf_or (ptf_c c_gt (pef_var 4 rfl rfl) (pef_b b_max rfl T.b_max (paf_cons (pef_var 1 rfl rfl) (paf_nil)))) (pwf_or1 (ptf_c c_lt (pef_callK d_count_limited (show 6 ≤ 7 by decide) rfl (paf_cons (pef_var 3 rfl rfl) (paf_cons (pef_var 2 rfl rfl) (paf_nil))) (pef_var 4 rfl rfl)) (pef_int)))))) (pss_one' (psf_ret (pef_bl))) (pss_nil'))
    (pss_cons' (psf_if (ptf_w (pwf_and (ptf_c c_gt (pef_var 4 rfl rfl) (pef_int)) (pwf_and1 (ptf_c c_ne (pef_callK d_count_limited (show 6 ≤ 7 by decide) rfl (paf_cons (pef_var 3 rfl rfl) (paf_cons (pef_var 2 rfl rfl) (paf_nil))) (pef_sub (pef_var 4 rfl rfl) (pef_int))) (pef_int))))) (pss_one' (psf_ret (pef_bl))) (pss_nil'))
    (pss_cons' (psf_set (i := 5) sc__law_large_right.nd rfl (.inl rfl) (pef_fz (pof_callK d_ranges_limited (show 6 ≤ 7 by decide) rfl (paf_cons (pef_var 3 rfl rfl) (paf_cons (pef_var 2 rfl rfl) (paf_nil))) (pef_b b_max rfl T.b_max (paf_cons (pef_var 1 rfl rfl) (paf_nil))))) (fun _ => by decide) rfl)
    (pss_cons' (psf_for (pif_zip rfl T.b_zip (pef_var 5 rfl rfl) (pef_var 1 rfl rfl)) (pgf_tup (pgsf_cons (pgf_name 6 sc__law_large_right.nd rfl (.inl rfl) (.inl rfl)) (pgsf_cons (pgf_name 7 sc__law_large_right.nd rfl (.inl rfl) (.inl rfl)) (pgsf_nil)))) (pss_one' (psf_if (ptf_not (ptf_c3 c_le c_le c_le (pef_ix (pef_var 6 rfl rfl) (pef_int) (fun _ _ => rfl)) (pef_var 7 rfl rfl) (pef_ix (pef_var 6 rfl rfl) (pef_int) (fun _ _ => rfl)) (pef_b b_max rfl T.b_max (paf_cons (pef_var 1 rfl rfl) (paf_nil))))) (pss_one' (psf_ret (pef_bl))) (pss_nil'))) (fun _ => by decide))
    (pss_one' (psf_ret (pef_c c_eq (pef_callK d_count_limited (show 6 ≤ 7 by decide) rfl (paf_cons (pef_var 3 rfl rfl) (paf_cons (pef_var 2 rfl rfl) (paf_nil))) (pef_pow (pef_int) (pef_int))) (pef_call d_count_rows (show 5 ≤ 7 by decide) rfl (paf_cons (pef_var 3 rfl rfl) (paf_cons (pef_var 2 rfl rfl) (paf_nil))))))))))))
theorem ok__law_large_right {g : GC} (T : Txt g) {f : Addr} {fd : FuncData} (F : Fun g.K "_law_large_right" "_law_large_right" s__law_large_right f fd) (hm : g.mg "_law_large_right" = some (.ref f)) (d__law_sums : DefP g 1 "_law_sums" phi__law_sums) (d_least_limit : DefP g 7 "least_limit" phi_least_limit) (d__law_same : ∀ d, DefP g (2 + d) "_law_same" (phi__law_same d)) (d_count_limited : DefK g 6 "count_limited" 2 ["most"] phi_count_limited) (d_ranges_limited : DefK g 6 "ranges_limited" 2 ["most"] phi_ranges_limited) (d_count_rows : DefP g 5 "count_rows" phi_count_rows) : DefO g 8 "_law_large_right" phi__law_large_right :=
  defo_of F sc__law_large_right hm (F.binds (ps := ["deck", "row", "width"]) fun _ _ _ _ _ _ us hl => match us, hl with | [_, _, _], _ => rfl) (by decide) (body__law_large_right T d__law_sums d_least_limit d__law_same d_count_limited d_ranges_limited d_count_rows)
abbrev s_law : Stmt := topS 55
theorem sc_law : FnScope ["script", "cell", "deck", "turn", "rows", "bound", "odd", "totals", "width", "row"] ["script"] (defScope s_law) := ⟨rfl, rfl, rfl, by decide +kernel, rfl, by decide +kernel, by decide +kernel⟩
def psi_law : Rho → Out :=
  sSeq (sFor (fItems (fSl (fBin gAdd (fFz (fLst (fCons (fC (.int 0)) (fNil)))) (fVar 0)) (fPn) (fPs (fC (.int 8))))) (tgN 1) (sSeq (sSetO 2 (fDefO phi__law_deck (fCons (fVar 1) (fCons (fC (.int 12)) (fNil)))))
    (sSeq (sFor (fRange1 (fC (.int 2))) (tgN 3) (sSeq (sSet 8 (fBin gAdd (fC (.int 2)) (fDef1 2 phi__law_pick (fCons (fC (.int 3)) (fNil)))))
    (sSeq (sSet 7 (fDef1 2 phi__law_case (fCons (fC (.int 8)) (fCons (fVar 8) (fCons (fDef1 2 phi__law_one (fCons (fFz (fLst (fCons (fC (.int 1)) (fCons (fC (.int 2)) (fCons (fC (.int 4)) (fNil)))))) (fNil))) (fNil))))))
    (sSeq (sSet 4 (fFz (fDefO phi__law_all (fCons (fVar 7) (fCons (fVar 8) (fNil))))))
    (sSeq (sFor (fItems (fBin gAdd (fFz (fListR1 (fC (.int 7)))) (fFz (fLst (fCons (fBin gPow (fC (.int 10)) (fC (.int 9))) (fNil)))))) (tgN 5) (sIf (fNot (fTest (fDef phi__law_small_right (fCons (fVar 7) (fCons (fVar 8) (fCons (fVar 4) (fCons (fVar 5) (fNil)))))))) (sRet (fC (.bl false))) (sNext)))
    (sIf (fTest (fBin (gEq) (fVar 4) (fFz (fLst (fNil))))) (sIf (fTest (fBin (gNe) (fTry csT (fDef phi_least_limit (fCons (fVar 7) (fCons (fVar 8) (fNil))))) (fC (.str "None+")))) (sRet (fC (.bl false))) (sNext)) (sIf (fNot (fTest (fDef (phi__law_same 4) (fCons (fDef phi_least_limit (fCons (fVar 7) (fCons (fVar 8) (fNil)))) (fCons (fCall gMin (fCons (fFz (fLc (fItems (fVar 4)) (tgN 9) (fYes) (fCall gMax (fCons (fVar 9) (fNil))) [9])) (fNil))) (fNil)))))) (sRet (fC (.bl false))) (sNext))))))))
    (sSeq (sSet 8 (fBin gAdd (fC (.int 2)) (fDef1 2 phi__law_pick (fCons (fC (.int 11)) (fNil)))))
    (sSeq (sIf (fNot (fTest (fDef1 2 phi__law_large_right (fCons (fDef1 2 phi__law_row (fCons (fVar 8) (fCons (fC (.int 30)) (fCons (fBin gPow (fC (.int 10)) (fC (.int 6))) (fNil))))) (fCons (fVar 8) (fNil)))))) (sRet (fC (.bl false))) (sNext))
    (sFor (fItems (fFz (fLst (fCons (fC .non) (fCons (fC (.bl true)) (fCons (fNeg (fC (.int 1))) (fCons (fBin gAdd (fBin gPow (fC (.int 10)) (fC (.int 9))) (fC (.int 1))) (fCons (fC (.str "1")) (fNil))))))))) (tgN 6) (sSeq (sIf (fTest (fBin (gNe) (fTry csT (fDef phi_count_limited (fKw (fCons (fTup (fCons (fC (.int 3)) (fNil))) (fCons (fC (.int 2)) (fNil))) (fVar 6)))) (fC (.str "Most+")))) (sRet (fC (.bl false))) (sNext))
    (sIf (fTest (fBin (gNe) (fTry csT (fFz (fDefO phi_ranges_limited (fKw (fCons (fTup (fCons (fC (.int 3)) (fCons (fC (.int 9)) (fCons (fC (.int 0)) (fNil))))) (fCons (fC (.int 2)) (fNil))) (fVar 6))))) (fC (.str "Most+")))) (sRet (fC (.bl false))) (sNext)))))))))
    (sSeq (sIf (fOr (fTest (fBin (gNe) (fDef phi_count_limited (fKw (fCons (fTup (fCons (fC (.int 6)) (fCons (fC (.int 4)) (fCons (fC (.int 5)) (fNil))))) (fCons (fC (.int 2)) (fNil))) (fC (.int 4)))) (fC (.int 2)))) (fOr (fTest (fBin (gNe) (fDef phi_least_limit (fCons (fTup (fCons (fC (.int 6)) (fCons (fC (.int 4)) (fCons (fC (.int 5)) (fNil))))) (fCons (fC (.int 2)) (fNil)))) (fC (.int 4)))) (fTest (fBin (gNe) (fDef phi_least_limit (fCons (fTup (fCons (fC (.int 7)) (fNil))) (fCons (fC (.int 3)) (fNil)))) (fC (.int 3)))))) (sRet (fC (.bl false))) (sNext))
    (sRet (fBin (gEq) (fFz (fDefO phi_ranges_limited (fKw (fCons (fTup (fCons (fC (.int 6)) (fCons (fC (.int 4)) (fCons (fC (.int 5)) (fNil))))) (fCons (fC (.int 2)) (fNil))) (fC (.int 4))))) (fFz (fLst (fCons (fTup (fCons (fC (.int 3)) (fCons (fC (.int 4)) (fNil)))) (fCons (fTup (fCons (fC (.int 2)) (fCons (fC (.int 3)) (fNil)))) (fCons (fTup (fCons (fC (.int 1)) (fCons (fC (.int 2)) (fNil)))) (fCons (fTup (fCons (fC (.int 3)) (fCons (fC (.int 4)) (fNil)))) (fNil))))))))))
def phi_law : List T → FR := fnP 10 1 psi_law
theorem body_law {g : GC} (T : Txt g) {c : Addr} (Y : TryD g csT) (M : MkP g "law" c) (d__law_deck : DefP g 1 "_law_deck" phi__law_deck) (d__law_pick : DefO g 1 "_law_pick" phi__law_pick) (d__law_case : DefO g 4 "_law_case" phi__law_case) (d__law_one : DefO g 2 "_law_one" phi__law_one) (d__law_all : DefP g 1 "_law_all" phi__law_all) (d__law_small_right : DefP g 9 "_law_small_right" phi__law_small_right) (d_least_limit : DefP g 7 "least_limit" phi_least_limit) (d__law_same : ∀ d, DefP g (2 + d) "_law_same" (phi__law_same d)) (d__law_large_right : DefO g 8 "_law_large_right" phi__law_large_right) (d__law_row : DefO g 3 "_law_row" phi__law_row) (d_count_limited : DefK g 6 "count_limited" 2 ["most"] phi_count_limited) (d_ranges_limited : DefK g 6 "ranges_limited" 2 ["most"] phi_ranges_limited) (E : XK) : PSsF (mkS g ["script", "cell", "deck", "turn", "rows", "bound", "odd", "totals", "width", "row"] (defScope s_law) 9 E false (some (c, Str.ofString "law" ++ ".<locals>."))) (defBody s_law) psi_law :=
  pss_cons' (psf_for (pif_seq (pef_sl (pef_add (pef_fz (pof_lst (paf_cons (pef_int) (paf_nil)))) (pef_var 0 rfl rfl)) (px_none) (px_some (pef_int)))) (pgf_name 1 sc_law.nd rfl (.inl rfl) (.inl rfl)) (pss_cons' (psf_setO (i := 2) sc_law.nd rfl (.inl rfl) (pof_call d__law_deck (show 1 ≤ 9 by decide) rfl (paf_cons (pef_var 1 rfl rfl) (paf_cons (pef_int) (paf_nil)))) (fun _ => by decide) rfl)
    (pss_cons' (psf_for (pif_range1 rfl T.b_range (pef_int)) (pgf_name 3 sc_law.nd rfl (.inl rfl) (.inl rfl)) (pss_cons' (psf_set (i := 8) sc_law.nd rfl (.inr rfl) (pef_add (pef_int) (pef_call1 2 d__law_pick (show 1 ≤ 9 by decide) rfl rfl rfl (paf_cons (pef_int) (paf_nil)))) (fun _ => by decide) rfl)
    (pss_cons' (psf_set (i := 7) sc_law.nd rfl (.inr rfl) (pef_call1 2 d__law_case (show 4 ≤ 9 by decide) rfl rfl rfl (paf_cons (pef_int) (paf_cons (pef_var 8 rfl rfl) (paf_cons (pef_call1 2 d__law_one (show 2 ≤ 9 by decide) rfl rfl rfl (paf_cons (pef_fz (pof_lst (paf_cons (pef_int) (paf_cons (pef_int) (paf_cons (pef_int) (paf_nil)))))) (paf_nil))) (paf_nil))))) (fun _ => by decide) rfl)
    (pss_cons' (psf_set (i := 4) sc_law.nd rfl (.inl rfl) (pef_fz (pof_call d__law_all (show 1 ≤ 9 by decide) rfl (paf_cons (pef_var 7 rfl rfl) (paf_cons (pef_var 8 rfl rfl) (paf_nil))))) (fun _ => by decide) rfl)
    (pss_cons' (psf_for (pif_seq (pef_add (pef_fz (pof_listR1 rfl T.b_list rfl T.b_range (pef_int))) (pef_fz (pof_lst (paf_cons (pef_pow (pef_int) (pef_int)) (paf_nil)))))) (pgf_name 5 sc_law.nd rfl (.inl rfl) (.inl rfl)) (pss_one' (psf_if (ptf_not (ptf_val (pef_call d__law_small_right (show 9 ≤ 9 by decide) rfl (paf_cons (pef_var 7 rfl rfl) (paf_cons (pef_var 8 rfl rfl) (paf_cons (pef_var 4 rfl rfl) (paf_cons (pef_var 5 rfl rfl) (paf_nil)))))))) (pss_one' (psf_ret (pef_bl))) (pss_nil'))) (fun _ => by decide))
    (pss_one' (psf_if (ptf_c c_eq (pef_var 4 rfl rfl) (pef_fz (pof_lst (paf_nil)))) (pss_one' (psf_if (ptf_c c_ne (pef_try Y M rfl (show 7 + 2 ≤ 9 by decide) rfl (by kernel_rfl) (fun E => pef_call d_least_limit (show 7 ≤ 7 by decide) rfl (paf_cons (pef_var 7 rfl rfl) (paf_cons (pef_var 8 rfl rfl) (paf_nil))))) (pef_str)) (pss_one' (psf_ret (pef_bl))) (pss_nil'))) (pss_one' (psf_if (ptf_not (ptf_val (pef_call (d__law_same 4) (show 6 ≤ 9 by decide) rfl (paf_cons (pef_call d_least_limit (show 7 ≤ 9 by decide) rfl (paf_cons (pef_var 7 rfl rfl) (paf_cons (pef_var 8 rfl rfl) (paf_nil)))) (paf_cons (pef_b b_min rfl T.b_min (paf_cons (pef_fz (pof_lc [("row", 9)] sc_law.nd (pif_seq (pef_var 4 rfl rfl)) (blkOk_by (by kernel_rfl)) (by decide) (by decide) (pgf_name 9 sc_law.nd rfl (.inl rfl) (.inr rfl)) (ptsf_nil) (pef_b b_max rfl T.b_max (paf_cons (pef_var 9 rfl rfl) (paf_nil))))) (paf_nil))) (paf_nil)))))) (pss_one' (psf_ret (pef_bl))) (pss_nil'))))))))) (fun _ => by decide))
    (pss_cons' (psf_set (i := 8) sc_law.nd rfl (.inr rfl) (pef_add (pef_int) (pef_call1 2 d__law_pick (show 1 ≤ 9 by decide) rfl rfl rfl (paf_cons (pef_int) (paf_nil)))) (fun _ => by decide) rfl)
    (pss_cons' (psf_if (ptf_not (ptf_val (pef_call1 2 d__law_large_right (show 8 ≤ 9 by decide) rfl rfl rfl (paf_cons (pef_call1 2 d__law_row (show 3 ≤ 9 by decide) rfl rfl rfl (paf_cons (pef_var 8 rfl rfl) (paf_cons (pef_int) (paf_cons (pef_pow (pef_int) (pef_int)) (paf_nil))))) (paf_cons (pef_var 8 rfl rfl) (paf_nil)))))) (pss_one' (psf_ret (pef_bl))) (pss_nil'))
    (pss_one' (psf_for (pif_seq (pef_fz (pof_lst (paf_cons (pef_non) (paf_cons (pef_bl) (paf_cons (pef_neg (pef_int)) (paf_cons (pef_add (pef_pow (pef_int) (pef_int)) (pef_int)) (paf_cons (pef_str) (paf_nil))))))))) (pgf_name 6 sc_law.nd rfl (.inr rfl) (.inl rfl)) (pss_cons' (psf_if (ptf_c c_ne (pef_try Y M rfl (show 7 + 2 ≤ 9 by decide) rfl (by kernel_rfl) (fun E => pef_callK d_count_limited (show 6 ≤ 7 by decide) rfl (paf_cons (pef_tup (paf_cons (pef_int) (paf_nil))) (paf_cons (pef_int) (paf_nil))) (pef_var 6 rfl rfl))) (pef_str)) (pss_one' (psf_ret (pef_bl))) (pss_nil'))
    (pss_one' (psf_if (ptf_c c_ne (pef_try Y M rfl (show 7 + 2 ≤ 9 by decide) rfl (by kernel_rfl) (fun E => pef_fz (pof_callK d_ranges_limited (show 6 ≤ 7 by decide) rfl (paf_cons (pef_tup (paf_cons (pef_int) (paf_cons (pef_int) (paf_cons (pef_int) (paf_nil))))) (paf_cons (pef_int) (paf_nil))) (pef_var 6 rfl rfl)))) (pef_str)) (pss_one' (psf_ret (pef_bl))) (pss_nil')))) (fun _ => by decide))))))) (fun _ => by decide))
    (pss_cons' (psf_if (ptf_w (pwf_or (ptf_c c_ne (pef_callK d_count_limited (show 6 ≤ 9 by decide) rfl (paf_cons (pef_tup (paf_cons (pef_int) (paf_cons (pef_int) (paf_cons (pef_int) (paf_nil))))) (paf_cons (pef_int) (paf_nil))) (pef_int)) (pef_int)) (pwf_or (ptf_c c_ne (pef_call d_least_limit (show 7 ≤ 9 by decide) rfl (paf_cons (pef_tup (paf_cons (pef_int) (paf_cons (pef_int) (paf_cons (pef_int) (paf_nil))))) (paf_cons (pef_int) (paf_nil)))) (pef_int)) (pwf_or1 (ptf_c c_ne (pef_call d_least_limit (show 7 ≤ 9 by decide) rfl (paf_cons (pef_tup (paf_cons (pef_int) (paf_nil))) (paf_cons (pef_int) (paf_nil)))) (pef_int)))))) (pss_one' (psf_ret (pef_bl))) (pss_nil'))
    (pss_one' (psf_ret (pef_c c_eq (pef_fz (pof_callK d_ranges_limited (show 6 ≤ 9 by decide) rfl (paf_cons (pef_tup (paf_cons (pef_int) (paf_cons (pef_int) (paf_cons (pef_int) (paf_nil))))) (paf_cons (pef_int) (paf_nil))) (pef_int))) (pef_fz (pof_lst (paf_cons (pef_tup (paf_cons (pef_int) (paf_cons (pef_int) (paf_nil)))) (paf_cons (pef_tup (paf_cons (pef_int) (paf_cons (pef_int) (paf_nil)))) (paf_cons (pef_tup (paf_cons (pef_int) (paf_cons (pef_int) (paf_nil)))) (paf_cons (pef_tup (paf_cons (pef_int) (paf_cons (pef_int) (paf_nil)))) (paf_nil)))))))))))
theorem ok_law {g : GC} (T : Txt g) {f : Addr} {fd : FuncData} (F : Fun g.K "law" "law" s_law f fd) (hm : g.mg "law" = some (.ref f)) {c : Addr} (Y : TryD g csT) (M : MkP g "law" c) (hcode : fd.code = .ref c) (d__law_deck : DefP g 1 "_law_deck" phi__law_deck) (d__law_pick : DefO g 1 "_law_pick" phi__law_pick) (d__law_case : DefO g 4 "_law_case" phi__law_case) (d__law_one : DefO g 2 "_law_one" phi__law_one) (d__law_all : DefP g 1 "_law_all" phi__law_all) (d__law_small_right : DefP g 9 "_law_small_right" phi__law_small_right) (d_least_limit : DefP g 7 "least_limit" phi_least_limit) (d__law_same : ∀ d, DefP g (2 + d) "_law_same" (phi__law_same d)) (d__law_large_right : DefO g 8 "_law_large_right" phi__law_large_right) (d__law_row : DefO g 3 "_law_row" phi__law_row) (d_count_limited : DefK g 6 "count_limited" 2 ["most"] phi_count_limited) (d_ranges_limited : DefK g 6 "ranges_limited" 2 ["most"] phi_ranges_limited) : DefP g 10 "law" phi_law :=
  defp_of F sc_law hm (F.binds (ps := ["script"]) fun _ _ _ _ _ _ us hl => match us, hl with | [_], _ => rfl) (by decide) (body_law T Y M d__law_deck d__law_pick d__law_case d__law_one d__law_all d__law_small_right d_least_limit d__law_same d__law_large_right d__law_row d_count_limited d_ranges_limited) (hmk := fun c' q z => by cases z; exact ⟨hcode, rfl⟩)
abbrev s__law_name_of : Stmt := topS 41
theorem sc__law_name_of : FnScope ["e", "matching", "words", "found", "word", "good"] ["e"] (defScope s__law_name_of) := ⟨rfl, rfl, rfl, by decide +kernel, rfl, by decide +kernel, by decide +kernel⟩
abbrev s__law_try : Stmt := topS 42
theorem sc__law_try : FnScope ["door", "found", "e"] ["door"] (defScope s__law_try) := ⟨rfl, rfl, rfl, by decide +kernel, rfl, by decide +kernel, by decide +kernel⟩
theorem name_ok {g : GC} (T : ErrP g csT) : NameP g csT (defBody s__law_name_of) (defScope s__law_name_of) where
  S := sc__law_name_of
  ps := fun A outer s H f cdv c w a oe hcs hz hf hh hx => by
    have h : NmX g csT (cxW g.P g.w g.K g.mg g.base ["e", "matching", "words", "found", "word", "good"] "_law_name_of" (defScope s__law_name_of) f cdv A outer s H (a, oe)) c w a oe := ⟨T, hcs, rfl, rfl, List.mem_cons_self, hz, hf, rfl, .inl rfl, rfl⟩
    obtain ⟨vs, hv⟩ := hf
    have hot : PinHot (cxW g.P g.w g.K g.mg g.base ["e", "matching", "words", "found", "word", "good"] "_law_name_of" (defScope s__law_name_of) f cdv A outer s H (a, oe)) a := ⟨hh, oe, vs, List.mem_cons_self, hv, hx vs hv⟩
    have nd := sc__law_name_of.nd
    unfold tNmC tNames
    refine pss_cons ?a1 (pss_cons ?a2 (pss_cons ?a3 (pss_cons ?a4 (pss_cons ?a5 (pss_cons ?a6 (pss_cons ?a7 (pss_cons ?a8 (pss_one ?a9))))))))
    case a1 => exact ps_asg (pe_lst (pa_cons (isE h "InvalidRow" (by decide) rfl (by decide)) (pa_cons (isE h "InvalidSums" (by decide) rfl (by decide)) (pa_cons (isE h "InvalidWindow" (by decide) rfl (by decide)) pa_nil)))) (pg_name (i := 1) nd rfl (.inl rfl) (.inr rfl))
    case a2 => exact ps_asg (pe_op op_catL (pe_var (i := 1) rfl (.inl rfl)) (pe_lst (pa_cons (isE h "InvalidDay" (by decide) rfl (by decide)) (pa_cons (isE h "InvalidWeights" (by decide) rfl (by decide)) (pa_cons (isE h "InvalidTold" (by decide) rfl (by decide)) pa_nil))))) (pg_name (i := 1) nd rfl (.inl rfl) (.inr rfl))
    case a3 => exact ps_asg (pe_op op_catL (pe_var (i := 1) rfl (.inl rfl)) (pe_lst (pa_cons (isE h "InvalidPlace" (by decide) rfl (by decide)) (pa_cons (isE h "InvalidIndex" (by decide) rfl (by decide)) (pa_cons (isE h "InvalidMost" (by decide) rfl (by decide)) pa_nil))))) (pg_name (i := 1) nd rfl (.inl rfl) (.inr rfl))
    case a4 => exact ps_asg (pe_op op_catL (pe_var (i := 1) rfl (.inl rfl)) (pe_lst (pa_cons (isE h "TooShort" (by decide) rfl (by decide)) (pa_cons (isE h "NoRows" (by decide) rfl (by decide)) (pa_cons (isE h "NothingToUndo" (by decide) rfl (by decide)) pa_nil))))) (pg_name (i := 1) nd rfl (.inl rfl) (.inr rfl))
    case a5 => exact ps_expr (pe_bm PySem.F.plainAttrs_list PySem.F.slot_list_append PySem.F.type_list_append mt_append (pe_var (i := 1) rfl (.inl rfl)) (pa_cons (isE h "TooMany" (by decide) rfl (by decide)) pa_nil))
    case a6 => exact ps_asg (pe_lst (pa_cons pe_str (pa_cons pe_str (pa_cons pe_str (pa_cons pe_str (pa_cons pe_str (pa_cons pe_str (pa_cons pe_str (pa_cons pe_str (pa_cons pe_str (pa_cons pe_str (pa_cons pe_str pa_nil)))))))))))) (pg_name (i := 2) nd rfl (.inl rfl) (.inr rfl))
    case a7 => exact ps_asg (pe_op op_catL (pe_var (i := 2) rfl (.inl rfl)) (pe_lst (pa_cons pe_str (pa_cons pe_str pa_nil)))) (pg_name (i := 2) nd rfl (.inl rfl) (.inr rfl))
    case a8 =>
      refine ps_setLcW (i := 3) (own := [("word", 4), ("good", 5)]) hot nd rfl rfl rfl (pi_zipW hot rfl T.zz (pa_cons (pe_var (i := 2) rfl (.inl rfl)) (pa_cons (pe_var (i := 1) rfl (.inl rfl)) pa_nil))) (blkOk_by (by kernel_rfl)) ?hg ?ht ?he
      case hg =>
        intro s H C cl fp hotB
        refine pg_tupW (t := gCons (gName 4) (gCons (gName 5) gNil)) (n := 2) hotB ?gs
        case gs =>
          refine pgs_cons ?g1 (pgs_cons ?g2 pgs_nil)
          case g1 => exact pg_name (i := 4) nd rfl (.inl rfl) (.inr rfl)
          case g2 => exact pg_name (i := 5) nd rfl (.inl rfl) (.inr rfl)
      case ht =>
        intro s H C cl fp
        exact pts_one (pt_val (pe_var (i := 5) rfl (.inl rfl)))
      case he =>
        intro s H C cl fp
        exact pe_var (i := 4) rfl (.inl rfl)
    case a9 =>
      refine ps_ret (pe_op op_add_str ?j1 ?j2)
      case j1 => exact pe_join pe_str (pe_var (i := 3) rfl (.inl rfl))
      case j2 => exact pe_ifExp (pt_val (isV h rfl)) pe_str pe_str
theorem try_ok {g : GC} (T : ErrP g csT) {f f2 : Addr} {oc oc2 kV kV2 dc dc2 pm pm2 cd cd2 ct ct2 : Value} {od od2 an an2 : Option Addr} {sl sl2 : Array (Option Value)} (hm : g.mg "_law_try" = some (.ref f)) (hm2 : g.mg "_law_name_of" = some (.ref f2))
    (l : g.K.lookup f = some ⟨oc, od, .func (PySem.W.fnOf "_law_try" "_law_try" (defArgs s__law_try) (defBody s__law_try) (defScope s__law_try) .none kV dc pm an cd ct), sl⟩) (l2 : g.K.lookup f2 = some ⟨oc2, od2, .func (PySem.W.fnOf "_law_name_of" "_law_name_of" (defArgs s__law_name_of) (defBody s__law_name_of) (defScope s__law_name_of) .none kV2 dc2 pm2 an2 cd2 ct2), sl2⟩)
    (c : PySem.W.codeIn g.K cd "_law_try" = true) (c2 : PySem.W.codeIn g.K cd2 "_law_name_of" = true) (k : PySem.W.keepIn g.K (.ref f) = true) (k2 : PySem.W.keepIn g.K (.ref f2) = true) : TryD g csT :=
  ⟨⟨f, defArgs s__law_try, defBody s__law_try, defScope s__law_try, .none, kV, dc, pm, cd, ct, oc, an, od, sl, hm, k, l, c, (fun_mk (st := s__law_try) l c k).binds (ps := ["door"]) fun _ _ _ _ _ _ us hl => match us, hl with | [_], _ => rfl,
    sc__law_try, .inl rfl, fun X q hP hw hK hmg hbase => try_gives T hP hw hK hmg hbase ⟨.inl rfl, rfl, rfl, rfl, rfl, rfl⟩ (name_ok T) hm2 k2 l2 c2 ((fun_mk (st := s__law_name_of) l2 c2 k2).binds (ps := ["e"]) fun _ _ _ _ _ _ us hl => match us, hl with | [_], _ => rfl)⟩⟩
theorem all_mk {P : Program} {w : World} {K : PySem.W.Frag} {mg : Str → Option Value} {h : Heap} {fa : Addr} {f_is_from : Addr} {od_is_from an_is_from : Option Addr} {sl_is_from : Array (Option Value)} {oc_is_from kV_is_from dc_is_from pm_is_from ct_is_from : Value} {cd_is_from : Value} {f_is_numbers : Addr} {od_is_numbers an_is_numbers : Option Addr} {sl_is_numbers : Array (Option Value)} {oc_is_numbers kV_is_numbers dc_is_numbers pm_is_numbers ct_is_numbers : Value} {cd_is_numbers : Value} {f_is_sums : Addr} {od_is_sums an_is_sums : Option Addr} {sl_is_sums : Array (Option Value)} {oc_is_sums kV_is_sums dc_is_sums pm_is_sums ct_is_sums : Value} {cd_is_sums : Value} {f_need_window : Addr} {od_need_window an_need_window : Option Addr} {sl_need_window : Array (Option Value)} {oc_need_window kV_need_window dc_need_window pm_need_window ct_need_window : Value} {cd_need_window : Value} {f_need_sums : Addr} {od_need_sums an_need_sums : Option Addr} {sl_need_sums : Array (Option Value)} {oc_need_sums kV_need_sums dc_need_sums pm_need_sums ct_need_sums : Value} {cd_need_sums : Value} {f_shape_of : Addr} {od_shape_of an_shape_of : Option Addr} {sl_shape_of : Array (Option Value)} {oc_shape_of kV_shape_of dc_shape_of pm_shape_of ct_shape_of : Value} {cd_shape_of : Value} {f_window_shape : Addr} {od_window_shape an_window_shape : Option Addr} {sl_window_shape : Array (Option Value)} {oc_window_shape kV_window_shape dc_window_shape pm_window_shape ct_window_shape : Value} {cd_window_shape : Value} {f_lows_of : Addr} {od_lows_of an_lows_of : Option Addr} {sl_lows_of : Array (Option Value)} {oc_lows_of kV_lows_of dc_lows_of pm_lows_of ct_lows_of : Value} {cd_lows_of : Value} {f_slack_of : Addr} {od_slack_of an_slack_of : Option Addr} {sl_slack_of : Array (Option Value)} {oc_slack_of kV_slack_of dc_slack_of pm_slack_of ct_slack_of : Value} {cd_slack_of : Value} {f_choose : Addr} {od_choose an_choose : Option Addr} {sl_choose : Array (Option Value)} {oc_choose kV_choose dc_choose pm_choose ct_choose : Value} {cd_choose : Value} {f_count_of : Addr} {od_count_of an_count_of : Option Addr} {sl_count_of : Array (Option Value)} {oc_count_of kV_count_of dc_count_of pm_count_of ct_count_of : Value} {cd_count_of : Value} {f_bounds_of : Addr} {od_bounds_of an_bounds_of : Option Addr} {sl_bounds_of : Array (Option Value)} {oc_bounds_of kV_bounds_of dc_bounds_of pm_bounds_of ct_bounds_of : Value} {cd_bounds_of : Value} {f_count_limited : Addr} {od_count_limited an_count_limited : Option Addr} {sl_count_limited : Array (Option Value)} {oc_count_limited kV_count_limited dc_count_limited pm_count_limited ct_count_limited : Value} {cd_count_limited : Value} {f_ranges_limited : Addr} {od_ranges_limited an_ranges_limited : Option Addr} {sl_ranges_limited : Array (Option Value)} {oc_ranges_limited kV_ranges_limited dc_ranges_limited pm_ranges_limited ct_ranges_limited : Value} {cd_ranges_limited : Value} {f_least_limit : Addr} {od_least_limit an_least_limit : Option Addr} {sl_least_limit : Array (Option Value)} {oc_least_limit kV_least_limit dc_least_limit pm_least_limit ct_least_limit : Value} {cd_least_limit : Value} {f_count_rows : Addr} {od_count_rows an_count_rows : Option Addr} {sl_count_rows : Array (Option Value)} {oc_count_rows kV_count_rows dc_count_rows pm_count_rows ct_count_rows : Value} {cd_count_rows : Value} {f__law_deck : Addr} {od__law_deck an__law_deck : Option Addr} {sl__law_deck : Array (Option Value)} {oc__law_deck kV__law_deck dc__law_deck pm__law_deck ct__law_deck : Value} {cd__law_deck : Value} {f__law_pick : Addr} {od__law_pick an__law_pick : Option Addr} {sl__law_pick : Array (Option Value)} {oc__law_pick kV__law_pick dc__law_pick pm__law_pick ct__law_pick : Value} {cd__law_pick : Value} {f__law_name_of : Addr} {od__law_name_of an__law_name_of : Option Addr} {sl__law_name_of : Array (Option Value)} {oc__law_name_of kV__law_name_of dc__law_name_of pm__law_name_of ct__law_name_of : Value} {cd__law_name_of : Value} {f__law_try : Addr} {od__law_try an__law_try : Option Addr} {sl__law_try : Array (Option Value)} {oc__law_try kV__law_try dc__law_try pm__law_try ct__law_try : Value} {cd__law_try : Value} {f__law_one : Addr} {od__law_one an__law_one : Option Addr} {sl__law_one : Array (Option Value)} {oc__law_one kV__law_one dc__law_one pm__law_one ct__law_one : Value} {cd__law_one : Value} {f__law_sort : Addr} {od__law_sort an__law_sort : Option Addr} {sl__law_sort : Array (Option Value)} {oc__law_sort kV__law_sort dc__law_sort pm__law_sort ct__law_sort : Value} {cd__law_sort : Value} {f__law_same : Addr} {od__law_same an__law_same : Option Addr} {sl__law_same : Array (Option Value)} {oc__law_same kV__law_same dc__law_same pm__law_same ct__law_same : Value} {cd__law_same : Value} {f__law_sums : Addr} {od__law_sums an__law_sums : Option Addr} {sl__law_sums : Array (Option Value)} {oc__law_sums kV__law_sums dc__law_sums pm__law_sums ct__law_sums : Value} {cd__law_sums : Value} {f__law_row : Addr} {od__law_row an__law_row : Option Addr} {sl__law_row : Array (Option Value)} {oc__law_row kV__law_row dc__law_row pm__law_row ct__law_row : Value} {cd__law_row : Value} {f__law_case : Addr} {od__law_case an__law_case : Option Addr} {sl__law_case : Array (Option Value)} {oc__law_case kV__law_case dc__law_case pm__law_case ct__law_case : Value} {cd__law_case : Value} {f__law_all : Addr} {od__law_all an__law_all : Option Addr} {sl__law_all : Array (Option Value)} {oc__law_all kV__law_all dc__law_all pm__law_all ct__law_all : Value} {cd__law_all : Value} {f__law_small_right : Addr} {od__law_small_right an__law_small_right : Option Addr} {sl__law_small_right : Array (Option Value)} {oc__law_small_right kV__law_small_right dc__law_small_right pm__law_small_right ct__law_small_right : Value} {cc__law_small_right P__law_small_right : Addr} {o2__law_small_right : Value} {d2__law_small_right : Option Addr} {v2__law_small_right : Array Value} {s2__law_small_right : Array (Option Value)} {f__law_large_right : Addr} {od__law_large_right an__law_large_right : Option Addr} {sl__law_large_right : Array (Option Value)} {oc__law_large_right kV__law_large_right dc__law_large_right pm__law_large_right ct__law_large_right : Value} {cd__law_large_right : Value} {f_law : Addr} {od_law an_law : Option Addr} {sl_law : Array (Option Value)} {oc_law kV_law dc_law pm_law ct_law : Value} {cc_law P_law : Addr} {o2_law : Value} {d2_law : Option Addr} {v2_law : Array Value} {s2_law : Array (Option Value)} {t_LARGEST : Tok} {t_MOST_SUMS : Tok} {t_LONGEST : Tok} {C_InvalidDay : Addr} {C_InvalidIndex : Addr} {C_InvalidMost : Addr} {C_InvalidPlace : Addr} {C_InvalidRow : Addr} {C_InvalidSums : Addr} {C_InvalidTold : Addr} {C_InvalidWeights : Addr} {C_InvalidWindow : Addr} {C_NoRows : Addr} {C_NothingToUndo : Addr} {C_SumError : Addr} {C_TooMany : Addr} {C_TooShort : Addr} (X : K.In h) (G : h.Ns mainGlobals mg) (hfa : mg ("law" : Str) = some (.ref fa))
    (a_is_from : PySem.W.nsIn K mainGlobals ("is_from" : Str) = some (some (.ref f_is_from)))
    (l_is_from : K.lookup f_is_from = some ⟨oc_is_from, od_is_from, .func (PySem.W.fnOf "is_from" "is_from" (defArgs s_is_from) (defBody s_is_from) (defScope s_is_from) .none kV_is_from dc_is_from pm_is_from an_is_from cd_is_from ct_is_from), sl_is_from⟩)
    (c_is_from : PySem.W.codeIn K cd_is_from "is_from" = true)
    (k_is_from : PySem.W.keepIn K (.ref f_is_from) = true)
    (a_is_numbers : PySem.W.nsIn K mainGlobals ("is_numbers" : Str) = some (some (.ref f_is_numbers)))
    (l_is_numbers : K.lookup f_is_numbers = some ⟨oc_is_numbers, od_is_numbers, .func (PySem.W.fnOf "is_numbers" "is_numbers" (defArgs s_is_numbers) (defBody s_is_numbers) (defScope s_is_numbers) .none kV_is_numbers dc_is_numbers pm_is_numbers an_is_numbers cd_is_numbers ct_is_numbers), sl_is_numbers⟩)
    (c_is_numbers : PySem.W.codeIn K cd_is_numbers "is_numbers" = true)
    (k_is_numbers : PySem.W.keepIn K (.ref f_is_numbers) = true)
    (a_is_sums : PySem.W.nsIn K mainGlobals ("is_sums" : Str) = some (some (.ref f_is_sums)))
    (l_is_sums : K.lookup f_is_sums = some ⟨oc_is_sums, od_is_sums, .func (PySem.W.fnOf "is_sums" "is_sums" (defArgs s_is_sums) (defBody s_is_sums) (defScope s_is_sums) .none kV_is_sums dc_is_sums pm_is_sums an_is_sums cd_is_sums ct_is_sums), sl_is_sums⟩)
    (c_is_sums : PySem.W.codeIn K cd_is_sums "is_sums" = true)
    (k_is_sums : PySem.W.keepIn K (.ref f_is_sums) = true)
    (a_need_window : PySem.W.nsIn K mainGlobals ("need_window" : Str) = some (some (.ref f_need_window)))
    (l_need_window : K.lookup f_need_window = some ⟨oc_need_window, od_need_window, .func (PySem.W.fnOf "need_window" "need_window" (defArgs s_need_window) (defBody s_need_window) (defScope s_need_window) .none kV_need_window dc_need_window pm_need_window an_need_window cd_need_window ct_need_window), sl_need_window⟩)
    (c_need_window : PySem.W.codeIn K cd_need_window "need_window" = true)
    (k_need_window : PySem.W.keepIn K (.ref f_need_window) = true)
    (a_need_sums : PySem.W.nsIn K mainGlobals ("need_sums" : Str) = some (some (.ref f_need_sums)))
    (l_need_sums : K.lookup f_need_sums = some ⟨oc_need_sums, od_need_sums, .func (PySem.W.fnOf "need_sums" "need_sums" (defArgs s_need_sums) (defBody s_need_sums) (defScope s_need_sums) .none kV_need_sums dc_need_sums pm_need_sums an_need_sums cd_need_sums ct_need_sums), sl_need_sums⟩)
    (c_need_sums : PySem.W.codeIn K cd_need_sums "need_sums" = true)
    (k_need_sums : PySem.W.keepIn K (.ref f_need_sums) = true)
    (a_shape_of : PySem.W.nsIn K mainGlobals ("shape_of" : Str) = some (some (.ref f_shape_of)))
    (l_shape_of : K.lookup f_shape_of = some ⟨oc_shape_of, od_shape_of, .func (PySem.W.fnOf "shape_of" "shape_of" (defArgs s_shape_of) (defBody s_shape_of) (defScope s_shape_of) .none kV_shape_of dc_shape_of pm_shape_of an_shape_of cd_shape_of ct_shape_of), sl_shape_of⟩)
    (c_shape_of : PySem.W.codeIn K cd_shape_of "shape_of" = true)
    (k_shape_of : PySem.W.keepIn K (.ref f_shape_of) = true)
    (a_window_shape : PySem.W.nsIn K mainGlobals ("window_shape" : Str) = some (some (.ref f_window_shape)))
    (l_window_shape : K.lookup f_window_shape = some ⟨oc_window_shape, od_window_shape, .func (PySem.W.fnOf "window_shape" "window_shape" (defArgs s_window_shape) (defBody s_window_shape) (defScope s_window_shape) .none kV_window_shape dc_window_shape pm_window_shape an_window_shape cd_window_shape ct_window_shape), sl_window_shape⟩)
    (c_window_shape : PySem.W.codeIn K cd_window_shape "window_shape" = true)
    (k_window_shape : PySem.W.keepIn K (.ref f_window_shape) = true)
    (a_lows_of : PySem.W.nsIn K mainGlobals ("lows_of" : Str) = some (some (.ref f_lows_of)))
    (l_lows_of : K.lookup f_lows_of = some ⟨oc_lows_of, od_lows_of, .func (PySem.W.fnOf "lows_of" "lows_of" (defArgs s_lows_of) (defBody s_lows_of) (defScope s_lows_of) .none kV_lows_of dc_lows_of pm_lows_of an_lows_of cd_lows_of ct_lows_of), sl_lows_of⟩)
    (c_lows_of : PySem.W.codeIn K cd_lows_of "lows_of" = true)
    (k_lows_of : PySem.W.keepIn K (.ref f_lows_of) = true)
    (a_slack_of : PySem.W.nsIn K mainGlobals ("slack_of" : Str) = some (some (.ref f_slack_of)))
    (l_slack_of : K.lookup f_slack_of = some ⟨oc_slack_of, od_slack_of, .func (PySem.W.fnOf "slack_of" "slack_of" (defArgs s_slack_of) (defBody s_slack_of) (defScope s_slack_of) .none kV_slack_of dc_slack_of pm_slack_of an_slack_of cd_slack_of ct_slack_of), sl_slack_of⟩)
    (c_slack_of : PySem.W.codeIn K cd_slack_of "slack_of" = true)
    (k_slack_of : PySem.W.keepIn K (.ref f_slack_of) = true)
    (a_choose : PySem.W.nsIn K mainGlobals ("choose" : Str) = some (some (.ref f_choose)))
    (l_choose : K.lookup f_choose = some ⟨oc_choose, od_choose, .func (PySem.W.fnOf "choose" "choose" (defArgs s_choose) (defBody s_choose) (defScope s_choose) .none kV_choose dc_choose pm_choose an_choose cd_choose ct_choose), sl_choose⟩)
    (c_choose : PySem.W.codeIn K cd_choose "choose" = true)
    (k_choose : PySem.W.keepIn K (.ref f_choose) = true)
    (a_count_of : PySem.W.nsIn K mainGlobals ("count_of" : Str) = some (some (.ref f_count_of)))
    (l_count_of : K.lookup f_count_of = some ⟨oc_count_of, od_count_of, .func (PySem.W.fnOf "count_of" "count_of" (defArgs s_count_of) (defBody s_count_of) (defScope s_count_of) .none kV_count_of dc_count_of pm_count_of an_count_of cd_count_of ct_count_of), sl_count_of⟩)
    (c_count_of : PySem.W.codeIn K cd_count_of "count_of" = true)
    (k_count_of : PySem.W.keepIn K (.ref f_count_of) = true)
    (a_bounds_of : PySem.W.nsIn K mainGlobals ("bounds_of" : Str) = some (some (.ref f_bounds_of)))
    (l_bounds_of : K.lookup f_bounds_of = some ⟨oc_bounds_of, od_bounds_of, .func (PySem.W.fnOf "bounds_of" "bounds_of" (defArgs s_bounds_of) (defBody s_bounds_of) (defScope s_bounds_of) .none kV_bounds_of dc_bounds_of pm_bounds_of an_bounds_of cd_bounds_of ct_bounds_of), sl_bounds_of⟩)
    (c_bounds_of : PySem.W.codeIn K cd_bounds_of "bounds_of" = true)
    (k_bounds_of : PySem.W.keepIn K (.ref f_bounds_of) = true)
    (a_count_limited : PySem.W.nsIn K mainGlobals ("count_limited" : Str) = some (some (.ref f_count_limited)))
    (l_count_limited : K.lookup f_count_limited = some ⟨oc_count_limited, od_count_limited, .func (PySem.W.fnOf "count_limited" "count_limited" (defArgs s_count_limited) (defBody s_count_limited) (defScope s_count_limited) .none kV_count_limited dc_count_limited pm_count_limited an_count_limited cd_count_limited ct_count_limited), sl_count_limited⟩)
    (c_count_limited : PySem.W.codeIn K cd_count_limited "count_limited" = true)
    (k_count_limited : PySem.W.keepIn K (.ref f_count_limited) = true)
    (a_ranges_limited : PySem.W.nsIn K mainGlobals ("ranges_limited" : Str) = some (some (.ref f_ranges_limited)))
    (l_ranges_limited : K.lookup f_ranges_limited = some ⟨oc_ranges_limited, od_ranges_limited, .func (PySem.W.fnOf "ranges_limited" "ranges_limited" (defArgs s_ranges_limited) (defBody s_ranges_limited) (defScope s_ranges_limited) .none kV_ranges_limited dc_ranges_limited pm_ranges_limited an_ranges_limited cd_ranges_limited ct_ranges_limited), sl_ranges_limited⟩)
    (c_ranges_limited : PySem.W.codeIn K cd_ranges_limited "ranges_limited" = true)
    (k_ranges_limited : PySem.W.keepIn K (.ref f_ranges_limited) = true)
    (a_least_limit : PySem.W.nsIn K mainGlobals ("least_limit" : Str) = some (some (.ref f_least_limit)))
    (l_least_limit : K.lookup f_least_limit = some ⟨oc_least_limit, od_least_limit, .func (PySem.W.fnOf "least_limit" "least_limit" (defArgs s_least_limit) (defBody s_least_limit) (defScope s_least_limit) .none kV_least_limit dc_least_limit pm_least_limit an_least_limit cd_least_limit ct_least_limit), sl_least_limit⟩)
    (c_least_limit : PySem.W.codeIn K cd_least_limit "least_limit" = true)
    (k_least_limit : PySem.W.keepIn K (.ref f_least_limit) = true)
    (a_count_rows : PySem.W.nsIn K mainGlobals ("count_rows" : Str) = some (some (.ref f_count_rows)))
    (l_count_rows : K.lookup f_count_rows = some ⟨oc_count_rows, od_count_rows, .func (PySem.W.fnOf "count_rows" "count_rows" (defArgs s_count_rows) (defBody s_count_rows) (defScope s_count_rows) .none kV_count_rows dc_count_rows pm_count_rows an_count_rows cd_count_rows ct_count_rows), sl_count_rows⟩)
    (c_count_rows : PySem.W.codeIn K cd_count_rows "count_rows" = true)
    (k_count_rows : PySem.W.keepIn K (.ref f_count_rows) = true)
    (a__law_deck : PySem.W.nsIn K mainGlobals ("_law_deck" : Str) = some (some (.ref f__law_deck)))
    (l__law_deck : K.lookup f__law_deck = some ⟨oc__law_deck, od__law_deck, .func (PySem.W.fnOf "_law_deck" "_law_deck" (defArgs s__law_deck) (defBody s__law_deck) (defScope s__law_deck) .none kV__law_deck dc__law_deck pm__law_deck an__law_deck cd__law_deck ct__law_deck), sl__law_deck⟩)
    (c__law_deck : PySem.W.codeIn K cd__law_deck "_law_deck" = true)
    (k__law_deck : PySem.W.keepIn K (.ref f__law_deck) = true)
    (a__law_pick : PySem.W.nsIn K mainGlobals ("_law_pick" : Str) = some (some (.ref f__law_pick)))
    (l__law_pick : K.lookup f__law_pick = some ⟨oc__law_pick, od__law_pick, .func (PySem.W.fnOf "_law_pick" "_law_pick" (defArgs s__law_pick) (defBody s__law_pick) (defScope s__law_pick) .none kV__law_pick dc__law_pick pm__law_pick an__law_pick cd__law_pick ct__law_pick), sl__law_pick⟩)
    (c__law_pick : PySem.W.codeIn K cd__law_pick "_law_pick" = true)
    (k__law_pick : PySem.W.keepIn K (.ref f__law_pick) = true)
    (a__law_name_of : PySem.W.nsIn K mainGlobals ("_law_name_of" : Str) = some (some (.ref f__law_name_of)))
    (l__law_name_of : K.lookup f__law_name_of = some ⟨oc__law_name_of, od__law_name_of, .func (PySem.W.fnOf "_law_name_of" "_law_name_of" (defArgs s__law_name_of) (defBody s__law_name_of) (defScope s__law_name_of) .none kV__law_name_of dc__law_name_of pm__law_name_of an__law_name_of cd__law_name_of ct__law_name_of), sl__law_name_of⟩)
    (c__law_name_of : PySem.W.codeIn K cd__law_name_of "_law_name_of" = true)
    (k__law_name_of : PySem.W.keepIn K (.ref f__law_name_of) = true)
    (a__law_try : PySem.W.nsIn K mainGlobals ("_law_try" : Str) = some (some (.ref f__law_try)))
    (l__law_try : K.lookup f__law_try = some ⟨oc__law_try, od__law_try, .func (PySem.W.fnOf "_law_try" "_law_try" (defArgs s__law_try) (defBody s__law_try) (defScope s__law_try) .none kV__law_try dc__law_try pm__law_try an__law_try cd__law_try ct__law_try), sl__law_try⟩)
    (c__law_try : PySem.W.codeIn K cd__law_try "_law_try" = true)
    (k__law_try : PySem.W.keepIn K (.ref f__law_try) = true)
    (a__law_one : PySem.W.nsIn K mainGlobals ("_law_one" : Str) = some (some (.ref f__law_one)))
    (l__law_one : K.lookup f__law_one = some ⟨oc__law_one, od__law_one, .func (PySem.W.fnOf "_law_one" "_law_one" (defArgs s__law_one) (defBody s__law_one) (defScope s__law_one) .none kV__law_one dc__law_one pm__law_one an__law_one cd__law_one ct__law_one), sl__law_one⟩)
    (c__law_one : PySem.W.codeIn K cd__law_one "_law_one" = true)
    (k__law_one : PySem.W.keepIn K (.ref f__law_one) = true)
    (a__law_sort : PySem.W.nsIn K mainGlobals ("_law_sort" : Str) = some (some (.ref f__law_sort)))
    (l__law_sort : K.lookup f__law_sort = some ⟨oc__law_sort, od__law_sort, .func (PySem.W.fnOf "_law_sort" "_law_sort" (defArgs s__law_sort) (defBody s__law_sort) (defScope s__law_sort) .none kV__law_sort dc__law_sort pm__law_sort an__law_sort cd__law_sort ct__law_sort), sl__law_sort⟩)
    (c__law_sort : PySem.W.codeIn K cd__law_sort "_law_sort" = true)
    (k__law_sort : PySem.W.keepIn K (.ref f__law_sort) = true)
    (a__law_same : PySem.W.nsIn K mainGlobals ("_law_same" : Str) = some (some (.ref f__law_same)))
    (l__law_same : K.lookup f__law_same = some ⟨oc__law_same, od__law_same, .func (PySem.W.fnOf "_law_same" "_law_same" (defArgs s__law_same) (defBody s__law_same) (defScope s__law_same) .none kV__law_same dc__law_same pm__law_same an__law_same cd__law_same ct__law_same), sl__law_same⟩)
    (c__law_same : PySem.W.codeIn K cd__law_same "_law_same" = true)
    (k__law_same : PySem.W.keepIn K (.ref f__law_same) = true)
    (a__law_sums : PySem.W.nsIn K mainGlobals ("_law_sums" : Str) = some (some (.ref f__law_sums)))
    (l__law_sums : K.lookup f__law_sums = some ⟨oc__law_sums, od__law_sums, .func (PySem.W.fnOf "_law_sums" "_law_sums" (defArgs s__law_sums) (defBody s__law_sums) (defScope s__law_sums) .none kV__law_sums dc__law_sums pm__law_sums an__law_sums cd__law_sums ct__law_sums), sl__law_sums⟩)
    (c__law_sums : PySem.W.codeIn K cd__law_sums "_law_sums" = true)
    (k__law_sums : PySem.W.keepIn K (.ref f__law_sums) = true)
    (a__law_row : PySem.W.nsIn K mainGlobals ("_law_row" : Str) = some (some (.ref f__law_row)))
    (l__law_row : K.lookup f__law_row = some ⟨oc__law_row, od__law_row, .func (PySem.W.fnOf "_law_row" "_law_row" (defArgs s__law_row) (defBody s__law_row) (defScope s__law_row) .none kV__law_row dc__law_row pm__law_row an__law_row cd__law_row ct__law_row), sl__law_row⟩)
    (c__law_row : PySem.W.codeIn K cd__law_row "_law_row" = true)
    (k__law_row : PySem.W.keepIn K (.ref f__law_row) = true)
    (a__law_case : PySem.W.nsIn K mainGlobals ("_law_case" : Str) = some (some (.ref f__law_case)))
    (l__law_case : K.lookup f__law_case = some ⟨oc__law_case, od__law_case, .func (PySem.W.fnOf "_law_case" "_law_case" (defArgs s__law_case) (defBody s__law_case) (defScope s__law_case) .none kV__law_case dc__law_case pm__law_case an__law_case cd__law_case ct__law_case), sl__law_case⟩)
    (c__law_case : PySem.W.codeIn K cd__law_case "_law_case" = true)
    (k__law_case : PySem.W.keepIn K (.ref f__law_case) = true)
    (a__law_all : PySem.W.nsIn K mainGlobals ("_law_all" : Str) = some (some (.ref f__law_all)))
    (l__law_all : K.lookup f__law_all = some ⟨oc__law_all, od__law_all, .func (PySem.W.fnOf "_law_all" "_law_all" (defArgs s__law_all) (defBody s__law_all) (defScope s__law_all) .none kV__law_all dc__law_all pm__law_all an__law_all cd__law_all ct__law_all), sl__law_all⟩)
    (c__law_all : PySem.W.codeIn K cd__law_all "_law_all" = true)
    (k__law_all : PySem.W.keepIn K (.ref f__law_all) = true)
    (a__law_small_right : PySem.W.nsIn K mainGlobals ("_law_small_right" : Str) = some (some (.ref f__law_small_right)))
    (l__law_small_right : K.lookup f__law_small_right = some ⟨oc__law_small_right, od__law_small_right, .func (PySem.W.fnOf "_law_small_right" "_law_small_right" (defArgs s__law_small_right) (defBody s__law_small_right) (defScope s__law_small_right) .none kV__law_small_right dc__law_small_right pm__law_small_right an__law_small_right (.ref cc__law_small_right) ct__law_small_right), sl__law_small_right⟩)
    (c__law_small_right : PySem.W.codeIn K (.ref cc__law_small_right) "_law_small_right" = true)
    (k__law_small_right : PySem.W.keepIn K (.ref f__law_small_right) = true)
    (t__law_small_right : K.lookup cc__law_small_right = some ⟨o2__law_small_right, d2__law_small_right, .fields v2__law_small_right, s2__law_small_right⟩)
    (u__law_small_right : v2__law_small_right[11]? = some (.ref P__law_small_right))
    (n__law_small_right : K.lookup P__law_small_right = none)
    (a__law_large_right : PySem.W.nsIn K mainGlobals ("_law_large_right" : Str) = some (some (.ref f__law_large_right)))
    (l__law_large_right : K.lookup f__law_large_right = some ⟨oc__law_large_right, od__law_large_right, .func (PySem.W.fnOf "_law_large_right" "_law_large_right" (defArgs s__law_large_right) (defBody s__law_large_right) (defScope s__law_large_right) .none kV__law_large_right dc__law_large_right pm__law_large_right an__law_large_right cd__law_large_right ct__law_large_right), sl__law_large_right⟩)
    (c__law_large_right : PySem.W.codeIn K cd__law_large_right "_law_large_right" = true)
    (k__law_large_right : PySem.W.keepIn K (.ref f__law_large_right) = true)
    (a_law : PySem.W.nsIn K mainGlobals ("law" : Str) = some (some (.ref f_law)))
    (l_law : K.lookup f_law = some ⟨oc_law, od_law, .func (PySem.W.fnOf "law" "law" (defArgs s_law) (defBody s_law) (defScope s_law) .none kV_law dc_law pm_law an_law (.ref cc_law) ct_law), sl_law⟩)
    (c_law : PySem.W.codeIn K (.ref cc_law) "law" = true)
    (k_law : PySem.W.keepIn K (.ref f_law) = true)
    (t_law : K.lookup cc_law = some ⟨o2_law, d2_law, .fields v2_law, s2_law⟩)
    (u_law : v2_law[11]? = some (.ref P_law))
    (n_law : K.lookup P_law = none)
    (ne__law_small_right_law : P__law_small_right ≠ P_law)
    (z_ValueError : PySem.W.nsIn K mainGlobals ("ValueError" : Str) = some none)
    (z_all : PySem.W.nsIn K mainGlobals ("all" : Str) = some none)
    (z_any : PySem.W.nsIn K mainGlobals ("any" : Str) = some none)
    (z_bool : PySem.W.nsIn K mainGlobals ("bool" : Str) = some none)
    (z_enumerate : PySem.W.nsIn K mainGlobals ("enumerate" : Str) = some none)
    (z_int : PySem.W.nsIn K mainGlobals ("int" : Str) = some none)
    (z_isinstance : PySem.W.nsIn K mainGlobals ("isinstance" : Str) = some none)
    (z_len : PySem.W.nsIn K mainGlobals ("len" : Str) = some none)
    (z_list : PySem.W.nsIn K mainGlobals ("list" : Str) = some none)
    (z_max : PySem.W.nsIn K mainGlobals ("max" : Str) = some none)
    (z_min : PySem.W.nsIn K mainGlobals ("min" : Str) = some none)
    (z_range : PySem.W.nsIn K mainGlobals ("range" : Str) = some none)
    (z_str : PySem.W.nsIn K mainGlobals ("str" : Str) = some none)
    (z_sum : PySem.W.nsIn K mainGlobals ("sum" : Str) = some none)
    (z_tuple : PySem.W.nsIn K mainGlobals ("tuple" : Str) = some none)
    (z_zip : PySem.W.nsIn K mainGlobals ("zip" : Str) = some none)
    (q_LARGEST : PySem.W.nsIn K mainGlobals ("LARGEST" : Str) = some (some (.int 1000000000 t_LARGEST)))
    (q_MOST_SUMS : PySem.W.nsIn K mainGlobals ("MOST_SUMS" : Str) = some (some (.int 40 t_MOST_SUMS)))
    (q_LONGEST : PySem.W.nsIn K mainGlobals ("LONGEST" : Str) = some (some (.int 12 t_LONGEST)))
    (xa_InvalidDay : PySem.W.nsIn K mainGlobals ("InvalidDay" : Str) = some (some (.ref C_InvalidDay)))
    (xa_InvalidIndex : PySem.W.nsIn K mainGlobals ("InvalidIndex" : Str) = some (some (.ref C_InvalidIndex)))
    (xa_InvalidMost : PySem.W.nsIn K mainGlobals ("InvalidMost" : Str) = some (some (.ref C_InvalidMost)))
    (xa_InvalidPlace : PySem.W.nsIn K mainGlobals ("InvalidPlace" : Str) = some (some (.ref C_InvalidPlace)))
    (xa_InvalidRow : PySem.W.nsIn K mainGlobals ("InvalidRow" : Str) = some (some (.ref C_InvalidRow)))
    (xa_InvalidSums : PySem.W.nsIn K mainGlobals ("InvalidSums" : Str) = some (some (.ref C_InvalidSums)))
    (xa_InvalidTold : PySem.W.nsIn K mainGlobals ("InvalidTold" : Str) = some (some (.ref C_InvalidTold)))
    (xa_InvalidWeights : PySem.W.nsIn K mainGlobals ("InvalidWeights" : Str) = some (some (.ref C_InvalidWeights)))
    (xa_InvalidWindow : PySem.W.nsIn K mainGlobals ("InvalidWindow" : Str) = some (some (.ref C_InvalidWindow)))
    (xa_NoRows : PySem.W.nsIn K mainGlobals ("NoRows" : Str) = some (some (.ref C_NoRows)))
    (xa_NothingToUndo : PySem.W.nsIn K mainGlobals ("NothingToUndo" : Str) = some (some (.ref C_NothingToUndo)))
    (xa_SumError : PySem.W.nsIn K mainGlobals ("SumError" : Str) = some (some (.ref C_SumError)))
    (xa_TooMany : PySem.W.nsIn K mainGlobals ("TooMany" : Str) = some (some (.ref C_TooMany)))
    (xa_TooShort : PySem.W.nsIn K mainGlobals ("TooShort" : Str) = some (some (.ref C_TooShort)))
    (xx_InvalidMost : PySem.W.excIn K C_InvalidMost [.type "ValueError", .type "Exception", .type "BaseException", .type "object"] "ValueError.__new__" = true)
    (xk_InvalidMost : PySem.W.keepIn K (.ref C_InvalidMost) = true)
    (xb_InvalidMost : PySem.W.subIn K (.ref C_InvalidMost) (.type "BaseException") = some true)
    (xt_InvalidMost : PySem.W.typeIn K (.ref C_InvalidMost) = some (.type "type"))
    (xx_InvalidSums : PySem.W.excIn K C_InvalidSums [.type "ValueError", .type "Exception", .type "BaseException", .type "object"] "ValueError.__new__" = true)
    (xk_InvalidSums : PySem.W.keepIn K (.ref C_InvalidSums) = true)
    (xb_InvalidSums : PySem.W.subIn K (.ref C_InvalidSums) (.type "BaseException") = some true)
    (xt_InvalidSums : PySem.W.typeIn K (.ref C_InvalidSums) = some (.type "type"))
    (xx_InvalidWindow : PySem.W.excIn K C_InvalidWindow [.type "ValueError", .type "Exception", .type "BaseException", .type "object"] "ValueError.__new__" = true)
    (xk_InvalidWindow : PySem.W.keepIn K (.ref C_InvalidWindow) = true)
    (xb_InvalidWindow : PySem.W.subIn K (.ref C_InvalidWindow) (.type "BaseException") = some true)
    (xt_InvalidWindow : PySem.W.typeIn K (.ref C_InvalidWindow) = some (.type "type"))
    (xx_NoRows : PySem.W.excIn K C_NoRows [.type "ValueError", .type "Exception", .type "BaseException", .type "object"] "ValueError.__new__" = true)
    (xk_NoRows : PySem.W.keepIn K (.ref C_NoRows) = true)
    (xb_NoRows : PySem.W.subIn K (.ref C_NoRows) (.type "BaseException") = some true)
    (xt_NoRows : PySem.W.typeIn K (.ref C_NoRows) = some (.type "type"))
    (y1_InvalidMost : PySem.W.findIn K (.ref C_InvalidMost) "__getattribute__" = some (some (.builtin "BaseException.__getattribute__")))
    (y2_InvalidMost : PySem.W.findIn K (.ref C_InvalidMost) "__getattr__" = some none)
    (y3_InvalidMost : PySem.W.subIn K (.ref C_InvalidMost) (.type "BaseException") = some true)
    (y4_InvalidMost : PySem.W.hasDictIn K C_InvalidMost = true)
    (y5_InvalidMost : PySem.W.findIn K (.ref C_InvalidMost) "__class__" = some (some (.builtin "object.__class__")))
    (y6_InvalidMost : PySem.W.specialIn K (.builtin "object.__class__") "__get__" = some (some (.builtin "getset_descriptor.__get__")))
    (y7_InvalidMost : PySem.W.takesIn K (.builtin "object.__class__") = some true)
    (y8_InvalidMost : PySem.W.mroIn K C_InvalidMost (.type "object") = some true)
    (kk_InvalidMost_InvalidRow : PySem.W.kitOne K (.ref C_InvalidMost) (.ref C_InvalidRow) = some false)
    (kk_InvalidMost_InvalidSums : PySem.W.kitOne K (.ref C_InvalidMost) (.ref C_InvalidSums) = some false)
    (kk_InvalidMost_InvalidWindow : PySem.W.kitOne K (.ref C_InvalidMost) (.ref C_InvalidWindow) = some false)
    (kk_InvalidMost_InvalidDay : PySem.W.kitOne K (.ref C_InvalidMost) (.ref C_InvalidDay) = some false)
    (kk_InvalidMost_InvalidWeights : PySem.W.kitOne K (.ref C_InvalidMost) (.ref C_InvalidWeights) = some false)
    (kk_InvalidMost_InvalidTold : PySem.W.kitOne K (.ref C_InvalidMost) (.ref C_InvalidTold) = some false)
    (kk_InvalidMost_InvalidPlace : PySem.W.kitOne K (.ref C_InvalidMost) (.ref C_InvalidPlace) = some false)
    (kk_InvalidMost_InvalidIndex : PySem.W.kitOne K (.ref C_InvalidMost) (.ref C_InvalidIndex) = some false)
    (kk_InvalidMost_InvalidMost : PySem.W.kitOne K (.ref C_InvalidMost) (.ref C_InvalidMost) = some true)
    (kk_InvalidMost_TooShort : PySem.W.kitOne K (.ref C_InvalidMost) (.ref C_TooShort) = some false)
    (kk_InvalidMost_NoRows : PySem.W.kitOne K (.ref C_InvalidMost) (.ref C_NoRows) = some false)
    (kk_InvalidMost_NothingToUndo : PySem.W.kitOne K (.ref C_InvalidMost) (.ref C_NothingToUndo) = some false)
    (kk_InvalidMost_TooMany : PySem.W.kitOne K (.ref C_InvalidMost) (.ref C_TooMany) = some false)
    (kv_InvalidMost : PySem.W.kitOne K (.ref C_InvalidMost) (.type "ValueError") = some true)
    (ex1_InvalidMost : PySem.W.exmOne K (.ref C_InvalidMost) (.ref C_TooMany) = some false)
    (ex2_InvalidMost : PySem.W.exmOne K (.ref C_InvalidMost) (.ref C_SumError) = some true)
    (y1_NoRows : PySem.W.findIn K (.ref C_NoRows) "__getattribute__" = some (some (.builtin "BaseException.__getattribute__")))
    (y2_NoRows : PySem.W.findIn K (.ref C_NoRows) "__getattr__" = some none)
    (y3_NoRows : PySem.W.subIn K (.ref C_NoRows) (.type "BaseException") = some true)
    (y4_NoRows : PySem.W.hasDictIn K C_NoRows = true)
    (y5_NoRows : PySem.W.findIn K (.ref C_NoRows) "__class__" = some (some (.builtin "object.__class__")))
    (y6_NoRows : PySem.W.specialIn K (.builtin "object.__class__") "__get__" = some (some (.builtin "getset_descriptor.__get__")))
    (y7_NoRows : PySem.W.takesIn K (.builtin "object.__class__") = some true)
    (y8_NoRows : PySem.W.mroIn K C_NoRows (.type "object") = some true)
    (kk_NoRows_InvalidRow : PySem.W.kitOne K (.ref C_NoRows) (.ref C_InvalidRow) = some false)
    (kk_NoRows_InvalidSums : PySem.W.kitOne K (.ref C_NoRows) (.ref C_InvalidSums) = some false)
    (kk_NoRows_InvalidWindow : PySem.W.kitOne K (.ref C_NoRows) (.ref C_InvalidWindow) = some false)
    (kk_NoRows_InvalidDay : PySem.W.kitOne K (.ref C_NoRows) (.ref C_InvalidDay) = some false)
    (kk_NoRows_InvalidWeights : PySem.W.kitOne K (.ref C_NoRows) (.ref C_InvalidWeights) = some false)
    (kk_NoRows_InvalidTold : PySem.W.kitOne K (.ref C_NoRows) (.ref C_InvalidTold) = some false)
    (kk_NoRows_InvalidPlace : PySem.W.kitOne K (.ref C_NoRows) (.ref C_InvalidPlace) = some false)
    (kk_NoRows_InvalidIndex : PySem.W.kitOne K (.ref C_NoRows) (.ref C_InvalidIndex) = some false)
    (kk_NoRows_InvalidMost : PySem.W.kitOne K (.ref C_NoRows) (.ref C_InvalidMost) = some false)
    (kk_NoRows_TooShort : PySem.W.kitOne K (.ref C_NoRows) (.ref C_TooShort) = some false)
    (kk_NoRows_NoRows : PySem.W.kitOne K (.ref C_NoRows) (.ref C_NoRows) = some true)
    (kk_NoRows_NothingToUndo : PySem.W.kitOne K (.ref C_NoRows) (.ref C_NothingToUndo) = some false)
    (kk_NoRows_TooMany : PySem.W.kitOne K (.ref C_NoRows) (.ref C_TooMany) = some false)
    (kv_NoRows : PySem.W.kitOne K (.ref C_NoRows) (.type "ValueError") = some true)
    (ex1_NoRows : PySem.W.exmOne K (.ref C_NoRows) (.ref C_TooMany) = some false)
    (ex2_NoRows : PySem.W.exmOne K (.ref C_NoRows) (.ref C_SumError) = some true) :
    (∀ m ∈ ([("_law_small_right", cc__law_small_right, P__law_small_right), ("law", cc_law, P_law)] : List (String × Addr × Addr)), PySem.W.tabIn K (Str.ofString m.1) = some m.2 ∧ K.lookup m.2.2 = none) ∧
    ∃ fd : FuncData, (∀ (s : Shared) (v : Value), BindsTo s fd ⟨[v], []⟩ [("script", v)]) ∧ ∀ base : Heap, K.In base → base.Ns mainGlobals mg → (∀ m ∈ ([("_law_small_right", cc__law_small_right, P__law_small_right), ("law", cc_law, P_law)] : List (String × Addr × Addr)), LamX.TabB base mg m.2.1 m.2.2) → FnOk P w K mg base (L2N.CX P w) 10 fa fd ["script"] (lawSp K (tbOf [("_law_small_right", cc__law_small_right, P__law_small_right), ("law", cc_law, P_law)]) phi_law) := by
  refine ⟨List.forall_mem_cons.mpr ⟨⟨tabIn_of a__law_small_right l__law_small_right rfl t__law_small_right u__law_small_right, n__law_small_right⟩, List.forall_mem_cons.mpr ⟨⟨tabIn_of a_law l_law rfl t_law u_law, n_law⟩, fun _ h => nomatch h⟩⟩, ?_⟩
  have e := hfa.symm.trans (PySem.W.mg_of X G a_law)
  cases e
  refine ⟨PySem.W.fnOf "law" "law" (defArgs s_law) (defBody s_law) (defScope s_law) .none kV_law dc_law pm_law an_law (.ref cc_law) ct_law, fun s v => .of_eq rfl, fun base _ _ hTB => ?_⟩
  have T : Txt ⟨P, w, K, clK K (tbOf [("_law_small_right", cc__law_small_right, P__law_small_right), ("law", cc_law, P_law)]), mg, base⟩ := { b_all := PySem.W.mg_none_of X G z_all, b_any := PySem.W.mg_none_of X G z_any, b_bool := PySem.W.mg_none_of X G z_bool, b_enumerate := PySem.W.mg_none_of X G z_enumerate, b_int := PySem.W.mg_none_of X G z_int, b_isinstance := PySem.W.mg_none_of X G z_isinstance, b_len := PySem.W.mg_none_of X G z_len, b_list := PySem.W.mg_none_of X G z_list, b_max := PySem.W.mg_none_of X G z_max, b_min := PySem.W.mg_none_of X G z_min, b_range := PySem.W.mg_none_of X G z_range, b_str := PySem.W.mg_none_of X G z_str, b_sum := PySem.W.mg_none_of X G z_sum, b_tuple := PySem.W.mg_none_of X G z_tuple, b_zip := PySem.W.mg_none_of X G z_zip, c_LARGEST := ⟨_, PySem.W.mg_of X G q_LARGEST, ⟨_, rfl⟩⟩, c_MOST_SUMS := ⟨_, PySem.W.mg_of X G q_MOST_SUMS, ⟨_, rfl⟩⟩, c_LONGEST := ⟨_, PySem.W.mg_of X G q_LONGEST, ⟨_, rfl⟩⟩, e_InvalidMost := excp_mk X G rfl xa_InvalidMost xx_InvalidMost xk_InvalidMost xb_InvalidMost xt_InvalidMost, e_InvalidSums := excp_mk X G rfl xa_InvalidSums xx_InvalidSums xk_InvalidSums xb_InvalidSums xt_InvalidSums, e_InvalidWindow := excp_mk X G rfl xa_InvalidWindow xx_InvalidWindow xk_InvalidWindow xb_InvalidWindow xt_InvalidWindow, e_NoRows := excp_mk X G rfl xa_NoRows xx_NoRows xk_NoRows xb_NoRows xt_NoRows }
  have E_InvalidMost : ErrC ⟨P, w, K, clK K (tbOf [("_law_small_right", cc__law_small_right, P__law_small_right), ("law", cc_law, P_law)]), mg, base⟩ "InvalidMost" "Most+" := { ec := by show ExcC K ((clK K _) "InvalidMost"); rw [clK_of xa_InvalidMost]; exact ⟨y1_InvalidMost, y2_InvalidMost, y3_InvalidMost, y4_InvalidMost, y5_InvalidMost, y6_InvalidMost, y7_InvalidMost, y8_InvalidMost⟩, kit := List.forall_mem_cons.mpr ⟨kit_mk xa_InvalidMost xa_InvalidRow kk_InvalidMost_InvalidRow (by decide), List.forall_mem_cons.mpr ⟨kit_mk xa_InvalidMost xa_InvalidSums kk_InvalidMost_InvalidSums (by decide), List.forall_mem_cons.mpr ⟨kit_mk xa_InvalidMost xa_InvalidWindow kk_InvalidMost_InvalidWindow (by decide), List.forall_mem_cons.mpr ⟨kit_mk xa_InvalidMost xa_InvalidDay kk_InvalidMost_InvalidDay (by decide), List.forall_mem_cons.mpr ⟨kit_mk xa_InvalidMost xa_InvalidWeights kk_InvalidMost_InvalidWeights (by decide), List.forall_mem_cons.mpr ⟨kit_mk xa_InvalidMost xa_InvalidTold kk_InvalidMost_InvalidTold (by decide), List.forall_mem_cons.mpr ⟨kit_mk xa_InvalidMost xa_InvalidPlace kk_InvalidMost_InvalidPlace (by decide), List.forall_mem_cons.mpr ⟨kit_mk xa_InvalidMost xa_InvalidIndex kk_InvalidMost_InvalidIndex (by decide), List.forall_mem_cons.mpr ⟨kit_mk xa_InvalidMost xa_InvalidMost kk_InvalidMost_InvalidMost (by decide), List.forall_mem_cons.mpr ⟨kit_mk xa_InvalidMost xa_TooShort kk_InvalidMost_TooShort (by decide), List.forall_mem_cons.mpr ⟨kit_mk xa_InvalidMost xa_NoRows kk_InvalidMost_NoRows (by decide), List.forall_mem_cons.mpr ⟨kit_mk xa_InvalidMost xa_NothingToUndo kk_InvalidMost_NothingToUndo (by decide), List.forall_mem_cons.mpr ⟨kit_mk xa_InvalidMost xa_TooMany kk_InvalidMost_TooMany (by decide), fun _ h => nomatch h⟩⟩⟩⟩⟩⟩⟩⟩⟩⟩⟩⟩⟩, val := kit_v xa_InvalidMost kv_InvalidMost, exT := exm_mk xa_InvalidMost xa_TooMany ex1_InvalidMost, exS := exm_mk xa_InvalidMost xa_SumError ex2_InvalidMost, tl := by decide +kernel, sz := by decide +kernel, sz2 := by decide +kernel }
  have E_NoRows : ErrC ⟨P, w, K, clK K (tbOf [("_law_small_right", cc__law_small_right, P__law_small_right), ("law", cc_law, P_law)]), mg, base⟩ "NoRows" "None+" := { ec := by show ExcC K ((clK K _) "NoRows"); rw [clK_of xa_NoRows]; exact ⟨y1_NoRows, y2_NoRows, y3_NoRows, y4_NoRows, y5_NoRows, y6_NoRows, y7_NoRows, y8_NoRows⟩, kit := List.forall_mem_cons.mpr ⟨kit_mk xa_NoRows xa_InvalidRow kk_NoRows_InvalidRow (by decide), List.forall_mem_cons.mpr ⟨kit_mk xa_NoRows xa_InvalidSums kk_NoRows_InvalidSums (by decide), List.forall_mem_cons.mpr ⟨kit_mk xa_NoRows xa_InvalidWindow kk_NoRows_InvalidWindow (by decide), List.forall_mem_cons.mpr ⟨kit_mk xa_NoRows xa_InvalidDay kk_NoRows_InvalidDay (by decide), List.forall_mem_cons.mpr ⟨kit_mk xa_NoRows xa_InvalidWeights kk_NoRows_InvalidWeights (by decide), List.forall_mem_cons.mpr ⟨kit_mk xa_NoRows xa_InvalidTold kk_NoRows_InvalidTold (by decide), List.forall_mem_cons.mpr ⟨kit_mk xa_NoRows xa_InvalidPlace kk_NoRows_InvalidPlace (by decide), List.forall_mem_cons.mpr ⟨kit_mk xa_NoRows xa_InvalidIndex kk_NoRows_InvalidIndex (by decide), List.forall_mem_cons.mpr ⟨kit_mk xa_NoRows xa_InvalidMost kk_NoRows_InvalidMost (by decide), List.forall_mem_cons.mpr ⟨kit_mk xa_NoRows xa_TooShort kk_NoRows_TooShort (by decide), List.forall_mem_cons.mpr ⟨kit_mk xa_NoRows xa_NoRows kk_NoRows_NoRows (by decide), List.forall_mem_cons.mpr ⟨kit_mk xa_NoRows xa_NothingToUndo kk_NoRows_NothingToUndo (by decide), List.forall_mem_cons.mpr ⟨kit_mk xa_NoRows xa_TooMany kk_NoRows_TooMany (by decide), fun _ h => nomatch h⟩⟩⟩⟩⟩⟩⟩⟩⟩⟩⟩⟩⟩, val := kit_v xa_NoRows kv_NoRows, exT := exm_mk xa_NoRows xa_TooMany ex1_NoRows, exS := exm_mk xa_NoRows xa_SumError ex2_NoRows, tl := by decide +kernel, sz := by decide +kernel, sz2 := by decide +kernel }
  have ECS : ∀ p ∈ csT, ErrC ⟨P, w, K, clK K (tbOf [("_law_small_right", cc__law_small_right, P__law_small_right), ("law", cc_law, P_law)]), mg, base⟩ p.1 p.2 := List.forall_mem_cons.mpr ⟨E_InvalidMost, List.forall_mem_cons.mpr ⟨E_NoRows, fun _ h => nomatch h⟩⟩
  have EP : ErrP ⟨P, w, K, clK K (tbOf [("_law_small_right", cc__law_small_right, P__law_small_right), ("law", cc_law, P_law)]), mg, base⟩ csT := { mgs := List.forall_mem_cons.mpr ⟨mgx_mk X G xa_SumError, List.forall_mem_cons.mpr ⟨mgx_mk X G xa_InvalidRow, List.forall_mem_cons.mpr ⟨mgx_mk X G xa_InvalidSums, List.forall_mem_cons.mpr ⟨mgx_mk X G xa_InvalidWindow, List.forall_mem_cons.mpr ⟨mgx_mk X G xa_InvalidDay, List.forall_mem_cons.mpr ⟨mgx_mk X G xa_InvalidWeights, List.forall_mem_cons.mpr ⟨mgx_mk X G xa_InvalidTold, List.forall_mem_cons.mpr ⟨mgx_mk X G xa_InvalidPlace, List.forall_mem_cons.mpr ⟨mgx_mk X G xa_InvalidIndex, List.forall_mem_cons.mpr ⟨mgx_mk X G xa_InvalidMost, List.forall_mem_cons.mpr ⟨mgx_mk X G xa_TooShort, List.forall_mem_cons.mpr ⟨mgx_mk X G xa_NoRows, List.forall_mem_cons.mpr ⟨mgx_mk X G xa_NothingToUndo, List.forall_mem_cons.mpr ⟨mgx_mk X G xa_TooMany, fun _ h => nomatch h⟩⟩⟩⟩⟩⟩⟩⟩⟩⟩⟩⟩⟩⟩, zi := PySem.W.mg_none_of X G z_isinstance, zz := PySem.W.mg_none_of X G z_zip, zv := PySem.W.mg_none_of X G z_ValueError, cs := fun c w hc => ECS (c, w) hc }
  have Y : TryD ⟨P, w, K, clK K (tbOf [("_law_small_right", cc__law_small_right, P__law_small_right), ("law", cc_law, P_law)]), mg, base⟩ csT := try_ok EP (PySem.W.mg_of X G a__law_try) (PySem.W.mg_of X G a__law_name_of) l__law_try l__law_name_of c__law_try c__law_name_of k__law_try k__law_name_of
  have M__law_small_right : MkP ⟨P, w, K, clK K (tbOf [("_law_small_right", cc__law_small_right, P__law_small_right), ("law", cc_law, P_law)]), mg, base⟩ "_law_small_right" cc__law_small_right := mk_P (mk := [("_law_small_right", cc__law_small_right, P__law_small_right), ("law", cc_law, P_law)]) rfl (hTB ("_law_small_right", cc__law_small_right, P__law_small_right) (List.mem_cons_self)) (List.mem_cons_self) (List.forall_mem_cons.mpr ⟨(fun _ => rfl), List.forall_mem_cons.mpr ⟨(fun h => absurd h ne__law_small_right_law.symm), fun _ h => nomatch h⟩⟩)
  have M_law : MkP ⟨P, w, K, clK K (tbOf [("_law_small_right", cc__law_small_right, P__law_small_right), ("law", cc_law, P_law)]), mg, base⟩ "law" cc_law := mk_P (mk := [("_law_small_right", cc__law_small_right, P__law_small_right), ("law", cc_law, P_law)]) rfl (hTB ("law", cc_law, P_law) (List.mem_cons_of_mem _ (List.mem_cons_self))) (List.mem_cons_of_mem _ (List.mem_cons_self)) (List.forall_mem_cons.mpr ⟨(fun h => absurd h ne__law_small_right_law), List.forall_mem_cons.mpr ⟨(fun _ => rfl), fun _ h => nomatch h⟩⟩)
  have d_is_from := ok_is_from T (fun_mk (st := s_is_from) l_is_from c_is_from k_is_from) (PySem.W.mg_of X G a_is_from)
  have d_is_numbers := ok_is_numbers T (fun_mk (st := s_is_numbers) l_is_numbers c_is_numbers k_is_numbers) (PySem.W.mg_of X G a_is_numbers) d_is_from
  have d_is_sums := ok_is_sums T (fun_mk (st := s_is_sums) l_is_sums c_is_sums k_is_sums) (PySem.W.mg_of X G a_is_sums) d_is_numbers
  have d_need_window := ok_need_window T (fun_mk (st := s_need_window) l_need_window c_need_window k_need_window) (PySem.W.mg_of X G a_need_window) d_is_from
  have d_need_sums := ok_need_sums T (fun_mk (st := s_need_sums) l_need_sums c_need_sums k_need_sums) (PySem.W.mg_of X G a_need_sums) d_is_sums d_need_window
  have d_shape_of := ok_shape_of T (fun_mk (st := s_shape_of) l_shape_of c_shape_of k_shape_of) (PySem.W.mg_of X G a_shape_of)
  have d_window_shape := ok_window_shape T (fun_mk (st := s_window_shape) l_window_shape c_window_shape k_window_shape) (PySem.W.mg_of X G a_window_shape) d_shape_of
  have d_lows_of := ok_lows_of T (fun_mk (st := s_lows_of) l_lows_of c_lows_of k_lows_of) (PySem.W.mg_of X G a_lows_of)
  have d_slack_of := ok_slack_of T (fun_mk (st := s_slack_of) l_slack_of c_slack_of k_slack_of) (PySem.W.mg_of X G a_slack_of) d_lows_of
  have d_choose := ok_choose T (fun_mk (st := s_choose) l_choose c_choose k_choose) (PySem.W.mg_of X G a_choose)
  have d_count_of := ok_count_of T (fun_mk (st := s_count_of) l_count_of c_count_of k_count_of) (PySem.W.mg_of X G a_count_of) d_slack_of d_choose
  have d_bounds_of := ok_bounds_of T (fun_mk (st := s_bounds_of) l_bounds_of c_bounds_of k_bounds_of) (PySem.W.mg_of X G a_bounds_of) d_need_sums d_is_from d_window_shape d_lows_of
  have d_count_limited := ok_count_limited T (fun_mk (st := s_count_limited) l_count_limited c_count_limited k_count_limited) (PySem.W.mg_of X G a_count_limited) d_bounds_of d_choose
  have d_ranges_limited := ok_ranges_limited T (fun_mk (st := s_ranges_limited) l_ranges_limited c_ranges_limited k_ranges_limited) (PySem.W.mg_of X G a_ranges_limited) d_bounds_of
  have d_least_limit := ok_least_limit T (fun_mk (st := s_least_limit) l_least_limit c_least_limit k_least_limit) (PySem.W.mg_of X G a_least_limit) d_need_sums d_count_limited
  have d_count_rows := ok_count_rows T (fun_mk (st := s_count_rows) l_count_rows c_count_rows k_count_rows) (PySem.W.mg_of X G a_count_rows) d_need_sums d_count_of d_window_shape
  have d__law_deck := ok__law_deck T (fun_mk (st := s__law_deck) l__law_deck c__law_deck k__law_deck) (PySem.W.mg_of X G a__law_deck)
  have d__law_pick := ok__law_pick T (fun_mk (st := s__law_pick) l__law_pick c__law_pick k__law_pick) (PySem.W.mg_of X G a__law_pick)
  have d__law_one := ok__law_one T (fun_mk (st := s__law_one) l__law_one c__law_one k__law_one) (PySem.W.mg_of X G a__law_one) d__law_pick
  have d__law_sort := ok__law_sort T (fun_mk (st := s__law_sort) l__law_sort c__law_sort k__law_sort) (PySem.W.mg_of X G a__law_sort)
  have d__law_same := ok__law_same T (fun_mk (st := s__law_same) l__law_same c__law_same k__law_same) (PySem.W.mg_of X G a__law_same) d__law_sort
  have d__law_sums := ok__law_sums T (fun_mk (st := s__law_sums) l__law_sums c__law_sums k__law_sums) (PySem.W.mg_of X G a__law_sums)
  have d__law_row := ok__law_row T (fun_mk (st := s__law_row) l__law_row c__law_row k__law_row) (PySem.W.mg_of X G a__law_row) d__law_one d__law_pick
  have d__law_case := ok__law_case T (fun_mk (st := s__law_case) l__law_case c__law_case k__law_case) (PySem.W.mg_of X G a__law_case) d__law_sums d__law_row d__law_pick
  have d__law_all := ok__law_all T (fun_mk (st := s__law_all) l__law_all c__law_all k__law_all) (PySem.W.mg_of X G a__law_all)
  have d__law_small_right := ok__law_small_right T (fun_mk (st := s__law_small_right) l__law_small_right c__law_small_right k__law_small_right) (PySem.W.mg_of X G a__law_small_right) Y M__law_small_right rfl d__law_same d_count_limited d_ranges_limited
  have d__law_large_right := ok__law_large_right T (fun_mk (st := s__law_large_right) l__law_large_right c__law_large_right k__law_large_right) (PySem.W.mg_of X G a__law_large_right) d__law_sums d_least_limit d__law_same d_count_limited d_ranges_limited d_count_rows
  exact fnp_of (g := ⟨P, w, K, clK K (tbOf [("_law_small_right", cc__law_small_right, P__law_small_right), ("law", cc_law, P_law)]), mg, base⟩) (fun_mk (st := s_law) l_law c_law k_law) sc_law (by decide) (body_law T Y M_law d__law_deck d__law_pick d__law_case d__law_one d__law_all d__law_small_right d_least_limit d__law_same d__law_large_right d__law_row d_count_limited d_ranges_limited) (hmk := fun c' q z => by cases z; exact ⟨rfl, rfl⟩)
end Lw
namespace Lw
open PySem PySem.Spec PyProof.Rows L2 Fx
theorem m_is_from_int {i lo hi : Int} : phi_is_from [.int i, .int lo, .int hi] = .va (.bl (decide (lo ≤ i ∧ i ≤ hi))) := by
  simp [phi_is_from, psi_is_from, fIsi, tyName, Fx.isInt, Fx.isBl]
  by_cases h : lo ≤ i <;> simp [h]
theorem m_is_numbers {ns : List Int} {a b : Int} (hb : b ≤ 1000000) : phi_is_numbers [.tup (ns.map .int), .int a, .int b] = .va (.bl (decide (a ≤ ns.length ∧ (ns.length : Int) ≤ b) && ns.all numB)) := by
  simp [phi_is_numbers, psi_is_numbers, fIsi, tyName, Fx.isTup]
  by_cases h : a ≤ (ns.length : Int) <;> simp [h]
  by_cases h2 : (ns.length : Int) ≤ b
  · rw [fLc_is T.int (fun i => T.bl (numB i)) ns ?hi ?hl ?h]
    case hi => simp
    case hl => unfold sizeLine; omega
    case h => intro i hi; simp [lcS_ap, wipeR, m_is_from_int, numB]
    simp [unwipe, wipeR, keepS, h2, show ¬ b < (ns.length : Int) by omega]
  · simp [h2, show b < (ns.length : Int) by omega]
theorem m_is_sums {ns : List Int} : phi_is_sums [.tup (ns.map .int)] = .va (.bl (okSums ns)) := by
  simp only [phi_is_sums, psi_is_sums, fnP_ap, sRet_ap]
  simp [m_is_numbers, okSums]
  rw [show decide (1 ≤ (ns.length : Int)) = decide (1 ≤ ns.length) by rw [decide_eq_decide]; omega, show decide ((ns.length : Int) ≤ 40) = decide (ns.length ≤ 40) by rw [decide_eq_decide]; omega]
theorem m_need_window {w : Nat} (h : 2 ≤ w) (h2 : w ≤ 12) : phi_need_window [.int w] = .va .non := by
  simp [phi_need_window, psi_need_window, m_is_from_int]
  omega
theorem m_need_sums {S : List Int} {w : Nat} (hS : okSums S = true) (h : 2 ≤ w) (h2 : w ≤ 12) : phi_need_sums [.tup (S.map .int), .int w] = .va .non := by
  simp [phi_need_sums, psi_need_sums, m_is_sums, m_need_window h h2, hS]
/-- a shape -/
def shapeT (D : Nat → Int) (N w : Nat) (tot : Int) : T := .tup [.lst ((List.range N).map fun d => .int (D d)), .int w, .int tot]
theorem m_shape_of {B : Nat → Int} {w N : Nat} (hw : 0 < w) (hN : w ≤ N) (hN2 : N ≤ 1000) :
    phi_shape_of [.lst ((List.range (N + 1)).map fun d => .int (B d)), .int w] = .va (shapeT (fun d => (B (d + 1) - B d) - (B (d % w + 1) - B (d % w))) N w (B w - B 0)) := by
  have hz : pairT ((List.range (N + 1)).map fun d => T.int (B d)) (cutT ((List.range (N + 1)).map fun d => T.int (B d)) (some 1) none) = (List.range N).map fun d => .tup [.int (B d), .int (B (d + 1))] := by
    rw [show (some 1 : Option Int) = some ((1 : Nat) : Int) from rfl, cutT_from]
    unfold pairT
    apply List.ext_getElem (by simp)
    intro i h1 h2
    simp
  simp [phi_shape_of, psi_shape_of]
  rw [fLc_is (fun d => T.tup [.int (B d), .int (B (d + 1))]) (fun d => T.int (B (d + 1) - B d)) (List.range N) ?hi ?hl ?h]
  case hi => simp [hz]
  case hl => simp [sizeLine]; omega
  case h => intro d hd; simp [lcS_ap, wipeR]
  simp [unwipe, wipeR, keepS]
  rw [fLc_is (fun d => T.tup [.int ((d : Nat) : Int), .int (B (d + 1) - B d)]) (fun d => T.int ((B (d + 1) - B d) - (B (d % w + 1) - B (d % w)))) (List.range N) ?hi ?hl ?h]
  case hi =>
    have := enum_tab (n := N) (f := fun d => T.int (B (d + 1) - B d))
    simp [this]
  case hl => simp [sizeLine]; omega
  case h =>
    intro d hd
    have := Nat.mod_lt d hw
    have e := atT_tab (n := N) (f := fun d => T.int (B (d + 1) - B d)) (show d % w < N by omega)
    rw [Int.natCast_emod] at e
    simp [lcS_ap, wipeR, gMod_nat hw, e]
  have e0 := atT_tab (n := N + 1) (f := fun d => T.int (B d)) (show 0 < N + 1 by omega)
  rw [Int.natCast_zero] at e0
  simp [unwipe, wipeR, keepS, sizeLine, shapeT, atT_tab (show w < N + 1 by omega), e0]
theorem m_window_shape {S : List Int} {w : Nat} (hw : 2 ≤ w) (h2 : w ≤ 100) (hS : S ≠ []) (hl : S.length ≤ 100) :
    phi_window_shape [.tup (S.map .int), .int w] = .va (shapeT (Dd S w) (dys S w) w (S.getD 0 0)) := by
  have hp := List.length_pos_iff.mpr hS
  have hrep : List.replicate w (T.int 0) = (List.range w).map fun d => T.int (Bs S w d) := by
    apply List.ext_getElem (by simp)
    intro i h1 h2
    have : i < w := by simpa using h1
    simp [Bs_lt this]
  have hloop := for_go (γ := tgT 2 (tgCons (tgN 3) (tgCons (tgN 4) tgNil))) (body := sApp 2 (fBin gAdd (fIxO 2 (fVar 3)) (fVar 4)))
    (fun k ρ => ∃ a b, ρ = [Sl.va (T.tup (S.map T.int)), Sl.va (T.int w), Sl.ow ((List.range (w + k)).map fun d => T.int (Bs S w d)), a, b])
    (pairT (numsT S.length) (S.map T.int)) 0 [Sl.va (T.tup (S.map T.int)), Sl.va (T.int w), Sl.ow ((List.range w).map fun d => T.int (Bs S w d)), Sl.no, Sl.no] ⟨_, _, rfl⟩ (fun j t ρ hj hI => by
      obtain ⟨a, b, rfl⟩ := hI
      rw [enum_ints] at hj
      have hjl : j < S.length := by simpa using (List.getElem?_eq_some_iff.mp hj).1
      rw [List.getElem?_map, List.getElem?_range hjl] at hj
      cases hj
      have e := atT_tab (n := w + (0 + j)) (f := fun d => T.int (Bs S w d)) (show j < w + (0 + j) by omega)
      simp [forS_ap, sizeLine] at e ⊢
      simp [e, show w + j < 16777216 by omega]
      rw [show w + (j + 1) = (j + w) + 1 by omega, List.range_succ, List.map_append, show w + j = j + w by omega]
      simp [Bs_add (show 0 < w by omega)])
  obtain ⟨ρ', h3, a, b, rfl⟩ := hloop
  simp [phi_window_shape, psi_window_shape, sizeLine]
  rw [if_pos (by omega), hrep]
  simp [h3]
  have h4 := m_shape_of (B := Bs S w) (w := w) (N := dys S w) (by omega) (by unfold dys; omega) (by unfold dys; omega)
  rw [show dys S w + 1 = w + S.length by unfold dys; omega] at h4
  have h5 : (pairT (numsT S.length) (S.map T.int)).length = S.length := by rw [enum_ints]; simp
  rw [h5, h4]
  have h6 : Bs S w w - Bs S w 0 = S.getD 0 0 := by
    have := Bs_add (S := S) (w := w) (d := 0) (by omega)
    rw [Nat.zero_add] at this
    rw [this]; omega
  rw [h6]
  rfl
theorem m_lows_of {D : Nat → Int} {N w : Nat} {t : Int} (hw : 0 < w) (hw2 : w ≤ 100) (hN : w ≤ N) (hN2 : N ≤ 1000) :
    phi_lows_of [shapeT D N w t] = .ow ((List.range w).map fun r => .int (lowI D w N r)) := by
  simp [phi_lows_of, psi_lows_of, shapeT]
  rw [fLc_is (fun r : Nat => T.int (r : Int)) (fun r => T.int (lowI D w N r)) (List.range w) ?hi ?hl ?h]
  case hi => exact rng1 (j := w) rfl (by omega) (by omega)
  case hl => exact le_line (by simp; omega)
  case h =>
    intro r hr
    have hr := List.mem_range.mp hr
    simp [lcS_ap, wipeR]
    rw [fLc_is (fun d : Nat => T.int (D d)) (fun d => T.int (0 - D d)) (cls w N r) ?hi2 ?hl2 ?h2]
    case hi2 =>
      have hg := gSl3_lst (xs := (List.range N).map fun d => T.int (D d)) (lo := some (r : Int)) (hi := none) (st := some (w : Int)) (by simp; omega)
      rw [pickT_cls hw (show r ≤ N by omega) hr] at hg
      simp [hg]
    case hl2 => unfold cls; rw [List.length_map, List.length_range]; exact le_line (Nat.le_trans (Nat.div_le_self _ _) (by omega))
    case h2 => intro d hd; simp [lcS_ap, wipeR]
    simp [unwipe, wipeR, keepS]
    rw [gMax_f (cls_ne hr (by omega))]
    simp [lowI]
  simp [unwipe, wipeR, keepS]
theorem m_slack_of {D : Nat → Int} {N w : Nat} {t : Int} (hw : 0 < w) (hw2 : w ≤ 100) (hN : w ≤ N) (hN2 : N ≤ 1000) :
    phi_slack_of [shapeT D N w t] = .va (.int (t - ((List.range w).map fun r => lowI D w N r).sum)) := by
  have := m_lows_of (t := t) (D := D) hw hw2 hN hN2
  unfold shapeT at this
  simp [phi_slack_of, psi_slack_of, this, shapeT, Fx.atT, L2.ixN]
def prT (a b : Int) : T := .tup [.int a, .int b]
/-- the shape of sums -/
def shT (S : List Int) (w : Nat) : T := shapeT (Dd S w) (dys S w) w (S.getD 0 0)
def rangesI (S : List Int) (w : Nat) : List T := (List.range (dys S w)).map fun d => prT (leastI S w d) (leastI S w d + slackI S w)
section
variable {S : List Int} {w : Nat} (hS : okSums S = true) (h : 2 ≤ w) (h2 : w ≤ 12)
include hS h h2
theorem m_shape : phi_window_shape [.tup (S.map .int), .int w] = .va (shT S w) := by
  obtain ⟨s1, s2, s3⟩ := okSums_iff hS
  exact m_window_shape h (by omega) s1 (by omega)
theorem m_slack_sh : phi_slack_of [shT S w] = .va (.int (slackI S w)) := by
  obtain ⟨s1, s2, s3⟩ := okSums_iff hS
  have hp := List.length_pos_iff.mpr s1
  exact m_slack_of (by omega) (by omega) (by unfold dys; omega) (by unfold dys; omega)
theorem m_lows_sh : phi_lows_of [shT S w] = .ow ((List.range w).map fun r => .int (lowI (Dd S w) w (dys S w) r)) := by
  obtain ⟨s1, s2, s3⟩ := okSums_iff hS
  have hp := List.length_pos_iff.mpr s1
  exact m_lows_of (by omega) (by omega) (by unfold dys; omega) (by unfold dys; omega)
end
def knownI (S : List Int) (w : Nat) : T := match (List.range S.length).find? fun k => decide (slackI (S.take (k + 1)) w = 0) with
  | some k => .int (1 + (k : Nat) : Int)
  | none => .non
theorem okSums_take {S : List Int} (hS : okSums S = true) {k : Nat} (hk : 0 < k) : okSums (S.take k) = true := by
  obtain ⟨s1, s2, s3⟩ := okSums_iff hS
  have hp := List.length_pos_iff.mpr s1
  unfold okSums
  rw [Bool.and_eq_true, decide_eq_true_eq, List.all_eq_true]
  refine ⟨?_, fun i hi => decide_eq_true (s3 i (List.mem_of_mem_take hi))⟩
  rw [List.length_take]; omega
theorem okSums_drop {S : List Int} (hS : okSums S = true) {k : Nat} (hk : k < S.length) : okSums (S.drop k) = true := by
  obtain ⟨s1, s2, s3⟩ := okSums_iff hS
  unfold okSums
  rw [Bool.and_eq_true, decide_eq_true_eq, List.all_eq_true]
  refine ⟨?_, fun i hi => decide_eq_true (s3 i (List.mem_of_mem_drop hi))⟩
  rw [List.length_drop]; omega
theorem kf_er {S : List Int} {w : Nat} (s2 : S.length ≤ 40) : fRange2 (fC (T.int 1)) (fBin gAdd (fCall gLen (fCons (fVar 0) fNil)) (fC (T.int 1))) [Sl.va (T.tup (S.map T.int)), Sl.va (T.int w), Sl.no] = .ok ((List.range S.length).map fun k => .int (1 + (k : Nat))) [Sl.va (T.tup (S.map T.int)), Sl.va (T.int w), Sl.no] := by
    rw [rng2 (φ := fC (T.int 1)) (i := 1) (j := (S.length : Int) + 1) (ρ1 := [Sl.va (T.tup (S.map T.int)), Sl.va (T.int w), Sl.no]) (ρ2 := [Sl.va (T.tup (S.map T.int)), Sl.va (T.int w), Sl.no]) rfl (by simp) (by omega) (by omega) (by omega) (by omega)]
    rw [show ((S.length : Int) + 1 - 1).toNat = S.length by omega]
theorem kf_st {S : List Int} {w : Nat} (hS : okSums S = true) (h : 2 ≤ w) (h2 : w ≤ 12) {k : Nat} {a : Sl} : ForK (tgN 2) (sIf (fTest (fBin gEq (fDef phi_slack_of (fCons (fDef phi_window_shape (fCons (fSl (fVar 0) fPn (fPs (fVar 2))) (fCons (fVar 1) fNil))) fNil)) (fC (.int 0)))) (sRet (fVar 2)) sNext)
   (.int (1 + (k : Nat) : Int)) [Sl.va (T.tup (S.map T.int)), Sl.va (T.int w), a] (decide (slackI (S.take (k + 1)) w = 0)) (Sl.va (T.int (1 + (k : Nat) : Int))) (fun ρ => ∃ a, ρ = [Sl.va (T.tup (S.map T.int)), Sl.va (T.int w), a]) := by
      have ok := okSums_take hS (show 0 < k + 1 by omega)
      have ec : cutT (S.map T.int) none (some (1 + (k : Int))) = (S.take (k + 1)).map T.int := by rw [show (1 : Int) + (k : Int) = ((k + 1 : Nat) : Int) by omega, cutT_to, List.map_take]
      have e1 := m_shape ok h h2
      have e2 := m_slack_sh ok h h2
      generalize slackI (S.take (k + 1)) w = z at e2 ⊢
      generalize shT (S.take (k + 1)) w = sh at e1 e2
      simp [forK_ap, ec, e1, e2, -List.map_take]
      by_cases hz : z = 0 <;> simp [hz]
end Lw
namespace Lw
open PySem PySem.Spec PyProof.Rows L2 Fx
/-- a deck that was asked at most m times -/
def Dk (m : Nat) (ts : List T) : Prop := ∃ (a b : Int) (c : Nat), ts = [.int a, .int b, .int c] ∧ 0 ≤ a ∧ 0 ≤ b ∧ b < 2147483579 ∧ c ≤ m
theorem Dk.mono {m n : Nat} {ts : List T} (h : Dk m ts) (h2 : m ≤ n) : Dk n ts := by
  obtain ⟨a, b, c, e, h3, h4, h5, h6⟩ := h
  exact ⟨a, b, c, e, h3, h4, h5, by omega⟩
theorem m_deck {cell : Int} {k : Nat} : ∃ ts, phi__law_deck [.int cell, .int k] = .ow ts ∧ Dk k ts := by
  have hp : gPow (.int 10) (.int 18) = some (.int 1000000000000000000) := rfl
  have hm : gMod (.int cell) (.int 2147483579) = some (.int (cell % 2147483579)) := gMod_int (by decide)
  have l3 := @le_line 3 (by omega)
  by_cases h : 1000000000000000000 ≤ cell
  · refine ⟨[.int (cell - 1000000000000000000), .int (cell % 2147483579), .int k], ?_, _, _, _, rfl, by omega, by omega, by omega, Nat.le_refl _⟩
    simp [phi__law_deck, psi__law_deck, hp, hm, h, l3]
  · refine ⟨[.int 0, .int (cell % 2147483579), .int k], ?_, _, _, _, rfl, by omega, by omega, by omega, Nat.le_refl _⟩
    simp [phi__law_deck, psi__law_deck, hp, hm, h, l3]
theorem gPow_int {i : Int} {j : Nat} (h : j ≤ 1000000) (h2 : i.natAbs < 2 ^ 64) : gPow (.int i) (.int (j : Nat)) = some (.int (i ^ j)) := by
  show (if (0 : Int) ≤ (j : Int) ∧ (j : Int) ≤ 1000000 ∧ i.natAbs < 2 ^ 64 then _ else _) = _
  rw [if_pos ⟨by omega, by omega, h2⟩]
  rfl
theorem gDiv_int {i j : Int} (h : 0 < j) (h2 : j.natAbs.log2 < 9000) : gDiv (.int i) (.int j) = some (.int (i / j)) := by
  show (if _ then _ else _) = _
  rw [if_pos ⟨h, h2⟩]
theorem gMul_int {i j : Int} (h : i.natAbs.log2 + j.natAbs.log2 < 1000000) : gMul (.int i) (.int j) = some (.int (i * j)) := by
  show (if _ then _ else _) = _
  rw [if_pos h]
theorem log2_small {n k : Nat} (h : n < 2 ^ k) (hk : 0 < k) : n.log2 < k := by
  by_cases h0 : n = 0
  · subst h0; simpa using hk
  · exact (Nat.log2_lt h0).mpr h
theorem m_pick {ts : List T} {m : Nat} (h : Dk m ts) (hm : m ≤ 1000000000) {n : Int} (hn : 0 < n) (hn2 : n < 2 ^ 62) :
    ∃ (r : Nat) (ts' : List T), phi__law_pick ts [.int n] = .va (.int (r : Nat)) ts' ∧ (r : Int) < n ∧ Dk (m + 1) ts' := by
  obtain ⟨a, b, c, rfl, ha, hb, hb2, hc⟩ := h
  have hlog : n.natAbs.log2 < 9000 := Nat.lt_of_lt_of_le (log2_small (k := 62) (by omega) (by decide)) (by decide)
  have e0 : ∀ x y z : T, Fx.atT [x, y, z] 0 = some x := fun _ _ _ => rfl
  have e1 : ∀ x y z : T, Fx.atT [x, y, z] 1 = some y := fun _ _ _ => rfl
  have e2 : ∀ x y z : T, Fx.atT [x, y, z] 2 = some z := fun _ _ _ => rfl
  have x0 : L2.ixN 3 0 = some 0 := rfl
  have x2 : L2.ixN 3 2 = some 2 := rfl
  by_cases h1 : 1 < a
  · have hr := Int.emod_nonneg a (show n ≠ 0 by omega)
    refine ⟨(a % n).toNat, [.int (a / n), .int b, .int c], ?_, ?_, a / n, b, c, rfl, Int.ediv_nonneg ha (by omega), hb, hb2, by omega⟩
    · rw [Int.toNat_of_nonneg hr]
      simp [phi__law_pick, psi__law_pick, e0, x0, h1, gMod_int hn, gDiv_int hn hlog]
    · rw [Int.toNat_of_nonneg hr]; exact Int.emod_lt_of_pos _ hn
  · have g1 : gMul (.int 15485867) (.int ((c : Int) + 1)) = some (.int (15485867 * ((c : Int) + 1))) := gMul_int (by
      have : ((c : Int) + 1).natAbs.log2 < 62 := log2_small (by omega) (by decide)
      have : (15485867 : Int).natAbs.log2 < 62 := by decide
      omega)
    have p1 : gPow (.int (b + 15485867 * ((c : Int) + 1))) (.int 5) = some (.int ((b + 15485867 * ((c : Int) + 1)) ^ 5)) := gPow_int (j := 5) (by omega) (by omega)
    generalize hB : (b + 15485867 * ((c : Int) + 1)) ^ 5 = B at p1
    have q1 : gMod (.int B) (.int 2147483647) = some (.int (B % 2147483647)) := gMod_int (by decide)
    have b1 := Int.emod_nonneg B (show (2147483647 : Int) ≠ 0 by decide)
    have b2 := Int.emod_lt_of_pos B (show (0 : Int) < 2147483647 by decide)
    generalize B % 2147483647 = num at q1 b1 b2
    have g2 : gMul (.int 7919) (.int ((c : Int) + 1)) = some (.int (7919 * ((c : Int) + 1))) := gMul_int (by
      have : ((c : Int) + 1).natAbs.log2 < 62 := log2_small (by omega) (by decide)
      have : (7919 : Int).natAbs.log2 < 62 := by decide
      omega)
    have p2 : gPow (.int (num + 7919 * ((c : Int) + 1))) (.int 3) = some (.int ((num + 7919 * ((c : Int) + 1)) ^ 3)) := gPow_int (j := 3) (by omega) (by omega)
    generalize (num + 7919 * ((c : Int) + 1)) ^ 3 = B2 at p2
    have q2 : gMod (.int B2) (.int 2147483629) = some (.int (B2 % 2147483629)) := gMod_int (by decide)
    have b3 := Int.emod_nonneg B2 (show (2147483629 : Int) ≠ 0 by decide)
    have b4 := Int.emod_lt_of_pos B2 (show (0 : Int) < 2147483629 by decide)
    generalize B2 % 2147483629 = n2 at q2 b3 b4
    have q3 : gDiv (.int n2) (.int 32) = some (.int (n2 / 32)) := gDiv_int (by decide) (by decide)
    have b5 : 0 ≤ n2 / 32 := by omega
    have b6 : n2 / 32 < 2147483629 := by omega
    generalize n2 / 32 = fo at q3 b5 b6
    have g3 : gMul (.int fo) (.int 2147483563) = some (.int (fo * 2147483563)) := gMul_int (by
      have : fo.natAbs.log2 < 62 := log2_small (by omega) (by decide)
      have : (2147483563 : Int).natAbs.log2 < 62 := by decide
      omega)
    by_cases h2 : 1000000 < n
    · have hr := Int.emod_nonneg (fo * 2147483563 + num) (show n ≠ 0 by omega)
      refine ⟨((fo * 2147483563 + num) % n).toNat, [.int a, .int b, .int ((c : Int) + 1)], ?_, ?_, a, b, c + 1, rfl, ha, hb, hb2, by omega⟩
      · rw [Int.toNat_of_nonneg hr]
        simp [phi__law_pick, psi__law_pick, e0, e1, e2, x0, x2, h1, g1, p1, hB, q1, g2, p2, q2, q3, h2, g3, gMod_int hn]
      · rw [Int.toNat_of_nonneg hr]; exact Int.emod_lt_of_pos _ hn
    · have hr := Int.emod_nonneg fo (show n ≠ 0 by omega)
      refine ⟨(fo % n).toNat, [.int a, .int b, .int ((c : Int) + 1)], ?_, ?_, a, b, c + 1, rfl, ha, hb, hb2, by omega⟩
      · rw [Int.toNat_of_nonneg hr]
        simp [phi__law_pick, psi__law_pick, e0, e1, e2, x0, x2, h1, g1, p1, hB, q1, g2, p2, q2, q3, h2, gMod_int hn]
      · rw [Int.toNat_of_nonneg hr]; exact Int.emod_lt_of_pos _ hn
theorem m_one {ts : List T} {m : Nat} (h : Dk m ts) (hm : m ≤ 1000000000) {xs : List T} (hx : xs ≠ []) (hl : xs.length ≤ 1000000) :
    ∃ (t : T) (ts' : List T), phi__law_one ts [.lst xs] = .va t ts' ∧ t ∈ xs ∧ Dk (m + 1) ts' := by
  have hp := List.length_pos_iff.mpr hx
  obtain ⟨r, ts', e, h1, h2⟩ := m_pick h hm (n := xs.length) (by omega) (by omega)
  have hr : r < xs.length := by omega
  refine ⟨xs[r], ts', ?_, List.getElem_mem hr, h2⟩
  have e3 := atT_nat (List.getElem?_eq_getElem hr)
  simp [phi__law_one, psi__law_one, e, e3]
theorem m_lsums {R : List Int} {w : Nat} (hw : w ≤ 100) (hl : R.length ≤ 1000) : phi__law_sums [.tup (R.map .int), .int w] = .va (.tup ((sumsI R w).map .int)) := by
  simp [phi__law_sums, psi__law_sums]
  rw [fLc_is (fun k : Nat => T.int (k : Int)) (fun k => T.int ((R.drop k).take w).sum) (List.range (R.length + 1 - w)) ?hi ?hl ?h]
  case hi => rw [rng1 (j := (R.length : Int) - w + 1) (ρ1 := [Sl.va (T.tup (List.map T.int R)), Sl.va (T.int w), Sl.no]) (by simp) (by omega) (by omega), show ((R.length : Int) - w + 1).toNat = R.length + 1 - w by omega]
  case hl => exact le_line (by simp; omega)
  case h =>
    intro k hk
    have hc : cutT (R.map T.int) (some (k : Int)) (some ((k : Int) + w)) = ((R.drop k).take w).map T.int := by
      rw [show (k : Int) + w = ((k + w : Nat) : Int) by omega, cutT_nat, show k + w - k = w by omega, List.map_take, List.map_drop]
    generalize (R.drop k).take w = X at hc ⊢
    simp [lcS_ap, wipeR, hc]
  simp [unwipe, wipeR, keepS, sumsI]
theorem Dd_add {S : List Int} {w d : Nat} (hw : 0 < w) (hd : d + w + 1 < S.length + w) : Dd S w (d + w) = Dd S w d + S.getD (d + 1) 0 - S.getD d 0 := by
  have hr := rowOf_row (S := S) hw
  rw [Dd_row hw hr hd, Dd_row hw hr (by omega), Nat.add_mod_right, rowOf_add hw]
  omega
theorem Dd_lt {S : List Int} {w d : Nat} (hd : d < w) : Dd S w d = 0 := by
  unfold Dd; rw [Nat.mod_eq_of_lt hd]; omega
/-! ### the same -/
inductive OkB : Nat → T → Prop
  | non {d} : OkB d .non
  | bl {d b} : OkB d (.bl b)
  | int {d i} : OkB d (.int i)
  | str {d x} (h : PyData.strOk x = true) : OkB d (.str x)
  | lst {d xs} (hl : xs.length ≤ 100000) (h : ∀ x ∈ xs, OkB d x) : OkB (d + 1) (.lst xs)
  | tup {d xs} (hl : xs.length ≤ 100000) (h : ∀ x ∈ xs, OkB d x) : OkB (d + 1) (.tup xs)
theorem m_sort {t : T} {d : Nat} (h : OkB d t) : ∃ k : Int, phi__law_sort [t] = .va (.int k) ∧ (¬ (3 < k ∧ k < 6) → ∀ e, OkB e t) ∧ (3 < k ∧ k < 6 → ∃ xs, (t = .lst xs ∨ t = .tup xs)) := by
  cases h with
  | non => exact ⟨6, by simp [phi__law_sort, psi__law_sort, fIsi, tyName, Fx.isBl, Fx.isInt, Fx.isStr, Fx.isLst, Fx.isTup], fun _ _ => .non, fun h => by omega⟩
  | bl => exact ⟨1, by simp [phi__law_sort, psi__law_sort, fIsi, tyName, Fx.isBl, Fx.isInt, Fx.isStr, Fx.isLst, Fx.isTup], fun _ _ => .bl, fun h => by omega⟩
  | int => exact ⟨2, by simp [phi__law_sort, psi__law_sort, fIsi, tyName, Fx.isBl, Fx.isInt, Fx.isStr, Fx.isLst, Fx.isTup], fun _ _ => .int, fun h => by omega⟩
  | str h => exact ⟨3, by simp [phi__law_sort, psi__law_sort, fIsi, tyName, Fx.isBl, Fx.isInt, Fx.isStr, Fx.isLst, Fx.isTup], fun _ _ => .str h, fun h => by omega⟩
  | lst => exact ⟨4, by simp [phi__law_sort, psi__law_sort, fIsi, tyName, Fx.isBl, Fx.isInt, Fx.isStr, Fx.isLst, Fx.isTup], fun h => absurd ⟨by decide, by decide⟩ h, fun _ => ⟨_, .inl rfl⟩⟩
  | tup => exact ⟨5, by simp [phi__law_sort, psi__law_sort, fIsi, tyName, Fx.isBl, Fx.isInt, Fx.isStr, Fx.isLst, Fx.isTup], fun h => absurd ⟨by decide, by decide⟩ h, fun _ => ⟨_, .inr rfl⟩⟩
theorem gEqB_flat {t : T} (h : ∀ e, OkB e t) : gEqB t t = some true := by
  cases h 0 with
  | non => rfl
  | bl => rename_i b; cases b <;> rfl
  | int => exact gEqB_yes .int .int rfl
  | str h' => exact gEqB_yes (.str h') (.str h') rfl
theorem m_same : ∀ (d : Nat) (t : T), OkB d t → phi__law_same (d + 1) [t, t] = .va (.bl true) := by
  intro d
  induction d with
  | zero =>
    intro t h
    obtain ⟨k, e1, e2, e3⟩ := m_sort h
    have hk : ¬ (3 < k ∧ k < 6) := fun hk => by
      obtain ⟨xs, rfl | rfl⟩ := e3 hk <;> cases h
    have e4 := gEqB_flat (e2 hk)
    by_cases h3 : 3 < k
    · simp [phi__law_same, psi__law_same, e1, h3, show ¬ k < 6 by omega, e4]
    · simp [phi__law_same, psi__law_same, e1, h3, e4]
  | succ d ih =>
    intro t h
    obtain ⟨k, e1, e2, e3⟩ := m_sort h
    by_cases hk : 3 < k ∧ k < 6
    · have main : ∀ xs : List T, itemsT t = some xs → gLen [t, ] = some (.int xs.length) → (∀ i : Int, gIx t (.int i) = Fx.atT xs i) → xs.length ≤ 100000 → (∀ x ∈ xs, OkB d x) → phi__law_same (d + 1 + 1) [t, t] = .va (.bl true) := fun xs h1 h2 h3 hl hx => by
        unfold phi__law_same
        generalize phi__law_same (d + 1) = rec at ih ⊢
        simp [psi__law_same, e1, hk.1, hk.2, h2]
        have hp : pairT (numsT xs.length) xs = (List.range xs.length).map fun i => .tup [.int (i : Nat), xs.getD i .non] := by
          conv => lhs; rw [show xs = (List.range xs.length).map fun i => xs.getD i .non from tab_list, List.length_map, List.length_range, enum_tab]
        rw [fLc_if (fun i : Nat => T.tup [.int (i : Nat), xs.getD i .non]) (fun i : Nat => T.int (i : Nat)) (fun _ => false) (List.range xs.length) ?hi ?hl ?h]
        case hi => simp [h1, hp]
        case hl => exact le_line (by simpa using hl)
        case h =>
          intro i hi
          have hi := List.mem_range.mp hi
          have hg : xs.getD i .non = xs[i] := by simp [hi]
          rw [hg]
          have e5 := atT_nat (List.getElem?_eq_getElem hi)
          have e6 := ih xs[i] (hx _ (List.getElem_mem hi))
          generalize xs[i] = x at e5 e6 ⊢
          simp [lcF_ap, wipeR, h3, e5, e6]
        have l0 := @le_line 0 (by omega)
        have hf : (List.range xs.length).filter (fun _ => false) = [] := by simp
        rw [hf]
        simp [l0, unwipe, wipeR, keepS]
        rw [gEqB_yes (.lst (d := 63) (fun _ h => by cases h)) (.lst (d := 63) (fun _ h => by cases h)) rfl]
        simp
      cases h with
      | lst hl hx => exact main _ rfl rfl (fun _ => rfl) hl hx
      | tup hl hx => exact main _ rfl rfl (fun _ => rfl) hl hx
      | _ => obtain ⟨xs, h | h⟩ := e3 hk <;> cases h
    · have e4 := gEqB_flat (e2 hk)
      by_cases h3 : 3 < k
      · simp [phi__law_same, psi__law_same, e1, h3, show ¬ k < 6 by omega, e4]
      · simp [phi__law_same, psi__law_same, e1, h3, e4]
theorem m_row {ts : List T} {m : Nat} (h : Dk m ts) (hm : m ≤ 100000000) {few many wide : Nat} (h1 : few ≤ many) (h2 : many ≤ 1000) (h3 : 1 ≤ wide) (h4 : wide ≤ 1000000000) :
    ∃ (R : List Int) (ts' : List T), phi__law_row ts [.int few, .int many, .int wide] = .va (.tup (R.map .int)) ts' ∧ few ≤ R.length ∧ R.length ≤ many ∧ (∀ v ∈ R, 0 ≤ v ∧ v ≤ wide) ∧ Dk (m + 2 + 3 * many) ts' := by
  have l4 := @le_line 4 (by omega)
  have l0 := @le_line 0 (by omega)
  have hd : gDiv (.int wide) (.int 3) = some (.int ((wide : Int) / 3)) := gDiv_int (by decide) (by decide)
  have hM : gMax [.int 1, .int ((wide : Int) / 3)] = some (.int (if (wide : Int) / 3 > 1 then (wide : Int) / 3 else 1)) := rfl
  generalize hMM : (if (wide : Int) / 3 > 1 then (wide : Int) / 3 else 1) = M at hM
  have hM1 : 1 ≤ M ∧ M ≤ wide := by
    rw [← hMM]; split <;> omega
  obtain ⟨t, ts1, e1, m1, d1⟩ := m_one h (by omega) (xs := [.int 1, .int wide, .int wide, .int M]) (by simp) (by simp)
  obtain ⟨top, rfl, ht1, ht2⟩ : ∃ v : Int, t = .int v ∧ 1 ≤ v ∧ v ≤ wide := by
    simp at m1
    rcases m1 with rfl | rfl | rfl
    · exact ⟨1, rfl, by omega, by omega⟩
    · exact ⟨_, rfl, by omega, by omega⟩
    · exact ⟨M, rfl, hM1.1, hM1.2⟩
  obtain ⟨r, ts2, e2, hr, d2⟩ := m_pick d1 (by omega) (n := (many : Int) - few + 1) (by omega) (by omega)
  obtain ⟨ρ', h5, tsx, R, a, rfl, dx, hR, hv⟩ := for_go (γ := tgN 6) (body := sApp 5 (fDef1 0 phi__law_one (fCons (fFz (fLst (fCons (fDef1 0 phi__law_pick (fCons (fBin gAdd (fVar 4) (fC (.int 1))) fNil)) (fCons (fDef1 0 phi__law_pick (fCons (fBin gAdd (fVar 4) (fC (.int 1))) fNil)) (fCons (fC (.int 0)) (fCons (fVar 3) fNil)))))) fNil)))
    (fun k ρ => ∃ (tsx : List T) (R : List Int) (a : Sl), ρ = [.ow tsx, .va (.int few), .va (.int many), .va (.int wide), .va (.int top), .ow (R.map T.int), a] ∧ Dk (m + 2 + 3 * k) tsx ∧ R.length = k ∧ ∀ v ∈ R, 0 ≤ v ∧ v ≤ wide)
    ((List.range (few + r)).map fun k : Nat => T.int (k : Int)) 0 _ ⟨ts2, [], .no, rfl, d2, rfl, fun v hv => by cases hv⟩ (fun j t ρ hj hI => by
      obtain ⟨tsx, R, a, rfl, dx, hR, hv⟩ := hI
      have hjl : j < few + r := by simpa using (List.getElem?_eq_some_iff.mp hj).1
      obtain ⟨r1, ts3, e3, hr1, d3⟩ := m_pick dx (by omega) (n := top + 1) (by omega) (by omega)
      obtain ⟨r2, ts4, e4, hr2, d4⟩ := m_pick d3 (by omega) (n := top + 1) (by omega) (by omega)
      obtain ⟨t5, ts5, e5, m5, d5⟩ := m_one d4 (by omega) (xs := [.int r1, .int r2, .int 0, .int wide]) (by simp) (by simp)
      obtain ⟨v5, rfl, hv1, hv2⟩ : ∃ v : Int, t5 = .int v ∧ 0 ≤ v ∧ v ≤ wide := by
        simp at m5
        rcases m5 with rfl | rfl | rfl | rfl
        · exact ⟨_, rfl, by omega, by omega⟩
        · exact ⟨_, rfl, by omega, by omega⟩
        · exact ⟨0, rfl, by omega, by omega⟩
        · exact ⟨_, rfl, by omega, by omega⟩
      have lR := @lt_line R.length (by omega)
      simp [forS_ap, e3, e4, e5, l4, lR]
      exact ⟨ts5, R ++ [v5], ⟨rfl, by simp⟩, by rw [show m + 2 + 3 * (j + 1) = m + 2 + 3 * (0 + j) + 1 + 1 + 1 by omega]; exact d5, by simp; omega, fun v hx => by
        rcases List.mem_append.mp hx with hx | hx
        · exact hv v hx
        · rw [List.mem_singleton.mp hx]; exact ⟨hv1, hv2⟩⟩)
  have er := rng1 (φ := fBin gAdd (fVar 1) (fDef1 0 phi__law_pick (fCons (fBin gAdd (fBin gSub (fVar 2) (fVar 1)) (fC (.int 1))) fNil))) (ρ := [.ow ts1, .va (.int few), .va (.int many), .va (.int wide), .va (.int top), .ow [], .no]) (ρ1 := [.ow ts2, .va (.int few), .va (.int many), .va (.int wide), .va (.int top), .ow [], .no]) (j := (few : Int) + r) (by simp [e2]) (by omega) (by omega)
  rw [show ((few : Int) + r).toNat = few + r by omega] at er
  have hlen : 0 + ((List.range (few + r)).map fun k : Nat => T.int (k : Int)).length = few + r := by simp
  rw [hlen] at dx hR
  refine ⟨R, tsx, ?_, by omega, by omega, hv, dx.mono (by omega)⟩
  simp [phi__law_row, psi__law_row, hd, hM, l4, e1, l0, -fRange1_ap]
  rw [er]
  simp at h5 ⊢
  simp [h5]
end Lw
namespace Lw
open PySem PySem.Spec PyProof.Rows L2 Fx
theorem log2_nat {n k : Nat} (h : n < 2 ^ k) (hk : 0 < k) : ((n : Nat) : Int).natAbs.log2 < k := by rw [Int.natAbs_natCast]; exact log2_small h hk
theorem m_choose {n k : Nat} (hn : n < 2 ^ 40) (hk : k ≤ 100) : phi_choose [.int n, .int k] = .va (.int (ch n k : Nat)) := by
  by_cases h : n < k
  · simp [phi_choose, psi_choose, h, ch_lt h]
  · obtain ⟨ρ', h3, a, rfl⟩ := for_go (γ := tgN 3) (body := sSet 2 (fBin gDiv (fBin gMul (fVar 2) (fBin gSub (fVar 0) (fVar 3))) (fBin gAdd (fVar 3) (fC (.int 1)))))
      (fun j ρ => ∃ a, ρ = [Sl.va (.int n), .va (.int k), .va (.int (ch n j : Nat)), a]) ((List.range k).map fun j : Nat => T.int (j : Int)) 0 [Sl.va (.int n), .va (.int k), .va (.int 1), .no] ⟨.no, by simp⟩ (fun j t ρ hj hI => by
        obtain ⟨a, rfl⟩ := hI
        have hjl : j < k := by simpa using (List.getElem?_eq_some_iff.mp hj).1
        rw [List.getElem?_map, List.getElem?_range hjl] at hj
        cases hj
        have l1 := ch_log (n := n) (k := 0 + j) hn (by omega)
        have l2 : ((n : Int) - (j : Int)).natAbs.log2 < 40 := log2_small (by omega) (by decide)
        have g1 : gMul (.int (ch n (0 + j) : Nat)) (.int ((n : Int) - (j : Int))) = some (.int ((ch n (0 + j) : Nat) * ((n : Int) - (j : Int)))) := gMul_int (by
          rw [Int.natAbs_natCast]; omega)
        have g2 : gDiv (.int ((ch n (0 + j) : Nat) * ((n : Int) - (j : Int)))) (.int ((j : Int) + 1)) = some (.int (ch n (0 + j + 1) : Nat)) := by
          rw [gDiv_int (by omega) (Nat.lt_of_lt_of_le (log2_small (k := 62) (by omega) (by decide)) (by decide))]
          have e := ch_step (n := n) (k := 0 + j)
          have e2 : ((ch n (0 + j) : Nat) * ((n : Int) - (j : Int)) : Int) = (ch n (0 + j + 1) : Nat) * ((j : Int) + 1) := by
            rw [show (n : Int) - (j : Int) = ((n - (0 + j) : Nat) : Int) by omega, show (j : Int) + 1 = ((0 + j + 1 : Nat) : Int) by omega, ← Int.natCast_mul, ← Int.natCast_mul, e]
          rw [e2, Int.mul_ediv_cancel _ (by omega)]
        simp [forS_ap, g1, g2] at g1 g2 ⊢
        simp [g1, g2])
    have er := rng1 (φ := fVar 1) (ρ := [Sl.va (.int n), .va (.int k), .va (.int 1), .no]) (ρ1 := [Sl.va (.int n), .va (.int k), .va (.int 1), .no]) (j := (k : Int)) (by simp) (by omega) (by omega)
    rw [Int.toNat_natCast] at er
    simp at h3
    simp [phi_choose, psi_choose, h, -fRange1_ap, show ¬ (k : Int) < 0 by omega]
    rw [er]
    simp [h3]
/-- the number of rows -/
def countI (s : Int) (w : Nat) : Int := if 0 ≤ s then (ch (s.toNat + w - 1) (w - 1) : Nat) else 0
theorem count_mono {s t : Int} {w : Nat} (h : s ≤ t) : countI s w ≤ countI t w := by
  unfold countI
  by_cases h0 : 0 ≤ s
  · rw [if_pos h0, if_pos (by omega)]
    have := ch_mono (m := s.toNat + w - 1) (n := t.toNat + w - 1) (k := w - 1) (by omega)
    omega
  · rw [if_neg h0]; split <;> omega
theorem m_count_of {D : Nat → Int} {N w : Nat} {t : Int} (hw : 0 < w) (hw2 : w ≤ 100) (hN : w ≤ N) (hN2 : N ≤ 1000) (hs : t - ((List.range w).map fun r => lowI D w N r).sum < 2 ^ 39) :
    phi_count_of [shapeT D N w t] = .va (.int (countI (t - ((List.range w).map fun r => lowI D w N r).sum) w)) := by
  have h2 := m_slack_of (t := t) (D := D) (w := w) (N := N) hw hw2 hN hN2
  generalize hss : t - ((List.range w).map fun r => lowI D w N r).sum = s at h2 hs ⊢
  unfold shapeT at h2
  have e1 : ∀ x y z : T, Fx.atT [x, y, z] 1 = some y := fun _ _ _ => rfl
  unfold countI
  by_cases h0 : 0 ≤ s
  · have hc := m_choose (n := s.toNat + w - 1) (k := w - 1) (by omega) (by omega)
    rw [show ((s.toNat + w - 1 : Nat) : Int) = s + w - 1 by omega, show ((w - 1 : Nat) : Int) = (w : Int) - 1 by omega] at hc
    simp [phi_count_of, psi_count_of, h2, shapeT, h0, e1, hc]
  · simp [phi_count_of, psi_count_of, h2, shapeT, h0]
section
variable {S : List Int} {w : Nat} (hS : okSums S = true) (h : 2 ≤ w) (h2 : w ≤ 12)
include hS h h2
theorem slack_le : slackI S w ≤ S.getD 0 0 := by
  obtain ⟨s1, s2, s3⟩ := okSums_iff hS
  have hp := List.length_pos_iff.mpr s1
  have := slack_cut (w := w) (s := 0) (l := 1) (S := S) (by omega) (rowOf_row (by omega)) (by omega) (by omega)
  rw [slack_one (by omega) (cutI_len (by omega)), cutI_get (by omega) (by omega)] at this
  simpa using this
theorem slack_small : slackI S w ≤ 1000000000 := by
  obtain ⟨s1, s2, s3⟩ := okSums_iff hS
  have hp := List.length_pos_iff.mpr s1
  refine Int.le_trans (slack_le hS h h2) ?_
  have := s3 (S.getD 0 0) (by simp [List.getD_eq_getElem?_getD, hp])
  exact this.2
theorem m_count_sh : phi_count_of [shT S w] = .va (.int (countI (slackI S w) w)) := by
  obtain ⟨s1, s2, s3⟩ := okSums_iff hS
  have hp := List.length_pos_iff.mpr s1
  exact m_count_of (by omega) (by omega) (by unfold dys; omega) (by unfold dys; omega) (by have := slack_small hS h h2; unfold slackI at this; omega)
theorem m_count_rows : phi_count_rows [.tup (S.map .int), .int w] = .va (.int (countI (slackI S w) w)) := by
  simp [phi_count_rows, psi_count_rows, m_need_sums hS h h2, m_shape hS h h2, m_count_sh hS h h2]
end
theorem gMax2 {i j : Int} : gMax [.int i, .int j] = some (.int (if j > i then j else i)) := rfl
theorem gMin2 {i j : Int} : gMin [.int i, .int j] = some (.int (if j < i then j else i)) := rfl
theorem at_ints {S : List Int} {i : Nat} (h : i < S.length) : Fx.atT (S.map T.int) (i : Int) = some (.int (S.getD i 0)) := by
  rw [tab_ints]; exact atT_tab h
theorem getD_mem {S : List Int} {i : Nat} (h : i < S.length) : S.getD i 0 ∈ S := by simp [List.getD_eq_getElem?_getD, h]
theorem m_case {ts : List T} {m : Nat} (hd : Dk m ts) (hm : m ≤ 10000000) {days w wide : Nat} (hw : 2 ≤ w) (hw2 : w ≤ 12) (hdy : days ≤ 100) (h3 : 1 ≤ wide) (h4 : wide ≤ 10000000) :
    ∃ (S : List Int) (ts' : List T), phi__law_case ts [.int days, .int w, .int wide] = .va (.tup (S.map .int)) ts' ∧ okSums S = true ∧ (S.length + w ≤ max w days + 1) ∧ (∀ v ∈ S, 0 ≤ v ∧ v ≤ (w + 1) * wide) ∧ Dk (m + 500) ts' := by
  obtain ⟨D, hD⟩ : ∃ D : Nat, D = max w days := ⟨_, rfl⟩
  obtain ⟨R, ts1, e1, hR1, hR2, hR3, d1⟩ := m_row hd (by omega) (few := w) (many := D) (wide := wide) (by omega) (by omega) h3 (by omega)
  have hmx : gMax [.int (w : Int), .int (days : Int)] = some (.int (D : Int)) := by
    rw [gMax2, hD]; congr 2; split <;> omega
  have e2 := m_lsums (R := R) (w := w) (by omega) (by omega)
  have ec : cutT ((sumsI R w).map T.int) none (some 40) = ((sumsI R w).take 40).map T.int := by
    rw [show (some 40 : Option Int) = some ((40 : Nat) : Int) from rfl, cutT_to, List.map_take]
  have hb0 := sumsI_bounds (R := R) (w := w) (c := wide) hR3 (by omega)
  have hl0 := sumsI_len (R := R) (w := w)
  generalize sumsI R w = S0 at e2 ec hb0 hl0
  obtain ⟨S1, hS1⟩ : ∃ S1, S1 = S0.take 40 := ⟨_, rfl⟩
  have hl1 : S1.length = min 40 S0.length := by rw [hS1]; simp
  have hb1 : ∀ v ∈ S1, 0 ≤ v ∧ v ≤ w * wide := fun v hv => hb0 v (List.mem_of_mem_take (by rw [← hS1]; exact hv))
  rw [← hS1] at ec
  obtain ⟨at_, ts2, e3, hat, d2⟩ := m_pick d1 (by omega) (n := S1.length) (by omega) (by omega)
  obtain ⟨p, ts3, e4, hp, d3⟩ := m_pick d2 (by omega) (n := 2 * (wide : Int) + 1) (by omega) (by omega)
  obtain ⟨q, ts4, e5, hq, d4⟩ := m_pick d3 (by omega) (n := 4) (by omega) (by omega)
  have hat' : at_ < S1.length := by omega
  have e6 := at_ints hat'
  have hv := hb1 _ (getD_mem hat')
  generalize S1.getD at_ 0 = v0 at e6 hv
  have hg2 : gMul (.int 2) (.int (wide : Int)) = some (.int (2 * (wide : Int))) := gMul_int (by
    have a := log2_nat (n := wide) (k := 62) (by omega) (by decide)
    have b : (2 : Int).natAbs.log2 < 62 := by decide
    omega)
  have hc := gMax2 (i := 0) (j := v0 + (p : Int) - wide)
  generalize hC : (if v0 + (p : Int) - wide > 0 then v0 + (p : Int) - wide else 0) = C at hc
  have hmul : ((w : Int) + 1) * wide = w * wide + wide := by rw [Int.add_mul, Int.one_mul]
  have hw12 : (w : Int) * wide ≤ 12 * wide := Int.mul_le_mul_of_nonneg_right (by omega) (by omega)
  have hw0 : 0 ≤ (w : Int) * wide := Int.mul_nonneg (by omega) (by omega)
  have hC1 : 0 ≤ C ∧ C ≤ (w + 1) * wide := by
    rw [hmul]; subst hC; split <;> omega
  have ea : cutT (S1.map T.int) none (some (at_ : Int)) = (S1.take at_).map T.int := by rw [cutT_to, List.map_take]
  have eb : cutT (S1.map T.int) (some ((at_ : Int) + 1)) none = (S1.drop (at_ + 1)).map T.int := by
    rw [show (at_ : Int) + 1 = ((at_ + 1 : Nat) : Int) by omega, cutT_from, List.map_drop]
  have l1 := @le_line 1 (by omega)
  have ga : gAdd (.tup ((S1.take at_).map T.int)) (.tup [.int C]) = some (.tup ((S1.take at_).map T.int ++ [.int C])) := gAdd_tup (by simp; exact le_line (by omega))
  have gb : gAdd (.tup ((S1.take at_).map T.int ++ [.int C])) (.tup ((S1.drop (at_ + 1)).map T.int)) = some (.tup ((S1.take at_).map T.int ++ [.int C] ++ (S1.drop (at_ + 1)).map T.int)) := gAdd_tup (by simp; exact le_line (by omega))
  obtain ⟨S2, hS2⟩ : ∃ S2, S2 = S1.take at_ ++ [C] ++ S1.drop (at_ + 1) := ⟨_, rfl⟩
  have hl2 : S2.length = S1.length := by rw [hS2]; simp; omega
  have hb2 : ∀ v ∈ S2, 0 ≤ v ∧ v ≤ (w + 1) * wide := fun v hv => by
    rw [hS2] at hv
    rcases List.mem_append.mp hv with hv | hv
    · rcases List.mem_append.mp hv with hv | hv
      · have := hb1 v (List.mem_of_mem_take hv); rw [hmul]; omega
      · rw [List.mem_singleton.mp hv]; exact hC1
    · have := hb1 v (List.mem_of_mem_drop hv); rw [hmul]; omega
  have hmap : (S1.take at_).map T.int ++ [.int C] ++ (S1.drop (at_ + 1)).map T.int = S2.map T.int := by rw [hS2]; simp
  rw [hmap] at gb
  by_cases hq0 : q = 0
  · subst hq0
    refine ⟨S2, ts4, ?_, okSums_mk (by omega) (by omega) fun i hi => ⟨(hb2 i hi).1, by have := (hb2 i hi).2; rw [hmul] at this; omega⟩, by omega, hb2, d4.mono (by omega)⟩
    have hx : ((S1.map T.int).length : Int) = S1.length := by simp
    generalize S1.map T.int = X1 at *
    generalize (S1.take at_).map T.int = X2 at *
    generalize (S1.drop (at_ + 1)).map T.int = X3 at *
    simp [phi__law_case, psi__law_case, hmx, e1, e2, ec, hx, e3, e6, hg2, e4, hc, e5, ea, eb, l1, ga, gb]
  · refine ⟨S1, ts4, ?_, okSums_mk (by omega) (by omega) fun i hi => ⟨(hb1 i hi).1, by have := (hb1 i hi).2; omega⟩, by omega, fun v hv => ⟨(hb1 v hv).1, by have := (hb1 v hv).2; rw [hmul]; omega⟩, d4.mono (by omega)⟩
    have hx : ((S1.map T.int).length : Int) = S1.length := by simp
    generalize S1.map T.int = X1 at *
    simp [phi__law_case, psi__law_case, hmx, e1, e2, ec, hx, e3, e6, hg2, e4, hc, e5, hq0]
end Lw
namespace Lw
open PySem PySem.Spec PyProof.Rows L2 Fx
theorem gMul_small {i j : Int} (h : i.natAbs < 2 ^ 100) (h2 : j.natAbs < 2 ^ 100) : gMul (.int i) (.int j) = some (.int (i * j)) := gMul_int (by
  have a := log2_small h (by decide)
  have b := log2_small h2 (by decide)
  omega)
theorem Bs_bd {S : List Int} {w : Nat} (hw : 0 < w) (hS : ∀ v ∈ S, 0 ≤ v ∧ v ≤ 1000000000) : ∀ d, 0 ≤ Bs S w d ∧ Bs S w d ≤ d * 1000000000 := by
  intro d
  induction d using Nat.strongRecOn with
  | ind d ih =>
    by_cases h : d < w
    · rw [Bs_lt h]; omega
    · obtain ⟨e, rfl⟩ : ∃ e, d = e + w := ⟨d - w, by omega⟩
      rw [Bs_add hw]
      have h1 := ih e (by omega)
      have h2 : 0 ≤ S.getD e 0 ∧ S.getD e 0 ≤ 1000000000 := by
        by_cases he : e < S.length
        · exact hS _ (getD_mem he)
        · rw [List.getD_eq_getElem?_getD, List.getElem?_eq_none (by omega)]; decide
      omega
theorem Dd_bd {S : List Int} {w d : Nat} (hw : 0 < w) (hS : okSums S = true) (hd : d < 1000) : (Dd S w d).natAbs < 2 ^ 60 := by
  obtain ⟨_, _, s3⟩ := okSums_iff hS
  have hm := Nat.mod_lt d hw
  have hle := Nat.mod_le d w
  have b1 := Bs_bd hw s3 (d + 1)
  have b2 := Bs_bd hw s3 d
  have b3 := Bs_bd hw s3 (d % w + 1)
  have b4 := Bs_bd hw s3 (d % w)
  unfold Dd Fx.St
  omega
theorem maxI_bd {xs : List Int} {c : Nat} (h : ∀ x ∈ xs, x.natAbs < c) (hc : 0 < c) : (maxI xs).natAbs < c := by
  by_cases hx : xs = []
  · subst hx; exact hc
  · exact h _ (maxI_mem hx)
theorem minI_bd {xs : List Int} {c : Nat} (h : ∀ x ∈ xs, x.natAbs < c) (hc : 0 < c) : (minI xs).natAbs < c := by
  by_cases hx : xs = []
  · subst hx; exact hc
  · exact h _ (minI_mem hx)
theorem sum_bd {xs : List Int} {c : Nat} (h : ∀ x ∈ xs, x.natAbs ≤ c) : xs.sum.natAbs ≤ xs.length * c := by
  induction xs with
  | nil => simp
  | cons x xs ih =>
    have h1 := h x List.mem_cons_self
    have h2 := ih fun y hy => h y (List.mem_cons_of_mem _ hy)
    rw [List.sum_cons, List.length_cons, Nat.add_mul, Nat.one_mul]
    omega
theorem cls_len {w N r : Nat} (hw : 0 < w) : (cls w N r).length ≤ N + w := by
  unfold cls
  rw [List.length_map, List.length_range]
  exact Nat.le_trans (Nat.div_le_self _ _) (by omega)
theorem low_bd {D : Nat → Int} {w N r : Nat} (hr : r < w) (hD : ∀ d < N, (D d).natAbs < 2 ^ 60) : (lowI D w N r).natAbs < 2 ^ 60 := by
  unfold lowI
  refine maxI_bd (fun x hx => ?_) (by decide)
  obtain ⟨d, hd, rfl⟩ := List.mem_map.mp hx
  have := hD d ((mem_cls hr).mp hd).1
  omega
theorem head_bd {W : Nat → Int} {w N r : Nat} (hr : r < w) (hN : N ≤ 1000) (hw : w ≤ 100) (hW : ∀ d < N, (W d).natAbs ≤ 2 ^ 40) : (headI W w N r).natAbs < 2 ^ 60 := by
  unfold headI
  have h := sum_bd (xs := (cls w N r).map W) (c := 2 ^ 40) fun x hx => by
    obtain ⟨d, hd, rfl⟩ := List.mem_map.mp hx
    exact hW d ((mem_cls hr).mp hd).1
  rw [List.length_map] at h
  have := cls_len (w := w) (N := N) (r := r) (by omega)
  have : (cls w N r).length * 2 ^ 40 ≤ 1100 * 2 ^ 40 := Nat.mul_le_mul_right _ (by omega)
  omega
def spanI (W : Nat → Int) (D L : Nat → Int) (N w : Nat) (s : Int) : T :=
  prT (((List.range N).map fun d => W d * (L (d % w) + D d)).sum + minI ((List.range w).map fun r => headI W w N r) * s) (((List.range N).map fun d => W d * (L (d % w) + D d)).sum + maxI ((List.range w).map fun r => headI W w N r) * s)
/-- the marks of the days from start to stop - 1 -/
def markI (a b : Nat) (d : Nat) : Int := if a ≤ d ∧ d < b then 1 else 0
def totalI (S : List Int) (w a b : Nat) : T := prT (fixI (markI a b) S w + minI ((List.range w).map fun r => headI (markI a b) w (dys S w) r) * slackI S w) (fixI (markI a b) S w + maxI ((List.range w).map fun r => headI (markI a b) w (dys S w) r) * slackI S w)
theorem gInt1_bl {b : Bool} : gInt1 [.bl b] = some (.int (if b then 1 else 0)) := by cases b <;> rfl
end Lw
namespace Lw
open PySem PySem.Spec PyProof.Rows L2 Fx
def tupN (h : List Nat) : T := .tup (h.map fun a : Nat => .int (a : Int))
/-- the next days of a head -/
def extN (n w j : Nat) (h : List Nat) : List Nat := if j + 1 = w then [n - h.sum] else List.range (n - h.sum + 1)
/-- the heads of so many days -/
def preN (n w : Nat) : Nat → List (List Nat)
  | 0 => [[]]
  | j + 1 => (preN n w j).flatMap fun h => (extN n w j h).map fun a => h ++ [a]
theorem preN_ok {n w : Nat} : ∀ {j : Nat}, j ≤ w → ∀ h ∈ preN n w j, h.length = j ∧ h.sum ≤ n
  | 0, _, h, hm => by
    rw [show preN n w 0 = [[]] from rfl, List.mem_singleton] at hm
    subst hm; simp
  | j + 1, hj, h, hm => by
    rw [show preN n w (j + 1) = (preN n w j).flatMap fun h => (extN n w j h).map fun a => h ++ [a] from rfl, List.mem_flatMap] at hm
    obtain ⟨g, hg, hm⟩ := hm
    obtain ⟨a, ha, rfl⟩ := List.mem_map.mp hm
    obtain ⟨h1, h2⟩ := preN_ok (by omega) g hg
    refine ⟨by simp [h1], ?_⟩
    rw [List.sum_append]
    simp only [List.sum_cons, List.sum_nil]
    unfold extN at ha
    split at ha
    · rw [List.mem_singleton] at ha; omega
    · have := List.mem_range.mp ha; omega
theorem preN_len {n w : Nat} (hn : n ≤ 40) : ∀ {j : Nat}, (preN n w j).length ≤ 41 ^ j
  | 0 => by simp [preN]
  | j + 1 => by
    have ih := preN_len (w := w) hn (j := j)
    rw [show preN n w (j + 1) = (preN n w j).flatMap fun h => (extN n w j h).map fun a => h ++ [a] from rfl, List.length_flatMap]
    have : ∀ xs : List (List Nat), (xs.map fun h => ((extN n w j h).map fun a => h ++ [a]).length).sum ≤ xs.length * 41 := by
      intro xs
      induction xs with
      | nil => simp
      | cons x xs ih =>
        rw [List.map_cons, List.sum_cons, List.length_cons, Nat.add_mul, Nat.one_mul]
        have : ((extN n w j x).map fun a => x ++ [a]).length ≤ 41 := by
          rw [List.length_map]; unfold extN
          split
          · simp
          · rw [List.length_range]; omega
        omega
    refine Nat.le_trans (this _) ?_
    rw [Nat.pow_succ]
    exact Nat.mul_le_mul_right _ ih
theorem preN_en {n w : Nat} (hw : 0 < w) : ∀ {j : Nat}, j < w → (preN n w j).flatMap (fun h => (en (w - j) (n - h.sum)).map fun c => h ++ c) = en w n
  | 0, _ => by
    rw [show preN n w 0 = [[]] from rfl]
    simp
  | j + 1, hj => by
    rw [← preN_en hw (show j < w by omega)]
    rw [show preN n w (j + 1) = (preN n w j).flatMap fun h => (extN n w j h).map fun a => h ++ [a] from rfl, List.flatMap_assoc]
    refine flatMap_congr' fun h hh => ?_
    obtain ⟨m, hm⟩ : ∃ m, w - j = m + 1 := ⟨w - j - 1, by omega⟩
    rw [hm, en_succ, map_flatMap', show w - (j + 1) = m by omega]
    unfold extN
    rw [if_neg (by omega)]
    rw [List.flatMap_map]
    refine flatMap_congr' fun a ha => ?_
    rw [List.map_map, List.sum_append, show n - (h.sum + [a].sum) = n - h.sum - a by simp; omega]
    refine List.map_congr_left fun c _ => ?_
    simp
theorem preN_all {n w : Nat} (hw : 0 < w) : preN n w w = en w n := by
  obtain ⟨m, rfl⟩ : ∃ m, w = m + 1 := ⟨w - 1, by omega⟩
  rw [← preN_en hw (show m < m + 1 by omega), show preN n (m + 1) (m + 1) = (preN n (m + 1) m).flatMap fun h => (extN n (m + 1) m h).map fun a => h ++ [a] from rfl]
  refine flatMap_congr' fun h hh => ?_
  unfold extN
  rw [if_pos rfl, show m + 1 - m = 1 by omega, en_one]
  rfl
theorem gSum_tupN {h : List Nat} : gSum [tupN h] = some (.int (h.sum : Nat)) := by
  unfold tupN
  rw [gSum_ft]
  congr 2
  induction h with
  | nil => rfl
  | cons a h ih => rw [List.map_cons, List.sum_cons, List.sum_cons, ih]; omega
theorem tupN_add {h : List Nat} {a : Nat} (hl : h.length + 1 ≤ 1000) : gAdd (tupN h) (.tup [.int (a : Int)]) = some (tupN (h ++ [a])) := by
  unfold tupN
  rw [gAdd_tup (by simp; exact le_line (by omega))]
  simp
/-- one day more for each head -/
theorem all_turn {S : List Int} {w n j : Nat} (hn : n ≤ 40) (hS : S.getD 0 0 = (n : Int)) (hp : 0 < S.length) (hw : w ≤ 4) (hj : j < w) {a4 a5 a6 a7 a8 a9 a10 a11 : Sl} :
    ∃ b5 b6 b7 b11, forGo (tgN 5) (sSeq (sSet 6 (fBin gSub (fBin gIx (fVar 0) (fC (.int 0))) (fCall gSum (fCons (fVar 5) fNil))))
        (sSeq (sSet 7 (fIf (fTest (fBin gEq (fVar 3) (fBin gSub (fVar 1) (fC (.int 1))))) (fFz (fLst (fCons (fVar 6) fNil))) (fFz (fListR1 (fBin gAdd (fVar 6) (fC (.int 1)))))))
          (sSet 4 (fBin gAdd (fVar 4) (fFz (fLc (fItems (fVar 7)) (tgN 11) fYes (fBin gAdd (fVar 5) (fTup (fCons (fVar 11) fNil))) [11]))))))
      ((preN n w j).map tupN) [.va (.tup (S.map T.int)), .va (.int w), .va (.lst ((preN n w j).map tupN)), .va (.int j), .va (.lst []), a5, a6, a7, a8, a9, a10, a11] =
      .nx [.va (.tup (S.map T.int)), .va (.int w), .va (.lst ((preN n w j).map tupN)), .va (.int j), .va (.lst ((preN n w (j + 1)).map tupN)), b5, b6, b7, a8, a9, a10, b11] := by
  have e0 : Fx.atT (S.map T.int) 0 = some (.int (n : Int)) := by rw [tab_ints, ← hS]; exact atT_tab (i := 0) hp
  have hbig : (41 : Nat) ^ 4 = 2825761 := by decide
  have hlen : ∀ k, k ≤ (preN n w j).length → (((preN n w j).take k).flatMap fun h => (extN n w j h).map fun a => h ++ [a]).length ≤ 2825761 := fun k hk => by
    have h1 := preN_len (w := w) hn (j := j + 1)
    have h2 : (41 : Nat) ^ (j + 1) ≤ 41 ^ 4 := Nat.pow_le_pow_right (by omega) (by omega)
    rw [show preN n w (j + 1) = (preN n w j).flatMap fun h => (extN n w j h).map fun a => h ++ [a] from rfl] at h1
    have h3 : (((preN n w j).take k).flatMap fun h => (extN n w j h).map fun a => h ++ [a]).length ≤ ((preN n w j).flatMap fun h => (extN n w j h).map fun a => h ++ [a]).length := by
      conv => rhs; rw [← List.take_append_drop k (preN n w j)]
      rw [List.flatMap_append, List.length_append]; omega
    omega
  obtain ⟨ρ', h3, b5, b6, b7, b11, rfl⟩ := for_go (γ := tgN 5) (body := sSeq (sSet 6 (fBin gSub (fBin gIx (fVar 0) (fC (.int 0))) (fCall gSum (fCons (fVar 5) fNil))))
        (sSeq (sSet 7 (fIf (fTest (fBin gEq (fVar 3) (fBin gSub (fVar 1) (fC (.int 1))))) (fFz (fLst (fCons (fVar 6) fNil))) (fFz (fListR1 (fBin gAdd (fVar 6) (fC (.int 1)))))))
          (sSet 4 (fBin gAdd (fVar 4) (fFz (fLc (fItems (fVar 7)) (tgN 11) fYes (fBin gAdd (fVar 5) (fTup (fCons (fVar 11) fNil))) [11]))))))
    (fun k ρ => ∃ b5 b6 b7 b11, ρ = [.va (.tup (S.map T.int)), .va (.int w), .va (.lst ((preN n w j).map tupN)), .va (.int j), .va (.lst ((((preN n w j).take k).flatMap fun h => (extN n w j h).map fun a => h ++ [a]).map tupN)), b5, b6, b7, a8, a9, a10, b11])
    ((preN n w j).map tupN) 0 [.va (.tup (S.map T.int)), .va (.int w), .va (.lst ((preN n w j).map tupN)), .va (.int j), .va (.lst []), a5, a6, a7, a8, a9, a10, a11] ⟨a5, a6, a7, a11, by simp⟩ (fun k t ρ hk hI => by
      obtain ⟨b5, b6, b7, b11, rfl⟩ := hI
      rw [Nat.zero_add]
      have hkl : k < (preN n w j).length := by simpa using (List.getElem?_eq_some_iff.mp hk).1
      rw [List.getElem?_map, List.getElem?_eq_getElem hkl] at hk
      cases hk
      have hm := List.getElem_mem hkl
      obtain ⟨q1, q2⟩ := preN_ok (show j ≤ w by omega) _ hm
      have hst : ((preN n w j).take (k + 1)).flatMap (fun h => (extN n w j h).map fun a => h ++ [a]) = ((preN n w j).take k).flatMap (fun h => (extN n w j h).map fun a => h ++ [a]) ++ (extN n w j (preN n w j)[k]).map fun a => (preN n w j)[k] ++ [a] := by
        rw [List.take_add_one, List.getElem?_eq_getElem hkl, List.flatMap_append]; simp
      have hl1 := hlen (k + 1) (by omega)
      rw [hst] at hl1
      rw [hst]
      generalize (preN n w j)[k] = h at q1 q2 hl1 ⊢
      generalize (((preN n w j).take k).flatMap fun h => (extN n w j h).map fun a => h ++ [a]) = X at hl1 ⊢
      generalize (preN n w j).map tupN = PP
      have hx : (extN n w j h).length ≤ 41 := by
        unfold extN; split
        · simp
        · rw [List.length_range]; omega
      have g0 := gSum_tupN (h := h)
      have lc : ∀ c0 c1 c2 c3 c4 c6 c8 c9 c10 c11, fLc (fItems (fVar 7)) (tgN 11) fYes (fBin gAdd (fVar 5) (fTup (fCons (fVar 11) fNil))) [11] [c0, c1, c2, c3, c4, .va (tupN h), c6, .va (.lst ((extN n w j h).map fun a : Nat => .int (a : Int))), c8, c9, c10, c11] =
          .ok (((extN n w j h).map fun a => h ++ [a]).map tupN) [c0, c1, c2, c3, c4, .va (tupN h), c6, .va (.lst ((extN n w j h).map fun a : Nat => .int (a : Int))), c8, c9, c10, keepS (some c11)] := fun c0 c1 c2 c3 c4 c6 c8 c9 c10 c11 => by
        rw [fLc_is (fun a : Nat => T.int (a : Int)) (fun a => tupN (h ++ [a])) (extN n w j h) ?hi ?hl ?h]
        case hi => simp
        case hl => exact le_line (by omega)
        case h =>
          intro a ha
          have l1 := @le_line 1 (by omega)
          have := tupN_add (h := h) (a := a) (by omega)
          simp [lcS_ap, wipeR, l1, this]
        simp [unwipe, wipeR]
      have ga : gAdd (.lst (X.map tupN)) (.lst (((extN n w j h).map fun a => h ++ [a]).map tupN)) = some (.lst (X.map tupN ++ ((extN n w j h).map fun a => h ++ [a]).map tupN)) := gAdd_lst (by
        rw [List.length_append] at hl1
        rw [List.length_map, List.length_map]
        exact Nat.le_trans hl1 (by decide))
      have l1 := @le_line 1 (by omega)
      by_cases hjw : j + 1 = w
      · have hx1 : (extN n w j h).map (fun a : Nat => T.int (a : Int)) = [.int ((n : Int) - (h.sum : Nat))] := by
          unfold extN; rw [if_pos hjw]; simp; omega
        rw [hx1] at lc
        have hq : ((j : Int) = (w : Int) - 1) := by omega
        simp only [forS_ap, tgN_ap, optIs_some]
        simp [e0, g0, hq, l1, -List.map_map, lc, ga]
      · have hx1 : (extN n w j h).map (fun a : Nat => T.int (a : Int)) = Fx.rangeT 0 ((n : Int) - (h.sum : Nat) + 1).toNat := by
          unfold extN Fx.rangeT
          rw [if_neg hjw, show ((n : Int) - (h.sum : Nat) + 1).toNat = n - h.sum + 1 by omega]
          simp
        rw [hx1] at lc
        have hq : ¬ ((j : Int) = (w : Int) - 1) := by omega
        have hb : -(2 ^ 62) ≤ ((n : Int) - (h.sum : Nat) + 1) ∧ ((n : Int) - (h.sum : Nat) + 1) ≤ 16777216 := ⟨by omega, by omega⟩
        simp only [forS_ap, tgN_ap, optIs_some]
        simp [e0, g0, hq, -List.map_map, lc, ga]
        intro hh
        exact absurd (hh hb.1) (by omega))
  rw [Nat.zero_add, List.length_map, List.take_length] at h3
  exact ⟨b5, b6, b7, b11, h3⟩
/-- the row of a head, day by day -/
theorem all_row {S : List Int} {w : Nat} (hp : 0 < S.length) (hl : S.length ≤ 100) (hw : 0 < w) (hw4 : w ≤ 100) {h : List Nat} (hh : h.length = w) {a1 a2 a3 a4 a5 a6 a7 a8 a10 a11 : Sl} :
    ∃ b10, forGo (tgN 10) (sApp 9 (fBin gSub (fBin gAdd (fIxO 9 (fVar 10)) (fBin gIx (fVar 0) (fBin gAdd (fVar 10) (fC (.int 1))))) (fBin gIx (fVar 0) (fVar 10))))
      ((List.range (S.length - 1)).map fun k => .int (k : Nat)) [.va (.tup (S.map T.int)), a1, a2, a3, a4, a5, a6, a7, a8, .ow (h.map fun a : Nat => .int (a : Int)), a10, a11] =
      .nx [.va (.tup (S.map T.int)), a1, a2, a3, a4, a5, a6, a7, a8, .ow ((rowH S w h).map T.int), b10, a11] := by
  have hrow : (h.map fun a : Nat => T.int (a : Int)) = (List.range w).map fun d => T.int ((h.getD (d % w) 0 : Int) + Dd S w d) := by
    apply List.ext_getElem (by simp [hh])
    intro i h1 h2
    have : i < w := by simpa using h2
    simp [Nat.mod_eq_of_lt this, Dd_lt this, show i < h.length by omega]
  obtain ⟨ρ', h3, a, rfl⟩ := for_go (γ := tgN 10) (body := sApp 9 (fBin gSub (fBin gAdd (fIxO 9 (fVar 10)) (fBin gIx (fVar 0) (fBin gAdd (fVar 10) (fC (.int 1))))) (fBin gIx (fVar 0) (fVar 10))))
    (fun k ρ => ∃ a, ρ = [.va (.tup (S.map T.int)), a1, a2, a3, a4, a5, a6, a7, a8, .ow ((List.range (w + k)).map fun d => T.int ((h.getD (d % w) 0 : Int) + Dd S w d)), a, a11])
    ((List.range (S.length - 1)).map fun k => .int (k : Nat)) 0 [.va (.tup (S.map T.int)), a1, a2, a3, a4, a5, a6, a7, a8, .ow ((List.range w).map fun d => T.int ((h.getD (d % w) 0 : Int) + Dd S w d)), a10, a11] ⟨_, rfl⟩ (fun j t ρ hj hI => by
      obtain ⟨a, rfl⟩ := hI
      have hjl : j < S.length - 1 := by simpa using (List.getElem?_eq_some_iff.mp hj).1
      rw [List.getElem?_map, List.getElem?_range hjl] at hj
      cases hj
      have ea := Dd_add (S := S) (w := w) (d := j) hw (by omega)
      rw [Nat.zero_add]
      have e := atT_tab (n := w + j) (f := fun d => T.int ((h.getD (d % w) 0 : Int) + Dd S w d)) (show j < w + j by omega)
      have e2 := at_ints (S := S) (i := j) (by omega)
      have e3 := at_ints (S := S) (i := j + 1) (by omega)
      rw [show ((j + 1 : Nat) : Int) = (j : Int) + 1 by omega] at e3
      have hrg : (List.range (w + (j + 1))).map (fun d => T.int ((h.getD (d % w) 0 : Int) + Dd S w d)) = (List.range (w + j)).map (fun d => T.int ((h.getD (d % w) 0 : Int) + Dd S w d)) ++ [T.int ((h.getD (j % w) 0 : Int) + Dd S w j + S.getD (j + 1) 0 - S.getD j 0)] := by
        rw [show w + (j + 1) = (w + j) + 1 by omega, List.range_succ, List.map_append, List.map_singleton]
        congr 3
        rw [Nat.add_comm w j, Nat.add_mod_right, ea]
        omega
      have hln : ((List.range (w + j)).map fun d => T.int ((h.getD (d % w) 0 : Int) + Dd S w d)).length = w + j := by simp
      rw [hrg]
      generalize ((List.range (w + j)).map fun d => T.int ((h.getD (d % w) 0 : Int) + Dd S w d)) = X at e hln ⊢
      generalize S.getD j 0 = u1 at e2 ⊢
      generalize S.getD (j + 1) 0 = u2 at e3 ⊢
      generalize (h.getD (j % w) 0 : Int) + Dd S w j = u3 at e ⊢
      generalize S.map T.int = ST at e2 e3 ⊢
      have l := @lt_line X.length (by omega)
      simp [forS_ap, e, e2, e3, l])
  rw [← hrow] at h3
  have hn : w + (0 + ((List.range (S.length - 1)).map fun k : Nat => T.int (k : Int)).length) = dys S w := by unfold dys; simp; omega
  rw [hn] at h3
  refine ⟨a, ?_⟩
  rw [h3]
  unfold rowH
  rw [List.map_map]
  rfl
theorem minI_ge {xs : List Int} (h : xs ≠ []) : 0 ≤ minI xs ↔ ∀ v ∈ xs, 0 ≤ v :=
  ⟨fun h1 v hv => Int.le_trans h1 (minI_le hv), fun h1 => h1 _ (minI_mem h)⟩
theorem gMin_ints {xs : List Int} (h : xs ≠ []) : gMin [.lst (xs.map T.int)] = some (.int (minI xs)) := by
  have := gMin_f (f := fun i : Int => i) h
  rw [List.map_id'] at this
  exact this
theorem flat_int {i : Int} : flatT (T.int i) = true := rfl
def rowsT (S : List Int) (w : Nat) : List T := (rowsI S w).map fun R => .tup (R.map T.int)
/-- all rows by trial -/
theorem m_all {S : List Int} {w n : Nat} (hn : n ≤ 40) (hS : S.getD 0 0 = (n : Int)) (hp : 0 < S.length) (hl : S.length ≤ 100) (hw : 0 < w) (hw4 : w ≤ 4) : phi__law_all [.tup (S.map .int), .int w] = .ow (rowsT S w) := by
  have hSne : S ≠ [] := List.length_pos_iff.mp hp
  have hbig : (41 : Nat) ^ 4 = 2825761 := by decide
  obtain ⟨ρ', h3, b3, b4, b5, b6, b7, b11, rfl⟩ := for_go (γ := tgN 3) (body := sSeq (sSet 4 (fFz (fLst fNil))) (sSeq (sFor (fItems (fVar 2)) (tgN 5) (sSeq (sSet 6 (fBin gSub (fBin gIx (fVar 0) (fC (.int 0))) (fCall gSum (fCons (fVar 5) fNil))))
        (sSeq (sSet 7 (fIf (fTest (fBin gEq (fVar 3) (fBin gSub (fVar 1) (fC (.int 1))))) (fFz (fLst (fCons (fVar 6) fNil))) (fFz (fListR1 (fBin gAdd (fVar 6) (fC (.int 1)))))))
          (sSet 4 (fBin gAdd (fVar 4) (fFz (fLc (fItems (fVar 7)) (tgN 11) fYes (fBin gAdd (fVar 5) (fTup (fCons (fVar 11) fNil))) [11]))))))) (sSet 2 (fVar 4))))
    (fun k ρ => ∃ b3 b4 b5 b6 b7 b11, ρ = [.va (.tup (S.map T.int)), .va (.int w), .va (.lst ((preN n w k).map tupN)), b3, b4, b5, b6, b7, .no, .no, .no, b11])
    ((List.range w).map fun k => .int (k : Nat)) 0 [.va (.tup (S.map T.int)), .va (.int w), .va (.lst [.tup []]), .no, .no, .no, .no, .no, .no, .no, .no, .no] ⟨_, _, _, _, _, _, rfl⟩ (fun k t ρ hk hI => by
      obtain ⟨b3, b4, b5, b6, b7, b11, rfl⟩ := hI
      rw [Nat.zero_add]
      have hkl : k < w := by simpa using (List.getElem?_eq_some_iff.mp hk).1
      rw [List.getElem?_map, List.getElem?_range hkl] at hk
      cases hk
      obtain ⟨c5, c6, c7, c11, q⟩ := all_turn hn hS hp hw4 hkl (a4 := b4) (a5 := b5) (a6 := b6) (a7 := b7) (a8 := .no) (a9 := .no) (a10 := .no) (a11 := b11)
      have l0 := @le_line 0 (by omega)
      simp only [forS_ap, tgN_ap, optIs_some]
      simp [l0, q])
  rw [Nat.zero_add, List.length_map, List.length_range, preN_all hw] at h3
  have er1 := rng1 (φ := fVar 1) (ρ := [.va (.tup (S.map T.int)), .va (.int w), .va (.lst [.tup []]), .no, .no, .no, .no, .no, .no, .no, .no, .no]) (ρ1 := [.va (.tup (S.map T.int)), .va (.int w), .va (.lst [.tup []]), .no, .no, .no, .no, .no, .no, .no, .no, .no]) (j := (w : Int)) (by simp) (by omega) (by omega)
  rw [Int.toNat_natCast] at er1
  have hEl : (en w n).length ≤ 2825761 := by
    rw [← preN_all hw]
    have h2 : (41 : Nat) ^ w ≤ 41 ^ 4 := Nat.pow_le_pow_right (by omega) hw4
    have := preN_len (w := w) hn (j := w)
    omega
  obtain ⟨ρ2, h4, c5, c9, c10, rfl⟩ := for_go (γ := tgN 5) (body := sSeq (sSetO 9 (fList (fVar 5))) (sSeq (sFor (fRange1 (fBin gSub (fCall gLen (fCons (fVar 0) fNil)) (fC (.int 1)))) (tgN 10) (sApp 9 (fBin gSub (fBin gAdd (fIxO 9 (fVar 10)) (fBin gIx (fVar 0) (fBin gAdd (fVar 10) (fC (.int 1))))) (fBin gIx (fVar 0) (fVar 10)))))
      (sIf (fTest (fBin gGe (fRo (fCall gMin (fCons (fVar 9) fNil))) (fC (.int 0)))) (sFrz 9 (sApp 8 (fCall gTuple (fCons (fVar 9) fNil)))) sNext)))
    (fun k ρ => ∃ c5 c9 c10, ρ = [.va (.tup (S.map T.int)), .va (.int w), .va (.lst ((en w n).map tupN)), b3, b4, c5, b6, b7, .ow ((((en w n).take k).filter fun h => geB h (lowsN S w)).map fun h => .tup ((rowH S w h).map T.int)), c9, c10, b11])
    ((en w n).map tupN) 0 [.va (.tup (S.map T.int)), .va (.int w), .va (.lst ((en w n).map tupN)), b3, b4, b5, b6, b7, .ow [], .no, .no, b11] ⟨_, _, _, rfl⟩ (fun k t ρ hk hI => by
      obtain ⟨c5, c9, c10, rfl⟩ := hI
      rw [Nat.zero_add]
      have hkl : k < (en w n).length := by simpa using (List.getElem?_eq_some_iff.mp hk).1
      rw [List.getElem?_map, List.getElem?_eq_getElem hkl] at hk
      cases hk
      have hm := (mem_en.mp (List.getElem_mem hkl)).1
      have hst : (((en w n).take (k + 1)).filter fun h => geB h (lowsN S w)) = (((en w n).take k).filter fun h => geB h (lowsN S w)) ++ (if geB (en w n)[k] (lowsN S w) then [(en w n)[k]] else []) := by
        rw [List.take_add_one, List.getElem?_eq_getElem hkl, List.filter_append]
        simp only [Option.toList_some, List.filter_cons, List.filter_nil]
      have hXl : ((((en w n).take k).filter fun h => geB h (lowsN S w)).map fun h => T.tup ((rowH S w h).map T.int)).length < 16777216 := by
        rw [List.length_map]
        have := List.length_filter_le (fun h => geB h (lowsN S w)) ((en w n).take k)
        rw [List.length_take] at this
        omega
      rw [hst]
      generalize (en w n)[k] = h at hm ⊢
      generalize (((en w n).take k).filter fun h => geB h (lowsN S w)) = X at hXl ⊢
      generalize (en w n).map tupN = PP
      have hge := row_ge hw hSne hm
      have hne : rowH S w h ≠ [] := by
        unfold rowH dys
        simp
        omega
      rw [← minI_ge hne] at hge
      have g1 := gMin_ints hne
      obtain ⟨d10, q⟩ := all_row hp hl hw (by omega) hm (a1 := .va (.int w)) (a2 := .va (.lst PP)) (a3 := b3) (a4 := b4) (a5 := .va (tupN h)) (a6 := b6) (a7 := b7) (a8 := .ow (X.map fun h => T.tup ((rowH S w h).map T.int))) (a10 := c10) (a11 := b11)
      have er := rng1 (φ := fBin gSub (fCall gLen (fCons (fVar 0) fNil)) (fC (.int 1))) (ρ := [.va (.tup (S.map T.int)), .va (.int w), .va (.lst PP), b3, b4, .va (tupN h), b6, b7, .ow (X.map fun h => T.tup ((rowH S w h).map T.int)), .ow (h.map fun a : Nat => .int (a : Int)), c10, b11])
        (ρ1 := [.va (.tup (S.map T.int)), .va (.int w), .va (.lst PP), b3, b4, .va (tupN h), b6, b7, .ow (X.map fun h => T.tup ((rowH S w h).map T.int)), .ow (h.map fun a : Nat => .int (a : Int)), c10, b11]) (j := (S.length : Int) - 1) (by simp) (by omega) (by omega)
      rw [show ((S.length : Int) - 1).toNat = S.length - 1 by omega] at er
      have hit : itemsT (tupN h) = some (h.map fun a : Nat => .int (a : Int)) := rfl
      have hL : (X.map fun h => T.tup ((rowH S w h).map T.int)).length < sizeLine := Nat.lt_of_lt_of_le hXl (by decide)
      rw [List.map_append]
      generalize (X.map fun h => T.tup ((rowH S w h).map T.int)) = XX at *
      generalize hR : (rowH S w h).map T.int = RR at *
      simp only [forS_ap, tgN_ap, optIs_some]
      by_cases hb : 0 ≤ minI (rowH S w h)
      · rw [hge.mp hb]
        have hb0 := hb
        simp [hit, -fRange1_ap, er, q, frzAll_cons, frzS, frzAll_nil, flat_int, g1, hb, hL, hR]
      · have : geB h (lowsN S w) = false := by
          cases e : geB h (lowsN S w) with
          | false => rfl
          | true => exact absurd (hge.mpr e) hb
        rw [this]
        simp [hit, -fRange1_ap, er, q, frzAll_cons, frzS, frzAll_nil, flat_int, g1, hb])
  rw [Nat.zero_add, List.length_map, List.take_length] at h4
  have hfin := rows_en hw hSne (by omega)
  rw [hS, Int.toNat_natCast] at hfin
  have hfin2 : (((en w n).filter fun h => geB h (lowsN S w)).map fun h => T.tup ((rowH S w h).map T.int)) = rowsT S w := by
    unfold rowsT
    rw [← hfin, List.map_map]
    rfl
  rw [hfin2] at h4
  have l0 := @le_line 0 (by omega)
  have l1 := @le_line 1 (by omega)
  simp [phi__law_all, psi__law_all, l0, l1, -fRange1_ap, er1, h3, h4]
end Lw
namespace Lw
open PySem PySem.Spec PyProof.Rows L2 Fx
/-! ### the values of a day over all rows -/
theorem en_some {k n r e : Nat} (hk : 2 ≤ k) (hr : r < k) (he : e ≤ n) : ∃ c ∈ en k n, c.getD r 0 = e := by
  rcases Nat.eq_zero_or_pos r with rfl | h
  · exact ⟨e :: (n - e) :: List.replicate (k - 2) 0, mem_en.mpr ⟨by simp; omega, by simp; omega⟩, rfl⟩
  · refine ⟨(n - e) :: (List.replicate (r - 1) 0 ++ e :: List.replicate (k - 1 - r) 0), mem_en.mpr ⟨by simp; omega, by simp; omega⟩, ?_⟩
    obtain ⟨q, rfl⟩ : ∃ q, r = q + 1 := ⟨r - 1, by omega⟩
    simp [List.getD_eq_getElem?_getD, List.getElem?_append]
def colL (S : List Int) (w d : Nat) : List Int := (rowsI S w).map fun R => R.getD d 0
theorem rowC_get {S : List Int} {w d : Nat} {c : List Nat} (hd : d < dys S w) : (rowC S w c).getD d 0 = leastI S w d + (c.getD (d % w) 0 : Int) := by unfold rowC; simp [hd]
theorem mem_rowsI {S : List Int} {w : Nat} {R : List Int} (h0 : 0 ≤ slackI S w) : R ∈ rowsI S w ↔ ∃ c ∈ en w (slackI S w).toNat, rowC S w c = R := by
  unfold rowsI
  rw [if_pos h0, List.mem_map]
theorem mem_colL {S : List Int} {w d : Nat} {v : Int} (hw : 2 ≤ w) (h0 : 0 ≤ slackI S w) (hd : d < dys S w) : v ∈ colL S w d ↔ leastI S w d ≤ v ∧ v ≤ leastI S w d + slackI S w := by
  have hm := Nat.mod_lt d (show 0 < w by omega)
  unfold colL
  rw [List.mem_map]
  constructor
  · rintro ⟨R, hR, rfl⟩
    obtain ⟨c, hc, rfl⟩ := (mem_rowsI h0).mp hR
    rw [rowC_get hd]
    have hl := (mem_en.mp hc).1
    have := en_le hc _ (show c.getD (d % w) 0 ∈ c by simp [List.getD_eq_getElem?_getD, hl, hm])
    omega
  · rintro ⟨h1, h2⟩
    obtain ⟨c, hc, e⟩ := en_some (k := w) (n := (slackI S w).toNat) (r := d % w) (e := (v - leastI S w d).toNat) hw hm (by omega)
    refine ⟨rowC S w c, (mem_rowsI h0).mpr ⟨c, hc, rfl⟩, ?_⟩
    rw [rowC_get hd, e]
    omega
theorem rows_len {S : List Int} {w : Nat} (h : 2 ≤ w) (hw4 : w ≤ 4) (hn : slackI S w ≤ 20) : (rowsI S w).length ≤ 1771 := by
  unfold rowsI
  split
  · rename_i h0
    rw [List.length_map]
    obtain ⟨k, rfl⟩ : ∃ k, w = k + 1 := ⟨w - 1, by omega⟩
    rw [en_len]
    have hm := ch_mono (m := (slackI S (k + 1)).toNat + k) (n := 20 + k) (k := k) (by omega)
    have : ch (20 + k) k ≤ 1771 := by
      rcases (show k = 1 ∨ k = 2 ∨ k = 3 by omega) with rfl | rfl | rfl <;> decide
    omega
  · simp
theorem row_zero {S : List Int} {w : Nat} (hw : 0 < w) (h0 : 0 ≤ slackI S w) : gIx (.lst (rowsT S w)) (.int 0) = some (.tup (((rowsI S w).getD 0 []).map T.int)) ∧ ((rowsI S w).getD 0 []).length = dys S w := by
  have hp : 0 < (rowsI S w).length := by
    unfold rowsI
    rw [if_pos h0, List.length_map]
    obtain ⟨k, rfl⟩ : ∃ k, w = k + 1 := ⟨w - 1, by omega⟩
    have hm : ((slackI S (k + 1)).toNat :: List.replicate k 0) ∈ en (k + 1) (slackI S (k + 1)).toNat := mem_en.mpr ⟨by simp, by simp⟩
    exact List.length_pos_of_mem hm
  refine ⟨?_, ?_⟩
  · have : rowsT S w = (List.range (rowsI S w).length).map fun i => .tup (((rowsI S w).getD i []).map T.int) := by
      unfold rowsT
      conv => lhs; rw [tab_list (xs := rowsI S w) (d := []), List.map_map]
      rfl
    rw [this]
    exact gIx_tab (i := 0) hp
  · have hR : (rowsI S w).getD 0 [] ∈ rowsI S w := by simp [List.getD_eq_getElem?_getD, hp]
    obtain ⟨c, _, e⟩ := (mem_rowsI h0).mp hR
    rw [← e]
    unfold rowC; simp
theorem rowsI_row {S : List Int} {w : Nat} {R : List Int} (h : R ∈ rowsI S w) : R.length = dys S w := by
  unfold rowsI at h
  split at h
  · obtain ⟨c, _, rfl⟩ := List.mem_map.mp h
    unfold rowC; simp
  · cases h
theorem rowsT_nil {S : List Int} {w : Nat} (hw : 0 < w) : rowsT S w = [] ↔ slackI S w < 0 := by
  by_cases h : 0 ≤ slackI S w
  · refine ⟨fun e => ?_, fun e => by omega⟩
    exfalso
    unfold rowsT rowsI at e
    rw [if_pos h, List.map_eq_nil_iff, List.map_eq_nil_iff] at e
    obtain ⟨k, rfl⟩ : ∃ k, w = k + 1 := ⟨w - 1, by omega⟩
    have hm : ((slackI S (k + 1)).toNat :: List.replicate k 0) ∈ en (k + 1) (slackI S (k + 1)).toNat := mem_en.mpr ⟨by simp, by simp⟩
    rw [e] at hm
    cases hm
  · exact ⟨fun _ => by omega, fun _ => by unfold rowsT rowsI; rw [if_neg h]; rfl⟩
theorem okN_rowsT {S : List Int} {w : Nat} : OkN 64 (.lst (rowsT S w)) := .lst (d := 63) fun y hy => by
  unfold rowsT at hy
  obtain ⟨R, _, rfl⟩ := List.mem_map.mp hy
  exact okN_tupI (d := 62)
/-! ### the rows by shares -/
theorem wsum_cls {f : Nat → Int} {w : Nat} : ∀ i, wsum (fun d => f (d % w)) i w = ((List.range w).map f).sum
  | 0 => by
    unfold wsum
    congr 1
    exact List.map_congr_left fun j hj => by show f ((0 + j) % w) = f j; rw [Nat.zero_add, Nat.mod_eq_of_lt (List.mem_range.mp hj)]
  | i + 1 => by
    have ih := wsum_cls (f := f) (w := w) i
    rw [wsum_shift, ih]
    simp only [Nat.add_mod_right]
    omega
theorem sum_ge {xs : List Int} (h : ∀ a ∈ xs, 0 ≤ a) : ∀ v ∈ xs, v ≤ xs.sum := by
  induction xs with
  | nil => intro v hv; cases hv
  | cons x xs ih =>
    intro v hv
    have h1 := h x List.mem_cons_self
    have h2 := sum_nonneg fun a ha => h a (List.mem_cons_of_mem _ ha)
    rw [List.sum_cons]
    rcases List.mem_cons.mp hv with rfl | hv
    · omega
    · have := ih (fun a ha => h a (List.mem_cons_of_mem _ ha)) v hv
      omega
theorem tab_sum {c : List Nat} : ((List.range c.length).map fun r => (c.getD r 0 : Int)).sum = (c.sum : Nat) := by
  have : (List.range c.length).map (fun r => (c.getD r 0 : Int)) = c.map fun a : Nat => (a : Int) := by
    apply List.ext_getElem (by simp)
    intro i h1 h2
    simp [List.getD_eq_getElem?_getD, show i < c.length by simpa using h1]
  rw [this]
  clear this
  induction c with
  | nil => rfl
  | cons a c ih => rw [List.map_cons, List.sum_cons, List.sum_cons, ih]; omega
theorem least_nonneg {S : List Int} {w d : Nat} (hw : 0 < w) (hS : S ≠ []) (hd : d < dys S w) : 0 ≤ leastI S w d := by
  rw [least_row hw hS (rowOf_row hw) hd]
  have := cmin_le (x := rowOf S w) hw hd
  omega
theorem isRow_rowC {S : List Int} {w : Nat} {c : List Nat} (hw : 0 < w) (hS : S ≠ []) (h0 : 0 ≤ slackI S w) (hc : c ∈ en w (slackI S w).toNat) : IsRow (fun d => leastI S w d + (c.getD (d % w) 0 : Int)) S w := by
  intro i hi
  have hx := rowOf_row (S := S) hw
  obtain ⟨hc1, hc2⟩ := mem_en.mp hc
  have e : wsum (fun d => leastI S w d + (c.getD (d % w) 0 : Int)) i w = wsum (rowOf S w) i w - wsum (fun d => cmin (rowOf S w) w (dys S w) (d % w)) i w + wsum (fun d => (c.getD (d % w) 0 : Int)) i w := by
    unfold wsum
    rw [← sum_map_sub, ← Fx.sum_map_add]
    congr 1
    refine List.map_congr_left fun j hj => ?_
    have hj := List.mem_range.mp hj
    dsimp only
    rw [least_row hw hS hx (d := i + j) (by unfold dys; omega)]
  rw [e, hx i hi, wsum_cls (f := fun r => cmin (rowOf S w) w (dys S w) r), wsum_cls (f := fun r => (c.getD r 0 : Int)), ← slack_row hw hS hx]
  have := tab_sum (c := c)
  rw [hc1, hc2] at this
  rw [this]
  omega
theorem rowC_ok {S : List Int} {w : Nat} {c : List Nat} {M : Int} (hw : 0 < w) (hS : S ≠ []) (hM : ∀ v ∈ S, v ≤ M) (h0 : 0 ≤ slackI S w) (hc : c ∈ en w (slackI S w).toNat) : sumsI (rowC S w c) w = S ∧ ∀ v ∈ rowC S w c, 0 ≤ v ∧ v ≤ M := by
  have hp := List.length_pos_iff.mpr hS
  have hr := isRow_rowC hw hS h0 hc
  have hl : (rowC S w c).length = dys S w := by unfold rowC; simp
  refine ⟨sums_of_row (by rw [hl]; unfold dys; omega) fun i hi => ?_, fun v hv => ?_⟩
  · rw [← hr i hi]
    unfold wsum
    congr 1
    refine List.map_congr_left fun j hj => ?_
    have hj := List.mem_range.mp hj
    exact rowC_get (by unfold dys; omega)
  · unfold rowC at hv
    obtain ⟨d, hd, rfl⟩ := List.mem_map.mp hv
    have hd := List.mem_range.mp hd
    have hnn : ∀ d, d < dys S w → 0 ≤ leastI S w d + (c.getD (d % w) 0 : Int) := fun d hd => by have := least_nonneg hw hS hd; omega
    refine ⟨hnn d hd, ?_⟩
    obtain ⟨i, hi, h1, h2⟩ : ∃ i < S.length, i ≤ d ∧ d < i + w := by
      unfold dys at hd
      by_cases h : d < S.length
      · exact ⟨d, h, Nat.le_refl _, by omega⟩
      · exact ⟨S.length - 1, by omega, by omega, by omega⟩
    have h3 := hr i hi
    have h4 : S.getD i 0 ≤ M := hM _ (by simp [List.getD_eq_getElem?_getD, hi])
    rw [← h3] at h4
    refine Int.le_trans ?_ h4
    refine sum_ge (fun a ha => ?_) _ (List.mem_map.mpr ⟨d - i, List.mem_range.mpr (by omega), by rw [show i + (d - i) = d by omega]⟩)
    obtain ⟨j, hj, rfl⟩ := List.mem_map.mp ha
    have hj := List.mem_range.mp hj
    exact hnn _ (by unfold dys; omega)
theorem least_top {S : List Int} {w d : Nat} {M : Int} (hw : 2 ≤ w) (hS : S ≠ []) (hM : ∀ v ∈ S, v ≤ M) (h0 : 0 ≤ slackI S w) (hd : d < dys S w) : leastI S w d + slackI S w ≤ M := by
  have hm := Nat.mod_lt d (show 0 < w by omega)
  obtain ⟨c, hc, e⟩ := en_some (k := w) (n := (slackI S w).toNat) (r := d % w) (e := (slackI S w).toNat) hw hm (Nat.le_refl _)
  have h1 := ((rowC_ok (by omega) hS hM h0 hc).2 (leastI S w d + (c.getD (d % w) 0 : Int)) (List.mem_map.mpr ⟨d, List.mem_range.mpr hd, rfl⟩)).2
  rw [e] at h1
  omega
end Lw
namespace Lw
open PySem PySem.Spec PyProof.Rows L2 Fx
/-! ### shares that keep bounds -/
theorem en_nd : ∀ {k n : Nat}, (en k n).Nodup
  | 0, n => by unfold en; split <;> simp
  | k + 1, n => by
    rw [en_succ]
    refine List.pairwise_flatMap.mpr ⟨fun a _ => ?_, ?_⟩
    · rw [List.pairwise_map]
      exact (en_nd (k := k) (n := n - a)).imp fun h e => h (List.cons.inj e).2
    · refine List.nodup_range.imp fun hne x hx y hy e => ?_
      obtain ⟨x', _, rfl⟩ := List.mem_map.mp hx
      obtain ⟨y', _, rfl⟩ := List.mem_map.mp hy
      exact hne (List.cons.inj e).1
theorem sum_set : ∀ {c : List Nat} {k p : Nat}, k < c.length → (c.set k (c.getD k 0 + p)).sum = c.sum + p
  | [], _, _, h => by cases h
  | a :: c, 0, p, _ => by simp; omega
  | a :: c, k + 1, p, h => by
    have := sum_set (c := c) (k := k) (p := p) (by simpa using h)
    simp only [List.set_cons_succ, List.sum_cons, List.getD_cons_succ]
    omega
theorem get_set {c : List Nat} {i j v : Nat} (hi : i < c.length) : (c.set i v).getD j 0 = if j = i then v else c.getD j 0 := by
  by_cases e : j = i
  · subst e; simp [List.getD_eq_getElem?_getD, hi]
  · rw [if_neg e]; simp [List.getD_eq_getElem?_getD, List.getElem?_set_ne (Ne.symm e)]
def okC (caps : List Int) (c : List Nat) : Bool := (List.range caps.length).all fun i => decide ((c.getD i 0 : Int) ≤ caps.getD i 0)
theorem okC_iff {caps : List Int} {c : List Nat} : okC caps c = true ↔ ∀ i < caps.length, (c.getD i 0 : Int) ≤ caps.getD i 0 := by
  unfold okC
  rw [List.all_eq_true]
  exact ⟨fun h i hi => of_decide_eq_true (h i (List.mem_range.mpr hi)), fun h i hi => decide_eq_true (h i (List.mem_range.mp hi))⟩
theorem okC_snoc {caps : List Int} {cap : Int} {c : List Nat} : okC (caps ++ [cap]) c = (okC caps c && decide ((c.getD caps.length 0 : Int) ≤ cap)) := by
  rw [Bool.eq_iff_iff, Bool.and_eq_true, okC_iff, okC_iff, decide_eq_true_eq, List.length_append, List.length_singleton]
  have e1 : ∀ i < caps.length, (caps ++ [cap]).getD i 0 = caps.getD i 0 := fun i hi => by simp [List.getD_eq_getElem?_getD, List.getElem?_append, hi]
  have e2 : (caps ++ [cap]).getD caps.length 0 = cap := by simp [List.getD_eq_getElem?_getD]
  constructor
  · intro h
    refine ⟨fun i hi => by have := h i (by omega); rw [e1 i hi] at this; exact this, ?_⟩
    have := h caps.length (by omega)
    rw [e2] at this
    exact this
  · rintro ⟨h1, h2⟩ i hi
    rcases Nat.lt_or_ge i caps.length with h | h
    · rw [e1 i h]; exact h1 i h
    · have : i = caps.length := by omega
      subst this
      rw [e2]; exact h2
def nB (w : Nat) (caps : List Int) (s : Int) : Int := if 0 ≤ s then (((en w s.toNat).filter (okC caps)).length : Int) else 0
theorem nB_nil {w : Nat} {s : Int} (hw : 0 < w) : nB w [] s = if 0 ≤ s then (ch (s.toNat + w - 1) (w - 1) : Int) else 0 := by
  unfold nB
  split
  · have : (en w s.toNat).filter (okC []) = en w s.toNat := List.filter_eq_self.mpr fun c _ => rfl
    rw [this]
    obtain ⟨k, rfl⟩ : ∃ k, w = k + 1 := ⟨w - 1, by omega⟩
    rw [en_len]
    rfl
  · rfl
theorem filter_two {α : Type} {p q : α → Bool} : ∀ xs : List α, (xs.filter p).length = (xs.filter fun a => p a && q a).length + (xs.filter fun a => p a && !q a).length
  | [] => rfl
  | a :: xs => by
    have := filter_two (p := p) (q := q) xs
    simp only [List.filter_cons]
    cases p a <;> cases q a <;> simp <;> omega
theorem nB_snoc {w : Nat} {caps : List Int} {cap s : Int} (hi : caps.length < w) (hc : 0 ≤ cap) : nB w (caps ++ [cap]) s = nB w caps s - nB w caps (s - (cap + 1)) := by
  unfold nB
  by_cases h0 : 0 ≤ s
  · rw [if_pos h0, if_pos h0]
    have h1 := filter_two (p := okC caps) (q := fun c : List Nat => decide ((c.getD caps.length 0 : Int) ≤ cap)) (en w s.toNat)
    have h2 : (fun a : List Nat => okC caps a && decide ((a.getD caps.length 0 : Int) ≤ cap)) = okC (caps ++ [cap]) := funext fun c => okC_snoc.symm
    rw [h2] at h1
    have h3 : (((en w s.toNat).filter fun a : List Nat => okC caps a && !decide ((a.getD caps.length 0 : Int) ≤ cap)).length : Int) = if 0 ≤ s - (cap + 1) then (((en w (s - (cap + 1)).toNat).filter (okC caps)).length : Int) else 0 := by
      split
      · rename_i hk
        obtain ⟨k, hk'⟩ : ∃ k : Nat, cap + 1 = k := ⟨(cap + 1).toNat, by omega⟩
        have nd1 : ((en w s.toNat).filter fun a : List Nat => okC caps a && !decide ((a.getD caps.length 0 : Int) ≤ cap)).Nodup := List.Pairwise.filter _ en_nd
        have hl : ∀ c ∈ (en w (s - (cap + 1)).toNat).filter (okC caps), c.length = w := fun c hc => (mem_en.mp (List.mem_filter.mp hc).1).1
        have nd2 : (((en w (s - (cap + 1)).toNat).filter (okC caps)).map fun c => c.set caps.length (c.getD caps.length 0 + k)).Nodup := by
          unfold List.Nodup
          rw [List.pairwise_map]
          refine List.Pairwise.imp_of_mem (fun {a b} ha hb hne e => hne ?_) (List.Pairwise.filter _ en_nd)
          have la := hl a ha
          have lb := hl b hb
          apply List.ext_getElem (by rw [la, lb])
          intro i p q
          have e1 := get_set (c := a) (i := caps.length) (j := i) (v := a.getD caps.length 0 + k) (by omega)
          have e2 := get_set (c := b) (i := caps.length) (j := i) (v := b.getD caps.length 0 + k) (by omega)
          rw [e, e2] at e1
          have g1 : a.getD i 0 = a[i] := by simp [List.getD_eq_getElem?_getD, p]
          have g2 : b.getD i 0 = b[i] := by simp [List.getD_eq_getElem?_getD, q]
          rw [← g1, ← g2]
          by_cases hj : i = caps.length
          · subst hj
            rw [if_pos rfl, if_pos rfl] at e1
            omega
          · rw [if_neg hj, if_neg hj] at e1
            exact e1.symm
        have p := (List.perm_ext_iff_of_nodup nd1 nd2).mpr fun c => by
          rw [List.mem_filter, List.mem_map, Bool.and_eq_true, Bool.not_eq_true', decide_eq_false_iff_not]
          constructor
          · rintro ⟨hm, ho, hg⟩
            obtain ⟨hcl, hcs⟩ := mem_en.mp hm
            have hg' : k ≤ c.getD caps.length 0 := by omega
            have hs1 := sum_set (c := c.set caps.length (c.getD caps.length 0 - k)) (k := caps.length) (p := k) (by simp; omega)
            have g1 := get_set (c := c) (i := caps.length) (j := caps.length) (v := c.getD caps.length 0 - k) (by omega)
            rw [if_pos rfl] at g1
            have hback : (c.set caps.length (c.getD caps.length 0 - k)).set caps.length ((c.set caps.length (c.getD caps.length 0 - k)).getD caps.length 0 + k) = c := by
              rw [g1, List.set_set]
              apply List.ext_getElem (by simp)
              intro i p q
              by_cases hj : caps.length = i
              · subst hj
                rw [List.getElem_set_self]
                have g2 : c.getD caps.length 0 = c[caps.length] := by simp [List.getD_eq_getElem?_getD, q]
                omega
              · rw [List.getElem_set_ne hj]
            rw [hback] at hs1
            refine ⟨c.set caps.length (c.getD caps.length 0 - k), List.mem_filter.mpr ⟨mem_en.mpr ⟨by simp [hcl], by omega⟩, okC_iff.mpr fun i hi' => ?_⟩, hback⟩
            rw [get_set (by omega), if_neg (by omega)]
            exact okC_iff.mp ho i hi'
          · rintro ⟨c', hc', rfl⟩
            obtain ⟨hm, ho⟩ := List.mem_filter.mp hc'
            obtain ⟨hcl, hcs⟩ := mem_en.mp hm
            have hs1 := sum_set (c := c') (k := caps.length) (p := k) (by omega)
            refine ⟨mem_en.mpr ⟨by simp [hcl], by omega⟩, okC_iff.mpr fun i hi' => ?_, ?_⟩
            · rw [get_set (by omega), if_neg (by omega)]
              exact okC_iff.mp ho i hi'
            · rw [get_set (by omega), if_pos rfl]
              omega
        rw [p.length_eq, List.length_map]
      · rename_i hk
        have : ((en w s.toNat).filter fun a : List Nat => okC caps a && !decide ((a.getD caps.length 0 : Int) ≤ cap)) = [] := by
          rw [List.filter_eq_nil_iff]
          intro c hcm
          obtain ⟨hcl, hcs⟩ := mem_en.mp hcm
          have := en_le hcm _ (show c.getD caps.length 0 ∈ c by simp [List.getD_eq_getElem?_getD, hcl, hi])
          rw [Bool.and_eq_true, Bool.not_eq_true', decide_eq_false_iff_not]
          omega
        rw [this]; rfl
    rw [← h3]
    omega
  · rw [if_neg h0, if_neg h0, if_neg (by omega)]
    rfl
/-! ### the rests by signs -/
def rsStep (L : List (Int × Int)) (c : Int) : List (Int × Int) := L ++ L.map fun p => (p.1 - (c + 1), 0 - p.2)
def rsT (caps : List Int) (s : Int) : List (Int × Int) := caps.foldl rsStep [(s, 1)]
theorem rs_snoc {caps : List Int} {c s : Int} : rsT (caps ++ [c]) s = rsStep (rsT caps s) c := by unfold rsT; rw [List.foldl_append]; rfl
theorem rs_shift {k : Int} : ∀ (caps : List Int) (L : List (Int × Int)), caps.foldl rsStep (L.map fun p => (p.1 - k, p.2)) = (caps.foldl rsStep L).map fun p => (p.1 - k, p.2)
  | [], L => rfl
  | c :: caps, L => by
    rw [List.foldl_cons, List.foldl_cons, ← rs_shift caps]
    congr 1
    unfold rsStep
    rw [List.map_append, List.map_map, List.map_map]
    congr 1
    refine List.map_congr_left fun p _ => ?_
    show (p.1 - k - (c + 1), 0 - p.2) = (p.1 - (c + 1) - k, 0 - p.2)
    congr 1
    omega
def wtL (w : Nat) (L : List (Int × Int)) : Int := ((L.filter fun p => decide (0 ≤ p.1)).map fun p => p.2 * (ch (p.1.toNat + w - 1) (w - 1) : Int)).sum
theorem wtL_app {w : Nat} {L M : List (Int × Int)} : wtL w (L ++ M) = wtL w L + wtL w M := by
  unfold wtL
  rw [List.filter_append, List.map_append, sum_app]
theorem wtL_neg {w : Nat} : ∀ L : List (Int × Int), wtL w (L.map fun p => (p.1, 0 - p.2)) = - wtL w L
  | [] => rfl
  | p :: L => by
    have ih := wtL_neg (w := w) L
    unfold wtL at ih ⊢
    rw [List.map_cons, List.filter_cons, List.filter_cons]
    by_cases h : 0 ≤ p.1
    · simp only [h, decide_true, if_true, List.map_cons, List.sum_cons, ih]
      rw [Int.zero_sub, Int.neg_mul]
      omega
    · simp only [h, decide_false, Bool.false_eq_true, if_false, ih]
theorem wt_rs {w : Nat} (hw : 0 < w) : ∀ (n : Nat) (caps : List Int) (s : Int), caps.length = n → n ≤ w → (∀ c ∈ caps, 0 ≤ c) → wtL w (rsT caps s) = nB w caps s
  | 0, caps, s, hl, _, _ => by
    rw [List.length_eq_zero_iff.mp hl, nB_nil hw]
    unfold wtL rsT
    by_cases h : 0 ≤ s
    · simp [h]
    · simp [h]
  | n + 1, caps, s, hl, hn, hc => by
    obtain ⟨cs, c, rfl⟩ : ∃ cs c, caps = cs ++ [c] := by
      have hne : caps ≠ [] := by intro e; rw [e] at hl; simp at hl
      exact ⟨caps.dropLast, caps.getLast hne, (List.dropLast_concat_getLast hne).symm⟩
    rw [List.length_append, List.length_singleton] at hl
    have h1 := wt_rs hw n cs s (by omega) (by omega) fun x hx => hc x (by simp [hx])
    have h2 := wt_rs hw n cs (s - (c + 1)) (by omega) (by omega) fun x hx => hc x (by simp [hx])
    rw [rs_snoc, nB_snoc (by omega) (hc c (by simp)), ← h1, ← h2]
    unfold rsStep
    rw [wtL_app]
    have e : (rsT cs s).map (fun p => (p.1 - (c + 1), 0 - p.2)) = (rsT cs (s - (c + 1))).map fun p => (p.1, 0 - p.2) := by
      have := rs_shift (k := c + 1) cs [(s, 1)]
      unfold rsT
      rw [show [((s - (c + 1) : Int), (1 : Int))] = [(s, (1 : Int))].map fun p => (p.1 - (c + 1), p.2) from rfl, this, List.map_map]
      rfl
    rw [e, wtL_neg]
    omega
/-! ### which shares a kind can have -/
theorem fill : ∀ (k : List Nat) (n : Nat), n ≤ k.sum → ∃ c : List Nat, c.length = k.length ∧ c.sum = n ∧ ∀ i, c.getD i 0 ≤ k.getD i 0
  | [], n, h => ⟨[], rfl, by simp at h; simp [h], fun i => Nat.le_refl _⟩
  | a :: k, n, h => by
    rw [List.sum_cons] at h
    obtain ⟨c, h1, h2, h3⟩ := fill k (n - min a n) (by omega)
    refine ⟨min a n :: c, by simp [h1], by rw [List.sum_cons, h2]; omega, fun i => ?_⟩
    cases i with
    | zero => simp; omega
    | succ i => simpa using h3 i
theorem sum_pt : ∀ {c k : List Nat}, c.length = k.length → (∀ i, c.getD i 0 ≤ k.getD i 0) → c.sum ≤ k.sum
  | [], [], _, _ => Nat.le_refl _
  | [], _ :: _, h, _ => by simp at h
  | _ :: _, [], h, _ => by simp at h
  | a :: c, b :: k, h, h2 => by
    have h0 := h2 0
    have := sum_pt (c := c) (k := k) (by simpa using h) fun i => by simpa using h2 (i + 1)
    simp at h0
    rw [List.sum_cons, List.sum_cons]
    omega
theorem sum_less {k : List Nat} {r : Nat} (hr : r < k.length) : k.sum = (k.set r 0).sum + k.getD r 0 := by
  have h := sum_set (c := k.set r 0) (k := r) (p := k.getD r 0) (by simpa using hr)
  rw [get_set hr, if_pos rfl, Nat.zero_add, List.set_set] at h
  have e : k.set r (k.getD r 0) = k := by
    apply List.ext_getElem (by simp)
    intro i p q
    by_cases hj : r = i
    · subst hj; simp [List.getD_eq_getElem?_getD, q]
    · rw [List.getElem_set_ne hj]
  rw [e] at h
  exact h
theorem bd_some {k : List Nat} {r e n : Nat} (hr : r < k.length) (he : e ≤ k.getD r 0) (he2 : e ≤ n) (hn : n ≤ e + (k.set r 0).sum) : ∃ c ∈ en k.length n, (∀ i, c.getD i 0 ≤ k.getD i 0) ∧ c.getD r 0 = e := by
  obtain ⟨c, h1, h2, h3⟩ := fill (k.set r 0) (n - e) (by omega)
  rw [List.length_set] at h1
  have h0 : c.getD r 0 = 0 := by
    have := h3 r
    rw [get_set hr, if_pos rfl] at this
    omega
  have hs := sum_set (c := c) (k := r) (p := e) (by omega)
  rw [h0, Nat.zero_add] at hs
  refine ⟨c.set r e, mem_en.mpr ⟨by simp [h1], by omega⟩, fun i => ?_, ?_⟩
  · rw [get_set (by omega)]
    by_cases hi : i = r
    · subst hi; rw [if_pos rfl]; exact he
    · rw [if_neg hi]
      have := h3 i
      rw [get_set hr, if_neg hi] at this
      exact this
  · rw [get_set (by omega), if_pos rfl]
theorem bd_le {k c : List Nat} {r : Nat} (hr : r < k.length) (hl : c.length = k.length) (h : ∀ i, c.getD i 0 ≤ k.getD i 0) : c.sum ≤ c.getD r 0 + (k.set r 0).sum := by
  have h1 := sum_less (k := c) (r := r) (by omega)
  have h2 := sum_pt (c := c.set r 0) (k := k.set r 0) (by simp [hl]) fun i => by
    rw [get_set (by omega), get_set hr]
    split
    · exact Nat.le_refl _
    · exact h i
  omega
theorem le_sumN {c : List Nat} {r : Nat} (hr : r < c.length) : c.getD r 0 ≤ c.sum := by
  have := sum_less hr
  omega
end Lw
namespace Lw
open PySem PySem.Spec PyProof.Rows L2 Fx
@[simp] theorem fKw_ap {a : Rho → Rz (List T)} {b : Rho → Rz T} {ρ : Rho} : fKw a b ρ = (a ρ).bind fun ts ρ1 => (b ρ1).bind fun u ρ2 => .ok (ts ++ [u]) ρ2 := byRfl rfl
@[simp] theorem fZipM_ap {φ φ2 : Rho → Rz T} {ρ : Rho} : fZipM φ φ2 ρ = (φ ρ).bind fun t ρ1 => (φ2 ρ1).bind fun u ρ2 => match itemsT t, itemsT u with
  | some ts, some us => .ok (pairT ts us) ρ2
  | _, _ => .stuck := byRfl rfl
theorem le_big' {n : Nat} (h : n ≤ 16000000) : n ≤ sizeLine := Nat.le_trans h (by decide)
/-! ### a largest number -/
def highI (S : List Int) (w : Nat) (most : Int) (r : Nat) : Int := minI ((cls w (dys S w) r).map fun d => most - Dd S w d)
def lowR (S : List Int) (w r : Nat) : Int := lowI (Dd S w) w (dys S w) r
def capI (S : List Int) (w : Nat) (most : Int) (r : Nat) : Int := highI S w most r - lowR S w r
def lowsT (S : List Int) (w : Nat) : List T := (List.range w).map fun r => .int (lowR S w r)
def highsT (S : List Int) (w : Nat) (most : Int) : List T := (List.range w).map fun r => .int (highI S w most r)
theorem m_bounds {S : List Int} {w : Nat} {most : Int} (hS : okSums S = true) (h : 2 ≤ w) (h2 : w ≤ 12) (hm : 0 ≤ most ∧ most ≤ 1000000000) : phi_bounds_of [.tup (S.map .int), .int (w : Nat), .int most] = .va (.tup [shT S w, .lst (lowsT S w), .lst (highsT S w most)]) := by
  obtain ⟨s1, s2, s3⟩ := okSums_iff hS
  have f1 := m_need_sums hS h h2
  have f2 := m_is_from_int (i := most) (lo := 0) (hi := 1000000000)
  rw [decide_eq_true hm] at f2
  have f3 := m_shape hS h h2
  have f4 := m_lows_sh hS h h2
  have f4 : phi_lows_of [shT S w] = .ow (lowsT S w) := f4
  have l3 := @le_line 3 (by omega)
  have hN : w ≤ dys S w := by have := List.length_pos_iff.mpr s1; unfold dys; omega
  have hN2 : dys S w ≤ 60 := by unfold dys; omega
  have lc : fLc (fRange1 (fVar 1)) (tgN 5) (fYes) (fCall gMin (fCons (fFz (fLc (fItems (fSlA (fBin gIx (fVar 3) (fC (.int 0))) (fPs (fVar 5)) (fPn) (fPs (fVar 1)))) (tgN 6) (fYes) (fBin gSub (fVar 2) (fVar 6)) [6])) (fNil))) [5]
      [.va (.tup (S.map .int)), .va (.int (w : Nat)), .va (.int most), .va (shT S w), .no, .no, .no] = .ok (highsT S w most) [.va (.tup (S.map .int)), .va (.int (w : Nat)), .va (.int most), .va (shT S w), .no, .no, .no] := by
    rw [fLc_is (fun r : Nat => T.int (r : Nat)) (fun r => T.int (highI S w most r)) (List.range w) ?hi ?hl ?h]
    case hi => exact rng1 (j := (w : Nat)) rfl (by omega) (by omega)
    case hl => exact le_line (by simp; omega)
    case h =>
      intro r hr
      have hr := List.mem_range.mp hr
      have lc2 : fLc (fItems (fSlA (fBin gIx (fVar 3) (fC (.int 0))) (fPs (fVar 5)) (fPn) (fPs (fVar 1)))) (tgN 6) (fYes) (fBin gSub (fVar 2) (fVar 6)) [6]
          [.va (.tup (S.map .int)), .va (.int (w : Nat)), .va (.int most), .va (shT S w), .no, .va (.int (r : Nat)), .no] = .ok ((cls w (dys S w) r).map fun d => T.int (most - Dd S w d)) [.va (.tup (S.map .int)), .va (.int (w : Nat)), .va (.int most), .va (shT S w), .no, .va (.int (r : Nat)), .no] := by
        rw [fLc_is (fun d : Nat => T.int (Dd S w d)) (fun d => T.int (most - Dd S w d)) (cls w (dys S w) r) ?hi ?hl ?h]
        case hi =>
          have hg := gSl3_lst (xs := (List.range (dys S w)).map fun d => T.int (Dd S w d)) (lo := some (r : Int)) (hi := none) (st := some (w : Int)) (by simp; omega)
          rw [pickT_cls (by omega) (show r ≤ dys S w by omega) hr] at hg
          have hx : gIx (shT S w) (.int 0) = some (.lst ((List.range (dys S w)).map fun d => T.int (Dd S w d))) := rfl
          generalize (List.range (dys S w)).map (fun d => T.int (Dd S w d)) = X at *
          generalize shT S w = SH at *
          simp [hx, hg]
        case hl => unfold cls; rw [List.length_map, List.length_range]; exact le_line (Nat.le_trans (Nat.div_le_self _ _) (by omega))
        case h =>
          intro d hd
          generalize shT S w = SH at *
          simp [lcS_ap, wipeR]
        simp [unwipe, wipeR, keepS]
      have k1 := gMin_f (f := fun d => most - Dd S w d) (cls_ne (w := w) (N := dys S w) hr (show r < dys S w by omega))
      have k1 : gMin [.lst ((cls w (dys S w) r).map fun d => T.int (most - Dd S w d))] = some (.int (highI S w most r)) := k1
      generalize (cls w (dys S w) r).map (fun d => T.int (most - Dd S w d)) = CL at *
      generalize highI S w most r = hh at *
      generalize shT S w = SH at *
      generalize S.map T.int = ST at *
      simp [lcS_ap, wipeR, lc2, k1]
    simp [unwipe, wipeR, keepS, highsT]
  generalize shT S w = SH at *
  generalize lowsT S w = LT at *
  generalize highsT S w most = HT' at *
  generalize S.map T.int = ST at *
  simp [phi_bounds_of, psi_bounds_of, f1, f2, f3, f4, lc, l3, -fRange1_ap]
def prZ (p : Int × Int) : T := .tup [.int p.1, .int p.2]
def capsI (S : List Int) (w : Nat) (most : Int) : List Int := (List.range w).map (capI S w most)
def cntL (S : List Int) (w : Nat) (most : Int) : Int := if (List.range w).any (fun r => decide (highI S w most r < lowR S w r)) then 0 else nB w (capsI S w most) (slackI S w)
theorem rs_len : ∀ (caps : List Int) (s : Int), (rsT caps s).length = 2 ^ caps.length := fun caps s => by
  unfold rsT
  suffices ∀ (caps : List Int) (L : List (Int × Int)), (caps.foldl rsStep L).length = L.length * 2 ^ caps.length by simpa using this caps [(s, 1)]
  intro caps
  induction caps with
  | nil => intro L; simp
  | cons c caps ih =>
    intro L
    rw [List.foldl_cons, ih]
    unfold rsStep
    rw [List.length_append, List.length_map, List.length_cons, Nat.pow_succ, ← Nat.two_mul, Nat.mul_comm 2 L.length, Nat.mul_assoc, Nat.mul_comm (2 ^ caps.length) 2]
theorem rs_bd {caps : List Int} {s : Int} (hc : ∀ c ∈ caps, 0 ≤ c) : ∀ p ∈ rsT caps s, (p.2 = 1 ∨ p.2 = -1) ∧ p.1 ≤ s := by
  unfold rsT
  suffices ∀ (caps : List Int) (L : List (Int × Int)), (∀ c ∈ caps, 0 ≤ c) → (∀ p ∈ L, (p.2 = 1 ∨ p.2 = -1) ∧ p.1 ≤ s) → ∀ p ∈ caps.foldl rsStep L, (p.2 = 1 ∨ p.2 = -1) ∧ p.1 ≤ s from this caps _ hc (fun p hp => by rw [List.mem_singleton.mp hp]; exact ⟨.inl rfl, Int.le_refl _⟩)
  intro caps
  induction caps with
  | nil => intro L _ h; exact h
  | cons c caps ih =>
    intro L h0 h
    rw [List.foldl_cons]
    refine ih _ (fun x hx => h0 x (List.mem_cons_of_mem _ hx)) fun p hp => ?_
    unfold rsStep at hp
    rcases List.mem_append.mp hp with hp | hp
    · exact h p hp
    · obtain ⟨q, hq, rfl⟩ := List.mem_map.mp hp
      have h1 := h q hq
      have h2 := h0 c List.mem_cons_self
      refine ⟨?_, by dsimp only; omega⟩
      dsimp only
      omega
theorem rests_len {S : List Int} {w k : Nat} {most s : Int} (hk : k ≤ 12) : (rsT ((List.range k).map (capI S w most)) s).length ≤ 4096 := by
  rw [rs_len, List.length_map, List.length_range]
  have : 2 ^ k ≤ 2 ^ 12 := Nat.pow_le_pow_right (by omega) hk
  have h2 : 2 ^ 12 = 4096 := by decide
  omega
theorem m_count {S : List Int} {w : Nat} {most : Int} (hS : okSums S = true) (h : 2 ≤ w) (h2 : w ≤ 12) (hm : 0 ≤ most ∧ most ≤ 1000000000) : phi_count_limited [.tup (S.map .int), .int (w : Nat), .int most] = .va (.int (cntL S w most)) := by
  have f1 := m_bounds hS h h2 hm
  have l1 := @le_line 1 (by omega)
  have l2 := @le_line 2 (by omega)
  have hz := zip_tab (n := w) (f := fun r => T.int (lowR S w r)) (g := fun r => T.int (highI S w most r))
  have hzl : pairT (lowsT S w) (highsT S w most) = (List.range w).map fun r => T.tup [.int (lowR S w r), .int (highI S w most r)] := hz
  have lc : fLc (fZip (fVar 4) (fVar 5)) (tgT 2 (tgCons (tgN 6) (tgCons (tgN 7) (tgNil)))) (fYes) (fBin (gLt) (fVar 7) (fVar 6)) [6, 7]
      [.va (.tup (S.map .int)), .va (.int (w : Nat)), .va (.int most), .va (shT S w), .va (.lst (lowsT S w)), .va (.lst (highsT S w most)), .no, .no, .no, .no, .no] = .ok ((List.range w).map fun r => T.bl (decide (highI S w most r < lowR S w r)))
      [.va (.tup (S.map .int)), .va (.int (w : Nat)), .va (.int most), .va (shT S w), .va (.lst (lowsT S w)), .va (.lst (highsT S w most)), .no, .no, .no, .no, .no] := by
    rw [fLc_is (fun r : Nat => T.tup [.int (lowR S w r), .int (highI S w most r)]) (fun r => T.bl (decide (highI S w most r < lowR S w r))) (List.range w) ?hi ?hl ?h]
    case hi => simp [hzl]
    case hl => exact le_line (by simp; omega)
    case h =>
      intro r hr
      generalize lowsT S w = LT at *
      generalize highsT S w most = HT' at *
      generalize shT S w = SH at *
      generalize highI S w most r = a at *
      generalize lowR S w r = b at *
      simp [lcS_ap, wipeR]
    simp [unwipe, wipeR, keepS]
  have k1 := gAny_f (xs := List.range w) (p := fun r => decide (highI S w most r < lowR S w r))
  by_cases ha : (List.range w).any (fun r => decide (highI S w most r < lowR S w r)) = true
  · rw [ha] at k1
    unfold cntL
    rw [if_pos ha]
    generalize (List.range w).map (fun r => T.bl (decide (highI S w most r < lowR S w r))) = BL at *
    generalize shT S w = SH at *
    generalize lowsT S w = LT at *
    generalize highsT S w most = HT' at *
    generalize S.map T.int = ST at *
    simp [phi_count_limited, psi_count_limited, f1, lc, k1, -fZip_ap]
  · have hf : (List.range w).any (fun r => decide (highI S w most r < lowR S w r)) = false := by simpa using ha
    have hcap : ∀ c ∈ capsI S w most, 0 ≤ c := fun c hc => by
      obtain ⟨r, hr, rfl⟩ := List.mem_map.mp hc
      have := (List.any_eq_false.mp hf) r hr
      unfold capI
      simp at this
      omega
    rw [hf] at k1
    have hcnt : cntL S w most = wtL w (rsT (capsI S w most) (slackI S w)) := by
      unfold cntL
      rw [hf]
      simp only [Bool.false_eq_true, if_false]
      exact (wt_rs (by omega) w _ _ (by unfold capsI; simp) (Nat.le_refl _) hcap).symm
    have hs0 : gIx (shT S w) (.int 2) = some (.int (S.getD 0 0)) := rfl
    have hsum : gSum [.lst (lowsT S w)] = some (.int (S.getD 0 0 - slackI S w)) := by
      have e : gSum [.lst (lowsT S w)] = some (.int ((List.range w).map (lowR S w)).sum) := gSum_f
      rw [e]
      congr 2
      unfold slackI lowR
      omega
    have hsl : S.getD 0 0 - (S.getD 0 0 - slackI S w) = slackI S w := by omega
    have hslb := slack_small hS h h2
    obtain ⟨S0, hS0⟩ : ∃ S0, S.getD 0 0 = S0 := ⟨_, rfl⟩
    rw [hS0] at hs0 hsum hsl
    simp only [phi_count_limited, psi_count_limited, fnP_ap]
    generalize hBL : (List.range w).map (fun r => T.bl (decide (highI S w most r < lowR S w r))) = BL at *
    simp [f1, lc, k1, hs0, hsum, hsl, l1, l2, -fZip_ap]
    have hz2 : fZip (fVar 4) (fVar 5) [.va (.tup (S.map .int)), .va (.int (w : Nat)), .va (.int most), .va (shT S w), .va (.lst (lowsT S w)), .va (.lst (highsT S w most)), .no, .no, .va (.lst [.tup [.int (slackI S w), .int 1]]), .no, .no] =
        .ok ((List.range w).map fun r => T.tup [.int (lowR S w r), .int (highI S w most r)]) [.va (.tup (S.map .int)), .va (.int (w : Nat)), .va (.int most), .va (shT S w), .va (.lst (lowsT S w)), .va (.lst (highsT S w most)), .no, .no, .va (.lst [.tup [.int (slackI S w), .int 1]]), .no, .no] := by simp [hzl]
    rw [hz2, Rz.out_ok]
    refine for_bind (fun o => frOf o = .va (.int (cntL S w most))) (fun k ρ => ∃ o6 o7, ρ = [.va (.tup (S.map .int)), .va (.int (w : Nat)), .va (.int most), .va (shT S w), .va (.lst (lowsT S w)), .va (.lst (highsT S w most)), o6, o7, .va (.lst ((rsT ((List.range k).map (capI S w most)) (slackI S w)).map prZ)), .no, .no]) ⟨.no, .no, rfl⟩ ?_ ?_
    · intro k t ρ hk hI
      obtain ⟨o6, o7, rfl⟩ := hI
      have hkw : k < w := by simpa using (List.getElem?_eq_some_iff.mp hk).1
      rw [List.getElem?_map, List.getElem?_range hkw] at hk
      cases hk
      have hl := rests_len (S := S) (w := w) (k := k) (most := most) (s := slackI S w) (by omega)
      have lc2 : fLc (fItems (fVar 8)) (tgT 2 (tgCons (tgN 9) (tgCons (tgN 10) (tgNil)))) (fYes) (fTup (fCons (fBin gSub (fVar 9) (fBin gAdd (fBin gSub (fVar 7) (fVar 6)) (fC (.int 1)))) (fCons (fBin gSub (fC (.int 0)) (fVar 10)) (fNil)))) [9, 10]
          [.va (.tup (S.map .int)), .va (.int (w : Nat)), .va (.int most), .va (shT S w), .va (.lst (lowsT S w)), .va (.lst (highsT S w most)), .va (.int (lowR S w k)), .va (.int (highI S w most k)), .va (.lst ((rsT ((List.range k).map (capI S w most)) (slackI S w)).map prZ)), .no, .no] =
          .ok ((rsT ((List.range k).map (capI S w most)) (slackI S w)).map fun p => prZ (p.1 - (capI S w most k + 1), 0 - p.2)) [.va (.tup (S.map .int)), .va (.int (w : Nat)), .va (.int most), .va (shT S w), .va (.lst (lowsT S w)), .va (.lst (highsT S w most)), .va (.int (lowR S w k)), .va (.int (highI S w most k)), .va (.lst ((rsT ((List.range k).map (capI S w most)) (slackI S w)).map prZ)), .no, .no] := by
        rw [fLc_is prZ (fun p => prZ (p.1 - (capI S w most k + 1), 0 - p.2)) (rsT ((List.range k).map (capI S w most)) (slackI S w)) ?hi ?hl ?h]
        case hi => simp
        case hl => exact le_line (by omega)
        case h =>
          intro p hp
          unfold capI
          generalize (rsT ((List.range k).map fun r => highI S w most r - lowR S w r) (slackI S w)).map prZ = RL at *
          generalize lowsT S w = LT at *
          generalize highsT S w most = HT' at *
          generalize shT S w = SH at *
          generalize highI S w most k = a at *
          generalize lowR S w k = b at *
          simp [lcS_ap, wipeR, prZ, l2]
        simp [unwipe, wipeR, keepS]
      have e2 : gAdd (.lst ((rsT ((List.range k).map (capI S w most)) (slackI S w)).map prZ)) (.lst ((rsT ((List.range k).map (capI S w most)) (slackI S w)).map fun p => prZ (p.1 - (capI S w most k + 1), 0 - p.2))) = some (.lst ((rsT ((List.range (k + 1)).map (capI S w most)) (slackI S w)).map prZ)) := by
        rw [List.range_succ, List.map_append, List.map_singleton, rs_snoc]
        unfold rsStep
        rw [List.map_append, List.map_map]
        exact gAdd_lst (le_line (by rw [List.length_map, List.length_map]; omega))
      generalize (rsT ((List.range k).map (capI S w most)) (slackI S w)).map prZ = R1 at *
      generalize (rsT ((List.range k).map (capI S w most)) (slackI S w)).map (fun p => prZ (p.1 - (capI S w most k + 1), 0 - p.2)) = R2 at *
      generalize (rsT ((List.range (k + 1)).map (capI S w most)) (slackI S w)).map prZ = R3 at *
      generalize lowsT S w = LT at *
      generalize highsT S w most = HT' at *
      generalize shT S w = SH at *
      rw [forS_ap]
      simp [lc2, e2]
    · intro ρ hI
      obtain ⟨o6, o7, rfl⟩ := hI
      have hlt : ((List.range w).map fun r => T.tup [.int (lowR S w r), .int (highI S w most r)]).length = w := by simp
      rw [hlt]
      have hcaps : (List.range w).map (capI S w most) = capsI S w most := rfl
      rw [hcaps]
      have hl := rests_len (S := S) (w := w) (k := w) (most := most) (s := slackI S w) h2
      rw [hcaps] at hl
      have hbd := rs_bd (caps := capsI S w most) (s := slackI S w) hcap
      have lc3 : fLc (fItems (fVar 8)) (tgT 2 (tgCons (tgN 9) (tgCons (tgN 10) (tgNil)))) (fTest (fBin (gGe) (fVar 9) (fC (.int 0)))) (fBin gMul (fVar 10) (fDef phi_choose (fCons (fBin gSub (fBin gAdd (fVar 9) (fVar 1)) (fC (.int 1))) (fCons (fBin gSub (fVar 1) (fC (.int 1))) (fNil))))) [9, 10]
          [.va (.tup (S.map .int)), .va (.int (w : Nat)), .va (.int most), .va (shT S w), .va (.lst (lowsT S w)), .va (.lst (highsT S w most)), o6, o7, .va (.lst ((rsT (capsI S w most) (slackI S w)).map prZ)), .no, .no] =
          .ok (((rsT (capsI S w most) (slackI S w)).filter fun p => decide (0 ≤ p.1)).map fun p => T.int (p.2 * (ch (p.1.toNat + w - 1) (w - 1) : Int))) [.va (.tup (S.map .int)), .va (.int (w : Nat)), .va (.int most), .va (shT S w), .va (.lst (lowsT S w)), .va (.lst (highsT S w most)), o6, o7, .va (.lst ((rsT (capsI S w most) (slackI S w)).map prZ)), .no, .no] := by
        rw [fLc_if prZ (fun p => T.int (p.2 * (ch (p.1.toNat + w - 1) (w - 1) : Int))) (fun p => decide (0 ≤ p.1)) (rsT (capsI S w most) (slackI S w)) ?hi ?hl ?h]
        case hi => simp
        case hl => exact le_line (by omega)
        case h =>
          intro p hp
          obtain ⟨b1, b2⟩ := hbd p hp
          generalize (rsT (capsI S w most) (slackI S w)).map prZ = RL at *
          generalize lowsT S w = LT at *
          generalize highsT S w most = HT' at *
          generalize shT S w = SH at *
          rw [lcF_ap]
          by_cases hp0 : 0 ≤ p.1
          · have e1 : p.1 + (w : Int) - 1 = ((p.1.toNat + w - 1 : Nat) : Int) := by omega
            have e2 : (w : Int) - 1 = ((w - 1 : Nat) : Int) := by omega
            have e3 := m_choose (n := p.1.toNat + w - 1) (k := w - 1) (by omega) (by omega)
            rw [← e1, ← e2] at e3
            have e4 := gMul_int (i := p.2) (j := (ch (p.1.toNat + w - 1) (w - 1) : Nat)) (by
              have := ch_log (n := p.1.toNat + w - 1) (k := w - 1) (by omega) (by omega)
              have h1 : p.2.natAbs.log2 = 0 := by rcases b1 with e | e <;> rw [e] <;> rfl
              rw [h1, Int.natAbs_natCast]
              omega)
            generalize ch (p.1.toNat + w - 1) (w - 1) = cc at *
            simp [wipeR, prZ, hp0, e3, e4]
          · simp [wipeR, prZ, hp0]
        simp [unwipe, wipeR, keepS]
      have k3 : gSum [.lst (((rsT (capsI S w most) (slackI S w)).filter fun p => decide (0 ≤ p.1)).map fun p => T.int (p.2 * (ch (p.1.toNat + w - 1) (w - 1) : Int)))] = some (.int (cntL S w most)) := by
        rw [gSum_f, hcnt]; rfl
      generalize ((rsT (capsI S w most) (slackI S w)).filter fun p => decide (0 ≤ p.1)).map (fun p => T.int (p.2 * (ch (p.1.toNat + w - 1) (w - 1) : Int))) = FL at *
      simp [lc3, k3]
def mxI (i j : Int) : Int := if j > i then j else i
def mnI (i j : Int) : Int := if j < i then j else i
def sumHi (S : List Int) (w : Nat) (most : Int) : Int := ((List.range w).map (highI S w most)).sum
def okL (S : List Int) (w : Nat) (most : Int) : Bool := !((List.range w).any fun r => decide (highI S w most r < lowR S w r)) && (decide (0 ≤ slackI S w) && decide (S.getD 0 0 ≤ sumHi S w most))
def limT (S : List Int) (w : Nat) (most : Int) (d : Nat) : T := .tup [.int (mxI (lowR S w (d % w)) (S.getD 0 0 - (sumHi S w most - highI S w most (d % w))) + Dd S w d), .int (mnI (highI S w most (d % w)) (S.getD 0 0 - (S.getD 0 0 - slackI S w - lowR S w (d % w))) + Dd S w d)]
theorem m_limited {S : List Int} {w : Nat} {most : Int} (hS : okSums S = true) (h : 2 ≤ w) (h2 : w ≤ 12) (hm : 0 ≤ most ∧ most ≤ 1000000000) : phi_ranges_limited [.tup (S.map .int), .int (w : Nat), .int most] = if okL S w most then .ow ((List.range (dys S w)).map (limT S w most)) else .rs "NoRows" none := by
  obtain ⟨s1, s2, s3⟩ := okSums_iff hS
  have hN2 : dys S w ≤ 60 := by unfold dys; omega
  have f1 := m_bounds hS h h2 hm
  have l0 := @le_line 0 (by omega)
  have l1 := @le_line 1 (by omega)
  have l2 := @le_line 2 (by omega)
  have hz := zip_tab (n := w) (f := fun r => T.int (lowR S w r)) (g := fun r => T.int (highI S w most r))
  have hzl : pairT (lowsT S w) (highsT S w most) = (List.range w).map fun r => T.tup [.int (lowR S w r), .int (highI S w most r)] := hz
  have lc : fLc (fZip (fVar 4) (fVar 5)) (tgT 2 (tgCons (tgN 7) (tgCons (tgN 8) (tgNil)))) (fYes) (fBin (gLt) (fVar 8) (fVar 7)) [7, 8]
      [.va (.tup (S.map .int)), .va (.int (w : Nat)), .va (.int most), .va (shT S w), .va (.lst (lowsT S w)), .va (.lst (highsT S w most)), .va (.int (S.getD 0 0)), .no, .no, .no, .no, .no, .no] = .ok ((List.range w).map fun r => T.bl (decide (highI S w most r < lowR S w r)))
      [.va (.tup (S.map .int)), .va (.int (w : Nat)), .va (.int most), .va (shT S w), .va (.lst (lowsT S w)), .va (.lst (highsT S w most)), .va (.int (S.getD 0 0)), .no, .no, .no, .no, .no, .no] := by
    rw [fLc_is (fun r : Nat => T.tup [.int (lowR S w r), .int (highI S w most r)]) (fun r => T.bl (decide (highI S w most r < lowR S w r))) (List.range w) ?hi ?hl ?h]
    case hi => simp [hzl]
    case hl => exact le_line (by simp; omega)
    case h =>
      intro r hr
      generalize lowsT S w = LT at *
      generalize highsT S w most = HT' at *
      generalize shT S w = SH at *
      generalize highI S w most r = a at *
      generalize lowR S w r = b at *
      simp [lcS_ap, wipeR]
    simp [unwipe, wipeR, keepS]
  have k1 := gAny_f (xs := List.range w) (p := fun r => decide (highI S w most r < lowR S w r))
  have hs0 : gIx (shT S w) (.int 2) = some (.int (S.getD 0 0)) := rfl
  have hsum : gSum [.lst (lowsT S w)] = some (.int (S.getD 0 0 - slackI S w)) := by
    have e : gSum [.lst (lowsT S w)] = some (.int ((List.range w).map (lowR S w)).sum) := gSum_f
    rw [e]
    congr 2
    unfold slackI lowR
    omega
  have hsum2 : gSum [.lst (highsT S w most)] = some (.int (sumHi S w most)) := gSum_f
  have hx : gIx (shT S w) (.int 0) = some (.lst ((List.range (dys S w)).map fun d => T.int (Dd S w d))) := rfl
  have hen : pairT (numsT (dys S w)) ((List.range (dys S w)).map fun d => T.int (Dd S w d)) = (List.range (dys S w)).map fun d => T.tup [.int (d : Nat), .int (Dd S w d)] := enum_tab
  have hlen : ((List.range (dys S w)).map fun d => T.int (Dd S w d)).length = dys S w := by simp
  have hcmp : decide (S.getD 0 0 - slackI S w ≤ S.getD 0 0) = decide (0 ≤ slackI S w) := by rw [decide_eq_decide]; omega
  have hloop : ∀ (a7 a8 : Sl), frOf ((forGo (tgT 2 (tgCons (tgN 10) (tgCons (tgN 11) (tgNil)))) (sSeq (sPar 7 8 (fBin gIx (fVar 4) (fBin gMod (fVar 10) (fVar 1))) (fBin gIx (fVar 5) (fBin gMod (fVar 10) (fVar 1))))
    (sSeq (sSet 12 (fCall gMax (fCons (fVar 7) (fCons (fBin gSub (fVar 6) (fBin gSub (fCall gSum (fCons (fVar 5) (fNil))) (fVar 8))) (fNil)))))
    (sApp 9 (fTup (fCons (fBin gAdd (fVar 12) (fVar 11)) (fCons (fBin gAdd (fCall gMin (fCons (fVar 8) (fCons (fBin gSub (fVar 6) (fBin gSub (fCall gSum (fCons (fVar 4) (fNil))) (fVar 7))) (fNil)))) (fVar 11)) (fNil)))))))
      ((List.range (dys S w)).map fun d => T.tup [.int (d : Nat), .int (Dd S w d)]) [.va (.tup (S.map .int)), .va (.int (w : Nat)), .va (.int most), .va (shT S w), .va (.lst (lowsT S w)), .va (.lst (highsT S w most)), .va (.int (S.getD 0 0)), a7, a8, .ow [], .no, .no, .no]).bind (sRetMv 9)) = .ow ((List.range (dys S w)).map (limT S w most)) := by
    intro a7 a8
    refine for_bind (fun o => frOf o = .ow ((List.range (dys S w)).map (limT S w most))) (fun k ρ => ∃ a7 a8 a10 a11 a12, ρ = [.va (.tup (S.map .int)), .va (.int (w : Nat)), .va (.int most), .va (shT S w), .va (.lst (lowsT S w)), .va (.lst (highsT S w most)), .va (.int (S.getD 0 0)), a7, a8, .ow ((List.range k).map (limT S w most)), a10, a11, a12]) ⟨_, _, _, _, _, rfl⟩ ?_ ?_
    · rintro j t ρ hj ⟨a7, a8, a10, a11, a12, rfl⟩
      have hjl : j < dys S w := by simpa using (List.getElem?_eq_some_iff.mp hj).1
      rw [List.getElem?_map, List.getElem?_range hjl] at hj
      cases hj
      have hm := Nat.mod_lt j (show 0 < w by omega)
      have e := atT_tab (n := w) (f := fun r => T.int (lowR S w r)) hm
      have e2 := atT_tab (n := w) (f := fun r => T.int (highI S w most r)) hm
      rw [Int.natCast_emod] at e e2
      have e : Fx.atT (lowsT S w) ((j : Int) % (w : Int)) = some (.int (lowR S w (j % w))) := e
      have e2 : Fx.atT (highsT S w most) ((j : Int) % (w : Int)) = some (.int (highI S w most (j % w))) := e2
      have hjw := gMod_nat (i := j) (show 0 < w by omega)
      rw [Int.natCast_emod] at hjw
      have ll := @lt_line j (by omega)
      have hS : (List.range (j + 1)).map (limT S w most) = (List.range j).map (limT S w most) ++ [limT S w most j] := by rw [List.range_succ, List.map_append]; rfl
      rw [hS]
      have hlm : ((List.range j).map (limT S w most)).length = j := by simp
      have hT : limT S w most j = T.tup [.int (mxI (lowR S w (j % w)) (S.getD 0 0 - (sumHi S w most - highI S w most (j % w))) + Dd S w j), .int (mnI (highI S w most (j % w)) (S.getD 0 0 - (S.getD 0 0 - slackI S w - lowR S w (j % w))) + Dd S w j)] := rfl
      have hmx : ∀ i k, gMax [.int i, .int k] = some (.int (mxI i k)) := fun i k => gMax2
      have hmn : ∀ i k, gMin [.int i, .int k] = some (.int (mnI i k)) := fun i k => gMin2
      rw [hT]
      generalize (List.range j).map (limT S w most) = LL at *
      generalize S.getD 0 0 = S0 at *
      generalize slackI S w = sl at *
      generalize shT S w = SH at *
      generalize lowsT S w = LT at *
      generalize highsT S w most = HT' at *
      generalize lowR S w (j % w) = b at *
      generalize highI S w most (j % w) = a at *
      generalize sumHi S w most = q at *
      simp [forS_ap, hjw, e, e2, hsum, hsum2, hlm, ll, l2, hmx, hmn]
    · rintro ρ ⟨a7, a8, a10, a11, a12, rfl⟩
      rw [List.length_map, List.length_range]
      generalize (List.range (dys S w)).map (limT S w most) = LL at *
      simp
  unfold okL
  generalize (List.range w).any (fun r => decide (highI S w most r < lowR S w r)) = an at *
  generalize (List.range w).map (fun r => T.bl (decide (highI S w most r < lowR S w r))) = BL at *
  generalize (List.range (dys S w)).map (limT S w most) = LL at *
  generalize S.getD 0 0 = S0 at *
  generalize slackI S w = sl at *
  generalize shT S w = SH at *
  generalize lowsT S w = LT at *
  generalize highsT S w most = HT' at *
  generalize sumHi S w most = q at *
  generalize (List.range (dys S w)).map (fun d => T.int (Dd S w d)) = DL at *
  generalize (List.range (dys S w)).map (fun d => T.tup [.int (d : Nat), .int (Dd S w d)]) = PL at *
  cases an
  · by_cases h3 : 0 ≤ sl
    · by_cases h4 : S0 ≤ q
      · simp [phi_ranges_limited, psi_ranges_limited, f1, lc, k1, hs0, hsum, hsum2, hcmp, h3, h4, hx, hlen, hen, l0, hloop, -fZip_ap]
      · simp [phi_ranges_limited, psi_ranges_limited, f1, lc, k1, hs0, hsum, hsum2, hcmp, h3, h4, -fZip_ap]
    · simp [phi_ranges_limited, psi_ranges_limited, f1, lc, k1, hs0, hsum, hsum2, hcmp, h3, -fZip_ap]
  · simp [phi_ranges_limited, psi_ranges_limited, f1, lc, k1, hs0, -fZip_ap]
theorem m_least {S : List Int} {w : Nat} (hS : okSums S = true) (h : 2 ≤ w) (h2 : w ≤ 12) (hpos : ∀ m, 0 ≤ cntL S w m) (hmono : ∀ a b, a ≤ b → 0 < cntL S w a → 0 < cntL S w b) :
    (cntL S w 1000000000 = 0 ∧ phi_least_limit [.tup (S.map .int), .int (w : Nat)] = .rs "NoRows" none) ∨
    (0 < cntL S w 1000000000 ∧ ∃ least : Int, 0 ≤ least ∧ least ≤ 1000000000 ∧ 0 < cntL S w least ∧ (∀ m, 0 ≤ m → m < least → cntL S w m = 0) ∧ phi_least_limit [.tup (S.map .int), .int (w : Nat)] = .va (.int least)) := by
  have f1 := m_need_sums hS h h2
  have f2 := fun (m : Int) (hm : 0 ≤ m ∧ m ≤ 1000000000) => m_count hS h h2 hm
  have f3 := f2 1000000000 ⟨by omega, by omega⟩
  by_cases h0 : cntL S w 1000000000 = 0
  · refine .inl ⟨h0, ?_⟩
    rw [h0] at f3
    generalize S.map T.int = ST at *
    simp [phi_least_limit, psi_least_limit, f1, f3]
  · have hp : 0 < cntL S w 1000000000 := by have := hpos 1000000000; omega
    refine .inr ⟨hp, ?_⟩
    have hw := while_inv (γ := fTest (fBin (gLt) (fVar 2) (fVar 3))) (body := sSeq (sSet 4 (fBin gDiv (fBin gAdd (fVar 2) (fVar 3)) (fC (.int 2))))
    (sIf (fTest (fBin (gGt) (fDef phi_count_limited (fKw (fCons (fVar 0) (fCons (fVar 1) (fNil))) (fVar 4))) (fC (.int 0)))) (sSet 3 (fVar 4)) (sSet 2 (fBin gAdd (fVar 4) (fC (.int 1))))))
      (fun k ρ => ∃ lo hi a4, ρ = [.va (.tup (S.map .int)), .va (.int (w : Nat)), .va (.int lo), .va (.int hi), a4] ∧ 0 ≤ lo ∧ lo ≤ hi ∧ hi ≤ 1000000000 ∧ hi - lo < ((2 ^ k : Nat) : Int) ∧ 0 < cntL S w hi ∧ ∀ m, 0 ≤ m → m < lo → cntL S w m = 0)
      (fun ρ => ∃ lo a3 a4, ρ = [.va (.tup (S.map .int)), .va (.int (w : Nat)), .va (.int lo), a3, a4] ∧ 0 ≤ lo ∧ lo ≤ 1000000000 ∧ 0 < cntL S w lo ∧ ∀ m, 0 ≤ m → m < lo → cntL S w m = 0)
      (by
        rintro k ρ ⟨lo, hi, a4, rfl, q1, q2, q3, q4, q5, q6⟩
        by_cases hlt : lo < hi
        · refine .inr ⟨by simp [hlt], ?_⟩
          obtain ⟨k', rfl⟩ : ∃ k', k = k' + 1 := ⟨k - 1, by cases k with | zero => simp at q4; omega | succ k => rfl⟩
          rw [Nat.pow_succ] at q4
          have q4 : hi - lo < 2 ^ k' * 2 := by simpa using q4
          obtain ⟨md, hmd⟩ : ∃ md, (lo + hi) / 2 = md := ⟨_, rfl⟩
          have hd : gDiv (.int (lo + hi)) (.int 2) = some (.int md) := by rw [← hmd]; rfl
          have f4 := f2 md ⟨by omega, by omega⟩
          by_cases hc : 0 < cntL S w md
          · generalize hST : S.map T.int = ST at *
            simp [hd, f4, hc]
            exact ⟨k', by omega, lo, md, ⟨rfl, rfl⟩, q1, by omega, by omega, by omega, hc, q6⟩
          · have hz : cntL S w md = 0 := by have := hpos md; omega
            have hall : ∀ m, 0 ≤ m → m < md + 1 → cntL S w m = 0 := fun m hm hm2 => by
              have h3 := hpos m
              rcases Int.lt_or_le 0 (cntL S w m) with h4 | h4
              · exact absurd (hmono m md (by omega) h4) hc
              · omega
            generalize hST : S.map T.int = ST at *
            simp [hd, f4, hz]
            exact ⟨k', by omega, md + 1, hi, ⟨rfl, rfl⟩, by omega, by omega, by omega, by omega, q5, hall⟩
        · have : lo = hi := by omega
          subst this
          exact .inl ⟨by simp, lo, _, _, rfl, q1, q3, q5, q6⟩)
      100 30 [.va (.tup (S.map .int)), .va (.int (w : Nat)), .va (.int 0), .va (.int 1000000000), .no] (by omega) ⟨0, 1000000000, .no, rfl, by omega, by omega, by omega, by decide, hp, fun m h3 h4 => by omega⟩
    obtain ⟨ρ', hw, lo, a3, a4, rfl, q1, q2, q3, q4⟩ := hw
    refine ⟨lo, q1, q2, q3, q4, ?_⟩
    generalize S.map T.int = ST at *
    simp only [phi_least_limit, psi_least_limit, fnP_ap]
    simp [f1, f3, h0, hw]
end Lw
namespace Lw
open PySem PySem.Spec PyProof.Rows L2 Fx
/-! ### rows that keep a bound -/
theorem minI_isA {xs : List Int} {v : Int} (h : v ∈ xs) (h2 : ∀ y ∈ xs, v ≤ y) : minI xs = v :=
  Int.le_antisymm (minI_le h) (h2 _ (minI_mem (List.ne_nil_of_mem h)))
theorem maxI_isA {xs : List Int} {v : Int} (h : v ∈ xs) (h2 : ∀ y ∈ xs, y ≤ v) : maxI xs = v :=
  Int.le_antisymm (h2 _ (maxI_mem (List.ne_nil_of_mem h))) (le_maxI h)
theorem capsI_get {S : List Int} {w r : Nat} {most : Int} (hr : r < w) : (capsI S w most).getD r 0 = capI S w most r := by unfold capsI; simp [hr]
theorem capsI_len {S : List Int} {w : Nat} {most : Int} : (capsI S w most).length = w := by unfold capsI; simp
theorem le_capI {S : List Int} {w r : Nat} {most : Int} {c : Int} (hw : 0 < w) (hS : S ≠ []) (hr : r < w) : c ≤ capI S w most r ↔ ∀ d < dys S w, d % w = r → lowR S w r + Dd S w d + c ≤ most := by
  have hp := List.length_pos_iff.mpr hS
  unfold capI highI
  have hne : (cls w (dys S w) r).map (fun d => most - Dd S w d) ≠ [] := by
    rw [Ne, List.map_eq_nil_iff]
    exact cls_ne hr (show r < dys S w by unfold dys; omega)
  constructor
  · intro h d hd hm
    have := minI_le (List.mem_map.mpr ⟨d, (mem_cls hr).mpr ⟨hd, hm⟩, rfl⟩ : most - Dd S w d ∈ (cls w (dys S w) r).map fun d => most - Dd S w d)
    omega
  · intro h
    obtain ⟨d, hd, e⟩ := List.mem_map.mp (minI_mem hne)
    obtain ⟨h1, h2⟩ := (mem_cls hr).mp hd
    have := h d h1 h2
    omega
theorem keep_iff {S : List Int} {w : Nat} {most : Int} {c : List Nat} (hw : 0 < w) (hS : S ≠ []) : maxI (rowC S w c) ≤ most ↔ okC (capsI S w most) c = true := by
  have hp := List.length_pos_iff.mpr hS
  have hN : 0 < dys S w := by unfold dys; omega
  rw [okC_iff, capsI_len]
  have hne : rowC S w c ≠ [] := by unfold rowC; rw [Ne, List.map_eq_nil_iff, List.range_eq_nil]; omega
  constructor
  · intro h r hr
    rw [capsI_get hr, le_capI hw hS hr]
    intro d hd hm
    have := Int.le_trans (le_maxI (List.mem_map.mpr ⟨d, List.mem_range.mpr hd, rfl⟩ : leastI S w d + (c.getD (d % w) 0 : Int) ∈ rowC S w c)) h
    unfold leastI at this
    unfold lowR
    rw [hm] at this
    omega
  · intro h
    have hmm := maxI_mem hne
    generalize maxI (rowC S w c) = mm at hmm ⊢
    obtain ⟨d, hd, rfl⟩ := List.mem_map.mp hmm
    have hd := List.mem_range.mp hd
    have hm := Nat.mod_lt d hw
    have := h (d % w) hm
    rw [capsI_get hm, le_capI hw hS hm] at this
    have := this d hd rfl
    unfold leastI
    unfold lowR at this
    omega
def goodR (S : List Int) (w : Nat) (most : Int) : List (List Int) := (rowsI S w).filter fun R => decide (maxI R ≤ most)
theorem goodR_eq {S : List Int} {w : Nat} {most : Int} (hw : 0 < w) (hS : S ≠ []) (h0 : 0 ≤ slackI S w) : goodR S w most = ((en w (slackI S w).toNat).filter (okC (capsI S w most))).map (rowC S w) := by
  unfold goodR rowsI
  rw [if_pos h0, List.filter_map]
  congr 1
  refine List.filter_congr fun c _ => ?_
  show decide (maxI (rowC S w c) ≤ most) = _
  rw [Bool.eq_iff_iff, decide_eq_true_eq]
  exact keep_iff hw hS
theorem capI_any {S : List Int} {w : Nat} {most : Int} : (List.range w).any (fun r => decide (highI S w most r < lowR S w r)) = true ↔ ∃ r < w, capI S w most r < 0 := by
  rw [List.any_eq_true]
  unfold capI
  constructor
  · rintro ⟨r, hr, h⟩
    exact ⟨r, List.mem_range.mp hr, by have := of_decide_eq_true h; omega⟩
  · rintro ⟨r, hr, h⟩
    exact ⟨r, List.mem_range.mpr hr, decide_eq_true (by omega)⟩
theorem good_len {S : List Int} {w : Nat} {most : Int} (hw : 0 < w) (hS : S ≠ []) : cntL S w most = ((goodR S w most).length : Int) := by
  by_cases h0 : 0 ≤ slackI S w
  · rw [goodR_eq hw hS h0, List.length_map]
    unfold cntL
    split
    · rename_i ha
      obtain ⟨r, hr, hc⟩ := capI_any.mp ha
      have : (en w (slackI S w).toNat).filter (okC (capsI S w most)) = [] := by
        rw [List.filter_eq_nil_iff]
        intro c _ hk
        have := okC_iff.mp hk r (by rw [capsI_len]; exact hr)
        rw [capsI_get hr] at this
        omega
      rw [this]; rfl
    · unfold nB
      rw [if_pos h0]
  · have : goodR S w most = [] := by unfold goodR rowsI; rw [if_neg h0]; rfl
    rw [this]
    unfold cntL nB
    rw [if_neg h0]
    split <;> rfl
theorem cntL_pos {S : List Int} {w : Nat} {most : Int} (hw : 0 < w) (hS : S ≠ []) : 0 ≤ cntL S w most := by rw [good_len hw hS]; omega
theorem cntL_iff {S : List Int} {w : Nat} {most : Int} (hw : 0 < w) (hS : S ≠ []) : 0 < cntL S w most ↔ ∃ R ∈ rowsI S w, maxI R ≤ most := by
  rw [good_len hw hS]
  constructor
  · intro h
    obtain ⟨R, hR⟩ := List.exists_mem_of_length_pos (show 0 < (goodR S w most).length by omega)
    obtain ⟨h1, h2⟩ := List.mem_filter.mp hR
    exact ⟨R, h1, of_decide_eq_true h2⟩
  · rintro ⟨R, h1, h2⟩
    have : 0 < (goodR S w most).length := List.length_pos_of_mem (List.mem_filter.mpr ⟨h1, decide_eq_true h2⟩)
    omega
theorem cntL_mono {S : List Int} {w : Nat} (hw : 0 < w) (hS : S ≠ []) : ∀ a b, a ≤ b → 0 < cntL S w a → 0 < cntL S w b := fun a b hab h => by
  obtain ⟨R, h1, h2⟩ := (cntL_iff hw hS).mp h
  exact (cntL_iff hw hS).mpr ⟨R, h1, by omega⟩
/-- the caps as numbers -/
def capN (S : List Int) (w : Nat) (most : Int) : List Nat := (List.range w).map fun r => (capI S w most r).toNat
theorem capN_len {S : List Int} {w : Nat} {most : Int} : (capN S w most).length = w := by unfold capN; simp
theorem capN_get {S : List Int} {w r : Nat} {most : Int} (hr : r < w) (h : ∀ r < w, 0 ≤ capI S w most r) : (((capN S w most).getD r 0 : Nat) : Int) = capI S w most r := by
  have := h r hr
  unfold capN; simp [hr]; omega
theorem capN_out {S : List Int} {w r : Nat} {most : Int} (hr : w ≤ r) : (capN S w most).getD r 0 = 0 := by
  unfold capN; simp [List.getD_eq_getElem?_getD, show ¬ r < w by omega]
theorem getD_out {c : List Nat} {r : Nat} (hr : c.length ≤ r) : c.getD r 0 = 0 := by simp [List.getD_eq_getElem?_getD, hr]
theorem okC_capN {S : List Int} {w : Nat} {most : Int} {c : List Nat} (h : ∀ r < w, 0 ≤ capI S w most r) (hl : c.length = w) : okC (capsI S w most) c = true ↔ ∀ i, c.getD i 0 ≤ (capN S w most).getD i 0 := by
  rw [okC_iff, capsI_len]
  constructor
  · intro h2 i
    rcases Nat.lt_or_ge i w with hi | hi
    · have h3 := h2 i hi
      rw [capsI_get hi] at h3
      have := capN_get hi h
      omega
    · rw [getD_out (by omega)]; omega
  · intro h2 i hi
    rw [capsI_get hi]
    have := capN_get hi h
    have := h2 i
    omega
theorem sum_map_int {f : Nat → Nat} : ∀ w : Nat, ((((List.range w).map f).sum : Nat) : Int) = ((List.range w).map fun r => (f r : Int)).sum
  | 0 => rfl
  | w + 1 => by
    rw [List.range_succ, List.map_append, List.map_append, List.sum_append, sum_app, Int.natCast_add, sum_map_int w]
    simp
theorem sum_subI {f g : Nat → Int} : ∀ w : Nat, ((List.range w).map fun r => f r - g r).sum = ((List.range w).map f).sum - ((List.range w).map g).sum
  | 0 => rfl
  | w + 1 => by
    rw [List.range_succ, List.map_append, List.map_append, List.map_append, sum_app, sum_app, sum_app, sum_subI w]
    simp
    omega
theorem capN_sum {S : List Int} {w : Nat} {most : Int} (h : ∀ r < w, 0 ≤ capI S w most r) : (((capN S w most).sum : Nat) : Int) = sumHi S w most - (S.getD 0 0 - slackI S w) := by
  unfold capN
  rw [sum_map_int]
  have e : (List.range w).map (fun r => (((capI S w most r).toNat : Nat) : Int)) = (List.range w).map fun r => highI S w most r - lowR S w r := by
    refine List.map_congr_left fun r hr => ?_
    have := h r (List.mem_range.mp hr)
    show ((capI S w most r).toNat : Int) = capI S w most r
    omega
  rw [e, sum_subI]
  unfold sumHi slackI lowR
  omega
theorem okL_iff {S : List Int} {w : Nat} {most : Int} (hw : 0 < w) (hS : S ≠ []) : okL S w most = true ↔ goodR S w most ≠ [] := by
  unfold okL
  rw [Bool.and_eq_true, Bool.and_eq_true, Bool.not_eq_true', decide_eq_true_eq, decide_eq_true_eq]
  constructor
  · rintro ⟨ha, h0, hs⟩
    have h : ∀ r < w, 0 ≤ capI S w most r := fun r hr => by
      refine Int.not_lt.mp fun hc => ?_
      have := capI_any.mpr ⟨r, hr, hc⟩
      rw [ha] at this; cases this
    rw [goodR_eq hw hS h0, Ne, List.map_eq_nil_iff]
    obtain ⟨c, h1, h2, h3⟩ := fill (capN S w most) (slackI S w).toNat (by have := capN_sum h; omega)
    rw [capN_len] at h1
    exact List.ne_nil_of_mem (List.mem_filter.mpr ⟨mem_en.mpr ⟨h1, h2⟩, (okC_capN h h1).mpr h3⟩)
  · intro hne
    have h0 : 0 ≤ slackI S w := by
      refine Int.not_lt.mp fun hc => hne ?_
      unfold goodR rowsI; rw [if_neg (by omega)]; rfl
    rw [goodR_eq hw hS h0, Ne, List.map_eq_nil_iff] at hne
    obtain ⟨c, hc⟩ := List.exists_mem_of_ne_nil _ hne
    obtain ⟨hc, hk⟩ := List.mem_filter.mp hc
    obtain ⟨hl, hs⟩ := mem_en.mp hc
    have h : ∀ r < w, 0 ≤ capI S w most r := fun r hr => by
      have := okC_iff.mp hk r (by rw [capsI_len]; exact hr)
      rw [capsI_get hr] at this
      omega
    refine ⟨?_, h0, ?_⟩
    · cases e : (List.range w).any fun r => decide (highI S w most r < lowR S w r)
      · rfl
      · obtain ⟨r, hr, hc⟩ := capI_any.mp e
        have := h r hr
        omega
    · have := sum_pt (c := c) (k := capN S w most) (by rw [capN_len, hl]) ((okC_capN h hl).mp hk)
      have := capN_sum h
      omega
theorem good_col {S : List Int} {w : Nat} {most : Int} {d : Nat} (hw : 0 < w) (hS : S ≠ []) (hd : d < dys S w) (hg : goodR S w most ≠ []) :
    limT S w most d = .tup [.int (minI ((goodR S w most).map fun R => R.getD d 0)), .int (maxI ((goodR S w most).map fun R => R.getD d 0))] := by
  have h0 : 0 ≤ slackI S w := by
    refine Int.not_lt.mp fun hc => hg ?_
    unfold goodR rowsI; rw [if_neg (by omega)]; rfl
  rw [goodR_eq hw hS h0, Ne, List.map_eq_nil_iff] at hg
  obtain ⟨c0, hc0⟩ := List.exists_mem_of_ne_nil _ hg
  obtain ⟨hc0, hk0⟩ := List.mem_filter.mp hc0
  obtain ⟨hl0, hs0⟩ := mem_en.mp hc0
  have h : ∀ r < w, 0 ≤ capI S w most r := fun r hr => by
    have := okC_iff.mp hk0 r (by rw [capsI_len]; exact hr)
    rw [capsI_get hr] at this
    omega
  have hr := Nat.mod_lt d hw
  obtain ⟨r, hrd⟩ : ∃ r, d % w = r := ⟨_, rfl⟩
  rw [hrd] at hr
  have hcs := capN_sum h
  have hcr := capN_get hr h
  have hless := sum_less (k := capN S w most) (r := r) (by rw [capN_len]; exact hr)
  have hsum0 := sum_pt (c := c0) (k := capN S w most) (by rw [capN_len, hl0]) ((okC_capN h hl0).mp hk0)
  obtain ⟨n, hn⟩ : ∃ n : Nat, slackI S w = n := ⟨(slackI S w).toNat, by omega⟩
  have hval : ∀ v : Int, v ∈ (goodR S w most).map (fun R => R.getD d 0) ↔ ∃ c ∈ en w n, (∀ i, c.getD i 0 ≤ (capN S w most).getD i 0) ∧ v = lowR S w r + Dd S w d + (c.getD r 0 : Int) := by
    intro v
    rw [goodR_eq hw hS h0, List.map_map, List.mem_map, hn, Int.toNat_natCast]
    constructor
    · rintro ⟨c, hc, rfl⟩
      obtain ⟨hc, hk⟩ := List.mem_filter.mp hc
      refine ⟨c, hc, (okC_capN h (mem_en.mp hc).1).mp hk, ?_⟩
      show (rowC S w c).getD d 0 = _
      rw [rowC_get hd, hrd]
      unfold leastI lowR
      rw [hrd]
    · rintro ⟨c, hc, hk, rfl⟩
      refine ⟨c, List.mem_filter.mpr ⟨hc, (okC_capN h (mem_en.mp hc).1).mpr hk⟩, ?_⟩
      show (rowC S w c).getD d 0 = _
      rw [rowC_get hd, hrd]
      unfold leastI lowR
      rw [hrd]
  have ex : ∀ e : Nat, e ≤ (capN S w most).getD r 0 → e ≤ n → n ≤ e + ((capN S w most).set r 0).sum → lowR S w r + Dd S w d + (e : Int) ∈ (goodR S w most).map fun R => R.getD d 0 := fun e h1 h2 h3 => by
    obtain ⟨c, h4, h5, h6⟩ := bd_some (k := capN S w most) (r := r) (e := e) (n := n) (by rw [capN_len]; exact hr) h1 h2 h3
    rw [capN_len] at h4
    exact (hval _).mpr ⟨c, h4, h5, by rw [h6]⟩
  have bd : ∀ v ∈ (goodR S w most).map fun R => R.getD d 0, ∃ e : Nat, v = lowR S w r + Dd S w d + (e : Int) ∧ e ≤ (capN S w most).getD r 0 ∧ e ≤ n ∧ n ≤ e + ((capN S w most).set r 0).sum := fun v hv => by
    obtain ⟨c, h4, h5, rfl⟩ := (hval v).mp hv
    obtain ⟨hl, hs⟩ := mem_en.mp h4
    have h6 := le_sumN (c := c) (r := r) (by omega)
    have h7 := bd_le (k := capN S w most) (c := c) (r := r) (by rw [capN_len]; exact hr) (by rw [capN_len, hl]) h5
    exact ⟨c.getD r 0, rfl, h5 r, by omega, by omega⟩
  obtain ⟨K, hK⟩ : ∃ K, ((capN S w most).set r 0).sum = K := ⟨_, rfl⟩
  obtain ⟨g, hgc⟩ : ∃ g, (capN S w most).getD r 0 = g := ⟨_, rfl⟩
  rw [hK, hgc] at ex bd
  rw [hK, hgc] at hless
  rw [hgc] at hcr
  have hcap : capI S w most r = highI S w most r - lowR S w r := rfl
  have e1 : minI ((goodR S w most).map fun R => R.getD d 0) = lowR S w r + Dd S w d + ((n - K : Nat) : Int) := minI_isA (ex (n - K) (by omega) (by omega) (by omega)) fun y hy => by
    obtain ⟨e, rfl, h1, h2, h3⟩ := bd y hy
    omega
  have e2 : maxI ((goodR S w most).map fun R => R.getD d 0) = lowR S w r + Dd S w d + ((min g n : Nat) : Int) := maxI_isA (ex (min g n) (by omega) (by omega) (by omega)) fun y hy => by
    obtain ⟨e, rfl, h1, h2, h3⟩ := bd y hy
    omega
  rw [e1, e2]
  unfold limT mxI mnI
  rw [hrd, hn]
  rw [hn] at hcs
  generalize S.getD 0 0 = S0 at *
  generalize sumHi S w most = SHi at *
  generalize highI S w most r = hi at *
  generalize lowR S w r = lo at *
  generalize Dd S w d = dd at *
  congr 1
  have a1 : (if S0 - (SHi - hi) > lo then S0 - (SHi - hi) else lo) + dd = lo + dd + ((n - K : Nat) : Int) := by split <;> omega
  have a2 : (if S0 - (S0 - (n : Int) - lo) < hi then S0 - (S0 - (n : Int) - lo) else hi) + dd = lo + dd + ((min g n : Nat) : Int) := by split <;> omega
  rw [a1, a2]
end Lw
namespace Lw
open PySem PySem.Spec PyProof.Rows L2 Fx
/-! ### a row among all rows -/
theorem row_mem {R : List Int} {w : Nat} (hw : 0 < w) (hl : w ≤ R.length) (h0 : ∀ v ∈ R, 0 ≤ v) : R ∈ rowsI (sumsI R w) w := by
  have hsl : (sumsI R w).length = R.length + 1 - w := sumsI_len
  have hS : sumsI R w ≠ [] := by intro e; rw [e] at hsl; simp at hsl; omega
  have hlN : R.length = dys (sumsI R w) w := by unfold dys; omega
  have hx : IsRow (rx R) (sumsI R w) w := isRow_sums
  have hs := slack_row hw hS hx
  have hN : w ≤ dys (sumsI R w) w := by omega
  have hc0 : ∀ r < w, 0 ≤ cmin (rx R) w (dys (sumsI R w) w) r := fun r hr => le_cmin hr (by omega) fun d _ _ => rx_nonneg h0 d
  have hs0 : 0 ≤ slackI (sumsI R w) w := by
    rw [hs]
    exact sum_nonneg fun a ha => by
      obtain ⟨r, hr, rfl⟩ := List.mem_map.mp ha
      exact hc0 r (List.mem_range.mp hr)
  refine (mem_rowsI hs0).mpr ⟨(List.range w).map fun r => (cmin (rx R) w (dys (sumsI R w) w) r).toNat, mem_en.mpr ⟨by simp, ?_⟩, ?_⟩
  · have := tab_sum (c := (List.range w).map fun r => (cmin (rx R) w (dys (sumsI R w) w) r).toNat)
    rw [List.length_map, List.length_range] at this
    rw [List.map_congr_left (g := fun r => cmin (rx R) w (dys (sumsI R w) w) r) fun r hr => by
      have hr := List.mem_range.mp hr
      have := hc0 r hr
      simp [List.getD_eq_getElem?_getD, hr]
      omega, ← hs] at this
    omega
  · have hcl : (rowC (sumsI R w) w ((List.range w).map fun r => (cmin (rx R) w (dys (sumsI R w) w) r).toNat)).length = dys (sumsI R w) w := by unfold rowC; simp
    apply List.ext_getElem (by rw [hcl, hlN])
    intro i a b
    have hi : i < dys (sumsI R w) w := by rw [hcl] at a; exact a
    have e := rowC_get (c := (List.range w).map fun r => (cmin (rx R) w (dys (sumsI R w) w) r).toNat) hi
    have hm := Nat.mod_lt i hw
    have h3 := hc0 _ hm
    rw [least_row hw hS hx hi, List.getD_eq_getElem?_getD, List.getElem?_eq_getElem a] at e
    simp [List.getD_eq_getElem?_getD, hm] at e
    have hrx : rx R i = R[i] := by unfold rx; simp [List.getD_eq_getElem?_getD, b]
    omega
theorem slack_mem {S R : List Int} {w : Nat} (h : R ∈ rowsI S w) : 0 ≤ slackI S w := by
  unfold rowsI at h
  split at h
  · assumption
  · cases h
theorem rows_bd {S R : List Int} {w : Nat} {M : Int} (hw : 0 < w) (hS : S ≠ []) (hM : ∀ v ∈ S, v ≤ M) (h : R ∈ rowsI S w) : R.length = dys S w ∧ ∀ v ∈ R, 0 ≤ v ∧ v ≤ M := by
  have h0 := slack_mem h
  obtain ⟨c, hc, rfl⟩ := (mem_rowsI h0).mp h
  exact ⟨rowsI_row h, (rowC_ok hw hS hM h0 hc).2⟩
theorem rows_count {S : List Int} {w : Nat} (hw : 0 < w) : ((rowsI S w).length : Int) = countI (slackI S w) w := by
  unfold rowsI countI
  split
  · rw [List.length_map]
    obtain ⟨k, rfl⟩ : ∃ k, w = k + 1 := ⟨w - 1, by omega⟩
    rw [en_len]
    rfl
  · rfl
theorem sums_bdP {R : List Int} {w c : Nat} (hR : ∀ v ∈ R, 0 ≤ v ∧ v ≤ c) : ∀ v ∈ sumsI R w, 0 ≤ v ∧ v ≤ w * c := fun v hv => by
  unfold sumsI at hv
  obtain ⟨k, _, rfl⟩ := List.mem_map.mp hv
  have hb : ∀ a ∈ (R.drop k).take w, 0 ≤ a ∧ a ≤ c := fun a ha => hR a (List.mem_of_mem_drop (List.mem_of_mem_take ha))
  have h3 := sum_le_mul (c := (c : Int)) fun a ha => (hb a ha).2
  have h4 := sum_nonneg fun a ha => (hb a ha).1
  have h5 : ((R.drop k).take w).length ≤ w := by rw [List.length_take]; omega
  have h6 : (((R.drop k).take w).length : Int) * c ≤ w * c := Int.mul_le_mul_of_nonneg_right (by omega) (by omega)
  omega
/-! ### loops of tests -/
theorem loopTb {G : Rho → Rz T} {ds : List T} {i : Nat} {rest : Rho → Out} (st : Sl → Rho) (hset : ∀ t b, tgN i t (st b) = some (st (.va t)))
    (hG : ∀ t ∈ ds, G (st (.va t)) = .ok (.bl true) (st (.va t))) (b : Sl) {P : Rho → Prop} (hr : ∀ b, (rest (st b)).goes P) : ((forGo (tgN i) (sIf (fNot (fTest G)) (sRet (fC (.bl false))) sNext) ds (st b)).bind rest).goes P := by
  refine for_bind (fun o => o.goes P) (fun _ ρ => ∃ b, ρ = st b) ⟨b, rfl⟩ ?_ ?_
  · rintro _ t ρ hi ⟨b, rfl⟩
    have h1 := hG t (List.mem_of_getElem? hi)
    rw [forS_ap, hset, optIs_some]
    simp [h1]
    exact ⟨_, rfl⟩
  · rintro ρ ⟨b, rfl⟩
    exact hr b
theorem loopTg {G : Rho → Rz T} {ds : List T} {i : Nat} (st : Sl → Rho) (hset : ∀ t b, tgN i t (st b) = some (st (.va t)))
    (hG : ∀ t ∈ ds, G (st (.va t)) = .ok (.bl true) (st (.va t))) (b : Sl) {P : Rho → Prop} (hP : ∀ b, P (st b)) : (forGo (tgN i) (sIf (fNot (fTest G)) (sRet (fC (.bl false))) sNext) ds (st b)).goes P := by
  refine for_goes (fun _ ρ => ∃ b, ρ = st b) ⟨b, rfl⟩ ?_ ?_
  · rintro _ t ρ hi ⟨b, rfl⟩
    have h1 := hG t (List.mem_of_getElem? hi)
    rw [forS_ap, hset, optIs_some]
    simp [h1]
    exact ⟨_, rfl⟩
  · rintro ρ ⟨b, rfl⟩
    exact hP b
theorem loopFg2 {F F2 : Rho → Rz T} {w w2 : Str} {ds : List T} {i : Nat} (st : Sl → Rho) (hset : ∀ t b, tgN i t (st b) = some (st (.va t))) (hN : gEqB (.str w) (.str w) = some true) (hN2 : gEqB (.str w2) (.str w2) = some true)
    (hF : ∀ t ∈ ds, F (st (.va t)) = .ok (.str w) (st (.va t)) ∧ F2 (st (.va t)) = .ok (.str w2) (st (.va t))) (b : Sl) {P : Rho → Prop} (hP : ∀ b, P (st b)) : (forGo (tgN i) (sSeq (sIf (fTest (fBin gNe F (fC (.str w)))) (sRet (fC (.bl false))) sNext) (sIf (fTest (fBin gNe F2 (fC (.str w2)))) (sRet (fC (.bl false))) sNext)) ds (st b)).goes P := by
  refine for_goes (fun _ ρ => ∃ b, ρ = st b) ⟨b, rfl⟩ ?_ ?_
  · rintro _ t ρ hi ⟨b, rfl⟩
    obtain ⟨h1, h2⟩ := hF t (List.mem_of_getElem? hi)
    rw [forS_ap, hset, optIs_some]
    simp [h1, h2, hN, hN2]
    exact ⟨_, rfl⟩
  · rintro ρ ⟨b, rfl⟩
    exact hP b
end Lw
namespace Lw
open PySem PySem.Spec PyProof.Rows L2 Fx
def tupI12 (R : List Int) : T := .tup (R.map T.int)
def goodT (S : List Int) (w : Nat) (most : Int) : List T := (goodR S w most).map tupI12
theorem okN_goodT {S : List Int} {w : Nat} {most : Int} : OkN 64 (.lst (goodT S w most)) := .lst (d := 63) fun y hy => by
  obtain ⟨R, _, rfl⟩ := List.mem_map.mp hy
  exact okN_tupI (d := 62)
theorem goodT_nil {S : List Int} {w : Nat} {most : Int} : goodT S w most = [] ↔ goodR S w most = [] := by unfold goodT; rw [List.map_eq_nil_iff]
theorem good_sub {S R : List Int} {w : Nat} {most : Int} (h : R ∈ goodR S w most) : R ∈ rowsI S w ∧ maxI R ≤ most := by
  obtain ⟨h1, h2⟩ := List.mem_filter.mp h
  exact ⟨h1, of_decide_eq_true h2⟩
theorem small12 {S : List Int} {w : Nat} {most : Int} (hS : okSums S = true) (h : 2 ≤ w) (h4 : w ≤ 4) (hs20 : slackI S w ≤ 20) (hm : 0 ≤ most ∧ most ≤ 1000000000) : phi__law_small_right [.tup (S.map .int), .int (w : Nat), .lst (rowsT S w), .int most] = .va (.bl true) := by
  obtain ⟨s1, s2, s3⟩ := okSums_iff hS
  have hp := List.length_pos_iff.mpr s1
  have hw : 0 < w := by omega
  have hN2 : dys S w ≤ 60 := by unfold dys; omega
  have hN0 : 0 < dys S w := by unfold dys; omega
  have f1 := m_count hS h (by omega) hm
  have f2 := m_limited hS h (by omega) hm
  have hrl := rows_len (S := S) h h4 hs20
  have hcl := good_len (most := most) hw s1
  have hgl : (goodR S w most).length ≤ 1771 := Nat.le_trans (List.length_filter_le _ _) hrl
  have hgTl : (goodT S w most).length = (goodR S w most).length := by unfold goodT; simp
  have lc : fLc (fItems (fVar 2)) (tgN 8) (fTest (fBin (gLe) (fCall gMax (fCons (fVar 8) (fNil))) (fVar 3))) (fVar 8) [8]
      [.va (.tup (S.map .int)), .va (.int (w : Nat)), .va (.lst (rowsT S w)), .va (.int most), .no, .no, .no, .no, .no] = .ok (goodT S w most) [.va (.tup (S.map .int)), .va (.int (w : Nat)), .va (.lst (rowsT S w)), .va (.int most), .no, .no, .no, .no, .no] := by
    rw [fLc_if tupI12 tupI12 (fun R => decide (maxI R ≤ most)) (rowsI S w) ?hi ?hl ?h]
    case hi => simp [rowsT, tupI12]
    case hl => exact le_line (by omega)
    case h =>
      intro R hR
      have hRl := rowsI_row hR
      have hRn : R ≠ [] := by intro e; rw [e] at hRl; simp at hRl; omega
      have k1 : gMax [tupI12 R] = some (.int (maxI R)) := gMax_t hRn
      rw [lcF_ap]
      generalize tupI12 R = RT at *
      generalize rowsT S w = RS at *
      generalize maxI R = mr at *
      by_cases hk : mr ≤ most
      · simp [wipeR, k1, hk]
      · simp [wipeR, k1, hk]
    simp [unwipe, wipeR, keepS]
    rfl
  have f3 : phi__law_same 4 [.int (cntL S w most), .int (cntL S w most)] = .va (.bl true) := m_same 3 _ .int
  have hq : gEqB (.lst (goodT S w most)) (.lst []) = some (decide (goodR S w most = [])) := gEqB_dec okN_goodT (okN_lstI (d := 63) (ns := [])) (by rw [T.lst.injEq]; exact goodT_nil)
  have l0 := @le_line 0 (by omega)
  have hlen : ((goodT S w most).length : Int) = cntL S w most := by rw [hgTl, hcl]
  by_cases hg : goodR S w most = []
  · have ho : okL S w most = false := by
      cases e : okL S w most
      · rfl
      · exact absurd hg ((okL_iff hw s1).mp e)
    rw [ho, if_neg (by decide)] at f2
    have hcs : csT.lookup "NoRows" = some (Str.ofString "None+") := rfl
    have hN : gEqB (.str "None+") (.str "None+") = some true := by kernel_rfl
    have hb : gEqB (.bl true) (.bl true) = some true := by kernel_rfl
    have hdec : decide (goodR S w most = []) = true := decide_eq_true hg
    rw [hdec] at hq
    clear hdec hg hcl
    generalize cntL S w most = cn at *
    generalize goodT S w most = GT at *
    generalize rowsT S w = RT at *
    generalize S.map T.int = ST at *
    simp [phi__law_small_right, psi__law_small_right, lc, f1, f2, f3, hq, hlen, l0, tryK_rs hcs, hN, hb, hideO_cons, hideS, hideO_nil]
  · have ho : okL S w most = true := (okL_iff hw s1).mpr hg
    rw [ho, if_pos rfl] at f2
    have hdec : decide (goodR S w most = []) = false := decide_eq_false hg
    rw [hdec] at hq
    have f6 : phi__law_same 4 [.lst ((List.range (dys S w)).map (limT S w most)), .lst ((List.range (dys S w)).map (limT S w most))] = .va (.bl true) :=
      m_same 3 _ (.lst (d := 2) (by simp; omega) fun x hx => by
        obtain ⟨d, _, rfl⟩ := List.mem_map.mp hx
        exact .tup (by simp) fun y hy => by
          simp at hy
          rcases hy with rfl | rfl <;> exact .int)
    have hpos : 0 < (goodR S w most).length := List.length_pos_iff.mpr hg
    obtain ⟨R0, hR0⟩ : ∃ R0, R0 = (goodR S w most).getD 0 [] := ⟨_, rfl⟩
    have hR0m : R0 ∈ goodR S w most := by rw [hR0]; simp [List.getD_eq_getElem?_getD, hpos]
    have hR0l : R0.length = dys S w := rowsI_row (good_sub hR0m).1
    have r1 : gIx (.lst (goodT S w most)) (.int 0) = some (tupI12 R0) := by
      have : goodT S w most = (List.range (goodR S w most).length).map fun i => tupI12 ((goodR S w most).getD i []) := by
        unfold goodT
        conv => lhs; rw [tab_list (xs := goodR S w most) (d := []), List.map_map]
        rfl
      rw [this, hR0]
      exact gIx_tab (i := 0) hpos
    have r2 : gLen [tupI12 R0] = some (.int (dys S w : Nat)) := by unfold tupI12; simp [hR0l]
    have hb : gEqB (.bl false) (.bl false) = some true := by kernel_rfl
    have hrI : (List.range (dys S w)).map (limT S w most) = (List.range (dys S w)).map (limT S w most) := rfl
    have key := fun d hd => good_col (most := most) (d := d) hw s1 hd hg
    clear hR0 hR0m hcl
    simp only [phi__law_small_right, psi__law_small_right, fnP_ap]
    simp [lc, f1, hlen, f3, hq, l0, hb, -fRange1_ap]
    rw [rng1 (φ := fCall gLen (fCons (fBin gIx (fVar 4) (fC (.int 0))) fNil)) (j := (dys S w : Nat)) (ρ1 := [.va (.tup (S.map .int)), .va (.int (w : Nat)), .va (.lst (rowsT S w)), .va (.int most), .va (.lst (goodT S w most)), .ow [], .no, .no, .no]) (by simp [r1, r2]) (by omega) (by omega), Rz.out_ok, Int.toNat_natCast]
    refine for_bind (fun o => frOf o = .va (.bl true)) (fun k ρ => ∃ a6 a7, ρ = [.va (.tup (S.map .int)), .va (.int (w : Nat)), .va (.lst (rowsT S w)), .va (.int most), .va (.lst (goodT S w most)), .ow ((List.range k).map (limT S w most)), a6, a7, .no]) ⟨.no, .no, rfl⟩ ?_ ?_
    · intro d t ρ hj hI
      obtain ⟨a6, a7, rfl⟩ := hI
      have hd : d < dys S w := by simpa using (List.getElem?_eq_some_iff.mp hj).1
      rw [List.getElem?_map, List.getElem?_range hd] at hj
      cases hj
      obtain ⟨due, hdue⟩ : ∃ L, L = (List.range d).map (limT S w most) := ⟨_, rfl⟩
      have lc2 : fLc (fItems (fVar 4)) (tgN 8) fYes (fBin gIx (fVar 8) (fVar 6)) [8] [.va (.tup (S.map .int)), .va (.int (w : Nat)), .va (.lst (rowsT S w)), .va (.int most), .va (.lst (goodT S w most)), .ow due, .va (.int d), a7, .no] =
          .ok ((goodR S w most).map fun R => T.int (R.getD d 0)) [.va (.tup (S.map .int)), .va (.int (w : Nat)), .va (.lst (rowsT S w)), .va (.int most), .va (.lst (goodT S w most)), .ow due, .va (.int d), a7, .no] := by
        rw [fLc_is tupI12 (fun R => T.int (R.getD d 0)) (goodR S w most) ?hi ?hl ?h]
        case hi => simp [goodT]
        case hl => exact le_line (by omega)
        case h =>
          intro R hR
          have hRl := rowsI_row (good_sub hR).1
          have := at_ints (S := R) (i := d) (by omega)
          have e : gIx (tupI12 R) (.int (d : Int)) = some (.int (R.getD d 0)) := this
          simp only [lcS_ap, tgN_ap, optIs_some]
          generalize tupI12 R = RR at e ⊢
          simp [wipeR, e]
        simp [unwipe, wipeR, keepS]
      have k1 := gMin_f (f := fun R : List Int => R.getD d 0) hg
      have k2 := gMax_f (f := fun R : List Int => R.getD d 0) hg
      have k3 := key d hd
      have l1 : due.length < sizeLine := lt_line (by rw [hdue]; simp; omega)
      have l2 := @le_line 2 (by omega)
      rw [List.range_succ, List.map_append, ← hdue, List.map_cons, List.map_nil, k3]
      generalize minI ((goodR S w most).map fun R => R.getD d 0) = mn at *
      generalize maxI ((goodR S w most).map fun R => R.getD d 0) = mx at *
      generalize (goodR S w most).map (fun R => T.int (R.getD d 0)) = CL at *
      generalize goodT S w most = GT at *
      generalize rowsT S w = RT at *
      generalize S.map T.int = ST at *
      rw [forS_ap, tgN_ap, optIs_some]
      simp [lc2, k1, k2, l1, l2]
    · intro ρ hI
      obtain ⟨a6, a7, rfl⟩ := hI
      rw [List.length_map, List.length_range]
      generalize (List.range (dys S w)).map (limT S w most) = G at *
      generalize goodT S w most = GT at *
      generalize rowsT S w = RT at *
      generalize S.map T.int = ST at *
      simp [f2, f6, frzAll_cons, frzAll_nil, frzS, flatT]
/-! ### large sums -/
theorem large12 {R : List Int} {w m : Nat} {ts : List T} (h : 2 ≤ w) (h2 : w ≤ 12) (hl : w ≤ R.length) (hl2 : R.length ≤ 30) (hR : ∀ v ∈ R, 0 ≤ v ∧ v ≤ 1000000) (hd : Dk m ts) : phi__law_large_right ts [.tup (R.map .int), .int (w : Nat)] = .va (.bl true) ts := by
  have hw : 0 < w := by omega
  have e1 := m_lsums (R := R) (w := w) (by omega) (by omega)
  have hsl : (sumsI R w).length = R.length + 1 - w := sumsI_len
  have hbd := sums_bdP (w := w) (c := 1000000) hR
  have hmem := row_mem (R := R) hw hl fun v hv => (hR v hv).1
  obtain ⟨S, hSe⟩ : ∃ S, sumsI R w = S := ⟨_, rfl⟩
  rw [hSe] at e1 hsl hbd hmem
  have hb12 : ∀ v ∈ S, 0 ≤ v ∧ v ≤ 12000000 := fun v hv => by have := hbd v hv; omega
  have s1 : S ≠ [] := by intro e; rw [e] at hsl; simp at hsl; omega
  have hS : okSums S = true := okSums_mk (by omega) (by omega) fun v hv => by have := hb12 v hv; omega
  have hRn : R ≠ [] := by intro e; rw [e] at hl; simp at hl; omega
  have hmx := hR _ (maxI_mem hRn)
  have hmx' : maxI R ≤ 1000000000 := by omega
  have hposR : 0 < cntL S w (maxI R) := (cntL_iff hw s1).mpr ⟨R, hmem, Int.le_refl _⟩
  have hpos9 : 0 < cntL S w 1000000000 := (cntL_iff hw s1).mpr ⟨R, hmem, hmx'⟩
  have f1 := fun (m : Int) (hm : 0 ≤ m ∧ m ≤ 1000000000) => m_count hS h h2 hm
  obtain ⟨least, q1, q2, q3, q4, f2⟩ : ∃ least : Int, 0 ≤ least ∧ least ≤ 1000000000 ∧ 0 < cntL S w least ∧ (∀ m, 0 ≤ m → m < least → cntL S w m = 0) ∧ phi_least_limit [.tup (S.map .int), .int (w : Nat)] = .va (.int least) := by
    rcases m_least hS h h2 (fun m => cntL_pos hw s1) (cntL_mono hw s1) with ⟨h0, _⟩ | ⟨_, h0⟩
    · omega
    · exact h0
  have hle : least ≤ maxI R := by
    refine Int.not_lt.mp fun hc => ?_
    have := q4 _ hmx.1 hc
    omega
  have f3 := f1 least ⟨q1, q2⟩
  have f4 : phi__law_same 4 [.int least, .int least] = .va (.bl true) := m_same 3 _ .int
  have f5 := m_limited hS h h2 (most := maxI R) ⟨hmx.1, hmx'⟩
  have hgR : R ∈ goodR S w (maxI R) := List.mem_filter.mpr ⟨hmem, decide_eq_true (Int.le_refl _)⟩
  have hgn := List.ne_nil_of_mem hgR
  rw [(okL_iff hw s1).mpr hgn, if_pos rfl] at f5
  have f6 := f1 1000000000 ⟨by omega, by omega⟩
  have f7 := m_count_rows hS h h2
  have hcc : cntL S w 1000000000 = countI (slackI S w) w := by
    rw [good_len hw s1, ← rows_count hw]
    congr 2
    refine List.filter_eq_self.mpr fun Q hQ => decide_eq_true ?_
    obtain ⟨hQl, hQb⟩ := rows_bd (M := 12000000) hw s1 (fun v hv => (hb12 v hv).2) hQ
    have hQn : Q ≠ [] := by intro e; rw [e] at hQl; simp [dys] at hQl; have := List.length_pos_iff.mpr s1; omega
    have := hQb _ (maxI_mem hQn)
    omega
  rw [hcc] at f6
  have hRl : R.length = dys S w := by unfold dys; omega
  have hcol : ∀ d, d < dys S w → ∃ a b : Int, limT S w (maxI R) d = .tup [.int a, .int b] ∧ a ≤ R.getD d 0 ∧ R.getD d 0 ≤ b ∧ b ≤ maxI R := fun d hd => by
    refine ⟨_, _, good_col hw s1 hd hgn, ?_, ?_, ?_⟩
    · exact minI_le (List.mem_map.mpr ⟨R, hgR, rfl⟩)
    · exact le_maxI (List.mem_map.mpr ⟨R, hgR, rfl⟩)
    · obtain ⟨Q, hQ, e⟩ := List.mem_map.mp (maxI_mem (show (goodR S w (maxI R)).map (fun R => R.getD d 0) ≠ [] by rw [Ne, List.map_eq_nil_iff]; exact hgn))
      rw [← e]
      obtain ⟨h3, h4⟩ := good_sub hQ
      have hQl := rowsI_row h3
      exact Int.le_trans (le_maxI (getD_mem (S := Q) (i := d) (by omega))) h4
  have hzp : pairT ((List.range (dys S w)).map (limT S w (maxI R))) (R.map T.int) = (List.range (dys S w)).map fun d => .tup [limT S w (maxI R) d, .int (R.getD d 0)] := by
    rw [tab_ints, hRl]; exact zip_tab
  have hp9 : gPow (.int 10) (.int 9) = some (.int 1000000000) := rfl
  have kmx : gMax [.tup (R.map T.int)] = some (.int (maxI R)) := gMax_t hRn
  have hfin : gEqB (.int (countI (slackI S w) w)) (.int (countI (slackI S w) w)) = some true := gEqB_yes .int .int rfl
  have l2 := @le_line 2 (by omega)
  have f8 : 0 < least → phi_count_limited [.tup (S.map .int), .int (w : Nat), .int (least - 1)] = .va (.int 0) := fun hl0 => by
    rw [f1 (least - 1) ⟨by omega, by omega⟩, q4 (least - 1) (by omega) (by omega)]
  have hloop : ∀ a6 a7 : Sl, foOf ((forGo (tgT 2 (tgCons (tgN 6) (tgCons (tgN 7) (tgNil)))) (sIf (fNot (fChain3 (gLe) (gLe) (gLe) (fBin gIx (fVar 6) (fC (.int 0))) (fVar 7) (fBin gIx (fVar 6) (fC (.int 1))) (fCall gMax (fCons (fVar 1) (fNil))))) (sRet (fC (.bl false))) (sNext))
      ((List.range (dys S w)).map fun d => T.tup [limT S w (maxI R) d, .int (R.getD d 0)]) [.ow ts, .va (.tup (R.map .int)), .va (.int (w : Nat)), .va (.tup (S.map .int)), .va (.int least), .va (.lst ((List.range (dys S w)).map (limT S w (maxI R)))), a6, a7]).bind
      (sRet (fBin (gEq) (fDef phi_count_limited (fKw (fCons (fVar 3) (fCons (fVar 2) (fNil))) (fBin gPow (fC (.int 10)) (fC (.int 9))))) (fDef phi_count_rows (fCons (fVar 3) (fCons (fVar 2) (fNil))))))) = .va (.bl true) ts := by
    intro a6 a7
    refine for_bind (fun o => foOf o = .va (.bl true) ts) (fun _ ρ => ∃ a6 a7, ρ = [.ow ts, .va (.tup (R.map .int)), .va (.int (w : Nat)), .va (.tup (S.map .int)), .va (.int least), .va (.lst ((List.range (dys S w)).map (limT S w (maxI R)))), a6, a7]) ⟨_, _, rfl⟩ ?_ ?_
    · rintro d t ρ hj ⟨a6, a7, rfl⟩
      have hd : d < dys S w := by simpa using (List.getElem?_eq_some_iff.mp hj).1
      rw [List.getElem?_map, List.getElem?_range hd] at hj
      cases hj
      obtain ⟨a, b, e, g1, g2, g3⟩ := hcol d hd
      dsimp only
      rw [e]
      have i0 : gIx (.tup [.int a, .int b]) (.int 0) = some (.int a) := rfl
      have i1 : gIx (.tup [.int a, .int b]) (.int 1) = some (.int b) := rfl
      generalize (List.range (dys S w)).map (limT S w (maxI R)) = LL at *
      generalize R.getD d 0 = rd at *
      generalize maxI R = mr at *
      generalize R.map T.int = RT at *
      generalize S.map T.int = ST at *
      rw [forS_ap]
      simp [i0, i1, kmx, g1, g2, g3]
    · rintro ρ ⟨a6, a7, rfl⟩
      generalize (List.range (dys S w)).map (limT S w (maxI R)) = LL at *
      generalize countI (slackI S w) w = cn at *
      generalize R.map T.int = RT at *
      generalize S.map T.int = ST at *
      simp [f6, f7, hp9, hfin]
  generalize (List.range (dys S w)).map (limT S w (maxI R)) = LL at *
  generalize (List.range (dys S w)).map (fun d => T.tup [limT S w (maxI R) d, .int (R.getD d 0)]) = PL at *
  generalize countI (slackI S w) w = cn at *
  generalize cntL S w least = cl at *
  generalize maxI R = mr at *
  have hi1 : gInt1 [.int least] = some (.int least) := rfl
  have hzip : ∀ ρ0 : Rho, fZipM (fVar 5) (fVar 1) (.ow ts :: .va (.tup (R.map .int)) :: ρ0) = fZipM (fVar 5) (fVar 1) (.ow ts :: .va (.tup (R.map .int)) :: ρ0) := fun _ => rfl
  generalize R.map T.int = RT at *
  generalize S.map T.int = ST at *
  by_cases hl0 : 0 < least
  · have f8 := f8 hl0
    have hne : gEqB (.int 0) (.int 0) = some true := by kernel_rfl
    simp only [phi__law_large_right, psi__law_large_right, fnO_ap]
    simp [e1, f2, f3, f4, hi1, kmx, show ¬ mr < least by omega, show ¬ cl < 1 by omega, hl0, f8, f5, hzp, hloop, l2, frzAll_cons, frzAll_nil, frzS, flatT]
  · simp only [phi__law_large_right, psi__law_large_right, fnO_ap]
    simp [e1, f2, f3, f4, hi1, kmx, show ¬ mr < least by omega, show ¬ cl < 1 by omega, hl0, f5, hzp, hloop, l2, frzAll_cons, frzAll_nil, frzS, flatT]
/-! ### the law -/
theorem least12 {S : List Int} {w : Nat} (hS : okSums S = true) (h : 2 ≤ w) (h2 : w ≤ 12) :
    (rowsI S w = [] ∧ phi_least_limit [.tup (S.map .int), .int (w : Nat)] = .rs "NoRows" none) ∨ (rowsI S w ≠ [] ∧ phi_least_limit [.tup (S.map .int), .int (w : Nat)] = .va (.int (minI ((rowsI S w).map maxI)))) := by
  obtain ⟨s1, s2, s3⟩ := okSums_iff hS
  have hw : 0 < w := by omega
  have hb : ∀ R ∈ rowsI S w, 0 ≤ maxI R ∧ maxI R ≤ 1000000000 := fun R hR => by
    obtain ⟨h3, h4⟩ := rows_bd (M := 1000000000) hw s1 (fun v hv => (s3 v hv).2) hR
    have hRn : R ≠ [] := by intro e; rw [e] at h3; simp [dys] at h3; have := List.length_pos_iff.mpr s1; omega
    exact h4 _ (maxI_mem hRn)
  rcases m_least hS h h2 (fun m => cntL_pos hw s1) (cntL_mono hw s1) with ⟨h0, e⟩ | ⟨h0, least, q1, q2, q3, q4, e⟩
  · refine .inl ⟨?_, e⟩
    by_cases hr : rowsI S w = []
    · exact hr
    · obtain ⟨R, hR⟩ := List.exists_mem_of_ne_nil _ hr
      have := (cntL_iff (most := 1000000000) hw s1).mpr ⟨R, hR, (hb R hR).2⟩
      omega
  · obtain ⟨R, hR, hRl⟩ := (cntL_iff hw s1).mp q3
    have hr := List.ne_nil_of_mem hR
    refine .inr ⟨hr, ?_⟩
    rw [e]
    congr 2
    have h5 := minI_le (List.mem_map.mpr ⟨R, hR, rfl⟩ : maxI R ∈ (rowsI S w).map maxI)
    obtain ⟨Q, hQ, e2⟩ := List.mem_map.mp (minI_mem (show (rowsI S w).map maxI ≠ [] by rw [Ne, List.map_eq_nil_iff]; exact hr))
    have h6 : least ≤ maxI Q := by
      refine Int.not_lt.mp fun hc => ?_
      have := q4 _ (hb Q hQ).1 hc
      have := (cntL_iff hw s1).mpr ⟨Q, hQ, Int.le_refl _⟩
      omega
    rw [← e2] at h5 ⊢
    omega
def A3 : T := .tup [.int 3]
def A390 : T := .tup [.int 3, .int 9, .int 0]
def A645 : T := .tup [.int 6, .int 4, .int 5]
def oddsM : List T := [.non, .bl true, .int (-1), .int 1000000001, .str "1"]
def BadM (odd : T) : Prop := phi_count_limited [.tup [.int 3], .int 2, odd] = .rs "InvalidMost" none ∧ phi_ranges_limited [.tup [.int 3, .int 9, .int 0], .int 2, odd] = .rs "InvalidMost" none
theorem badM : ∀ odd ∈ oddsM, BadM odd := fun odd h => by
  simp only [oddsM, List.mem_cons, List.not_mem_nil, or_false] at h
  rcases h with rfl | rfl | rfl | rfl | rfl <;> exact ⟨by kernel_rfl, by kernel_rfl⟩
theorem law_true (ns : List Int) (hl : ns.length ≤ 63) : phi_law [.lst (ns.map .int)] = .va (.bl true) := by
  have c1 : phi_count_limited [.tup [.int 6, .int 4, .int 5], .int 2, .int 4] = .va (.int 2) := by kernel_rfl
  have c2 : phi_least_limit [.tup [.int 6, .int 4, .int 5], .int 2] = .va (.int 4) := by kernel_rfl
  have c3 : phi_least_limit [.tup [.int 7], .int 3] = .va (.int 3) := by kernel_rfl
  have c4 : phi_ranges_limited [.tup [.int 6, .int 4, .int 5], .int 2, .int 4] = .ow [.tup [.int 3, .int 4], .tup [.int 2, .int 3], .tup [.int 1, .int 2], .tup [.int 3, .int 4]] := by kernel_rfl
  have hit : cutT (T.int 0 :: ns.map T.int) none (some 8) = ((0 :: ns).take 8).map T.int := by
    rw [show (some 8 : Option Int) = some ((8 : Nat) : Int) from rfl, cutT_to, List.map_take]; rfl
  have l0 := @le_line 0 (by omega)
  have l1 := @le_line 1 (by omega)
  have l2 := @le_line 2 (by omega)
  have l3 := @le_line 3 (by omega)
  have l4 := @le_line 4 (by omega)
  have l5 := @le_line 5 (by omega)
  have hg : gAdd (.lst [T.int 0]) (.lst (ns.map T.int)) = some (.lst (T.int 0 :: ns.map T.int)) := by rw [gAdd_lst (by simp; exact le_line (by omega))]; rfl
  have hp9 : gPow (.int 10) (.int 9) = some (.int 1000000000) := rfl
  have hp6 : gPow (.int 10) (.int 6) = some (.int 1000000) := rfl
  have hcs : csT.lookup "NoRows" = some (Str.ofString "None+") := rfl
  have hcM : csT.lookup "InvalidMost" = some (Str.ofString "Most+") := rfl
  have hN : gEqB (.str "None+") (.str "None+") = some true := by kernel_rfl
  have hM : gEqB (.str "Most+") (.str "Most+") = some true := by kernel_rfl
  have hbl : gAdd (.lst (Fx.rangeT 0 7)) (.lst [.int 1000000000]) = some (.lst (([0, 1, 2, 3, 4, 5, 6, 1000000000] : List Int).map T.int)) := by
    rw [gAdd_lst (le_line (by decide))]; rfl
  simp only [phi_law, psi_law, fnP_ap, List.length_cons, List.length_nil, if_true, sSeq_ap, sFor_ap]
  have e0 : ∀ ρ0 : Rho, fItems (fSl (fBin gAdd (fFz (fLst (fCons (fC (.int 0)) fNil))) (fVar 0)) fPn (fPs (fC (.int 8)))) (Sl.va (.lst (ns.map T.int)) :: ρ0) = .ok (((0 :: ns).take 8).map T.int) (Sl.va (.lst (ns.map T.int)) :: ρ0) := fun ρ0 => by
    simp [l1, hg, hit]
  simp only [List.map_cons, List.map_nil, List.cons_append, List.nil_append, e0, Rz.out_ok]
  refine for_bind (fun o => frOf o = .va (.bl true)) (fun _ ρ => ∃ a1 a2 a3 a4 a5 a6 a7 a8, ρ = [Sl.va (.lst (ns.map T.int)), a1, a2, a3, a4, a5, a6, a7, a8, .no]) ⟨_, _, _, _, _, _, _, _, rfl⟩ ?_ ?_
  · intro j t ρ hj hI
    obtain ⟨a1, a2, a3, a4, a5, a6, a7, a8, rfl⟩ := hI
    obtain ⟨cell, _, rfl⟩ : ∃ cell ∈ (0 :: ns).take 8, T.int cell = t := List.mem_map.mp (List.mem_of_getElem? hj)
    generalize Sl.va (.lst (ns.map T.int)) = a0
    obtain ⟨ts0, e1, d0⟩ := m_deck (cell := cell) (k := 12)
    rw [show ((12 : Nat) : Int) = 12 from rfl] at e1
    rw [forS_ap, tgN_ap, optIs_some]
    simp [e1, -fRange1_ap]
    rw [rng1 (φ := fC (.int 2)) (ρ1 := [a0, .va (.int cell), .ow ts0, a3, a4, a5, a6, a7, a8, .no]) (j := 2) fC_ap (by omega) (by omega), Rz.out_ok]
    refine for_bind (fun o => o.goes fun ρ => ∃ a1 a2 a3 a4 a5 a6 a7 a8, ρ = [a0, a1, a2, a3, a4, a5, a6, a7, a8, .no]) (fun k ρ => ∃ tsx, (∃ a3 a4 a5 a7 a8, ρ = [a0, .va (.int cell), .ow tsx, a3, a4, a5, a6, a7, a8, .no]) ∧ Dk (100 + 600 * k) tsx) ⟨ts0, ⟨_, _, _, _, _, rfl⟩, d0.mono (by omega)⟩ ?_ ?_
    · intro k t ρ hk hI
      obtain ⟨tsx, ⟨a3, a4, a5, a7, a8, rfl⟩, dx⟩ := hI
      have hk2 : k < 2 := by simpa using (List.getElem?_eq_some_iff.mp hk).1
      obtain ⟨p1, ts1, e2, hp1, d1⟩ := m_pick dx (by omega) (n := 3) (by omega) (by omega)
      obtain ⟨w, hw⟩ : ∃ w : Nat, (2 : Int) + p1 = w := ⟨2 + p1, by omega⟩
      have hw2 : 2 ≤ w := by omega
      have hw4 : w ≤ 4 := by omega
      obtain ⟨t3, ts2, e3, m3, d2⟩ := m_one d1 (by omega) (xs := [.int 1, .int 2, .int 4]) (by simp) (by simp)
      obtain ⟨wide, rfl, hwd1, hwd2⟩ : ∃ v : Nat, t3 = .int v ∧ 1 ≤ v ∧ v ≤ 4 := by
        simp at m3
        rcases m3 with rfl | rfl | rfl
        · exact ⟨1, rfl, by omega, by omega⟩
        · exact ⟨2, rfl, by omega, by omega⟩
        · exact ⟨4, rfl, by omega, by omega⟩
      obtain ⟨S, ts3, e4, hS, hSl, hSb, d3⟩ := m_case d2 (by omega) (days := 8) (w := w) (wide := wide) hw2 (by omega) (by omega) hwd1 (by omega)
      rw [show ((8 : Nat) : Int) = 8 from rfl] at e4
      obtain ⟨s1, s2, s3⟩ := okSums_iff hS
      have hm5 : ((w : Int) + 1) * wide ≤ 5 * wide := Int.mul_le_mul_of_nonneg_right (by omega) (by omega)
      have h20 : ∀ v ∈ S, v ≤ 20 := fun v hv => by have := (hSb v hv).2; omega
      have hz := getD_mem (S := S) (i := 0) (List.length_pos_iff.mpr s1)
      obtain ⟨n, hn⟩ : ∃ n : Nat, S.getD 0 0 = n := ⟨(S.getD 0 0).toNat, by have := s3 _ hz; omega⟩
      have hsl := slack_le hS hw2 (show w ≤ 12 by omega)
      have hs20 : slackI S w ≤ 20 := by have := h20 _ hz; omega
      have f1 := fun (m : Int) (hm : 0 ≤ m ∧ m ≤ 1000000000) => small12 hS hw2 hw4 hs20 hm
      have f2 := m_all (S := S) (w := w) (n := n) (by have := h20 _ hz; omega) hn (List.length_pos_iff.mpr s1) (by omega) (by omega) hw4
      have hrl := rows_len (S := S) hw2 hw4 hs20
      have hrn := rowsT_nil (S := S) (w := w) (by omega)
      have hrI : rowsT S w = [] ↔ rowsI S w = [] := by unfold rowsT; rw [List.map_eq_nil_iff]
      have hq : gEqB (.lst (rowsT S w)) (.lst []) = some (decide (rowsI S w = [])) := gEqB_dec okN_rowsT (okN_lstI (d := 63) (ns := [])) (by rw [T.lst.injEq]; exact hrI)
      have hlc : ∀ b : Sl, fLc (fItems (fVar 4)) (tgN 9) (fYes) (fCall gMax (fCons (fVar 9) (fNil))) [9] [a0, .va (.int cell), .ow ts3, .va t, .va (.lst (rowsT S w)), b, a6, .va (.tup (S.map .int)), .va (.int (w : Nat)), .no] =
          .ok ((rowsI S w).map fun R => T.int (maxI R)) [a0, .va (.int cell), .ow ts3, .va t, .va (.lst (rowsT S w)), b, a6, .va (.tup (S.map .int)), .va (.int (w : Nat)), .no] := fun b => by
        rw [fLc_is tupI12 (fun R => T.int (maxI R)) (rowsI S w) ?hi ?hl ?h]
        case hi => simp [rowsT, tupI12]
        case hl => exact le_line (by omega)
        case h =>
          intro R hR
          have hRl := rowsI_row hR
          have hRn : R ≠ [] := by intro e; rw [e] at hRl; simp [dys] at hRl; have := List.length_pos_iff.mpr s1; omega
          have k1 : gMax [tupI12 R] = some (.int (maxI R)) := gMax_t hRn
          simp only [lcS_ap, tgN_ap, optIs_some]
          generalize tupI12 R = RT at *
          generalize rowsT S w = RS at *
          simp [wipeR, k1]
        simp [unwipe, wipeR, keepS]
      have dfin : Dk (100 + 600 * (k + 1)) ts3 := d3.mono (by omega)
      have hle := least12 hS hw2 (show w ≤ 12 by omega)
      have hmn : rowsI S w ≠ [] → gMin [.lst ((rowsI S w).map fun R => T.int (maxI R))] = some (.int (minI ((rowsI S w).map maxI))) := fun hne => gMin_f hne
      have f4 : phi__law_same 4 [.int (minI ((rowsI S w).map maxI)), .int (minI ((rowsI S w).map maxI))] = .va (.bl true) := m_same 3 _ .int
      clear hrI hrn s1 s2 s3 hSb h20 hz hm5
      generalize minI ((rowsI S w).map maxI) = mn at *
      generalize (rowsI S w).map (fun R => T.int (maxI R)) = ML at *
      generalize rowsT S w = RT at *
      generalize S.map T.int = ST at *
      rw [forS_ap, tgN_ap, optIs_some]
      simp [e2, hw, e3, e4, f2, hp9, hbl, l3, l1, -forGo_nil, -List.map_cons, -List.map_nil, frzAll_cons, frzAll_nil, frzS, flatT]
      with_reducible refine loopTb (fun b => [a0, .va (.int cell), .ow ts3, .va t, .va (.lst RT), b, a6, .va (.tup ST), .va (.int (w : Nat)), .no]) ?_ ?_ a5 ?_
      · intro t b; rfl
      · intro u hu
        obtain ⟨m, hm, rfl⟩ := List.mem_map.mp hu
        have hm' : 0 ≤ m ∧ m ≤ 1000000000 := by simp at hm; omega
        have f := f1 m hm'
        simp [f]
      · intro b
        rcases hle with ⟨hr, f5⟩ | ⟨hr, f5⟩
        · have hdec : decide (rowsI S w = []) = true := decide_eq_true hr
          rw [hdec] at hq
          simp [hq, f5, l0, tryK_rs hcs, hN, hideO_cons, hideS, hideO_nil]
          exact dfin
        · have hdec : decide (rowsI S w = []) = false := decide_eq_false hr
          rw [hdec] at hq
          have h6 := hmn hr
          have h7 := hlc b
          simp [hq, f5, l0, f4, h6, h7]
          exact dfin
    · intro ρ hI
      obtain ⟨tsx, ⟨a3, a4, a5, a7, a8, rfl⟩, dx⟩ := hI
      have dx : Dk 10000 tsx := dx.mono (by simp)
      obtain ⟨p2, ts4, e5, hp2, d4⟩ := m_pick dx (by omega) (n := 11) (by omega) (by omega)
      obtain ⟨w2, hw'⟩ : ∃ w : Nat, (2 : Int) + p2 = w := ⟨2 + p2, by omega⟩
      obtain ⟨R, ts5, e6, hR1, hR2, hR3, d5⟩ := m_row d4 (by omega) (few := w2) (many := 30) (wide := 1000000) (by omega) (by omega) (by omega) (by omega)
      rw [show ((1000000 : Nat) : Int) = 1000000 from rfl, show ((30 : Nat) : Int) = 30 from rfl] at e6
      have f1 := large12 (w := w2) (by omega) (by omega) hR1 hR2 hR3 d5
      generalize R.map T.int = RT at *
      simp [e5, hw', hp6, hp9, e6, f1, l5, -forGo_nil, frzAll_cons, frzAll_nil, frzS, flatT]
      with_reducible refine loopFg2 (fun b => [a0, .va (.int cell), .ow ts5, a3, a4, a5, b, a7, .va (.int (w2 : Nat)), .no]) ?_ hM hM ?_ a6 ?_
      · intro t b; rfl
      · intro t ht
        obtain ⟨h1, h2⟩ := badM t ht
        constructor
        · simp [hideO_cons, hideS, hideO_nil, h1, tryK_rs hcM, l1]
        · simp [hideO_cons, hideS, hideO_nil, h2, tryK_rs hcM, l3]
      · intro b
        exact ⟨_, _, _, _, _, _, _, _, rfl⟩
  · intro ρ hI
    obtain ⟨a1, a2, a3, a4, a5, a6, a7, a8, rfl⟩ := hI
    generalize Sl.va (.lst (ns.map T.int)) = a0
    have q1 : gEqB (.lst [.tup [.int 3, .int 4], .tup [.int 2, .int 3], .tup [.int 1, .int 2], .tup [.int 3, .int 4]]) (.lst [.tup [.int 3, .int 4], .tup [.int 2, .int 3], .tup [.int 1, .int 2], .tup [.int 3, .int 4]]) = some true := by kernel_rfl
    simp [l1, l2, l3, l4, c1, c2, c3, c4, q1, frzAll_cons, frzAll_nil, frzS, flatT]
end Lw
open PySem PySem.W PyProof.Rows
set_option maxHeartbeats 0 in
theorem PySem.Challenge.cw_movingsums_k12_whole_largest_numbers_holds : PySem.Challenge.rw_movingsums_k12_whole_largest_numbers.Holds := by
  w_on; o_law; k_head; (case hw => w_witness2)
  k_fill
  refine Fx.walk_mk (l := PySem.Challenge.rw_movingsums_k12_whole_largest_numbers) (n := 63) (k := 10) (φ := Lw.phi_law) rfl (by decide) rfl ⟨rfl, by decide, by decide⟩ (fun w h Y => by first | exact PySem.W.kIn_of Y | exact PySem.W.km_in_of Y) ?F Lw.law_true
  case F =>
    intro w mg fa h KX G hmg
    refine' ⟨_, Fx.mk_join (Lw.all_mk KX G hmg ?a_is_from ?l_is_from ?c_is_from ?k_is_from ?a_is_numbers ?l_is_numbers ?c_is_numbers ?k_is_numbers ?a_is_sums ?l_is_sums ?c_is_sums ?k_is_sums ?a_need_window ?l_need_window ?c_need_window ?k_need_window ?a_need_sums ?l_need_sums ?c_need_sums ?k_need_sums ?a_shape_of ?l_shape_of ?c_shape_of ?k_shape_of ?a_window_shape ?l_window_shape ?c_window_shape ?k_window_shape ?a_lows_of ?l_lows_of ?c_lows_of ?k_lows_of ?a_slack_of ?l_slack_of ?c_slack_of ?k_slack_of ?a_choose ?l_choose ?c_choose ?k_choose ?a_count_of ?l_count_of ?c_count_of ?k_count_of ?a_bounds_of ?l_bounds_of ?c_bounds_of ?k_bounds_of ?a_count_limited ?l_count_limited ?c_count_limited ?k_count_limited ?a_ranges_limited ?l_ranges_limited ?c_ranges_limited ?k_ranges_limited ?a_least_limit ?l_least_limit ?c_least_limit ?k_least_limit ?a_count_rows ?l_count_rows ?c_count_rows ?k_count_rows ?a__law_deck ?l__law_deck ?c__law_deck ?k__law_deck ?a__law_pick ?l__law_pick ?c__law_pick ?k__law_pick ?a__law_name_of ?l__law_name_of ?c__law_name_of ?k__law_name_of ?a__law_try ?l__law_try ?c__law_try ?k__law_try ?a__law_one ?l__law_one ?c__law_one ?k__law_one ?a__law_sort ?l__law_sort ?c__law_sort ?k__law_sort ?a__law_same ?l__law_same ?c__law_same ?k__law_same ?a__law_sums ?l__law_sums ?c__law_sums ?k__law_sums ?a__law_row ?l__law_row ?c__law_row ?k__law_row ?a__law_case ?l__law_case ?c__law_case ?k__law_case ?a__law_all ?l__law_all ?c__law_all ?k__law_all ?a__law_small_right ?l__law_small_right ?c__law_small_right ?k__law_small_right ?t__law_small_right ?u__law_small_right ?n__law_small_right ?a__law_large_right ?l__law_large_right ?c__law_large_right ?k__law_large_right ?a_law ?l_law ?c_law ?k_law ?t_law ?u_law ?n_law ?ne__law_small_right_law ?z_ValueError ?z_all ?z_any ?z_bool ?z_enumerate ?z_int ?z_isinstance ?z_len ?z_list ?z_max ?z_min ?z_range ?z_str ?z_sum ?z_tuple ?z_zip ?q_LARGEST ?q_MOST_SUMS ?q_LONGEST ?xa_InvalidDay ?xa_InvalidIndex ?xa_InvalidMost ?xa_InvalidPlace ?xa_InvalidRow ?xa_InvalidSums ?xa_InvalidTold ?xa_InvalidWeights ?xa_InvalidWindow ?xa_NoRows ?xa_NothingToUndo ?xa_SumError ?xa_TooMany ?xa_TooShort ?xx_InvalidMost ?xk_InvalidMost ?xb_InvalidMost ?xt_InvalidMost ?xx_InvalidSums ?xk_InvalidSums ?xb_InvalidSums ?xt_InvalidSums ?xx_InvalidWindow ?xk_InvalidWindow ?xb_InvalidWindow ?xt_InvalidWindow ?xx_NoRows ?xk_NoRows ?xb_NoRows ?xt_NoRows ?y1_InvalidMost ?y2_InvalidMost ?y3_InvalidMost ?y4_InvalidMost ?y5_InvalidMost ?y6_InvalidMost ?y7_InvalidMost ?y8_InvalidMost ?kk_InvalidMost_InvalidRow ?kk_InvalidMost_InvalidSums ?kk_InvalidMost_InvalidWindow ?kk_InvalidMost_InvalidDay ?kk_InvalidMost_InvalidWeights ?kk_InvalidMost_InvalidTold ?kk_InvalidMost_InvalidPlace ?kk_InvalidMost_InvalidIndex ?kk_InvalidMost_InvalidMost ?kk_InvalidMost_TooShort ?kk_InvalidMost_NoRows ?kk_InvalidMost_NothingToUndo ?kk_InvalidMost_TooMany ?kv_InvalidMost ?ex1_InvalidMost ?ex2_InvalidMost ?y1_NoRows ?y2_NoRows ?y3_NoRows ?y4_NoRows ?y5_NoRows ?y6_NoRows ?y7_NoRows ?y8_NoRows ?kk_NoRows_InvalidRow ?kk_NoRows_InvalidSums ?kk_NoRows_InvalidWindow ?kk_NoRows_InvalidDay ?kk_NoRows_InvalidWeights ?kk_NoRows_InvalidTold ?kk_NoRows_InvalidPlace ?kk_NoRows_InvalidIndex ?kk_NoRows_InvalidMost ?kk_NoRows_TooShort ?kk_NoRows_NoRows ?kk_NoRows_NothingToUndo ?kk_NoRows_TooMany ?kv_NoRows ?ex1_NoRows ?ex2_NoRows) ?fnd⟩
    (case a_is_from => k_is); (case l_is_from => k_is); (case c_is_from => k_is); (case k_is_from => k_is); (case a_is_numbers => k_is); (case l_is_numbers => k_is); (case c_is_numbers => k_is); (case k_is_numbers => k_is); (case a_is_sums => k_is); (case l_is_sums => k_is); (case c_is_sums => k_is); (case k_is_sums => k_is); (case a_need_window => k_is); (case l_need_window => k_is); (case c_need_window => k_is); (case k_need_window => k_is); (case a_need_sums => k_is); (case l_need_sums => k_is); (case c_need_sums => k_is); (case k_need_sums => k_is); (case a_shape_of => k_is); (case l_shape_of => k_is); (case c_shape_of => k_is); (case k_shape_of => k_is); (case a_window_shape => k_is); (case l_window_shape => k_is); (case c_window_shape => k_is); (case k_window_shape => k_is); (case a_lows_of => k_is); (case l_lows_of => k_is); (case c_lows_of => k_is); (case k_lows_of => k_is); (case a_slack_of => k_is); (case l_slack_of => k_is); (case c_slack_of => k_is); (case k_slack_of => k_is); (case a_choose => k_is); (case l_choose => k_is); (case c_choose => k_is); (case k_choose => k_is); (case a_count_of => k_is); (case l_count_of => k_is); (case c_count_of => k_is); (case k_count_of => k_is); (case a_bounds_of => k_is); (case l_bounds_of => k_is); (case c_bounds_of => k_is); (case k_bounds_of => k_is); (case a_count_limited => k_is); (case l_count_limited => k_is); (case c_count_limited => k_is); (case k_count_limited => k_is); (case a_ranges_limited => k_is); (case l_ranges_limited => k_is); (case c_ranges_limited => k_is); (case k_ranges_limited => k_is); (case a_least_limit => k_is); (case l_least_limit => k_is); (case c_least_limit => k_is); (case k_least_limit => k_is); (case a_count_rows => k_is); (case l_count_rows => k_is); (case c_count_rows => k_is); (case k_count_rows => k_is); (case a__law_deck => k_is); (case l__law_deck => k_is); (case c__law_deck => k_is); (case k__law_deck => k_is); (case a__law_pick => k_is); (case l__law_pick => k_is); (case c__law_pick => k_is); (case k__law_pick => k_is); (case a__law_name_of => k_is); (case l__law_name_of => k_is); (case c__law_name_of => k_is); (case k__law_name_of => k_is); (case a__law_try => k_is); (case l__law_try => k_is); (case c__law_try => k_is); (case k__law_try => k_is); (case a__law_one => k_is); (case l__law_one => k_is); (case c__law_one => k_is); (case k__law_one => k_is); (case a__law_sort => k_is); (case l__law_sort => k_is); (case c__law_sort => k_is); (case k__law_sort => k_is); (case a__law_same => k_is); (case l__law_same => k_is); (case c__law_same => k_is); (case k__law_same => k_is); (case a__law_sums => k_is); (case l__law_sums => k_is); (case c__law_sums => k_is); (case k__law_sums => k_is); (case a__law_row => k_is); (case l__law_row => k_is); (case c__law_row => k_is); (case k__law_row => k_is); (case a__law_case => k_is); (case l__law_case => k_is); (case c__law_case => k_is); (case k__law_case => k_is); (case a__law_all => k_is); (case l__law_all => k_is); (case c__law_all => k_is); (case k__law_all => k_is); (case a__law_small_right => k_is); (case l__law_small_right => k_is); (case c__law_small_right => k_is); (case k__law_small_right => k_is); (case t__law_small_right => k_is); (case u__law_small_right => exact rfl); (case n__law_small_right => kernel_rfl); (case a__law_large_right => k_is); (case l__law_large_right => k_is); (case c__law_large_right => k_is); (case k__law_large_right => k_is); (case a_law => k_is); (case l_law => k_is); (case c_law => k_is); (case k_law => k_is); (case t_law => k_is); (case u_law => exact rfl); (case n_law => kernel_rfl); (case ne__law_small_right_law => decide); (case z_ValueError => k_is); (case z_all => k_is); (case z_any => k_is); (case z_bool => k_is); (case z_enumerate => k_is); (case z_int => k_is); (case z_isinstance => k_is); (case z_len => k_is); (case z_list => k_is); (case z_max => k_is); (case z_min => k_is); (case z_range => k_is); (case z_str => k_is); (case z_sum => k_is); (case z_tuple => k_is); (case z_zip => k_is); (case q_LARGEST => k_is); (case q_MOST_SUMS => k_is); (case q_LONGEST => k_is); (case xa_InvalidDay => k_is); (case xa_InvalidIndex => k_is); (case xa_InvalidMost => k_is); (case xa_InvalidPlace => k_is); (case xa_InvalidRow => k_is); (case xa_InvalidSums => k_is); (case xa_InvalidTold => k_is); (case xa_InvalidWeights => k_is); (case xa_InvalidWindow => k_is); (case xa_NoRows => k_is); (case xa_NothingToUndo => k_is); (case xa_SumError => k_is); (case xa_TooMany => k_is); (case xa_TooShort => k_is); (case xx_InvalidMost => k_exc); (case xk_InvalidMost => k_is); (case xb_InvalidMost => k_is); (case xt_InvalidMost => k_is); (case xx_InvalidSums => k_exc); (case xk_InvalidSums => k_is); (case xb_InvalidSums => k_is); (case xt_InvalidSums => k_is); (case xx_InvalidWindow => k_exc); (case xk_InvalidWindow => k_is); (case xb_InvalidWindow => k_is); (case xt_InvalidWindow => k_is); (case xx_NoRows => k_exc); (case xk_NoRows => k_is); (case xb_NoRows => k_is); (case xt_NoRows => k_is); (case y1_InvalidMost => k_is); (case y2_InvalidMost => k_is); (case y3_InvalidMost => k_is); (case y4_InvalidMost => k_is); (case y5_InvalidMost => k_is); (case y6_InvalidMost => k_is); (case y7_InvalidMost => k_is); (case y8_InvalidMost => k_is); (case kk_InvalidMost_InvalidRow => kernel_rfl); (case kk_InvalidMost_InvalidSums => kernel_rfl); (case kk_InvalidMost_InvalidWindow => kernel_rfl); (case kk_InvalidMost_InvalidDay => kernel_rfl); (case kk_InvalidMost_InvalidWeights => kernel_rfl); (case kk_InvalidMost_InvalidTold => kernel_rfl); (case kk_InvalidMost_InvalidPlace => kernel_rfl); (case kk_InvalidMost_InvalidIndex => kernel_rfl); (case kk_InvalidMost_InvalidMost => kernel_rfl); (case kk_InvalidMost_TooShort => kernel_rfl); (case kk_InvalidMost_NoRows => kernel_rfl); (case kk_InvalidMost_NothingToUndo => kernel_rfl); (case kk_InvalidMost_TooMany => kernel_rfl); (case kv_InvalidMost => kernel_rfl); (case ex1_InvalidMost => kernel_rfl); (case ex2_InvalidMost => kernel_rfl); (case y1_NoRows => k_is); (case y2_NoRows => k_is); (case y3_NoRows => k_is); (case y4_NoRows => k_is); (case y5_NoRows => k_is); (case y6_NoRows => k_is); (case y7_NoRows => k_is); (case y8_NoRows => k_is); (case kk_NoRows_InvalidRow => kernel_rfl); (case kk_NoRows_InvalidSums => kernel_rfl); (case kk_NoRows_InvalidWindow => kernel_rfl); (case kk_NoRows_InvalidDay => kernel_rfl); (case kk_NoRows_InvalidWeights => kernel_rfl); (case kk_NoRows_InvalidTold => kernel_rfl); (case kk_NoRows_InvalidPlace => kernel_rfl); (case kk_NoRows_InvalidIndex => kernel_rfl); (case kk_NoRows_InvalidMost => kernel_rfl); (case kk_NoRows_TooShort => kernel_rfl); (case kk_NoRows_NoRows => kernel_rfl); (case kk_NoRows_NothingToUndo => kernel_rfl); (case kk_NoRows_TooMany => kernel_rfl); (case kv_NoRows => kernel_rfl); (case ex1_NoRows => kernel_rfl); (case ex2_NoRows => kernel_rfl)
    case fnd => exact List.forall_mem_cons.mpr ⟨⟨_, rfl⟩, List.forall_mem_cons.mpr ⟨⟨_, rfl⟩, fun _ h => nomatch h⟩⟩
