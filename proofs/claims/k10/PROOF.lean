import PyProof.Rows.All
import Wide.All
import OpenK.AllK
import Wide.FinOn
import HandS.ForMost
import HandS.ForExc
import HandS.IsInst
import HandS.Wide
import HandS.CallSlots
import HandS.ExcIs
import HandS.Small
import HandS.RaiseMore
import HandS.TupAny
import HandS.SortOrd
import HandS.Flow
import HandS.Deep
import HandS.Defaults
import HandS.Text
import HandS.Iter
import HandS.Replace
import HandS.StrMore
import HandS.Head0
import HandS.Head1
import HandS.Head2
import HandS.HeadEnd
import HandS.HeadHook1
import HandS.HeadHook2
import HandS.HeadHook3
import HandS.HeadHook4
import KE.IntTextLaws
import PyProof.ExcBaseAll.ValueError
import PySem.Challenge.RW_darkrise_k10_names_and_numbers
section
set_option Elab.async false
set_option linter.all false
set_option autoImplicit false
set_option maxRecDepth 100000
set_option maxHeartbeats 4000000
/-! DKCore: values D, stores of objects, results; readings that are told by functions (mirrors). -/
namespace DK
open PySem L2

/-- a value of the mirror: lst, tup stand as they are for good; hdl n is the n-th object of the store -/
inductive D where
  | non
  | bl (b : Bool)
  | int (i : Int)
  | str (s : Str)
  | lst (xs : List D)
  | rol (xs : List D)
  | tup (xs : List D)
  | hdl (n : Nat)

inductive Ob where
  | lst (xs : List D)
  | dct (kvs : List (Key × D))
  | ins (c : Str) (fs : List (Str × D))
  | dead

abbrev Store := List Ob
abbrev Loc := List (Option D)

structure Exn where
  cls : Str
  fs : Option (List (Str × D)) := none

inductive Res (α : Type) where
  | ok (a : α) (O : Store)
  | exc (x : Exn) (O : Store)
  | bad

def Res.bind {α β : Type} (x : Res α) (f : α → Store → Res β) : Res β := match x with
  | .ok a O => f a O
  | .exc e O => .exc e O
  | .bad => .bad

abbrev EM := Loc → Store → Res D
abbrev TM := Loc → Store → Res Bool
abbrev AM := Loc → Store → Res (List D)
abbrev FM := List D → Store → Res D

inductive SR where
  | next (L : Loc) (O : Store)
  | ret (d : D) (O : Store)
  | brk (L : Loc) (O : Store)
  | cnt (L : Loc) (O : Store)
  | exc (x : Exn) (L : Loc) (O : Store)
  | bad
abbrev SM := Loc → Store → SR

/-- where the objects of the store stand; what else is kept -/
structure Rg where
  l : List Addr
  fr : Hp
def Rg.push (r : Rg) (p : Addr) : Rg := ⟨r.l ++ [p], r.fr⟩
/-! ### what stands for what -/
section
variable (K : PySem.W.Frag) (S : Hp) (r : Rg)
mutual
def Rp : D → V → Prop
  | .non, v => v = .non
  | .bl b, v => v = .bl b
  | .int i, v => v = .int i
  | .str s, v => v = .str s
  | .lst ds, v => ∃ a vs, v = .ref a ∧ S a = some (.lst vs) ∧ RpAll ds vs
  | .rol ds, v => ∃ a vs, v = .ref a ∧ SqL K S a vs ∧ RpAll ds vs
  | .tup ds, v => ∃ a vs, v = .ref a ∧ SqT K S a vs ∧ RpAll ds vs
  | .hdl n, v => ∃ a, v = .ref a ∧ r.l[n]? = some a
def RpAll : List D → List V → Prop
  | [], vs => vs = []
  | d :: ds, vs => ∃ v vr, vs = v :: vr ∧ Rp d v ∧ RpAll ds vr
end
def RpP {κ : Type} : List (κ × D) → List (κ × V) → Prop
  | [], ks => ks = []
  | kd :: kds, ks => ∃ v kr, ks = (kd.1, v) :: kr ∧ Rp K S r kd.2 v ∧ RpP kds kr
end

/-- the state grows -/
structure Ext (S : Hp) (r : Rg) (S' : Hp) (r' : Rg) : Prop where
  s : Same S S'
  f : r'.fr = r.fr
  r : r.l <+: r'.l
theorem Ext.refl (S : Hp) (r : Rg) : Ext S r S r := ⟨Same.refl S, rfl, List.prefix_rfl⟩
theorem Ext.trans {S S1 S2 : Hp} {r r1 r2 : Rg} (a : Ext S r S1 r1) (b : Ext S1 r1 S2 r2) : Ext S r S2 r2 := ⟨a.s.trans b.s, b.f.trans a.f, a.r.trans b.r⟩
theorem Ext.new {S : Hp} {r : Rg} {p : Addr} {o : HO} (h : S p = none) : Ext S r (upd S p o) r :=
  ⟨fun b u e => by rw [upd_ne (ne_of_none e h)]; exact e, rfl, List.prefix_rfl⟩

theorem rd_same {S S' : Hp} {a : Addr} {u : HO} (e : Same S S') (h : Rd S a u) : Rd S' a u := by
  rcases h with h | ⟨o, h⟩
  · exact .inl (e _ _ h)
  · exact .inr ⟨o, e _ _ h⟩
theorem sqL_same {K : PySem.W.Frag} {S S' : Hp} {a : Addr} {xs : List V} (e : Same S S') (h : SqL K S a xs) : SqL K S' a xs := by
  rcases h with h | h
  · exact .inl (rd_same e h)
  · exact .inr h
theorem sqT_same {K : PySem.W.Frag} {S S' : Hp} {a : Addr} {xs : List V} (e : Same S S') (h : SqT K S a xs) : SqT K S' a xs := by
  rcases h with h | h
  · exact .inl (rd_same e h)
  · exact .inr h
theorem pre_get {α : Type} {l m : List α} {n : Nat} {x : α} (p : l <+: m) (h : l[n]? = some x) : m[n]? = some x := by
  obtain ⟨t, rfl⟩ := p
  rw [List.getElem?_append_left (List.getElem?_eq_some_iff.mp h).1]
  exact h

section
variable {K : PySem.W.Frag} {S S' : Hp} {r r' : Rg}
mutual
theorem Rp.monoW (s : Same S S') (l : r.l <+: r'.l) : ∀ (d : D) (v : V), Rp K S r d v → Rp K S' r' d v
  | .non, v, h => h
  | .bl b, v, h => h
  | .int i, v, h => h
  | .str z, v, h => h
  | .lst ds, v, h => by
    obtain ⟨a, vs, q1, q2, q3⟩ := h
    exact ⟨a, vs, q1, s _ _ q2, RpAll.monoW s l ds vs q3⟩
  | .rol ds, v, h => by
    obtain ⟨a, vs, q1, q2, q3⟩ := h
    exact ⟨a, vs, q1, sqL_same s q2, RpAll.monoW s l ds vs q3⟩
  | .tup ds, v, h => by
    obtain ⟨a, vs, q1, q2, q3⟩ := h
    exact ⟨a, vs, q1, sqT_same s q2, RpAll.monoW s l ds vs q3⟩
  | .hdl n, v, h => by
    obtain ⟨a, q1, q2⟩ := h
    exact ⟨a, q1, pre_get l q2⟩
theorem RpAll.monoW (s : Same S S') (l : r.l <+: r'.l) : ∀ (ds : List D) (vs : List V), RpAll K S r ds vs → RpAll K S' r' ds vs
  | [], vs, h => h
  | d :: ds, vs, h => by
    obtain ⟨v, vr, q1, q2, q3⟩ := h
    exact ⟨v, vr, q1, Rp.monoW s l d v q2, RpAll.monoW s l ds vr q3⟩
end
theorem Rp.mono (e : Ext S r S' r') (d : D) (v : V) (h : Rp K S r d v) : Rp K S' r' d v := Rp.monoW e.s e.r d v h
theorem RpAll.mono (e : Ext S r S' r') (ds : List D) (vs : List V) (h : RpAll K S r ds vs) : RpAll K S' r' ds vs := RpAll.monoW e.s e.r ds vs h
theorem RpP.monoW {κ : Type} (s : Same S S') (l : r.l <+: r'.l) : ∀ (ds : List (κ × D)) (vs : List (κ × V)), RpP K S r ds vs → RpP K S' r' ds vs
  | [], vs, h => h
  | d :: ds, vs, h => by
    obtain ⟨v, vr, q1, q2, q3⟩ := h
    exact ⟨v, vr, q1, Rp.monoW s l d.2 v q2, RpP.monoW s l ds vr q3⟩
theorem RpP.mono {κ : Type} (e : Ext S r S' r') (ds : List (κ × D)) (vs : List (κ × V)) (h : RpP K S r ds vs) : RpP K S' r' ds vs := RpP.monoW e.s e.r ds vs h

theorem RpAll.length : ∀ {ds : List D} {vs : List V}, RpAll K S r ds vs → vs.length = ds.length
  | [], vs, h => by rw [show vs = [] from h]; rfl
  | d :: ds, vs, h => by
    obtain ⟨v, vr, rfl, _, q3⟩ := h
    rw [List.length_cons, List.length_cons, RpAll.length q3]
theorem RpAll.get : ∀ {ds : List D} {vs : List V} {i : Nat} {d : D}, RpAll K S r ds vs → ds[i]? = some d → ∃ v, vs[i]? = some v ∧ Rp K S r d v
  | [], _, i, d, _, e => by simp at e
  | x :: ds, vs, 0, d, h, e => by
    obtain ⟨v, vr, rfl, q, _⟩ := h
    obtain rfl : x = d := by simpa using e
    exact ⟨v, rfl, q⟩
  | x :: ds, vs, i + 1, d, h, e => by
    obtain ⟨v, vr, rfl, _, q⟩ := h
    exact RpAll.get (i := i) q (by simpa using e)
/-- from the other side -/
theorem RpAll.back : ∀ {ds : List D} {vs : List V} {i : Nat} {v : V}, RpAll K S r ds vs → vs[i]? = some v → ∃ d, ds[i]? = some d ∧ Rp K S r d v
  | [], vs, i, v, h, e => by
    rw [show vs = [] from h] at e
    simp at e
  | x :: ds, vs, 0, d, h, e => by
    obtain ⟨v, vr, rfl, q, _⟩ := h
    obtain rfl : v = d := by simpa using e
    exact ⟨x, rfl, q⟩
  | x :: ds, vs, i + 1, d, h, e => by
    obtain ⟨v, vr, rfl, _, q⟩ := h
    exact RpAll.back (i := i) q (by simpa using e)
theorem RpAll.append : ∀ {ds es : List D} {vs us : List V}, RpAll K S r ds vs → RpAll K S r es us → RpAll K S r (ds ++ es) (vs ++ us)
  | [], es, vs, us, h, g => by
    rw [show vs = [] from h]
    exact g
  | d :: ds, es, vs, us, h, g => by
    obtain ⟨v, vr, rfl, q, q2⟩ := h
    exact ⟨v, vr ++ us, rfl, q, q2.append g⟩
theorem RpAll.take : ∀ {ds : List D} {vs : List V} (n : Nat), RpAll K S r ds vs → RpAll K S r (ds.take n) (vs.take n)
  | ds, vs, 0, h => by
    rw [List.take_zero, List.take_zero]
    exact rfl
  | [], vs, n + 1, h => by
    rw [show vs = [] from h]
    exact rfl
  | d :: ds, vs, n + 1, h => by
    obtain ⟨v, vr, rfl, q, q2⟩ := h
    exact ⟨v, vr.take n, rfl, q, q2.take n⟩
theorem RpAll.drop : ∀ {ds : List D} {vs : List V} (n : Nat), RpAll K S r ds vs → RpAll K S r (ds.drop n) (vs.drop n)
  | ds, vs, 0, h => by
    rw [List.drop_zero, List.drop_zero]
    exact h
  | [], vs, n + 1, h => by
    rw [show vs = [] from h]
    exact rfl
  | d :: ds, vs, n + 1, h => by
    obtain ⟨v, vr, rfl, q, q2⟩ := h
    exact q2.drop n
theorem RpAll.set : ∀ {ds : List D} {vs : List V} {d : D} {v : V} (i : Nat), RpAll K S r ds vs → Rp K S r d v → RpAll K S r (ds.set i d) (vs.set i v)
  | [], vs, d, v, i, h, _ => by
    rw [show vs = [] from h]
    exact rfl
  | x :: ds, vs, d, v, 0, h, g => by
    obtain ⟨u, vr, rfl, q, q2⟩ := h
    exact ⟨v, vr, rfl, g, q2⟩
  | x :: ds, vs, d, v, i + 1, h, g => by
    obtain ⟨u, vr, rfl, q, q2⟩ := h
    exact ⟨u, vr.set i v, rfl, q, q2.set i g⟩
theorem RpAll.nil : RpAll K S r [] [] := rfl
theorem RpAll.cons {d : D} {v : V} {ds : List D} {vs : List V} (h : Rp K S r d v) (g : RpAll K S r ds vs) : RpAll K S r (d :: ds) (v :: vs) := ⟨v, vs, rfl, h, g⟩
end

/-! ### the state -/
section
variable (K : PySem.W.Frag) (ad : Str → Addr) (S : Hp) (r : Rg)
def RO (H : Hp) (a : Addr) : Ob → Prop
  | .lst ds => S a = none ∧ ∃ vs, H a = some (.lst vs) ∧ RpAll K S r ds vs
  | .dct kvs => S a = none ∧ ∃ ks, H a = some (.dK ks) ∧ RpP K S r kvs ks
  | .ins c fs => S a = none ∧ ∃ dx gs, H a = some (.ins (ad c) dx gs) ∧ RpP K S r fs gs
  | .dead => ∃ o, H a = some o
structure Rs (O : Store) (H : Hp) : Prop where
  sub : Same S H
  len : r.l.length = O.length
  nd : r.l.Nodup
  ob : ∀ (n : Nat) (a : Addr) (o : Ob), r.l[n]? = some a → O[n]? = some o → RO K ad S r H a o
  fr : Same r.fr H
  off : ∀ (a : Addr) (o : HO), r.fr a = some o → S a = none ∧ a ∉ r.l
/-- the slots -/
structure Rl (L : Loc) (σ : St) : Prop where
  len : σ.length = L.length
  at_ : ∀ (i : Nat) (d : D), L[i]? = some (some d) → ∃ v, σ[i]? = some (some v) ∧ Rp K S r d v
/-- an exception: its own dict stands for good -/
def ExR (x : Exn) (d : Option Addr) : Prop := match x.fs with
  | none => d = none
  | some fs => ∃ dd gs, d = some dd ∧ S dd = some (.xd gs) ∧ RpP K S r fs gs
end
section
variable {K : PySem.W.Frag} {ad : Str → Addr} {S S' : Hp} {r r' : Rg} {L : Loc} {σ : St} {O : Store} {H : Hp}
theorem Rl.mono (e : Ext S r S' r') (h : Rl K S r L σ) : Rl K S' r' L σ := ⟨h.len, fun i d q => by
  obtain ⟨v, q1, q2⟩ := h.at_ i d q
  exact ⟨v, q1, Rp.mono e d v q2⟩⟩
theorem RO.there {a : Addr} {o : Ob} (h : RO K ad S r H a o) : ∃ u, H a = some u := by
  cases o with
  | lst ds => obtain ⟨_, vs, q, _⟩ := h; exact ⟨_, q⟩
  | dct kvs => obtain ⟨_, vs, q, _⟩ := h; exact ⟨_, q⟩
  | ins c fs => obtain ⟨_, _, vs, q, _⟩ := h; exact ⟨_, q⟩
  | dead => exact h
theorem Rs.fresh (h : Rs K ad S r O H) {p : Addr} (hp : H p = none) : S p = none := h.sub.free hp
theorem Rs.notin (h : Rs K ad S r O H) {p : Addr} (hp : H p = none) : p ∉ r.l := fun hm => by
  obtain ⟨n, hn, e⟩ := List.getElem_of_mem hm
  have hO : n < O.length := by rw [← h.len]; exact hn
  obtain ⟨u, q⟩ := (h.ob n p O[n] (by rw [List.getElem?_eq_getElem hn, e]) (List.getElem?_eq_getElem hO)).there
  rw [hp] at q
  cases q
theorem RO.mono {a : Addr} {o : Ob} {H' : Hp} (e : Ext S r S' r') (k : ∀ u, H a = some u → H' a = some u) (n : S a = none → S' a = none) (h : RO K ad S r H a o) : RO K ad S' r' H' a o := by
  cases o with
  | lst ds => obtain ⟨z, vs, q, p⟩ := h; exact ⟨n z, vs, k _ q, RpAll.mono e _ _ p⟩
  | dct kvs => obtain ⟨z, vs, q, p⟩ := h; exact ⟨n z, vs, k _ q, RpP.mono e _ _ p⟩
  | ins c fs => obtain ⟨z, dx, vs, q, p⟩ := h; exact ⟨n z, dx, vs, k _ q, RpP.mono e _ _ p⟩
  | dead => obtain ⟨u, q⟩ := h; exact ⟨u, k _ q⟩
theorem same_upd {H' : Hp} {p : Addr} {o : HO} (h : Same H' H) (hp : H' p = none) : Same H' (upd H p o) := fun b u e => by
  rw [upd_ne (ne_of_none e hp)]
  exact h b u e
/-- a new thing that stands for good -/
theorem Rs.seal {p : Addr} {o : HO} (h : Rs K ad S r O H) (hp : H p = none) : Rs K ad (upd S p o) r O (upd H p o) where
  sub := fun b u e => by
    by_cases hb : b = p
    · rw [hb, upd_same] at e ⊢; exact e
    · rw [upd_ne hb] at e ⊢; exact h.sub b u e
  len := h.len
  nd := h.nd
  ob := fun n a ob e1 e2 => by
    have ne : a ≠ p := fun z => h.notin hp (by rw [← z]; exact List.mem_of_getElem? e1)
    exact (h.ob n a ob e1 e2).mono (Ext.new (h.fresh hp)) (fun u q => by rw [upd_ne ne]; exact q) (fun q => by rw [upd_ne ne]; exact q)
  fr := same_upd h.fr (h.fr.free hp)
  off := fun a u e => by
    have ne : a ≠ p := ne_of_none e (h.fr.free hp)
    rw [upd_ne ne]
    exact h.off a u e
/-- a thing that nobody knows -/
theorem Rs.junk {p : Addr} {o : HO} (h : Rs K ad S r O H) (hp : H p = none) : Rs K ad S r O (upd H p o) where
  sub := same_upd h.sub (h.fresh hp)
  len := h.len
  nd := h.nd
  ob := fun n a ob e1 e2 => by
    have ne : a ≠ p := fun z => h.notin hp (by rw [← z]; exact List.mem_of_getElem? e1)
    exact (h.ob n a ob e1 e2).mono (Ext.refl S r) (fun u q => by rw [upd_ne ne]; exact q) (fun q => q)
  fr := same_upd h.fr (h.fr.free hp)
  off := h.off
theorem Ext.push (S : Hp) (r : Rg) (p : Addr) : Ext S r S (r.push p) := ⟨Same.refl S, rfl, List.prefix_append r.l [p]⟩
theorem RO.grow {a p : Addr} {o : Ob} (h : RO K ad S r H a o) : RO K ad S (r.push p) H a o :=
  h.mono (Ext.push S r p) (fun _ q => q) (fun q => q)
/-- a new object of the store -/
theorem Rs.push {p : Addr} {u : HO} {o : Ob} (h : Rs K ad S r O H) (hp : H p = none) (ho : RO K ad S (r.push p) (upd H p u) p o) : Rs K ad S (r.push p) (O ++ [o]) (upd H p u) where
  sub := (h.junk (o := u) hp).sub
  len := by
    show (r.l ++ [p]).length = _
    rw [List.length_append, List.length_append, h.len]; rfl
  nd := by
    show (r.l ++ [p]).Nodup
    rw [List.nodup_append]
    refine ⟨h.nd, by simp, fun a ha b hb => ?_⟩
    obtain rfl : b = p := by simpa using hb
    exact fun z => h.notin hp (z ▸ ha)
  ob := fun n a ob e1 e2 => by
    replace e1 : (r.l ++ [p])[n]? = some a := e1
    by_cases hn : n < r.l.length
    · rw [List.getElem?_append_left hn] at e1
      rw [List.getElem?_append_left (by rw [← h.len]; exact hn)] at e2
      exact ((h.junk (o := u) hp).ob n a ob e1 e2).grow
    · have hn' : n = r.l.length := by
        have := (List.getElem?_eq_some_iff.mp e1).1
        rw [List.length_append] at this
        simp at this
        omega
      subst hn'
      rw [List.getElem?_append_right (Nat.le_refl _)] at e1
      rw [h.len, List.getElem?_append_right (Nat.le_refl _)] at e2
      simp at e1 e2
      subst e1 e2
      exact ho
  fr := same_upd h.fr (h.fr.free hp)
  off := fun a u e => ⟨(h.off a u e).1, fun hm => by
    rcases List.mem_append.mp (show a ∈ r.l ++ [p] from hm) with hm | hm
    · exact (h.off a u e).2 hm
    · obtain rfl : a = p := by simpa using hm
      replace e : r.fr a = some u := e
      rw [show r.fr a = none from h.fr.free hp] at e
      cases e⟩
theorem nd_get {l : List Addr} (h : l.Nodup) {i j : Nat} {a : Addr} (x : l[i]? = some a) (y : l[j]? = some a) : i = j := by
  obtain ⟨h1, e1⟩ := List.getElem?_eq_some_iff.mp x
  obtain ⟨h2, e2⟩ := List.getElem?_eq_some_iff.mp y
  exact (List.getElem_inj h).mp (e1.trans e2.symm)
theorem Rs.nofr (h : Rs K ad S r O H) {n : Nat} {a : Addr} (hn : r.l[n]? = some a) : r.fr a = none := by
  cases e : r.fr a with
  | none => rfl
  | some o => exact absurd (List.mem_of_getElem? hn) (h.off a o e).2
/-- an object of the store is written -/
theorem Rs.write {n : Nat} {a : Addr} {u : HO} {o : Ob} (h : Rs K ad S r O H) (hn : r.l[n]? = some a) (hz : S a = none) (ho : RO K ad S r (upd H a u) a o) : Rs K ad S r (O.set n o) (upd H a u) where
  sub := same_upd h.sub hz
  len := by rw [List.length_set]; exact h.len
  nd := h.nd
  ob := fun m b ob e1 e2 => by
    by_cases hm : m = n
    · subst hm
      rw [hn] at e1
      cases e1
      rw [List.getElem?_set_self (by rw [← h.len]; exact (List.getElem?_eq_some_iff.mp hn).1)] at e2
      cases e2
      exact ho
    · rw [List.getElem?_set_ne (Ne.symm hm)] at e2
      have ne : b ≠ a := fun z => hm (nd_get h.nd e1 (z ▸ hn))
      exact (h.ob m b ob e1 e2).mono (Ext.refl S r) (fun w q => by rw [upd_ne ne]; exact q) (fun q => q)
  fr := same_upd h.fr (h.nofr hn)
  off := h.off
/-- an object of the store is let be for good -/
theorem Rs.freeze {n : Nat} {a : Addr} {vs : List V} (h : Rs K ad S r O H) (hn : r.l[n]? = some a) (hz : S a = none) (ha : H a = some (.lst vs)) : Rs K ad (upd S a (.lst vs)) r (O.set n .dead) H where
  sub := fun b w e => by
    by_cases hb : b = a
    · rw [hb, upd_same] at e
      rw [hb, ha]; exact e
    · rw [upd_ne hb] at e; exact h.sub b w e
  len := by rw [List.length_set]; exact h.len
  nd := h.nd
  ob := fun m b ob e1 e2 => by
    by_cases hm : m = n
    · subst hm
      rw [hn] at e1
      cases e1
      rw [List.getElem?_set_self (by rw [← h.len]; exact (List.getElem?_eq_some_iff.mp hn).1)] at e2
      cases e2
      exact ⟨_, ha⟩
    · rw [List.getElem?_set_ne (Ne.symm hm)] at e2
      have ne : b ≠ a := fun z => hm (nd_get h.nd e1 (z ▸ hn))
      exact (h.ob m b ob e1 e2).mono (Ext.new hz) (fun w q => q) (fun q => by rw [upd_ne ne]; exact q)
  fr := h.fr
  off := fun b o e => ⟨by
    rw [upd_ne (ne_of_none e (h.nofr hn))]
    exact (h.off b o e).1, (h.off b o e).2⟩
def Rg.at (r : Rg) (f : Hp) : Rg := ⟨r.l, f⟩
theorem RO.at_ {a : Addr} {o : Ob} {f : Hp} (h : RO K ad S r H a o) : RO K ad S (r.at f) H a o := by
  have l : r.l <+: (r.at f).l := List.prefix_rfl
  cases o with
  | lst ds => obtain ⟨z, vs, q, p⟩ := h; exact ⟨z, vs, q, RpAll.monoW (Same.refl S) l _ _ p⟩
  | dct kvs => obtain ⟨z, vs, q, p⟩ := h; exact ⟨z, vs, q, RpP.monoW (Same.refl S) l _ _ p⟩
  | ins c fs => obtain ⟨z, dx, vs, q, p⟩ := h; exact ⟨z, dx, vs, q, RpP.monoW (Same.refl S) l _ _ p⟩
  | dead => obtain ⟨u, q⟩ := h; exact ⟨u, q⟩
/-- a new thing is kept for a while -/
theorem Rs.hold {p : Addr} {o : HO} (h : Rs K ad S r O H) (hp : H p = none) : Rs K ad S (r.at (upd r.fr p o)) O (upd H p o) where
  sub := (h.junk (o := o) hp).sub
  len := h.len
  nd := h.nd
  ob := fun n a u e1 e2 => ((h.junk (o := o) hp).ob n a u e1 e2).at_
  fr := fun b u e => by
    replace e : upd r.fr p o b = some u := e
    by_cases hb : b = p
    · rw [hb, upd_same] at e ⊢; exact e
    · rw [upd_ne hb] at e ⊢; exact h.fr b u e
  off := fun a u e => by
    replace e : upd r.fr p o a = some u := e
    by_cases hb : a = p
    · rw [hb]; exact ⟨h.fresh hp, h.notin hp⟩
    · rw [upd_ne hb] at e; exact h.off a u e
/-- what is held changes -/
theorem Rs.rehold {p : Addr} {o u : HO} {f : Hp} (h : Rs K ad S (r.at (upd f p o)) O H) : Rs K ad S (r.at (upd f p u)) O (upd H p u) where
  sub := same_upd h.sub (h.off p o upd_same).1
  len := h.len
  nd := h.nd
  ob := fun n a w e1 e2 => by
    have ne : a ≠ p := fun z => (h.off p o upd_same).2 (z ▸ List.mem_of_getElem? e1)
    have q := h.ob n a w e1 e2
    have q1 : RO K ad S r H a w := RO.at_ (r := r.at (upd f p o)) (f := r.fr) q
    exact (q1.mono (Ext.refl S r) (fun w q => by rw [upd_ne ne]; exact q) (fun q => q)).at_
  fr := fun b w e => by
    replace e : upd f p u b = some w := e
    by_cases hb : b = p
    · rw [hb, upd_same] at e ⊢; exact e
    · rw [upd_ne hb] at e ⊢
      exact h.fr b w (by show upd f p o b = some w; rw [upd_ne hb]; exact e)
  off := fun a w e => by
    replace e : upd f p u a = some w := e
    by_cases hb : a = p
    · rw [hb]; exact h.off p o upd_same
    · rw [upd_ne hb] at e
      exact h.off a w (by show upd f p o a = some w; rw [upd_ne hb]; exact e)
/-- it is let go -/
theorem Rs.unhold {p : Addr} {o : HO} (h : Rs K ad S (r.at (upd r.fr p o)) O H) (hf : r.fr p = none) : Rs K ad S r O H ∧ H p = some o ∧ S p = none ∧ p ∉ r.l := by
  refine ⟨⟨h.sub, h.len, h.nd, fun n a w e1 e2 => RO.at_ (r := r.at (upd r.fr p o)) (f := r.fr) (h.ob n a w e1 e2), fun b w e => ?_, fun a w e => ?_⟩, h.fr p o upd_same, (h.off p o upd_same).1, (h.off p o upd_same).2⟩
  · exact h.fr b w (by show upd r.fr p o b = some w; rw [upd_ne (ne_of_none e hf)]; exact e)
  · exact h.off a w (by show upd r.fr p o a = some w; rw [upd_ne (ne_of_none e hf)]; exact e)
/-- .. sealed -/
theorem Rs.sealAt {p : Addr} {o : HO} (h : Rs K ad S r O H) (hH : H p = some o) (hS : S p = none) (hl : p ∉ r.l) (hf : r.fr p = none) : Rs K ad (upd S p o) r O H where
  sub := fun b u e => by
    by_cases hb : b = p
    · rw [hb, upd_same] at e; rw [hb, hH]; exact e
    · rw [upd_ne hb] at e; exact h.sub b u e
  len := h.len
  nd := h.nd
  ob := fun n a ob e1 e2 => by
    have ne : a ≠ p := fun z => hl (by rw [← z]; exact List.mem_of_getElem? e1)
    exact (h.ob n a ob e1 e2).mono (Ext.new hS) (fun u q => q) (fun q => by rw [upd_ne ne]; exact q)
  fr := h.fr
  off := fun a u e => ⟨by rw [upd_ne (ne_of_none e hf)]; exact (h.off a u e).1, (h.off a u e).2⟩
/-- .. put into the store -/
theorem Rs.pushAt {p : Addr} {o : Ob} (h : Rs K ad S r O H) (ho : RO K ad S (r.push p) H p o) (hl : p ∉ r.l) (hf : r.fr p = none) : Rs K ad S (r.push p) (O ++ [o]) H where
  sub := h.sub
  len := by
    show (r.l ++ [p]).length = _
    rw [List.length_append, List.length_append, h.len]; rfl
  nd := by
    show (r.l ++ [p]).Nodup
    rw [List.nodup_append]
    refine ⟨h.nd, by simp, fun a ha b hb => ?_⟩
    obtain rfl : b = p := by simpa using hb
    exact fun z => hl (z ▸ ha)
  ob := fun n a ob e1 e2 => by
    replace e1 : (r.l ++ [p])[n]? = some a := e1
    by_cases hn : n < r.l.length
    · rw [List.getElem?_append_left hn] at e1
      rw [List.getElem?_append_left (by rw [← h.len]; exact hn)] at e2
      exact (h.ob n a ob e1 e2).grow
    · have hn' : n = r.l.length := by
        have := (List.getElem?_eq_some_iff.mp e1).1
        rw [List.length_append] at this
        simp at this
        omega
      subst hn'
      rw [List.getElem?_append_right (Nat.le_refl _)] at e1
      rw [h.len, List.getElem?_append_right (Nat.le_refl _)] at e2
      simp at e1 e2
      subst e1 e2
      exact ho
  fr := h.fr
  off := fun a u e => ⟨(h.off a u e).1, fun hm => by
    rcases List.mem_append.mp (show a ∈ r.l ++ [p] from hm) with hm | hm
    · exact (h.off a u e).2 hm
    · obtain rfl : a = p := by simpa using hm
      replace e : r.fr a = some u := e
      rw [hf] at e
      cases e⟩
/-- the last object of the store is forgotten -/
theorem Rs.pop {p : Addr} {o : Ob} (h : Rs K ad S (r.push p) (O ++ [o]) H) (ho : ∀ (n : Nat) (a : Addr) (u : Ob), r.l[n]? = some a → O[n]? = some u → RO K ad S r H a u) : Rs K ad S r O H where
  sub := h.sub
  len := by
    have := h.len
    replace this : (r.l ++ [p]).length = _ := this
    rw [List.length_append, List.length_append] at this
    simpa using this
  nd := (List.nodup_append.mp (show (r.l ++ [p]).Nodup from h.nd)).1
  ob := ho
  fr := h.fr
  off := fun a u e => ⟨(h.off a u e).1, fun hm => (h.off a u e).2 (List.mem_append_left _ hm)⟩
end

/-! ### posts -/
section
variable (K : PySem.W.Frag) (ad : Str → Addr)
def Post {α β : Type} (rep : Hp → Rg → α → β → Prop) (W : WX) (σ : St) (S : Hp) (r : Rg) (Q : β → Hp → Prop) : Res α → Prop
  | .ok a O => ∀ S' r' H v, Ext S r S' r' → Rs K ad S' r' O H → rep S' r' a v → Q v H
  | .exc x O => ∀ S' r' H d, Ext S r S' r' → Rs K ad S' r' O H → ExR K S' r' x d → W (.ref (ad x.cls)) d σ H
  | .bad => False
def tE (J : St → Prop) (W : WX) (m : EM) : TE := fun σ H Q => ∃ S r L O, J σ ∧ Rl K S r L σ ∧ Rs K ad S r O H ∧ Post K ad (fun S r => Rp K S r) W σ S r Q (m L O)
def tT (J : St → Prop) (W : WX) (m : TM) : TT := fun σ H Q => ∃ S r L O, J σ ∧ Rl K S r L σ ∧ Rs K ad S r O H ∧ Post K ad (fun _ _ a v => v = a) W σ S r Q (m L O)
def tA (J : St → Prop) (W : WX) (m : AM) : TA := fun σ H Q => ∃ S r L O, J σ ∧ Rl K S r L σ ∧ Rs K ad S r O H ∧ Post K ad (fun S r => RpAll K S r) W σ S r Q (m L O)
def PostS (J : St → Prop) (W : WX) (S : Hp) (r : Rg) (En : Ends) : SR → Prop
  | .next L O => ∀ S' r' σ H, Ext S r S' r' → J σ → Rl K S' r' L σ → Rs K ad S' r' O H → En.nx σ H
  | .ret d O => ∀ S' r' H v, Ext S r S' r' → Rs K ad S' r' O H → Rp K S' r' d v → En.rt v H
  | .brk L O => ∀ S' r' σ H, Ext S r S' r' → J σ → Rl K S' r' L σ → Rs K ad S' r' O H → En.bk σ H
  | .cnt L O => ∀ S' r' σ H, Ext S r S' r' → J σ → Rl K S' r' L σ → Rs K ad S' r' O H → En.ct σ H
  | .exc x L O => ∀ S' r' σ H d, Ext S r S' r' → J σ → Rl K S' r' L σ → Rs K ad S' r' O H → ExR K S' r' x d → W (.ref (ad x.cls)) d σ H
  | .bad => False
def tS (J : St → Prop) (W : WX) (m : SM) : TS := fun En σ H => ∃ S r L O, J σ ∧ Rl K S r L σ ∧ Rs K ad S r O H ∧ PostS K ad J W S r En (m L O)
/-- the promise of a def that its mirror tells -/
def spM (n : Nat) (m : FM) : Sp := fun vs H Q E => ∃ S r O ds, ds.length = n ∧ Rs K ad S r O H ∧ RpAll K S r ds vs ∧ Post K ad (fun S r => Rp K S r) (fun c d _ H' => E c d H') [] S r Q (m ds O)
end
section
variable {K : PySem.W.Frag} {ad : Str → Addr} {α β γ δ : Type} {rep : Hp → Rg → α → β → Prop} {rep2 : Hp → Rg → γ → δ → Prop} {W : WX} {σ : St} {S S' : Hp} {r r' : Rg} {Q Q' : β → Hp → Prop} {x : Res α}
theorem Post.mono (e : Ext S r S' r') (h : Post K ad rep W σ S r Q x) : Post K ad rep W σ S' r' Q x := by
  cases x with
  | ok a O => exact fun S2 r2 H v e2 => h S2 r2 H v (e.trans e2)
  | exc a O => exact fun S2 r2 H v e2 => h S2 r2 H v (e.trans e2)
  | bad => exact h
theorem Post.imp (h : Post K ad rep W σ S r Q x) (k : ∀ v H, Q v H → Q' v H) : Post K ad rep W σ S r Q' x := by
  cases x with
  | ok a O => exact fun S2 r2 H v e2 s p => k _ _ (h S2 r2 H v e2 s p)
  | exc a O => exact h
  | bad => exact h
theorem Post.bind {R : δ → Hp → Prop} {f : α → Store → Res γ} (h : Post K ad rep2 W σ S r R (x.bind f)) :
    Post K ad rep W σ S r (fun v H => ∃ S' r' a O, Ext S r S' r' ∧ Rs K ad S' r' O H ∧ rep S' r' a v ∧ Post K ad rep2 W σ S' r' R (f a O)) x := by
  cases x with
  | ok a O => exact fun S2 r2 H v e2 s p => ⟨S2, r2, a, O, e2, s, p, Post.mono e2 h⟩
  | exc a O => exact h
  | bad => exact h
/-- at the end -/
theorem Post.fin {a : α} {O : Store} {H : Hp} {v : β} (h : Post K ad rep W σ S r Q (.ok a O)) (e : Ext S r S' r') (s : Rs K ad S' r' O H) (p : rep S' r' a v) : Q v H := h S' r' H v e s p
end
theorem pe_imp {X : Cx} {e : Expr} {t t' : TE} (h : PE X e t) (k : ∀ σ H Q, t' σ H Q → t σ H Q) : PE X e t' := ⟨fun pins s σ H Q I q => h.run pins s σ H Q I (k σ H Q q)⟩
theorem pt_imp {X : Cx} {e : Expr} {t t' : TT} (h : PT X e t) (k : ∀ σ H Q, t' σ H Q → t σ H Q) : PT X e t' := ⟨fun pins s σ H Q I q => h.run pins s σ H Q I (k σ H Q q)⟩
theorem pa_imp {X : Cx} {e : List Expr} {t t' : TA} (h : PA X e t) (k : ∀ σ H Q, t' σ H Q → t σ H Q) : PA X e t' := ⟨fun pos pins s σ H Q I q => h.run pos pins s σ H Q I (k σ H Q q)⟩
theorem ps_imp {X : Cx} {e : Stmt} {t t' : TS} (h : PS X e t) (k : ∀ En σ H, t' En σ H → t En σ H) : PS X e t' := ⟨fun pins s σ H En I q => h.run pins s σ H En I (k En σ H q)⟩
theorem pss_imp {X : Cx} {e : List Stmt} {t t' : TS} (h : PSs X e t) (k : ∀ En σ H, t' En σ H → t En σ H) : PSs X e t' := ⟨fun pins s σ H En I q => h.run pins s σ H En I (k En σ H q)⟩
/-- TE that gives more holds less -/
structure Mn {β : Type} (t : St → Hp → (β → Hp → Prop) → Prop) : Prop where
  mn : ∀ σ H Q Q', (∀ v H', Q v H' → Q' v H') → t σ H Q → t σ H Q'
end DK
end
section
set_option Elab.async false
set_option linter.all false
set_option autoImplicit false
set_option maxRecDepth 100000
set_option maxHeartbeats 4000000
/-! DKExp: expressions and tests, by mirrors. -/
namespace DK
open PySem L2

def ofO {α : Type} : Option (α × Store) → Res α
  | some (z, O) => .ok z O
  | none => .bad

/-! ### mirrors -/
def mVar (i : Nat) : EM := fun L O => match L[i]? with
  | some (some d) => .ok d O
  | _ => .bad
def mC (d : D) : EM := fun _ O => .ok d O
def mOp (g : Store → D → D → Option (D × Store)) (a b : EM) : EM := fun L O => (a L O).bind fun x O1 => (b L O1).bind fun y O2 => ofO (g O2 x y)
def mUn (g : Store → D → Option (D × Store)) (a : EM) : EM := fun L O => (a L O).bind fun x O1 => ofO (g O1 x)
def mChain (g g' : Store → D → D → Option (D × Store)) (a b c : EM) : EM := fun L O => (a L O).bind fun x O1 => (b L O1).bind fun y O2 => (ofO (g O2 x y)).bind fun z O3 => match z with
  | .bl true => (c L O3).bind fun w O4 => ofO (g' O4 y w)
  | .bl false => .ok (.bl false) O3
  | _ => .bad
def mTest (a : EM) : TM := fun L O => (a L O).bind fun x O1 => match x with
  | .bl b => .ok b O1
  | _ => .bad
def truD (O : Store) : D → Option Bool
  | .non => some false
  | .bl b => some b
  | .int i => some (i != 0)
  | .str s => if s.length ≤ 1000000 then some ((s.length : Int) != 0) else none
  | .lst xs => some (!xs.isEmpty)
  | .rol xs => some (!xs.isEmpty)
  | .tup xs => some (!xs.isEmpty)
  | .hdl n => match O[n]? with
    | some (.lst xs) => some (!xs.isEmpty)
    | some (.dct xs) => some (!xs.isEmpty)
    | _ => none
def mTru (a : EM) : TM := fun L O => (a L O).bind fun x O1 => match truD O1 x with
  | some b => .ok b O1
  | none => .bad
def mAnd (a b : TM) : TM := fun L O => (a L O).bind fun c O1 => if c = true then b L O1 else .ok false O1
def mOr (a b : TM) : TM := fun L O => (a L O).bind fun c O1 => if c = true then .ok true O1 else b L O1
def mNot (a : TM) : TM := fun L O => (a L O).bind fun c O1 => .ok (!c) O1
def mIf (t : TM) (a b : EM) : EM := fun L O => (t L O).bind fun c O1 => if c = true then a L O1 else b L O1
/-- and, or, not of bools, as values -/
def mAndV (a b : EM) : EM := fun L O => (a L O).bind fun c O1 => match c with
  | .bl true => b L O1
  | .bl false => .ok (.bl false) O1
  | _ => .bad
def mOrV (a b : EM) : EM := fun L O => (a L O).bind fun c O1 => match c with
  | .bl true => .ok (.bl true) O1
  | .bl false => b L O1
  | _ => .bad
def mNotV (a : EM) : EM := fun L O => (a L O).bind fun c O1 => match c with
  | .bl b => .ok (.bl (!b)) O1
  | _ => .bad
def mNil : AM := fun _ O => .ok [] O
def mCons (a : EM) (t : AM) : AM := fun L O => (a L O).bind fun x O1 => (t L O1).bind fun xs O2 => .ok (x :: xs) O2
def mTup (t : AM) : EM := fun L O => (t L O).bind fun xs O1 => if xs.length ≤ 1000000 then .ok (.tup xs) O1 else .bad
/-- a new list: for good, or one of the store -/
def newL (h : Bool) (xs : List D) (O : Store) : Res D := if xs.length ≤ 1000000 then (if h = true then .ok (.hdl O.length) (O ++ [.lst xs]) else .ok (.lst xs) O) else .bad
def mLst (h : Bool) (t : AM) : EM := fun L O => (t L O).bind fun xs O1 => newL h xs O1
def mCall (g : Store → List D → Option (D × Store)) (t : AM) : EM := fun L O => (t L O).bind fun xs O1 => ofO (g O1 xs)
def mFn (f : FM) (ds : List D) (t : AM) : EM := fun L O => (t L O).bind fun xs O1 => f (xs ++ ds) O1

/-! ### the state's lists -/
def seqOf (O : Store) : D → Option (List D)
  | .lst xs => some xs
  | .rol xs => some xs
  | .tup xs => some xs
  | .hdl n => match O[n]? with
    | some (.lst xs) => some xs
    | _ => none
  | _ => none
/-- lists that are tracked -/
def lstOf (O : Store) : D → Option (List D)
  | .lst xs => some xs
  | .hdl n => match O[n]? with
    | some (.lst xs) => some xs
    | _ => none
  | _ => none

section
variable {K : PySem.W.Frag} {ad : Str → Addr} {S : Hp} {r : Rg} {O : Store} {H : Hp} {d : D} {x : V} {xs : List D}
theorem hdl_at (s : Rs K ad S r O H) {n : Nat} {o : Ob} (p : Rp K S r (.hdl n) x) (h : O[n]? = some o) : ∃ a, x = .ref a ∧ r.l[n]? = some a ∧ RO K ad S r H a o := by
  obtain ⟨a, e, q⟩ := p
  exact ⟨a, e, q, s.ob n a o q h⟩
theorem seqOf_ok (s : Rs K ad S r O H) (p : Rp K S r d x) (h : seqOf O d = some xs) : ∃ a vs, x = .ref a ∧ (SqL K H a vs ∨ SqT K H a vs) ∧ RpAll K S r xs vs := by
  cases d with
  | lst ds =>
    obtain rfl : ds = xs := Option.some.inj h
    obtain ⟨a, vs, e, q, w⟩ := p
    exact ⟨a, vs, e, .inl (.of (s.sub _ _ q)), w⟩
  | rol ds =>
    obtain rfl : ds = xs := Option.some.inj h
    obtain ⟨a, vs, e, q, w⟩ := p
    exact ⟨a, vs, e, .inl (sqL_same s.sub q), w⟩
  | tup ds =>
    obtain rfl : ds = xs := Option.some.inj h
    obtain ⟨a, vs, e, q, w⟩ := p
    exact ⟨a, vs, e, .inr (sqT_same s.sub q), w⟩
  | hdl n =>
    have h' : (match O[n]? with | some (Ob.lst xs) => some xs | _ => none) = some xs := h
    split at h'
    · rename_i zs e
      obtain rfl : zs = xs := Option.some.inj h'
      obtain ⟨a, e1, e2, _, vs, e3, e4⟩ := hdl_at s p e
      exact ⟨a, vs, e1, .inl (.of e3), e4⟩
    · cases h'
  | non => cases h
  | bl b => cases h
  | int i => cases h
  | str z => cases h
theorem lstOf_ok (s : Rs K ad S r O H) (p : Rp K S r d x) (h : lstOf O d = some xs) : ∃ a vs, x = .ref a ∧ H a = some (.lst vs) ∧ RpAll K S r xs vs := by
  cases d with
  | lst ds =>
    obtain rfl : ds = xs := Option.some.inj h
    obtain ⟨a, vs, e, q, w⟩ := p
    exact ⟨a, vs, e, s.sub _ _ q, w⟩
  | hdl n =>
    have h' : (match O[n]? with | some (Ob.lst xs) => some xs | _ => none) = some xs := h
    split at h'
    · rename_i zs e
      obtain rfl : zs = xs := Option.some.inj h'
      obtain ⟨a, e1, e2, _, vs, e3, e4⟩ := hdl_at s p e
      exact ⟨a, vs, e1, e3, e4⟩
    · cases h'
  | rol ds => cases h
  | tup ds => cases h
  | non => cases h
  | bl b => cases h
  | int i => cases h
  | str z => cases h
theorem million {n : Nat} (h : n ≤ 1000000) : n ≤ sizeLine := Nat.le_trans h (by decide)
theorem million_lt {n : Nat} (h : n ≤ 1000000) : n < sizeLine := Nat.lt_of_le_of_lt h (by decide)
/-- a new list comes -/
theorem newL_post {W : WX} {σ : L2.St} {hm : Bool} {Q : VK} {vs : List V} (s : Rs K ad S r O H) (p : RpAll K S r xs vs) (q : Post K ad (fun S r => Rp K S r) W σ S r Q (newL hm xs O)) : vs.length ≤ sizeLine ∧ ∀ l, H l = none → Q (.ref l) (upd H l (.lst vs)) := by
  unfold newL at q
  split at q
  · rename_i hl
    refine ⟨by rw [p.length]; exact million hl, fun l hn => ?_⟩
    cases hm with
    | true =>
      rw [if_pos rfl] at q
      refine q S (r.push l) _ _ (Ext.push S r l) (s.push hn ⟨s.fresh hn, vs, upd_same, RpAll.mono (Ext.push S r l) _ _ p⟩) ⟨l, rfl, ?_⟩
      show (r.l ++ [l])[O.length]? = some l
      rw [← s.len, List.getElem?_append_right (Nat.le_refl _)]
      simp
    | false =>
      rw [if_neg Bool.false_ne_true] at q
      exact q _ r _ _ (Ext.new (s.fresh hn)) (s.seal hn) ⟨l, vs, rfl, upd_same, RpAll.mono (Ext.new (s.fresh hn)) _ _ p⟩
  · exact q.elim
/-- a new tuple comes -/
theorem newT_post {W : WX} {σ : L2.St} {Q : VK} {vs : List V} (s : Rs K ad S r O H) (p : RpAll K S r xs vs) (q : Post K ad (fun S r => Rp K S r) W σ S r Q (.ok (.tup xs) O)) : ∀ l, H l = none → Q (.ref l) (upd H l (.tup vs)) := fun l hn =>
  q _ r _ _ (Ext.new (s.fresh hn)) (s.seal hn) ⟨l, vs, rfl, .of upd_same, RpAll.mono (Ext.new (s.fresh hn)) _ _ p⟩
end

/-! ### operators by values -/
structure OpD (X : Cx) (ad : Str → Addr) (f : Value → Value → Sem Value) (g : Store → D → D → Option (D × Store)) : Prop where
  ok : ∃ rr, OpR X f rr ∧ ∀ (S : Hp) (r : Rg) (O : Store) (H : Hp) (x y : V) (d e : D) (W : WX) (σ : L2.St) (Q : VK), Rs X.K ad S r O H → Rp X.K S r d x → Rp X.K S r e y →
    Post X.K ad (fun S r => Rp X.K S r) W σ S r Q (ofO (g O d e)) → rr x y H Q
structure UnD (X : Cx) (ad : Str → Addr) (f : Value → Sem Value) (g : Store → D → Option (D × Store)) : Prop where
  ok : ∃ rr, UnR X f rr ∧ ∀ (S : Hp) (r : Rg) (O : Store) (H : Hp) (x : V) (d : D) (W : WX) (σ : L2.St) (Q : VK), Rs X.K ad S r O H → Rp X.K S r d x →
    Post X.K ad (fun S r => Rp X.K S r) W σ S r Q (ofO (g O d)) → rr x H Q
structure CallD (X : Cx) (ad : Str → Addr) (f : Value) (g : Store → List D → Option (D × Store)) : Prop where
  ok : ∃ rr, CallR X f rr ∧ ∀ (S : Hp) (r : Rg) (O : Store) (H : Hp) (vs : List V) (ds : List D) (W : WX) (σ : L2.St) (Q : VK), Rs X.K ad S r O H → RpAll X.K S r ds vs →
    Post X.K ad (fun S r => Rp X.K S r) W σ S r Q (ofO (g O ds)) → rr vs H Q

section
variable {X : Cx} {ad : Str → Addr} {J : L2.St → Prop} {W : WX} {pos : Pos} {a b c e : Expr} {es : List Expr} {ma mb mc : EM} {ta tb : TM} {mt : AM} {op op' : CmpOp} {bop : Operator}
  {g g' : Store → D → D → Option (D × Store)}
theorem de_var {x : Str} {i : Nat} (h : PE X (.Name x pos) (tVar i)) : PE X (.Name x pos) (tE X.K ad J W (mVar i)) := by
  refine pe_imp h ?_
  rintro σ H Q ⟨S, r, L, O, j, rl, rs, p⟩
  unfold mVar at p
  split at p
  · rename_i d q
    obtain ⟨v, q1, q2⟩ := rl.at_ i d q
    exact ⟨v, q1, p S r H v (Ext.refl S r) rs q2⟩
  · exact p.elim
theorem de_c {v : V} {d : D} (h : PE X e (tC v)) (k : ∀ S r, Rp X.K S r d v) : PE X e (tE X.K ad J W (mC d)) := by
  refine pe_imp h ?_
  rintro σ H Q ⟨S, r, L, O, j, rl, rs, p⟩
  exact p S r H v (Ext.refl S r) rs (k S r)
theorem de_int {i : Int} {j : Nat} : PE X (.Constant (.int i) j pos) (tE X.K ad J W (mC (.int i))) := de_c pe_int fun _ _ => rfl
theorem de_bl {i : Bool} {j : Nat} : PE X (.Constant (.bool i) j pos) (tE X.K ad J W (mC (.bl i))) := de_c pe_bl fun _ _ => rfl
theorem de_str {i : Str} {j : Nat} : PE X (.Constant (.str i) j pos) (tE X.K ad J W (mC (.str i))) := de_c pe_str fun _ _ => rfl
theorem de_non {j : Nat} : PE X (.Constant .none j pos) (tE X.K ad J W (mC .non)) := de_c pe_non fun _ _ => rfl
theorem de_op (ho : OpD X ad (binaryOp bop) g) (ha : PE X a (tE X.K ad J W ma)) (hb : PE X b (tE X.K ad J W mb)) : PE X (.BinOp a bop b pos) (tE X.K ad J W (mOp g ma mb)) := by
  obtain ⟨rr, h1, h2⟩ := ho.ok
  refine pe_imp (pe_op h1 ha hb) ?_
  rintro σ H Q ⟨S, r, L, O, j, rl, rs, p⟩
  refine ⟨S, r, L, O, j, rl, rs, (Post.bind p).imp ?_⟩
  rintro x H1 ⟨S1, r1, d, O1, e1, s1, p1, q1⟩
  refine ⟨S1, r1, L, O1, j, rl.mono e1, s1, (Post.bind q1).imp ?_⟩
  rintro y H2 ⟨S2, r2, e, O2, e2, s2, p2, q2⟩
  exact h2 S2 r2 O2 H2 x y d e W σ Q s2 (Rp.mono e2 d x p1) p2 q2
theorem de_cmp (ho : OpD X ad (compareOp op) g) (ha : PE X a (tE X.K ad J W ma)) (hb : PE X b (tE X.K ad J W mb)) (hm : behindInMarks op b = false) : PE X (.Compare a [op] [b] pos) (tE X.K ad J W (mOp g ma mb)) := by
  obtain ⟨rr, h1, h2⟩ := ho.ok
  refine pe_imp (pe_cmpR h1 ha hb hm) ?_
  rintro σ H Q ⟨S, r, L, O, j, rl, rs, p⟩
  refine ⟨S, r, L, O, j, rl, rs, (Post.bind p).imp ?_⟩
  rintro x H1 ⟨S1, r1, d, O1, e1, s1, p1, q1⟩
  refine ⟨S1, r1, L, O1, j, rl.mono e1, s1, (Post.bind q1).imp ?_⟩
  rintro y H2 ⟨S2, r2, e, O2, e2, s2, p2, q2⟩
  exact h2 S2 r2 O2 H2 x y d e W σ Q s2 (Rp.mono e2 d x p1) p2 q2
theorem test_imp {t : TE} {m : EM} (h : ∀ σ H Q, tE X.K ad J W m σ H Q → t σ H Q) : ∀ σ H Q, tT X.K ad J W (mTest m) σ H Q → tTest t σ H Q := by
  rintro σ H Q ⟨S, r, L, O, j, rl, rs, p⟩
  refine h σ H _ ⟨S, r, L, O, j, rl, rs, (Post.bind p).imp ?_⟩
  rintro x H1 ⟨S1, r1, d, O1, e1, s1, p1, q1⟩
  cases d with
  | bl b => exact ⟨b, p1, q1 S1 r1 H1 b (Ext.refl _ _) s1 rfl⟩
  | non => exact q1.elim
  | int i => exact q1.elim
  | str s => exact q1.elim
  | lst s => exact q1.elim
  | rol s => exact q1.elim
  | tup s => exact q1.elim
  | hdl s => exact q1.elim
theorem dt_cmp (ho : OpD X ad (compareOp op) g) (ha : PE X a (tE X.K ad J W ma)) (hb : PE X b (tE X.K ad J W mb)) (hm : behindInMarks op b = false) : PT X (.Compare a [op] [b] pos) (tT X.K ad J W (mTest (mOp g ma mb))) := by
  obtain ⟨rr, h1, h2⟩ := ho.ok
  refine pt_imp (pt_cmpR h1 ha hb hm) (test_imp ?_)
  rintro σ H Q ⟨S, r, L, O, j, rl, rs, p⟩
  refine ⟨S, r, L, O, j, rl, rs, (Post.bind p).imp ?_⟩
  rintro x H1 ⟨S1, r1, d, O1, e1, s1, p1, q1⟩
  refine ⟨S1, r1, L, O1, j, rl.mono e1, s1, (Post.bind q1).imp ?_⟩
  rintro y H2 ⟨S2, r2, e, O2, e2, s2, p2, q2⟩
  exact h2 S2 r2 O2 H2 x y d e W σ Q s2 (Rp.mono e2 d x p1) p2 q2
theorem chain_imp {rr rr' : R2} (h2 : ∀ (S : Hp) (r : Rg) (O : Store) (H : Hp) (x y : V) (d e : D) (W : WX) (σ : L2.St) (Q : VK), Rs X.K ad S r O H → Rp X.K S r d x → Rp X.K S r e y → Post X.K ad (fun S r => Rp X.K S r) W σ S r Q (ofO (g O d e)) → rr x y H Q)
    (h3 : ∀ (S : Hp) (r : Rg) (O : Store) (H : Hp) (x y : V) (d e : D) (W : WX) (σ : L2.St) (Q : VK), Rs X.K ad S r O H → Rp X.K S r d x → Rp X.K S r e y → Post X.K ad (fun S r => Rp X.K S r) W σ S r Q (ofO (g' O d e)) → rr' x y H Q) :
    ∀ σ H Q, tE X.K ad J W (mChain g g' ma mb mc) σ H Q → tChain rr rr' (tE X.K ad J W ma) (tE X.K ad J W mb) (tE X.K ad J W mc) σ H Q := by
  rintro σ H Q ⟨S, r, L, O, j, rl, rs, p⟩
  refine ⟨S, r, L, O, j, rl, rs, (Post.bind p).imp ?_⟩
  rintro x H1 ⟨S1, r1, d, O1, e1, s1, p1, q1⟩
  refine ⟨S1, r1, L, O1, j, rl.mono e1, s1, (Post.bind q1).imp ?_⟩
  rintro y H2 ⟨S2, r2, e, O2, e2, s2, p2, q2⟩
  refine h2 S2 r2 O2 H2 x y d e W σ _ s2 (Rp.mono e2 d x p1) p2 ((Post.bind q2).imp ?_)
  rintro z H3 ⟨S3, r3, f, O3, e3, s3, p3, q3⟩
  cases f with
  | bl k =>
    refine ⟨k, p3, ?_⟩
    cases k with
    | true =>
      rw [if_pos rfl]
      refine ⟨S3, r3, L, O3, j, rl.mono (e1.trans (e2.trans e3)), s3, (Post.bind q3).imp ?_⟩
      rintro w H4 ⟨S4, r4, f, O4, e4, s4, p4, q4⟩
      exact h3 S4 r4 O4 H4 y w e f W σ Q s4 (Rp.mono (e3.trans e4) e y p2) p4 q4
    | false =>
      rw [if_neg Bool.false_ne_true]
      exact q3 S3 r3 H3 _ (Ext.refl _ _) s3 rfl
  | non => exact q3.elim
  | int i => exact q3.elim
  | str s => exact q3.elim
  | lst s => exact q3.elim
  | rol s => exact q3.elim
  | tup s => exact q3.elim
  | hdl s => exact q3.elim
theorem de_chain (ho : OpD X ad (compareOp op) g) (ho' : OpD X ad (compareOp op') g') (ha : PE X a (tE X.K ad J W ma)) (hb : PE X b (tE X.K ad J W mb)) (hc : PE X c (tE X.K ad J W mc)) (hm : lastMarks [op, op'] [b, c] = false := by rfl) : PE X (.Compare a [op, op'] [b, c] pos) (tE X.K ad J W (mChain g g' ma mb mc)) := by
  obtain ⟨rr, h1, h2⟩ := ho.ok
  obtain ⟨rr', h1', h2'⟩ := ho'.ok
  exact pe_imp (pe_chain h1 h1' ha hb hc hm) (chain_imp h2 h2')
theorem dt_chain (ho : OpD X ad (compareOp op) g) (ho' : OpD X ad (compareOp op') g') (ha : PE X a (tE X.K ad J W ma)) (hb : PE X b (tE X.K ad J W mb)) (hc : PE X c (tE X.K ad J W mc)) (hm : lastMarks [op, op'] [b, c] = false := by rfl) : PT X (.Compare a [op, op'] [b, c] pos) (tT X.K ad J W (mTest (mChain g g' ma mb mc))) := by
  obtain ⟨rr, h1, h2⟩ := ho.ok
  obtain ⟨rr', h1', h2'⟩ := ho'.ok
  exact pt_imp (pt_chain h1 h1' ha hb hc hm) (test_imp (chain_imp h2 h2'))
theorem dt_val (h : PE X e (tE X.K ad J W ma)) (he : ∀ whole, isTrue e X.env whole = (do let v ← whole; standAt e.pos; holding [v] (truthy v)) := by intro _; rfl) : PT X e (tT X.K ad J W (mTest ma)) := by
  refine pt_imp (pt_val h he) ?_
  intro σ H Q q
  exact test_imp (J := J) (W := W) (fun _ _ _ z => z) σ H Q q
theorem dt_truth (h : PE X e (tE X.K ad J W ma)) (he : ∀ whole, isTrue e X.env whole = (do let v ← whole; standAt e.pos; holding [v] (truthy v)) := by intro _; rfl) : PT X e (tT X.K ad J W (mTru ma)) := by
  refine pt_imp (pt_truth h he) ?_
  rintro σ H Q ⟨S, r, L, O, j, rl, rs, p⟩
  refine ⟨S, r, L, O, j, rl, rs, (Post.bind p).imp ?_⟩
  rintro x H1 ⟨S1, r1, d, O1, e1, s1, p1, q1⟩
  have emp : ∀ {ds : List D} {vs : List V}, RpAll X.K S1 r1 ds vs → (!ds.isEmpty) = !vs.isEmpty := fun {ds vs} h => by
    cases ds with
    | nil => rw [show vs = [] from h]; rfl
    | cons d ds => obtain ⟨v, vr, rfl, _⟩ := h; rfl
  have empP : ∀ {ds : List (Key × D)} {vs : List (Key × V)}, RpP X.K S1 r1 ds vs → (!ds.isEmpty) = !vs.isEmpty := fun {ds vs} h => by
    cases ds with
    | nil => rw [show vs = [] from h]; rfl
    | cons d ds => obtain ⟨v, vr, rfl, _⟩ := h; rfl
  cases hd : truD O1 d with
  | none => rw [hd] at q1; exact q1.elim
  | some k =>
    rw [hd] at q1
    refine ⟨k, ?_, q1 S1 r1 H1 k (Ext.refl _ _) s1 rfl⟩
    cases d with
    | non => rw [show x = .non from p1]; exact (Option.some.inj hd).symm
    | bl b => rw [show x = .bl b from p1]; exact (Option.some.inj hd).symm
    | int i => rw [show x = .int i from p1]; exact (Option.some.inj hd).symm
    | str s =>
      rw [show x = .str s from p1]
      have hd' : (if s.length ≤ 1000000 then some ((s.length : Int) != 0) else none) = some k := hd
      split at hd'
      · rename_i hl
        exact ⟨million hl, (Option.some.inj hd').symm⟩
      · cases hd'
    | lst s =>
      obtain ⟨a, vs, rfl, q, w⟩ := p1
      exact .inl ⟨vs, .of (s1.sub _ _ q), by rw [← emp w]; exact (Option.some.inj hd).symm⟩
    | rol s =>
      obtain ⟨a, vs, rfl, q, w⟩ := p1
      exact .inl ⟨vs, sqL_same s1.sub q, by rw [← emp w]; exact (Option.some.inj hd).symm⟩
    | tup s =>
      obtain ⟨a, vs, rfl, q, w⟩ := p1
      exact .inr (.inl ⟨vs, sqT_same s1.sub q, by rw [← emp w]; exact (Option.some.inj hd).symm⟩)
    | hdl n =>
      have hd' : (match O1[n]? with | some (Ob.lst xs) => some (!xs.isEmpty) | some (Ob.dct xs) => some (!xs.isEmpty) | _ => none) = some k := hd
      split at hd'
      · rename_i zs e
        obtain ⟨a, rfl, e2, _, vs, e3, e4⟩ := hdl_at s1 p1 e
        exact .inl ⟨vs, .of e3, by rw [← emp e4]; exact (Option.some.inj hd').symm⟩
      · rename_i zs e
        obtain ⟨a, rfl, e2, _, vs, e3, e4⟩ := hdl_at s1 p1 e
        exact .inr (.inr ⟨vs, e3, by rw [← empP e4]; exact (Option.some.inj hd').symm⟩)
      · cases hd'
theorem PW.imp' {t t' : TT} (h : PW X e t) (k : ∀ σ H Q, t' σ H Q → t σ H Q) : PW X e t' := ⟨fun wh pins s σ H Q I q => h.run wh pins s σ H Q I (k σ H Q q)⟩
theorem and_imp : ∀ σ H Q, tT X.K ad J W (mAnd ta tb) σ H Q → tAnd (tT X.K ad J W ta) (tT X.K ad J W tb) σ H Q := by
  rintro σ H Q ⟨S, r, L, O, j, rl, rs, p⟩
  refine ⟨S, r, L, O, j, rl, rs, (Post.bind p).imp ?_⟩
  rintro k H1 ⟨S1, r1, d, O1, e1, s1, rfl, q1⟩
  cases k with
  | true =>
    rw [if_pos rfl] at q1 ⊢
    exact ⟨S1, r1, L, O1, j, rl.mono e1, s1, q1⟩
  | false =>
    rw [if_neg Bool.false_ne_true] at q1 ⊢
    exact q1 S1 r1 H1 false (Ext.refl _ _) s1 rfl
theorem or_imp : ∀ σ H Q, tT X.K ad J W (mOr ta tb) σ H Q → tOr (tT X.K ad J W ta) (tT X.K ad J W tb) σ H Q := by
  rintro σ H Q ⟨S, r, L, O, j, rl, rs, p⟩
  refine ⟨S, r, L, O, j, rl, rs, (Post.bind p).imp ?_⟩
  rintro k H1 ⟨S1, r1, d, O1, e1, s1, rfl, q1⟩
  cases k with
  | false =>
    rw [if_neg Bool.false_ne_true] at q1 ⊢
    exact ⟨S1, r1, L, O1, j, rl.mono e1, s1, q1⟩
  | true =>
    rw [if_pos rfl] at q1 ⊢
    exact q1 S1 r1 H1 true (Ext.refl _ _) s1 rfl
theorem dw_and1 (ha : PT X a (tT X.K ad J W ta)) : PW X (.BoolOp .And [a] pos) (tT X.K ad J W ta) := pw_and1 ha
theorem dw_or1 (ha : PT X a (tT X.K ad J W ta)) : PW X (.BoolOp .Or [a] pos) (tT X.K ad J W ta) := pw_or1 ha
theorem dw_and (ha : PT X a (tT X.K ad J W ta)) (hb : PW X (.BoolOp .And (b :: es) pos) (tT X.K ad J W tb)) : PW X (.BoolOp .And (a :: b :: es) pos) (tT X.K ad J W (mAnd ta tb)) := PW.imp' (pw_and ha hb) and_imp
theorem dw_or (ha : PT X a (tT X.K ad J W ta)) (hb : PW X (.BoolOp .Or (b :: es) pos) (tT X.K ad J W tb)) : PW X (.BoolOp .Or (a :: b :: es) pos) (tT X.K ad J W (mOr ta tb)) := PW.imp' (pw_or ha hb) or_imp
theorem dt_not (ha : PT X a (tT X.K ad J W ta)) : PT X (.UnaryOp .Not a pos) (tT X.K ad J W (mNot ta)) := by
  refine pt_imp (pt_not ha) ?_
  rintro σ H Q ⟨S, r, L, O, j, rl, rs, p⟩
  refine ⟨S, r, L, O, j, rl, rs, (Post.bind p).imp ?_⟩
  rintro k H1 ⟨S1, r1, d, O1, e1, s1, rfl, q1⟩
  exact q1 S1 r1 H1 _ (Ext.refl _ _) s1 rfl
theorem de_if (hc : PT X c (tT X.K ad J W ta)) (ha : PE X a (tE X.K ad J W ma)) (hb : PE X b (tE X.K ad J W mb)) : PE X (.IfExp c a b pos) (tE X.K ad J W (mIf ta ma mb)) := by
  refine pe_imp (pe_ifExp hc ha hb) ?_
  rintro σ H Q ⟨S, r, L, O, j, rl, rs, p⟩
  refine ⟨S, r, L, O, j, rl, rs, (Post.bind p).imp ?_⟩
  rintro k H1 ⟨S1, r1, d, O1, e1, s1, rfl, q1⟩
  cases k with
  | false =>
    rw [if_neg Bool.false_ne_true] at q1 ⊢
    exact ⟨S1, r1, L, O1, j, rl.mono e1, s1, q1⟩
  | true =>
    rw [if_pos rfl] at q1 ⊢
    exact ⟨S1, r1, L, O1, j, rl.mono e1, s1, q1⟩
theorem de_and1 (ha : PE X a (tE X.K ad J W ma)) {bo : BoolOp} : PE X (.BoolOp bo [a] pos) (tE X.K ad J W ma) := pe_one ha
theorem de_and (ha : PE X a (tE X.K ad J W ma)) (hb : PE X (.BoolOp .And (b :: es) pos) (tE X.K ad J W mb)) : PE X (.BoolOp .And (a :: b :: es) pos) (tE X.K ad J W (mAndV ma mb)) := by
  refine pe_imp (pe_and ha hb) ?_
  rintro σ H Q ⟨S, r, L, O, j, rl, rs, p⟩
  refine ⟨S, r, L, O, j, rl, rs, (Post.bind p).imp ?_⟩
  rintro x H1 ⟨S1, r1, d, O1, e1, s1, p1, q1⟩
  cases d with
  | bl k =>
    refine ⟨k, p1, ?_⟩
    cases k with
    | true =>
      rw [if_pos rfl]
      exact ⟨S1, r1, L, O1, j, rl.mono e1, s1, q1⟩
    | false =>
      rw [if_neg Bool.false_ne_true]
      exact q1 S1 r1 H1 _ (Ext.refl _ _) s1 rfl
  | non => exact q1.elim
  | int i => exact q1.elim
  | str s => exact q1.elim
  | lst s => exact q1.elim
  | rol s => exact q1.elim
  | tup s => exact q1.elim
  | hdl s => exact q1.elim
theorem de_or (ha : PE X a (tE X.K ad J W ma)) (hb : PE X (.BoolOp .Or (b :: es) pos) (tE X.K ad J W mb)) : PE X (.BoolOp .Or (a :: b :: es) pos) (tE X.K ad J W (mOrV ma mb)) := by
  refine pe_imp (pe_or ha hb) ?_
  rintro σ H Q ⟨S, r, L, O, j, rl, rs, p⟩
  refine ⟨S, r, L, O, j, rl, rs, (Post.bind p).imp ?_⟩
  rintro x H1 ⟨S1, r1, d, O1, e1, s1, p1, q1⟩
  cases d with
  | bl k =>
    refine ⟨k, p1, ?_⟩
    cases k with
    | false =>
      rw [if_neg Bool.false_ne_true]
      exact ⟨S1, r1, L, O1, j, rl.mono e1, s1, q1⟩
    | true =>
      rw [if_pos rfl]
      exact q1 S1 r1 H1 _ (Ext.refl _ _) s1 rfl
  | non => exact q1.elim
  | int i => exact q1.elim
  | str s => exact q1.elim
  | lst s => exact q1.elim
  | rol s => exact q1.elim
  | tup s => exact q1.elim
  | hdl s => exact q1.elim
theorem de_not (ha : PE X a (tE X.K ad J W ma)) : PE X (.UnaryOp .Not a pos) (tE X.K ad J W (mNotV ma)) := by
  refine pe_imp (pe_not ha) ?_
  rintro σ H Q ⟨S, r, L, O, j, rl, rs, p⟩
  refine ⟨S, r, L, O, j, rl, rs, (Post.bind p).imp ?_⟩
  rintro x H1 ⟨S1, r1, d, O1, e1, s1, p1, q1⟩
  cases d with
  | bl k => exact ⟨k, p1, q1 S1 r1 H1 _ (Ext.refl _ _) s1 rfl⟩
  | non => exact q1.elim
  | int i => exact q1.elim
  | str s => exact q1.elim
  | lst s => exact q1.elim
  | rol s => exact q1.elim
  | tup s => exact q1.elim
  | hdl s => exact q1.elim
theorem de_un {uop : UnaryOp} {gu : Store → D → Option (D × Store)} (ho : UnD X ad (unaryOp uop) gu) (ha : PE X a (tE X.K ad J W ma)) (hne : PE X (.UnaryOp uop a pos) (tUn (Classical.choose ho.ok) (tE X.K ad J W ma))) : PE X (.UnaryOp uop a pos) (tE X.K ad J W (mUn gu ma)) := by
  have h2 := (Classical.choose_spec ho.ok).2
  refine pe_imp hne ?_
  rintro σ H Q ⟨S, r, L, O, j, rl, rs, p⟩
  refine ⟨S, r, L, O, j, rl, rs, (Post.bind p).imp ?_⟩
  rintro x H1 ⟨S1, r1, d, O1, e1, s1, p1, q1⟩
  exact h2 S1 r1 O1 H1 x d W σ Q s1 p1 q1
theorem da_nil : PA X [] (tA X.K ad J W mNil) := by
  refine pa_imp pa_nil ?_
  rintro σ H Q ⟨S, r, L, O, j, rl, rs, p⟩
  exact p S r H [] (Ext.refl _ _) rs rfl
theorem da_cons (he : PE X e (tE X.K ad J W ma)) (ht : PA X es (tA X.K ad J W mt)) (hs : starEach (e :: es) X.env = (false, eval e X.env) :: starEach es X.env := by rfl) : PA X (e :: es) (tA X.K ad J W (mCons ma mt)) := by
  refine pa_imp (pa_cons he ht hs) ?_
  rintro σ H Q ⟨S, r, L, O, j, rl, rs, p⟩
  refine ⟨S, r, L, O, j, rl, rs, (Post.bind p).imp ?_⟩
  rintro x H1 ⟨S1, r1, d, O1, e1, s1, p1, q1⟩
  refine ⟨S1, r1, L, O1, j, rl.mono e1, s1, (Post.bind q1).imp ?_⟩
  rintro xs H2 ⟨S2, r2, ds, O2, e2, s2, p2, q2⟩
  exact q2 S2 r2 H2 _ (Ext.refl _ _) s2 (.cons (Rp.mono e2 d x p1) p2)
theorem de_tup {k : Nat} (h : PA X es (tA X.K ad J W mt)) : PE X (.Tuple es k pos) (tE X.K ad J W (mTup mt)) := by
  refine pe_imp (pe_tup h) ?_
  rintro σ H Q ⟨S, r, L, O, j, rl, rs, p⟩
  refine ⟨S, r, L, O, j, rl, rs, (Post.bind p).imp ?_⟩
  rintro xs H1 ⟨S1, r1, ds, O1, e1, s1, p1, q1⟩
  have q1 : Post X.K ad (fun S r => Rp X.K S r) W σ S1 r1 Q (if ds.length ≤ 1000000 then .ok (.tup ds) O1 else .bad) := q1
  split at q1
  · rename_i hl
    exact ⟨by rw [p1.length]; exact million hl, newT_post s1 p1 q1⟩
  · exact q1.elim
theorem de_lst {hm : Bool} (h : PA X es (tA X.K ad J W mt)) : PE X (.List es pos) (tE X.K ad J W (mLst hm mt)) := by
  refine pe_imp (pe_lst h) ?_
  rintro σ H Q ⟨S, r, L, O, j, rl, rs, p⟩
  refine ⟨S, r, L, O, j, rl, rs, (Post.bind p).imp ?_⟩
  rintro xs H1 ⟨S1, r1, ds, O1, e1, s1, p1, q1⟩
  exact newL_post s1 p1 q1
theorem de_callB {gc : Store → List D → Option (D × Store)} {x : Str} {id : String} {p : Pos} (hc : CallD X ad (.builtin id) gc) (hg : Gl X x) (hm : X.mg x = none) (hv : bootBuiltins x = some (.builtin id)) (ha : PA X (e :: es) (tA X.K ad J W mt))
    (hn : x ≠ "__name__" := by decide) (hdb : (x == ("__debug__" : Str)) = false := by decide)
    (he : starEach (e :: es) X.env = (false, eval e X.env) :: starEach es X.env := by rfl) (hpl : (backTo pos (starEach es X.env)).any (·.1) = false := by rfl) : PE X (.Call (.Name x p) (e :: es) [] pos) (tE X.K ad J W (mCall gc mt)) := by
  obtain ⟨rr, h1, h2⟩ := hc.ok
  refine pe_imp (pe_callB h1 hg hm hv ha hn hdb he hpl) ?_
  rintro σ H Q ⟨S, r, L, O, j, rl, rs, p⟩
  refine ⟨S, r, L, O, j, rl, rs, (Post.bind p).imp ?_⟩
  rintro xs H1 ⟨S1, r1, ds, O1, e1, s1, p1, q1⟩
  exact h2 S1 r1 O1 H1 xs ds W σ Q s1 p1 q1
theorem de_callTy {gc : Store → List D → Option (D × Store)} {x : Str} {T : String} {p : Pos} (hc : CallD X ad (.type T) gc) (hg : Gl X x) (hm : X.mg x = none) (hv : bootBuiltins x = some (.type T)) (ha : PA X (e :: es) (tA X.K ad J W mt))
    (hn : x ≠ "__name__" := by decide) (hdb : (x == ("__debug__" : Str)) = false := by decide)
    (he : starEach (e :: es) X.env = (false, eval e X.env) :: starEach es X.env := by rfl) (hpl : (backTo pos (starEach es X.env)).any (·.1) = false := by rfl) : PE X (.Call (.Name x p) (e :: es) [] pos) (tE X.K ad J W (mCall gc mt)) := by
  obtain ⟨rr, h1, h2⟩ := hc.ok
  refine pe_imp (pe_callTy h1 hg hm hv ha hn hdb he hpl) ?_
  rintro σ H Q ⟨S, r, L, O, j, rl, rs, p⟩
  refine ⟨S, r, L, O, j, rl, rs, (Post.bind p).imp ?_⟩
  rintro xs H1 ⟨S1, r1, ds, O1, e1, s1, p1, q1⟩
  exact h2 S1 r1 O1 H1 xs ds W σ Q s1 p1 q1
/-- a def of the text is called -/
theorem spM_of {n : Nat} {f : FM} {S : Hp} {r : Rg} {O : Store} {H : Hp} {ds : List D} {vs : List V} {σ : L2.St} {Q : VK} (hl : ds.length = n) (s : Rs X.K ad S r O H) (p : RpAll X.K S r ds vs) (q : Post X.K ad (fun S r => Rp X.K S r) W σ S r Q (f ds O)) : spM X.K ad n f vs H Q (WE W σ) := by
  refine ⟨S, r, O, ds, hl, s, p, ?_⟩
  generalize f ds O = z at q
  cases z with
  | ok a O => exact q
  | exc x O => exact q
  | bad => exact q
/-- the number of arguments is checked by the mirror -/
def arity (n : Nat) (f : FM) : FM := fun ds O => if ds.length = n then f ds O else .bad
theorem spM_ar {n : Nat} {f : FM} {S : Hp} {r : Rg} {O : Store} {H : Hp} {ds : List D} {vs : List V} {σ : L2.St} {Q : VK} (s : Rs X.K ad S r O H) (p : RpAll X.K S r ds vs) (q : Post X.K ad (fun S r => Rp X.K S r) W σ S r Q (arity n f ds O)) : spM X.K ad n f vs H Q (WE W σ) := by
  unfold arity at q
  split at q
  · rename_i hl
    exact spM_of hl s p q
  · exact q.elim
theorem de_call {k n : Nat} {f : Addr} {fd : FuncData} {ps : List Str} {m : FM} {dvs : List V} {dds : List D} {ds : List Value} {x : Str} {p : Pos} (F : FnOk X.prog X.w X.K X.mg X.base (L2.CX X.prog X.w) k f fd ps (spM X.K ad n m)) (hr : Room k X.A) (hg : Gl X x) (hm : X.mg x = some (.ref f)) (hk : PySem.W.keepIn X.K (.ref f) = true)
    (hb : Binds X.K fd ps ds) (hd : Vals dvs ds) (hdd : ∀ S r, RpAll X.K S r dds dvs) (tk : Takes X W) (ha : PA X (e :: es) (tA X.K ad J W mt)) (hdb : (x == ("__debug__" : Str)) = false := by decide)
    (he : starEach (e :: es) X.env = (false, eval e X.env) :: starEach es X.env := by rfl) (hpl : (backTo pos (starEach es X.env)).any (·.1) = false := by rfl) :
    PE X (.Call (.Name x p) (e :: es) [] pos) (tE X.K ad J W (mFn (arity n m) dds mt)) := by
  refine pe_imp (pe_callSD F hr hg hm hk hb hd (fun σ => passAt tk σ) ha hdb he hpl) ?_
  rintro σ H Q ⟨S, r, L, O, j, rl, rs, p⟩
  refine ⟨S, r, L, O, j, rl, rs, (Post.bind p).imp ?_⟩
  rintro xs H1 ⟨S1, r1, ds, O1, e1, s1, p1, q1⟩
  exact spM_ar s1 (p1.append (hdd S1 r1)) q1
end
end DK
end
section
set_option Elab.async false
set_option linter.all false
set_option autoImplicit false
set_option maxRecDepth 100000
set_option maxHeartbeats 4000000
/-! DKStm: statements, loops, defs, by mirrors. -/
namespace DK
open PySem L2

def ofRes {α : Type} (L : Loc) (x : Res α) (f : α → Store → SR) : SR := match x with
  | .ok a O => f a O
  | .exc x O => .exc x L O
  | .bad => .bad
def sNext : SM := fun L O => .next L O
def sSeq (a b : SM) : SM := fun L O => match a L O with
  | .next L1 O1 => b L1 O1
  | .ret d O1 => .ret d O1
  | .brk L1 O1 => .brk L1 O1
  | .cnt L1 O1 => .cnt L1 O1
  | .exc x L1 O1 => .exc x L1 O1
  | .bad => .bad
def sDrop (m : EM) : SM := fun L O => ofRes L (m L O) fun _ O1 => .next L O1
def sRet (m : EM) : SM := fun L O => ofRes L (m L O) fun d O1 => .ret d O1
def sRetN : SM := fun _ O => .ret .non O
def sIf (t : TM) (a b : SM) : SM := fun L O => ofRes L (t L O) fun c O1 => if c = true then a L O1 else b L O1
def sBrk : SM := fun L O => .brk L O
def sCnt : SM := fun L O => .cnt L O
/-- a target: what a value makes of slots and store -/
abbrev BM := D → Loc → Store → Option (Loc × Store)
abbrev BsM := List D → Loc → Store → Option (Loc × Store)
def bName (i : Nat) : BM := fun d L O => some (L.set i (some d), O)
def bNil : BsM := fun ds L O => match ds with
  | [] => some (L, O)
  | _ => none
def bCons (b : BM) (c : BsM) : BsM := fun ds L O => match ds with
  | d :: ds => (b d L O).bind fun p => c ds p.1 p.2
  | [] => none
def bTup (n : Nat) (c : BsM) : BM := fun d L O => match d with
  | .tup ds => if ds.length = n then c ds L O else none
  | _ => none
def ofB : Option (Loc × Store) → SR
  | some p => .next p.1 p.2
  | none => .bad
def sAsg (m : EM) (b : BM) : SM := fun L O => ofRes L (m L O) fun d O1 => ofB (b d L O1)
/-- a turn of a loop -/
def turnOf (b : BM) (body : SM) (d : D) : SM := fun L O => match b d L O with
  | some p => body p.1 p.2
  | none => .bad
def loopD (turn : D → SM) : List D → SM
  | [], L, O => .next L O
  | d :: ds, L, O => match turn d L O with
    | .next L1 O1 => loopD turn ds L1 O1
    | .cnt L1 O1 => loopD turn ds L1 O1
    | .brk L1 O1 => .next L1 O1
    | .ret d O1 => .ret d O1
    | .exc x L1 O1 => .exc x L1 O1
    | .bad => .bad
/-- over a list of the store -/
def loopH (turn : D → SM) (n : Nat) : Nat → Nat → SM
  | 0, i, L, O => match O[n]? with
    | some (.lst xs) => if xs.length ≤ i then .next L O else .bad
    | _ => .bad
  | k + 1, i, L, O => match O[n]? with
    | some (.lst xs) => match xs[i]? with
      | some d => match turn d L O with
        | .next L1 O1 => loopH turn n k (i + 1) L1 O1
        | .cnt L1 O1 => loopH turn n k (i + 1) L1 O1
        | .brk L1 O1 => .next L1 O1
        | .ret d O1 => .ret d O1
        | .exc x L1 O1 => .exc x L1 O1
        | .bad => .bad
      | none => .next L O
    | _ => .bad
def sForL (m : EM) (b : BM) (body : SM) : SM := fun L O => ofRes L (m L O) fun d O1 => match d with
  | .lst ds => loopD (turnOf b body) ds L O1
  | .rol ds => loopD (turnOf b body) ds L O1
  | .hdl n => match O1[n]? with
    | some (.lst xs) => loopH (turnOf b body) n xs.length 0 L O1
    | _ => .bad
  | _ => .bad
def sForT (m : EM) (b : BM) (body : SM) : SM := fun L O => ofRes L (m L O) fun d O1 => match d with
  | .tup ds => loopD (turnOf b body) ds L O1
  | _ => .bad
def rangeD (lo : Int) (n : Nat) : List D := (List.range n).map fun (i : Nat) => .int (lo + (i : Int))
def int1 : List D → Option Int
  | [.int j] => if -1000000000000 ≤ j ∧ j ≤ 1000000000000 then some j else none
  | _ => none
def int2 : List D → Option (Int × Int)
  | [.int i, .int j] => if (-1000000000000 ≤ i ∧ i ≤ 1000000000000) ∧ (-1000000000000 ≤ j ∧ j ≤ 1000000000000) then some (i, j) else none
  | _ => none
theorem int1_ok {ds : List D} {j : Int} (h : int1 ds = some j) : ds = [.int j] ∧ -1000000000000 ≤ j ∧ j ≤ 1000000000000 := by
  unfold int1 at h
  split at h
  · split at h
    · cases h; exact ⟨rfl, by assumption⟩
    · cases h
  · cases h
theorem int2_ok {ds : List D} {p : Int × Int} (h : int2 ds = some p) : ds = [.int p.1, .int p.2] ∧ (-1000000000000 ≤ p.1 ∧ p.1 ≤ 1000000000000) ∧ (-1000000000000 ≤ p.2 ∧ p.2 ≤ 1000000000000) := by
  unfold int2 at h
  split at h
  · split at h
    · cases h; exact ⟨rfl, by assumption⟩
    · cases h
  · cases h
def sForR1 (t : AM) (b : BM) (body : SM) : SM := fun L O => ofRes L (t L O) fun ds O1 => match int1 ds with
  | some j => loopD (turnOf b body) (rangeD 0 j.toNat) L O1
  | none => .bad
def sForR2 (t : AM) (b : BM) (body : SM) : SM := fun L O => ofRes L (t L O) fun ds O1 => match int2 ds with
  | some p => loopD (turnOf b body) (rangeD p.1 (p.2 - p.1).toNat) L O1
  | none => .bad
def loopW (c : TM) (b : SM) : Nat → SM
  | 0, _, _ => .bad
  | n + 1, L, O => ofRes L (c L O) fun k O1 => if k = true then (match b L O1 with
    | .next L2 O2 => loopW c b n L2 O2
    | .cnt L2 O2 => loopW c b n L2 O2
    | .brk L2 O2 => .next L2 O2
    | .ret d O2 => .ret d O2
    | .exc x L2 O2 => .exc x L2 O2
    | .bad => .bad) else .next L O1
def sWhile (n : Nat) (c : TM) (b : SM) : SM := loopW c b n
/-- a def by its body -/
def runF (n : Nat) (b : SM) : FM := fun ds O => match b (ds.map some ++ List.replicate (n - ds.length) none) O with
  | .next _ O1 => .ok .non O1
  | .ret d O1 => .ok d O1
  | .exc x _ O1 => .exc x O1
  | _ => .bad

section
variable {K : PySem.W.Frag} {ad : Str → Addr} {J : L2.St → Prop} {W : WX} {S S' : Hp} {r r' : Rg} {En : Ends} {L : Loc} {σ : L2.St} {α β : Type} {rep : Hp → Rg → α → β → Prop}
theorem PostS.mono {x : SR} (e : Ext S r S' r') (h : PostS K ad J W S r En x) : PostS K ad J W S' r' En x := by
  cases x with
  | next L O => exact fun S2 r2 σ H e2 => h S2 r2 σ H (e.trans e2)
  | ret d O => exact fun S2 r2 H v e2 => h S2 r2 H v (e.trans e2)
  | brk L O => exact fun S2 r2 σ H e2 => h S2 r2 σ H (e.trans e2)
  | cnt L O => exact fun S2 r2 σ H e2 => h S2 r2 σ H (e.trans e2)
  | exc x L O => exact fun S2 r2 σ H d e2 => h S2 r2 σ H d (e.trans e2)
  | bad => exact h
theorem bindS {x : Res α} {f : α → Store → SR} (j : J σ) (rl : Rl K S r L σ) (h : PostS K ad J W S r En (ofRes L x f)) :
    Post K ad rep W σ S r (fun v H => ∃ S' r' a O, Ext S r S' r' ∧ Rs K ad S' r' O H ∧ rep S' r' a v ∧ PostS K ad J W S' r' En (f a O)) x := by
  cases x with
  | ok a O => exact fun S2 r2 H v e2 s p => ⟨S2, r2, a, O, e2, s, p, PostS.mono e2 h⟩
  | exc a O => exact fun S2 r2 H d e2 s p => h S2 r2 σ H d e2 j (rl.mono e2) s p
  | bad => exact h
theorem Rl.set {d : D} {v : V} (i : Nat) (h : Rl K S r L σ) (p : Rp K S r d v) : Rl K S r (L.set i (some d)) (σ.set i (some v)) where
  len := by rw [List.length_set, List.length_set]; exact h.len
  at_ := fun j e q => by
    by_cases hj : i = j
    · subst hj
      by_cases hl : i < L.length
      · rw [List.getElem?_set_self hl] at q
        cases q
        exact ⟨v, List.getElem?_set_self (by rw [h.len]; exact hl), p⟩
      · rw [List.getElem?_eq_none (by rw [List.length_set]; omega)] at q
        cases q
    · rw [List.getElem?_set_ne hj] at q
      rw [List.getElem?_set_ne hj]
      exact h.at_ j e q
theorem Rl.wipe (i : Nat) (o : Option V) (h : Rl K S r L σ) : Rl K S r (L.set i none) (σ.set i o) where
  len := by rw [List.length_set, List.length_set]; exact h.len
  at_ := fun j e q => by
    by_cases hj : i = j
    · subst hj
      by_cases hl : i < L.length
      · rw [List.getElem?_set_self hl] at q
        cases q
      · rw [List.getElem?_eq_none (by rw [List.length_set]; omega)] at q
        cases q
    · rw [List.getElem?_set_ne hj] at q
      rw [List.getElem?_set_ne hj]
      exact h.at_ j e q
end

abbrev JT : L2.St → Prop := fun _ => True
/-! ### small statements -/
section
variable {X : Cx} {ad : Str → Addr} {J : L2.St → Prop} {W : WX} {pos : Pos} {a b c e tg iter : Expr} {es : List Expr} {m : EM} {mt : AM} {tm : TM} {st : Stmt} {rest body els : List Stmt} {s1 s2 : SM} {bm : BM} {bs : BsM}
theorem dss_nil : PSs X [] (tS X.K ad J W sNext) := by
  refine pss_imp pss_nil ?_
  rintro En σ H ⟨S, r, L, O, j, rl, rs, p⟩
  exact p S r σ H (Ext.refl _ _) j rl rs
theorem dss_cons (h1 : PS X st (tS X.K ad J W s1)) (h2 : PSs X rest (tS X.K ad J W s2)) : PSs X (st :: rest) (tS X.K ad J W (sSeq s1 s2)) := by
  refine pss_imp (pss_cons h1 h2) ?_
  rintro En σ H ⟨S, r, L, O, j, rl, rs, p⟩
  refine ⟨S, r, L, O, j, rl, rs, ?_⟩
  unfold sSeq at p
  generalize s1 L O = z at p
  cases z with
  | next L1 O1 => exact fun S1 r1 σ1 H1 e1 j1 l1 q1 => ⟨S1, r1, L1, O1, j1, l1, q1, PostS.mono e1 p⟩
  | ret d O1 => exact p
  | brk L1 O1 => exact p
  | cnt L1 O1 => exact p
  | exc x L1 O1 => exact p
  | bad => exact p
theorem dss_one (h1 : PS X st (tS X.K ad J W s1)) : PSs X [st] (tS X.K ad J W s1) := pss_one h1
theorem ds_pass : PS X (.Pass pos) (tS X.K ad J W sNext) := by
  refine ps_imp ps_pass ?_
  rintro En σ H ⟨S, r, L, O, j, rl, rs, p⟩
  exact p S r σ H (Ext.refl _ _) j rl rs
theorem ds_break : PS X (.Break pos) (tS X.K ad J W sBrk) := by
  refine ps_imp ps_break ?_
  rintro En σ H ⟨S, r, L, O, j, rl, rs, p⟩
  exact p S r σ H (Ext.refl _ _) j rl rs
theorem ds_continue : PS X (.Continue pos) (tS X.K ad J W sCnt) := by
  refine ps_imp ps_continue ?_
  rintro En σ H ⟨S, r, L, O, j, rl, rs, p⟩
  exact p S r σ H (Ext.refl _ _) j rl rs
theorem ds_expr (he : PE X e (tE X.K ad J W m)) (hs : swapsWith e none pos.line X.env = pure false := by rfl) : PS X (.Expr e pos) (tS X.K ad J W (sDrop m)) := by
  refine ps_imp (ps_expr he hs) ?_
  rintro En σ H ⟨S, r, L, O, j, rl, rs, p⟩
  refine ⟨S, r, L, O, j, rl, rs, (bindS j rl p).imp ?_⟩
  rintro x H1 ⟨S1, r1, d, O1, e1, q1, p1, k1⟩
  exact k1 S1 r1 σ H1 (Ext.refl _ _) j (rl.mono e1) q1
theorem ds_ret (he : PE X e (tE X.K ad J W m)) : PS X (.Return (some e) pos) (tS X.K ad J W (sRet m)) := by
  refine ps_imp (ps_ret he) ?_
  rintro En σ H ⟨S, r, L, O, j, rl, rs, p⟩
  refine ⟨S, r, L, O, j, rl, rs, (bindS j rl p).imp ?_⟩
  rintro x H1 ⟨S1, r1, d, O1, e1, q1, p1, k1⟩
  exact k1 S1 r1 H1 x (Ext.refl _ _) q1 p1
theorem ds_retN : PS X (.Return none pos) (tS X.K ad J W sRetN) := by
  refine ps_imp ps_retN ?_
  rintro En σ H ⟨S, r, L, O, j, rl, rs, p⟩
  exact p S r H .non (Ext.refl _ _) rs rfl
theorem ds_if (hc : PT X c (tT X.K ad J W tm)) (ha : PSs X body (tS X.K ad J W s1)) (hb : PSs X els (tS X.K ad J W s2)) : PS X (.If c body els pos) (tS X.K ad J W (sIf tm s1 s2)) := by
  refine ps_imp (ps_if hc ha hb) ?_
  rintro En σ H ⟨S, r, L, O, j, rl, rs, p⟩
  refine ⟨S, r, L, O, j, rl, rs, (bindS j rl p).imp ?_⟩
  rintro k H1 ⟨S1, r1, d, O1, e1, q1, rfl, k1⟩
  cases k with
  | true =>
    rw [if_pos rfl] at k1 ⊢
    exact ⟨S1, r1, L, O1, j, rl.mono e1, q1, k1⟩
  | false =>
    rw [if_neg Bool.false_ne_true] at k1 ⊢
    exact ⟨S1, r1, L, O1, j, rl.mono e1, q1, k1⟩

/-! ### targets -/
def PostB (K : PySem.W.Frag) (ad : Str → Addr) (J : L2.St → Prop) (S : Hp) (r : Rg) (Q : L2.St → Hp → Prop) : Option (Loc × Store) → Prop
  | some p => ∀ S' r' σ H, Ext S r S' r' → J σ → Rl K S' r' p.1 σ → Rs K ad S' r' p.2 H → Q σ H
  | none => False
def tG (K : PySem.W.Frag) (ad : Str → Addr) (J : L2.St → Prop) (b : BM) : TG := fun v σ H Q => ∃ S r L O d, J σ ∧ Rl K S r L σ ∧ Rs K ad S r O H ∧ Rp K S r d v ∧ PostB K ad J S r Q (b d L O)
def tGs (K : PySem.W.Frag) (ad : Str → Addr) (J : L2.St → Prop) (b : BsM) : TGs := fun vs σ H Q => ∃ S r L O ds, J σ ∧ Rl K S r L σ ∧ Rs K ad S r O H ∧ RpAll K S r ds vs ∧ PostB K ad J S r Q (b ds L O)
theorem PostB.mono {S S' : Hp} {r r' : Rg} {Q : L2.St → Hp → Prop} {x : Option (Loc × Store)} (e : Ext S r S' r') (h : PostB X.K ad J S r Q x) : PostB X.K ad J S' r' Q x := by
  cases x with
  | some p => exact fun S2 r2 σ H e2 => h S2 r2 σ H (e.trans e2)
  | none => exact h
theorem pg_imp {t t' : TG} (h : PG X tg t) (k : ∀ v σ H Q, t' v σ H Q → t v σ H Q) : PG X tg t' := ⟨fun pins s σ H v u Q I r q => h.run pins s σ H v u Q I r (k v σ H Q q)⟩
theorem pgs_imp {t t' : TGs} (h : PGs X es t) (k : ∀ v σ H Q, t' v σ H Q → t v σ H Q) : PGs X es t' := ⟨fun pins s σ H v u Q I r q => h.run pins s σ H v u Q I r (k v σ H Q q)⟩
theorem dg_name {i : Nat} {x : Str} (hN : X.N.Nodup) (hi : X.N[i]? = some x) (hx : L2.Loc X.env.scope x) (hJ : ∀ (σ : L2.St) (v : V), J σ → J (σ.set i (some v)) := by intro _ _ _; trivial) (hf : X.fn x = true ∨ X.env.scope.names.lookup x = some .local := by first | exact .inl rfl | exact .inr rfl | assumption) :
    PG X (.Name x pos) (tG X.K ad J (bName i)) := by
  refine pg_imp (pg_name hN hi hx hf) ?_
  rintro v σ H Q ⟨S, r, L, O, d, j, rl, rs, rp, p⟩
  exact p S r _ H (Ext.refl _ _) (hJ _ _ j) (rl.set i rp) rs
theorem dgs_nil : PGs X [] (tGs X.K ad J bNil) := by
  refine pgs_imp pgs_nil ?_
  rintro vs σ H Q ⟨S, r, L, O, ds, j, rl, rs, rp, p⟩
  cases ds with
  | nil => exact ⟨rp, p S r σ H (Ext.refl _ _) j rl rs⟩
  | cons d ds => exact p.elim
theorem dgs_cons (h1 : PG X e (tG X.K ad J bm)) (h2 : PGs X es (tGs X.K ad J bs)) (hs : (assignEach (e :: es) X.env).map (·.2) = assign e X.env :: (assignEach es X.env).map (·.2) := by rfl) : PGs X (e :: es) (tGs X.K ad J (bCons bm bs)) := by
  refine pgs_imp (pgs_cons h1 h2 hs) ?_
  rintro vs σ H Q ⟨S, r, L, O, ds, j, rl, rs, rp, p⟩
  cases ds with
  | nil => exact p.elim
  | cons d ds =>
    obtain ⟨v, vr, rfl, q1, q2⟩ := rp
    refine ⟨v, vr, rfl, S, r, L, O, d, j, rl, rs, q1, ?_⟩
    have p : PostB X.K ad J S r Q ((bm d L O).bind fun p => bs ds p.1 p.2) := p
    generalize bm d L O = z at p
    cases z with
    | none => exact p
    | some z => exact fun S1 r1 σ1 H1 e1 j1 l1 k1 => ⟨S1, r1, z.1, z.2, ds, j1, l1, k1, RpAll.mono e1 _ _ q2, p.mono e1⟩
theorem dg_tup {k n : Nat} (hc : X.calm = true) (h : PGs X es (tGs X.K ad J bs)) (hn : (assignEach es X.env).length = n := by rfl) (hst : (assignEach es X.env).findIdx? (·.1) = none := by rfl) : PG X (.Tuple es k pos) (tG X.K ad J (bTup n bs)) := by
  refine pg_imp (pg_tup hc h hn hst) ?_
  rintro v σ H Q ⟨S, r, L, O, d, j, rl, rs, rp, p⟩
  cases d with
  | tup ds =>
    obtain ⟨a, vs, rfl, q1, q2⟩ := rp
    have p : PostB X.K ad J S r Q (if ds.length = n then bs ds L O else none) := p
    split at p
    · rename_i hl
      exact ⟨a, vs, rfl, sqT_same rs.sub q1, by rw [q2.length]; exact hl, S, r, L, O, ds, j, rl, rs, q2, p⟩
    · exact p.elim
  | non => exact p.elim
  | bl b => exact p.elim
  | int i => exact p.elim
  | str s => exact p.elim
  | lst s => exact p.elim
  | rol s => exact p.elim
  | hdl s => exact p.elim
theorem asg_imp {t : TG} (hg : ∀ v σ H Q, tG X.K ad J bm v σ H Q → t v σ H Q) : ∀ En σ H, tS X.K ad J W (sAsg m bm) En σ H → tAsg (tE X.K ad J W m) t En σ H := by
  rintro En σ H ⟨S, r, L, O, j, rl, rs, p⟩
  refine ⟨S, r, L, O, j, rl, rs, (bindS j rl p).imp ?_⟩
  rintro x H1 ⟨S1, r1, d, O1, e1, q1, p1, k1⟩
  refine hg _ _ _ _ ⟨S1, r1, L, O1, d, j, rl.mono e1, q1, p1, ?_⟩
  generalize bm d L O1 = z at k1
  cases z with
  | none => exact k1
  | some z => exact k1
theorem ds_asg (he : PE X e (tE X.K ad J W m)) (hg : PG X tg (tG X.K ad J bm)) (hs : swapsWithSole [tg] e pos.line X.env = pure false := by rfl) (hw : swappedStores [tg] e X.env = pure none := by rfl)
    (h1 : (assignEach [tg] X.env).map (·.2) = [assign tg X.env] := by rfl) : PS X (.Assign [tg] e pos) (tS X.K ad J W (sAsg m bm)) :=
  ps_imp (ps_asg he hg hs hw h1) (asg_imp fun _ _ _ _ z => z)
theorem ds_set {i : Nat} {x : Str} {pos' : Pos} (hN : X.N.Nodup) (hi : X.N[i]? = some x) (hx : L2.Loc X.env.scope x) (he : PE X e (tE X.K ad J W m)) (hJ : ∀ σ v, J σ → J (σ.set i v) := by intro _ _ _; trivial) (hs : swapsWith e (some (.Name x pos')) pos.line X.env = pure false := by rfl)
    (hf : X.fn x = true ∨ X.env.scope.names.lookup x = some .local := by first | exact .inl rfl | exact .inr rfl | assumption) : PS X (.Assign [.Name x pos'] e pos) (tS X.K ad J W (sAsg m (bName i))) := by
  refine ps_imp (ps_set hN hi hx he hs hf) (asg_imp ?_)
  rintro v σ H Q ⟨S, r, L, O, d, j, rl, rs, rp, p⟩
  exact p S r _ H (Ext.refl _ _) (hJ _ _ j) (rl.set i rp) rs
theorem PostS.ends {S : Hp} {r : Rg} {En En' : Ends} {x : SR} (h1 : ∀ σ H, En.nx σ H → En'.nx σ H) (h2 : ∀ v H, En.rt v H → En'.rt v H) (h3 : ∀ σ H, En.bk σ H → En'.bk σ H) (h4 : ∀ σ H, En.ct σ H → En'.ct σ H) (h : PostS X.K ad J W S r En x) : PostS X.K ad J W S r En' x := by
  cases x with
  | next L O => exact fun S2 r2 σ H e2 j l s => h1 _ _ (h S2 r2 σ H e2 j l s)
  | ret d O => exact fun S2 r2 H v e2 s p => h2 _ _ (h S2 r2 H v e2 s p)
  | brk L O => exact fun S2 r2 σ H e2 j l s => h3 _ _ (h S2 r2 σ H e2 j l s)
  | cnt L O => exact fun S2 r2 σ H e2 j l s => h4 _ _ (h S2 r2 σ H e2 j l s)
  | exc x L O => exact h
  | bad => exact h
/-- one turn, then the rest f -/
def afterT (x : SR) (f : SM) : SR := match x with
  | .next L1 O1 => f L1 O1
  | .cnt L1 O1 => f L1 O1
  | .brk L1 O1 => .next L1 O1
  | .ret d O1 => .ret d O1
  | .exc x L1 O1 => .exc x L1 O1
  | .bad => .bad
theorem turn_post {S : Hp} {r : Rg} {En : Ends} {x : SR} {f : SM} (h : PostS X.K ad J W S r En (afterT x f)) :
    PostS X.K ad J W S r { En with nx := fun σ H => ∃ S' r' L' O', Ext S r S' r' ∧ J σ ∧ Rl X.K S' r' L' σ ∧ Rs X.K ad S' r' O' H ∧ PostS X.K ad J W S' r' En (f L' O'), ct := fun σ H => ∃ S' r' L' O', Ext S r S' r' ∧ J σ ∧ Rl X.K S' r' L' σ ∧ Rs X.K ad S' r' O' H ∧ PostS X.K ad J W S' r' En (f L' O'), bk := En.nx } x := by
  cases x with
  | next L O => exact fun S2 r2 σ H e2 j l s => ⟨S2, r2, L, O, e2, j, l, s, PostS.mono e2 h⟩
  | ret d O => exact h
  | brk L O => exact h
  | cnt L O => exact fun S2 r2 σ H e2 j l s => ⟨S2, r2, L, O, e2, j, l, s, PostS.mono e2 h⟩
  | exc x L O => exact h
  | bad => exact h
theorem loopD_cons {turn : D → SM} {d : D} {ds : List D} {L : Loc} {O : Store} : loopD turn (d :: ds) L O = afterT (turn d L O) (loopD turn ds) := by
  show (match turn d L O with
    | .next L1 O1 => loopD turn ds L1 O1
    | .cnt L1 O1 => loopD turn ds L1 O1
    | .brk L1 O1 => .next L1 O1
    | .ret d O1 => .ret d O1
    | .exc x L1 O1 => .exc x L1 O1
    | .bad => .bad) = _
  cases turn d L O <;> rfl
/-- the body of a turn -/
theorem turn_of {S : Hp} {r : Rg} {En : Ends} {L : Loc} {O : Store} {σ : L2.St} {H : Hp} {d : D} {v : V} (j : J σ) (rl : Rl X.K S r L σ) (rs : Rs X.K ad S r O H) (rp : Rp X.K S r d v) (h : PostS X.K ad J W S r En (turnOf bm s1 d L O)) :
    tG X.K ad J bm v σ H fun σ2 H2 => tS X.K ad J W s1 En σ2 H2 := by
  refine ⟨S, r, L, O, d, j, rl, rs, rp, ?_⟩
  unfold turnOf at h
  generalize bm d L O = z at h
  cases z with
  | none => exact h
  | some z => exact fun S2 r2 σ2 H2 e2 j2 l2 q2 => ⟨S2, r2, z.1, z.2, j2, l2, q2, PostS.mono e2 h⟩
/-- a loop over things that stand still -/
theorem for_still {It' : It} {vs : List V} (ds : List D) {S0 : Hp} {r0 : Rg} (hp : RpAll X.K S0 r0 ds vs)
    (go : ∀ (i : Nat) (H : Hp) (S : Hp) (x : V), Same S0 S → Same S H → vs[i]? = some x → It'.go i H) (yl : ∀ (i : Nat) (H : Hp) (S : Hp) (x y : V) (H' : Hp), Same S0 S → Same S H → vs[i]? = some x → It'.yld i H y H' → y = x ∧ H' = H)
    (sp : ∀ (i : Nat) (H : Hp) (S : Hp), Same S0 S → Same S H → vs.length ≤ i → It'.stop i H) {L : Loc} {O : Store} {σ : L2.St} {H : Hp} {En : Ends} (j : J σ) (rl : Rl X.K S0 r0 L σ) (rs : Rs X.K ad S0 r0 O H) (h : PostS X.K ad J W S0 r0 En (loopD (turnOf bm s1) ds L O)) :
    ∃ W' : Nat → Nat → L2.St → Hp → Prop, (∃ m, W' 0 m σ H) ∧ ∀ i m σ H, W' i m σ H →
      (It'.stop i H ∧ En.nx σ H) ∨ (It'.go i H ∧ ∃ N : L2.St → Hp → Prop, (∀ σ' H', N σ' H' → ∃ m', m' < m ∧ W' (i + 1) m' σ' H') ∧ ∀ x H', It'.yld i H x H' → tG X.K ad J bm x σ H' fun σ2 H2 => tS X.K ad J W s1 { En with nx := N, ct := N, bk := En.nx } σ2 H2) := by
  refine ⟨fun i m σ H => m = vs.length - i ∧ i ≤ vs.length ∧ ∃ S r L O, Ext S0 r0 S r ∧ J σ ∧ Rl X.K S r L σ ∧ Rs X.K ad S r O H ∧ PostS X.K ad J W S r En (loopD (turnOf bm s1) (ds.drop i) L O), ⟨_, rfl, Nat.zero_le _, S0, r0, L, O, Ext.refl _ _, j, rl, rs, h⟩, ?_⟩
  rintro i m σ H ⟨rfl, hi, S, r, L, O, e, j, rl, rs, h⟩
  by_cases hlt : i < vs.length
  · have hx : vs[i]? = some vs[i] := List.getElem?_eq_getElem hlt
    obtain ⟨d, hd, pd⟩ := RpAll.back hp hx
    have hdrop : ds.drop i = d :: ds.drop (i + 1) := by
      obtain ⟨h1, h2⟩ := List.getElem?_eq_some_iff.mp hd
      rw [List.drop_eq_getElem_cons h1, h2]
    rw [hdrop, loopD_cons] at h
    refine .inr ⟨go i H S _ e.s rs.sub hx, fun σ' H' => ∃ S' r' L' O', Ext S r S' r' ∧ J σ' ∧ Rl X.K S' r' L' σ' ∧ Rs X.K ad S' r' O' H' ∧ PostS X.K ad J W S' r' En (loopD (turnOf bm s1) (ds.drop (i + 1)) L' O'), ?_, fun x H' hy => ?_⟩
    · rintro σ' H' ⟨S', r', L', O', e', j', l', q', h'⟩
      exact ⟨_, by omega, rfl, hlt, S', r', L', O', e.trans e', j', l', q', h'⟩
    · obtain ⟨rfl, rfl⟩ := yl i H S _ x H' e.s rs.sub hx hy
      exact turn_of j rl rs (Rp.mono e d _ pd) (turn_post h)
  · have e2 : ds.drop i = [] := List.drop_eq_nil_of_le (by rw [← hp.length]; omega)
    rw [e2] at h
    exact .inl ⟨sp i H S e.s rs.sub (by omega), h S r σ H (Ext.refl _ _) j rl rs⟩
/-- over a list of the store -/
theorem loopH_cons {turn : D → SM} {n k i : Nat} {L : Loc} {O : Store} : loopH turn n (k + 1) i L O = (match O[n]? with
    | some (.lst xs) => match xs[i]? with
      | some d => afterT (turn d L O) (loopH turn n k (i + 1))
      | none => .next L O
    | _ => .bad) := by
  show (match O[n]? with
    | some (.lst xs) => match xs[i]? with
      | some d => match turn d L O with
        | .next L1 O1 => loopH turn n k (i + 1) L1 O1
        | .cnt L1 O1 => loopH turn n k (i + 1) L1 O1
        | .brk L1 O1 => .next L1 O1
        | .ret d O1 => .ret d O1
        | .exc x L1 O1 => .exc x L1 O1
        | .bad => .bad
      | none => .next L O
    | _ => .bad) = _
  split
  · split
    · rename_i d _
      cases turn d L O <;> rfl
    · rfl
  · rfl
theorem for_handle {a : Addr} {n : Nat} {S0 : Hp} {r0 : Rg} (ha : r0.l[n]? = some a) {k : Nat} {L : Loc} {O : Store} {σ : L2.St} {H : Hp} {En : Ends} (j : J σ) (rl : Rl X.K S0 r0 L σ) (rs : Rs X.K ad S0 r0 O H) (h : PostS X.K ad J W S0 r0 En (loopH (turnOf bm s1) n k 0 L O)) :
    ∃ W' : Nat → Nat → L2.St → Hp → Prop, (∃ m, W' 0 m σ H) ∧ ∀ i m σ H, W' i m σ H →
      ((Itl X.K a).stop i H ∧ En.nx σ H) ∨ ((Itl X.K a).go i H ∧ ∃ N : L2.St → Hp → Prop, (∀ σ' H', N σ' H' → ∃ m', m' < m ∧ W' (i + 1) m' σ' H') ∧ ∀ x H', (Itl X.K a).yld i H x H' → tG X.K ad J bm x σ H' fun σ2 H2 => tS X.K ad J W s1 { En with nx := N, ct := N, bk := En.nx } σ2 H2) := by
  refine ⟨fun i m σ H => ∃ S r L O, Ext S0 r0 S r ∧ J σ ∧ Rl X.K S r L σ ∧ Rs X.K ad S r O H ∧ PostS X.K ad J W S r En (loopH (turnOf bm s1) n m i L O), ⟨k, S0, r0, L, O, Ext.refl _ _, j, rl, rs, h⟩, ?_⟩
  rintro i m σ H ⟨S, r, L, O, e, j, rl, rs, h⟩
  have hr : r.l[n]? = some a := pre_get e.r ha
  cases m with
  | zero =>
    have h : PostS X.K ad J W S r En (match O[n]? with | some (.lst xs) => if xs.length ≤ i then .next L O else .bad | _ => .bad) := h
    split at h
    · rename_i xs hx
      obtain ⟨_, vs, q1, q2⟩ := rs.ob n a _ hr hx
      split at h
      · rename_i hl
        exact .inl ⟨⟨vs, .of q1, by rw [q2.length]; exact hl⟩, h S r σ H (Ext.refl _ _) j rl rs⟩
      · exact h.elim
    · exact h.elim
  | succ m =>
    rw [loopH_cons] at h
    split at h
    · rename_i xs hx
      obtain ⟨_, vs, q1, q2⟩ := rs.ob n a _ hr hx
      split at h
      · rename_i d hd
        obtain ⟨v, hv, pv⟩ := q2.get hd
        refine .inr ⟨⟨vs, v, .of q1, hv⟩, fun σ' H' => ∃ S' r' L' O', Ext S r S' r' ∧ J σ' ∧ Rl X.K S' r' L' σ' ∧ Rs X.K ad S' r' O' H' ∧ PostS X.K ad J W S' r' En (loopH (turnOf bm s1) n m (i + 1) L' O'), ?_, fun x H' hy => ?_⟩
        · rintro σ' H' ⟨S', r', L', O', e', j', l', q', h'⟩
          exact ⟨m, Nat.lt_succ_self m, S', r', L', O', e.trans e', j', l', q', h'⟩
        · obtain ⟨rfl, h2⟩ := hy
          have ex : x = v := Option.some.inj ((h2 vs (.of q1)).symm.trans hv)
          subst ex
          exact turn_of j rl rs pv (turn_post h)
      · rename_i hd
        have hl : xs.length ≤ i := List.getElem?_eq_none_iff.mp hd
        exact .inl ⟨⟨vs, .of q1, by rw [q2.length]; exact hl⟩, h S r σ H (Ext.refl _ _) j rl rs⟩
    · exact h.elim
theorem ds_forL (hp : PassesOwn (model X.prog X.w) X.A X.env X.xe) (hc : X.calm = true) (hi : PE X iter (tE X.K ad J W m)) (hg : PG X tg (tG X.K ad J bm)) (hb : PSs X body (tS X.K ad J W s1)) (hs : ∀ x, foldedSetIterable iter X.env x = pure x := by intro _; rfl) :
    PS X (.For tg iter body [] pos) (tS X.K ad J W (sForL m bm s1)) := by
  refine ps_imp (ps_for hp hc (pi_list hi) hg hb hs) ?_
  rintro En σ H ⟨S, r, L, O, j, rl, rs, p⟩
  refine ⟨S, r, L, O, j, rl, rs, (bindS j rl p).imp ?_⟩
  rintro x H1 ⟨S1, r1, d, O1, e1, q1, p1, k1⟩
  have rl1 := rl.mono e1
  cases d with
  | lst ds =>
    obtain ⟨a, vs, rfl, h1, h2⟩ := p1
    have hq : ∀ {S' : Hp} {H : Hp}, Same S1 S' → Same S' H → SqL X.K H a vs := fun e e' => .of (e' _ _ (e _ _ h1))
    refine ⟨a, rfl, ⟨vs, hq (Same.refl _) q1.sub⟩, for_still (It' := Itl X.K a) ds h2 (fun i H S x e e' hx => ⟨vs, x, hq e e', hx⟩) (fun i H S x y H' e e' hx hy => ⟨Option.some.inj ((hy.2 vs (hq e e')).symm.trans hx), hy.1⟩) (fun i H S e e' hl => ⟨vs, hq e e', hl⟩) j rl1 q1 k1⟩
  | rol ds =>
    obtain ⟨a, vs, rfl, h1, h2⟩ := p1
    have hq : ∀ {S' : Hp} {H : Hp}, Same S1 S' → Same S' H → SqL X.K H a vs := fun e e' => sqL_same e' (sqL_same e h1)
    refine ⟨a, rfl, ⟨vs, hq (Same.refl _) q1.sub⟩, for_still (It' := Itl X.K a) ds h2 (fun i H S x e e' hx => ⟨vs, x, hq e e', hx⟩) (fun i H S x y H' e e' hx hy => ⟨Option.some.inj ((hy.2 vs (hq e e')).symm.trans hx), hy.1⟩) (fun i H S e e' hl => ⟨vs, hq e e', hl⟩) j rl1 q1 k1⟩
  | hdl n =>
    obtain ⟨a, rfl, ha⟩ := p1
    have k1 : PostS X.K ad J W S1 r1 En (match O1[n]? with | some (.lst xs) => loopH (turnOf bm s1) n xs.length 0 L O1 | _ => .bad) := k1
    split at k1
    · rename_i xs hx
      obtain ⟨_, vs, q3, q4⟩ := q1.ob n a _ ha hx
      exact ⟨a, rfl, ⟨vs, .of q3⟩, for_handle ha j rl1 q1 k1⟩
    · exact k1.elim
  | non => exact k1.elim
  | bl b => exact k1.elim
  | int i => exact k1.elim
  | str s => exact k1.elim
  | tup s => exact k1.elim
theorem ds_forT (hp : PassesOwn (model X.prog X.w) X.A X.env X.xe) (hc : X.calm = true) (hi : PE X iter (tE X.K ad J W m)) (hg : PG X tg (tG X.K ad J bm)) (hb : PSs X body (tS X.K ad J W s1)) (hs : ∀ x, foldedSetIterable iter X.env x = pure x := by intro _; rfl) :
    PS X (.For tg iter body [] pos) (tS X.K ad J W (sForT m bm s1)) := by
  refine ps_imp (ps_for hp hc (pi_tup hi) hg hb hs) ?_
  rintro En σ H ⟨S, r, L, O, j, rl, rs, p⟩
  refine ⟨S, r, L, O, j, rl, rs, (bindS j rl p).imp ?_⟩
  rintro x H1 ⟨S1, r1, d, O1, e1, q1, p1, k1⟩
  have rl1 := rl.mono e1
  cases d with
  | tup ds =>
    obtain ⟨a, vs, rfl, h1, h2⟩ := p1
    have hq : ∀ {S' : Hp} {H : Hp}, Same S1 S' → Same S' H → SqT X.K H a vs := fun e e' => sqT_same e' (sqT_same e h1)
    refine ⟨a, rfl, ⟨vs, hq (Same.refl _) q1.sub⟩, for_still (It' := Itt X.K a) ds h2 (fun i H S x e e' hx => ⟨vs, x, hq e e', hx⟩) (fun i H S x y H' e e' hx hy => ⟨Option.some.inj ((hy.2 vs (hq e e')).symm.trans hx), hy.1⟩) (fun i H S e e' hl => ⟨vs, hq e e', hl⟩) j rl1 q1 k1⟩
  | hdl n => exact k1.elim
  | lst n => exact k1.elim
  | rol n => exact k1.elim
  | non => exact k1.elim
  | bl b => exact k1.elim
  | int i => exact k1.elim
  | str s => exact k1.elim
theorem range_rp {S : Hp} {r : Rg} (lo : Int) (n : Nat) : RpAll X.K S r (rangeD lo n) ((List.range n).map fun (i : Nat) => V.int (lo + (i : Int))) := by
  unfold rangeD
  generalize List.range n = l
  induction l with
  | nil => exact rfl
  | cons a l ih => exact ⟨_, _, rfl, rfl, ih⟩
theorem for_range_post {lo : Int} {n : Nat} {S0 : Hp} {r0 : Rg} {L : Loc} {O : Store} {σ : L2.St} {H : Hp} {En : Ends} (j : J σ) (rl : Rl X.K S0 r0 L σ) (rs : Rs X.K ad S0 r0 O H) (h : PostS X.K ad J W S0 r0 En (loopD (turnOf bm s1) (rangeD lo n) L O)) :
    ∃ W' : Nat → Nat → L2.St → Hp → Prop, (∃ m, W' 0 m σ H) ∧ ∀ i m σ H, W' i m σ H →
      ((Itr lo n).stop i H ∧ En.nx σ H) ∨ ((Itr lo n).go i H ∧ ∃ N : L2.St → Hp → Prop, (∀ σ' H', N σ' H' → ∃ m', m' < m ∧ W' (i + 1) m' σ' H') ∧ ∀ x H', (Itr lo n).yld i H x H' → tG X.K ad J bm x σ H' fun σ2 H2 => tS X.K ad J W s1 { En with nx := N, ct := N, bk := En.nx } σ2 H2) := by
  have hlen : ((List.range n).map fun (i : Nat) => V.int (lo + (i : Int))).length = n := by rw [List.length_map, List.length_range]
  refine for_still (rangeD lo n) (range_rp lo n) (fun i H S x e e' hx => ?_) (fun i H S x y H' e e' hx hy => ?_) (fun i H S e e' hl => ?_) j rl rs h
  · have := (List.getElem?_eq_some_iff.mp hx).1
    rw [hlen] at this
    exact this
  · have hi := (List.getElem?_eq_some_iff.mp hx).1
    rw [hlen] at hi
    rw [List.getElem?_map, List.getElem?_range hi] at hx
    exact ⟨hy.2.trans (Option.some.inj hx), hy.1⟩
  · rw [hlen] at hl
    exact hl
theorem ds_forR1 {p q : Pos} (hp : PassesOwn (model X.prog X.w) X.A X.env X.xe) (hc : X.calm = true) (hg0 : Gl X "range") (hm : X.mg "range" = none) (ha : PA X [a] (tA X.K ad J W mt)) (hg : PG X tg (tG X.K ad J bm)) (hb : PSs X body (tS X.K ad J W s1))
    (hs0 : starEach [a] X.env = [(false, eval a X.env)] := by rfl) (hs : ∀ x, foldedSetIterable (.Call (.Name "range" p) [a] [] q) X.env x = pure x := by intro _; rfl) : PS X (.For tg (.Call (.Name "range" p) [a] [] q) body [] pos) (tS X.K ad J W (sForR1 mt bm s1)) := by
  refine ps_imp (ps_for hp hc (pi_range1 hg0 hm ha hs0) hg hb hs) ?_
  rintro En σ H ⟨S, r, L, O, j, rl, rs, p⟩
  refine ⟨S, r, L, O, j, rl, rs, (bindS j rl p).imp ?_⟩
  rintro vs H1 ⟨S1, r1, ds, O1, e1, q1, p1, k1⟩
  have k2 : PostS X.K ad J W S1 r1 En (match int1 ds with | some j => loopD (turnOf bm s1) (rangeD 0 j.toNat) L O1 | none => .bad) := k1
  clear k1
  revert k2
  cases hj : int1 ds with
  | none => exact fun k2 => k2.elim
  | some jj =>
    intro k1
    obtain ⟨rfl, b1, b2⟩ := int1_ok hj
    obtain ⟨v, vr, rfl, rfl, rfl⟩ := p1
    exact ⟨jj, rfl, by omega, by omega, for_range_post j (rl.mono e1) q1 k1⟩
theorem ds_forR2 {p q : Pos} (hp : PassesOwn (model X.prog X.w) X.A X.env X.xe) (hc : X.calm = true) (hg0 : Gl X "range") (hm : X.mg "range" = none) (ha : PA X [a, b] (tA X.K ad J W mt)) (hg : PG X tg (tG X.K ad J bm)) (hb : PSs X body (tS X.K ad J W s1))
    (hs0 : starEach [a, b] X.env = [(false, eval a X.env), (false, eval b X.env)] := by rfl) (hs2 : starEach [b] X.env = [(false, eval b X.env)] := by rfl) (hs : ∀ x, foldedSetIterable (.Call (.Name "range" p) [a, b] [] q) X.env x = pure x := by intro _; rfl) : PS X (.For tg (.Call (.Name "range" p) [a, b] [] q) body [] pos) (tS X.K ad J W (sForR2 mt bm s1)) := by
  refine ps_imp (ps_for hp hc (pi_range2 hg0 hm ha hs0 hs2) hg hb hs) ?_
  rintro En σ H ⟨S, r, L, O, j, rl, rs, p⟩
  refine ⟨S, r, L, O, j, rl, rs, (bindS j rl p).imp ?_⟩
  rintro vs H1 ⟨S1, r1, ds, O1, e1, q1, p1, k1⟩
  have k2 : PostS X.K ad J W S1 r1 En (match int2 ds with | some p => loopD (turnOf bm s1) (rangeD p.1 (p.2 - p.1).toNat) L O1 | none => .bad) := k1
  clear k1
  revert k2
  cases hj : int2 ds with
  | none => exact fun k2 => k2.elim
  | some jj =>
    intro k1
    obtain ⟨rfl, ⟨b1, b2⟩, b3, b4⟩ := int2_ok hj
    obtain ⟨v, vr, rfl, rfl, u, ur, rfl, rfl, rfl⟩ := p1
    exact ⟨jj.1, jj.2, rfl, ⟨by omega, by omega, by omega, by omega⟩, for_range_post j (rl.mono e1) q1 k1⟩
theorem loopW_succ {n : Nat} {L : Loc} {O : Store} : loopW tm s1 (n + 1) L O = ofRes L (tm L O) fun k O1 => if k = true then afterT (s1 L O1) (loopW tm s1 n) else .next L O1 := by
  rfl
theorem ds_while {n : Nat} (hp : PassesOwn (model X.prog X.w) X.A X.env X.xe) (hc : PT X c (tT X.K ad J W tm)) (hb : PSs X body (tS X.K ad J W s1)) : PS X (.While c body [] pos) (tS X.K ad J W (sWhile n tm s1)) := by
  refine ps_imp (ps_while hp hc hb) ?_
  rintro En σ H ⟨S, r, L, O, j, rl, rs, p⟩
  refine ⟨fun m σ H => ∃ S r L O, J σ ∧ Rl X.K S r L σ ∧ Rs X.K ad S r O H ∧ PostS X.K ad J W S r En (loopW tm s1 m L O), ⟨n, S, r, L, O, j, rl, rs, p⟩, ?_⟩
  rintro m σ H ⟨S, r, L, O, j, rl, rs, p⟩
  cases m with
  | zero => exact p.elim
  | succ m =>
    rw [loopW_succ] at p
    refine ⟨S, r, L, O, j, rl, rs, (bindS j rl p).imp ?_⟩
    rintro k H1 ⟨S1, r1, d, O1, e1, q1, rfl, k1⟩
    cases k with
    | true =>
      rw [if_pos rfl] at k1 ⊢
      refine ⟨fun σ' H' => ∃ S' r' L' O', Ext S1 r1 S' r' ∧ J σ' ∧ Rl X.K S' r' L' σ' ∧ Rs X.K ad S' r' O' H' ∧ PostS X.K ad J W S' r' En (loopW tm s1 m L' O'), ?_, S1, r1, L, O1, j, rl.mono e1, q1, turn_post k1⟩
      rintro σ' H' ⟨S', r', L', O', e', j', l', q', h'⟩
      exact ⟨m, Nat.lt_succ_self m, S', r', L', O', j', l', q', h'⟩
    | false =>
      rw [if_neg Bool.false_ne_true] at k1 ⊢
      exact k1 S1 r1 σ H1 (Ext.refl _ _) j (rl.mono e1) q1
end

/-! ### a def -/
section
variable {P : Program} {w : World} {K : PySem.W.Frag} {mg : Str → Option Value} {base : Heap} {ad : Str → Addr}
theorem start_rl {S : Hp} {r : Rg} {N : List Str} {ds : List D} {vs : List V} (hl : vs.length ≤ N.length) (h : RpAll K S r ds vs) : Rl K S r (ds.map some ++ List.replicate (N.length - ds.length) none) (L2.start N vs) where
  len := by
    unfold L2.start
    rw [List.length_append, List.length_append, List.length_map, List.length_map, List.length_replicate, List.length_replicate, h.length]
  at_ := fun i d q => by
    by_cases hi : i < ds.length
    · rw [List.getElem?_append_left (by rw [List.length_map]; exact hi), List.getElem?_map] at q
      cases e : ds[i]? with
      | none => rw [e] at q; cases q
      | some d' =>
        rw [e] at q
        obtain rfl : d' = d := Option.some.inj (Option.some.inj q)
        obtain ⟨v, hv, p⟩ := h.get e
        refine ⟨v, ?_, p⟩
        unfold L2.start
        rw [List.getElem?_append_left (by rw [List.length_map, h.length]; exact hi), List.getElem?_map, hv]
        rfl
    · rw [List.getElem?_append_right (by rw [List.length_map]; omega), List.getElem?_replicate] at q
      split at q <;> cases q
theorem fn_def {x qual : Str} {params : Arguments} {bd : List Stmt} {scope : Scope} {dvs : List V} {kws : List (Str × V)} {f : Addr} {fd : FuncData} {N ps : List Str} {k : Nat} {b : SM} (F : FunD K x qual params bd scope dvs kws f fd) (sc : FnScope N ps scope)
    (hb : ∀ (cdv : Value) (A : Around) (outer : List Env) (s : Shared) (H : Hp) (E : XK), Room k (A.deeper (PyProof.Rows.envOfC qual scope s.heap.objs.size f cdv)) →
      PSs (cxOf (L2.CX P w) P w K mg base N qual scope f cdv A outer s H E) bd (tS K ad JT (fun c d _ H => E c d H) b)) :
    FnOk P w K mg base (L2.CX P w) (k + 1) f fd ps (spM K ad ps.length (runF N.length b)) := by
  have hpl : ps.length ≤ N.length := by have := congrArg List.length sc.pre; rw [List.length_take] at this; omega
  refine F.ok sc (fun vs H Q E h => ?_) (fun cdv A outer s H vs Q E hr h => ?_)
  · obtain ⟨S, r, O, ds, hl, _, hp, _⟩ := h
    rw [hp.length, hl]
  · refine ⟨_, hb cdv A outer s H E hr, ?_⟩
    obtain ⟨S, r, O, ds, hl, rs, hp, p⟩ := h
    refine ⟨S, r, _, O, trivial, start_rl (by rw [hp.length, hl]; exact hpl) hp, rs, ?_⟩
    unfold runF at p
    generalize b (ds.map some ++ List.replicate (N.length - ds.length) none) O = z at p
    cases z with
    | next L O => exact fun S' r' σ H e _ _ q => p S' r' H .non e q rfl
    | ret d O => exact p
    | brk L O => exact p.elim
    | cnt L O => exact p.elim
    | exc x L O => exact fun S' r' σ H d e _ _ q g => p S' r' H d e q g
    | bad => exact p
end
end DK
end
section
set_option Elab.async false
set_option linter.all false
set_option autoImplicit false
set_option maxRecDepth 100000
set_option maxHeartbeats 4000000
/-! DKOps: operators, subscripts, built-ins, by mirrors. -/
namespace DK
open PySem L2

def pureO (x : Option D) (O : Store) : Option (D × Store) := match x with
  | some d => some (d, O)
  | none => none
def newLO (h : Bool) (xs : List D) (O : Store) : Option (D × Store) := if xs.length ≤ 1000000 then (if h = true then some (.hdl O.length, O ++ [.lst xs]) else some (.lst xs, O)) else none
theorem ofO_newLO (h : Bool) (xs : List D) (O : Store) : ofO (newLO h xs O) = newL h xs O := by
  unfold newLO newL
  split
  · split <;> rfl
  · rfl
section
variable {K : PySem.W.Frag} {ad : Str → Addr} {S : Hp} {r : Rg} {O : Store} {H : Hp} {d : D} {W : WX} {σ : L2.St} {Q : VK}
theorem post_pure {x : Option D} {v : D} (rs : Rs K ad S r O H) (e : x = some v) (p : Post K ad (fun S r => Rp K S r) W σ S r Q (ofO (pureO x O))) (u : V) (h : Rp K S r v u) : Q u H := by
  subst e
  exact p S r H u (Ext.refl _ _) rs h
end

/-! ### + and others -/
def gAdd (h : Bool) : Store → D → D → Option (D × Store) := fun O x y => match x, y with
  | .int i, .int j => some (.int (i + j), O)
  | .str a, .str b => if a.length + b.length ≤ 1000000 then some (.str (a ++ b), O) else none
  | .tup a, .tup b => if a.length + b.length ≤ 1000000 then some (.tup (a ++ b), O) else none
  | _, _ => match lstOf O x, lstOf O y with
    | some a, some b => newLO h (a ++ b) O
    | _, _ => none
def gI (f : Int → Int → D) (C : Int → Int → Bool) : Store → D → D → Option (D × Store) := fun O x y => match x, y with
  | .int i, .int j => if C i j = true then some (f i j, O) else none
  | _, _ => none
def gSub := gI (fun i j => .int (i - j)) (fun _ _ => true)
def gMul := gI (fun i j => .int (i * j)) (fun i j => decide (i.natAbs.log2 + j.natAbs.log2 < 1000000))
def gFdiv := gI (fun i j => .int (i / j)) (fun _ j => decide (0 < j ∧ j.natAbs.log2 < 9000))
def gMod := gI (fun i j => .int (i % j)) (fun _ j => decide (0 < j))
def gPow := gI (fun i j => .int (i ^ j.toNat)) (fun i j => decide (0 ≤ j ∧ j ≤ 1000000 ∧ i.natAbs < 2 ^ 64))
section
variable {X : Cx} {ad : Str → Addr}
theorem catL {S : Hp} {r : Rg} {O : Store} {H : Hp} {x y : V} {d e : D} {W : WX} {σ : L2.St} {Q : VK} {h : Bool} (rs : Rs X.K ad S r O H) (px : Rp X.K S r d x) (py : Rp X.K S r e y)
    (p : Post X.K ad (fun S r => Rp X.K S r) W σ S r Q (ofO (match lstOf O d, lstOf O e with | some a, some b => newLO h (a ++ b) O | _, _ => none))) : rCat x y H Q := by
  split at p
  · rename_i a b ha hb
    obtain ⟨l, vs, rfl, q1, q2⟩ := lstOf_ok rs px ha
    obtain ⟨m, us, rfl, q3, q4⟩ := lstOf_ok rs py hb
    rw [ofO_newLO] at p
    obtain ⟨h1, h2⟩ := newL_post rs (q2.append q4) p
    exact ⟨l, m, vs, us, rfl, rfl, q1, q3, by rw [List.length_append] at h1; exact h1, h2⟩
  · exact p.elim
theorem od_add (h : Bool) : OpD X ad (binaryOp .Add) (gAdd h) where
  ok := by
    refine ⟨_, OpR.or op_add (OpR.or op_add_str (OpR.or op_catA op_cat)), ?_⟩
    intro S r O H x y d e W σ Q rs px py p
    unfold gAdd at p
    split at p
    · rename_i i j
      rw [show x = .int i from px, show y = .int j from py]
      exact .inl ⟨i, j, rfl, rfl, p S r H _ (Ext.refl _ _) rs rfl⟩
    · rename_i a b
      rw [show x = .str a from px, show y = .str b from py]
      split at p
      · rename_i hl
        exact .inr (.inl ⟨a, b, rfl, rfl, million hl, p S r H _ (Ext.refl _ _) rs rfl⟩)
      · exact p.elim
    · rename_i a b
      split at p
      · rename_i hl
        obtain ⟨l, vs, rfl, q1, q2⟩ := px
        obtain ⟨m, us, rfl, q3, q4⟩ := py
        refine .inr (.inr (.inl ⟨l, m, vs, us, rfl, rfl, sqT_same rs.sub q1, sqT_same rs.sub q3, by rw [q2.length, q4.length]; exact million hl, fun e => ?_, fun e1 e2 => ?_, fun e1 e2 => ?_⟩))
        · refine p S r H _ (Ext.refl _ _) rs ⟨m, us, rfl, q3, ?_⟩
          have q5 := q2.append q4
          rw [e] at q5
          exact q5
        · refine p S r H _ (Ext.refl _ _) rs ⟨l, vs, rfl, q1, ?_⟩
          have q5 := q2.append q4
          rw [e2, List.append_nil] at q5
          exact q5
        · exact newT_post rs (q2.append q4) p
      · exact p.elim
    · exact .inr (.inr (.inr (catL rs px py p)))
theorem od_I {bop : Value → Value → Sem Value} {f : Int → Int → V} {g : Int → Int → D} {C : Int → Int → Prop} {c : Int → Int → Bool} (ho : OpR X bop (rI C f)) (hc : ∀ i j, c i j = true → C i j) (hg : ∀ i j S r, Rp X.K S r (g i j) (f i j)) : OpD X ad bop (gI g c) where
  ok := by
    refine ⟨_, ho, ?_⟩
    intro S r O H x y d e W σ Q rs px py p
    unfold gI at p
    split at p
    · rename_i i j
      rw [show x = .int i from px, show y = .int j from py]
      split at p
      · rename_i hcc
        exact ⟨i, j, rfl, rfl, hc i j hcc, p S r H _ (Ext.refl _ _) rs (hg i j S r)⟩
      · exact p.elim
    · exact p.elim
theorem od_I0 {bop : Value → Value → Sem Value} {f : Int → Int → V} {g : Int → Int → D} (ho : OpR X bop (rI0 f)) (hg : ∀ i j S r, Rp X.K S r (g i j) (f i j)) : OpD X ad bop (gI g fun _ _ => true) where
  ok := by
    refine ⟨_, ho, ?_⟩
    intro S r O H x y d e W σ Q rs px py p
    unfold gI at p
    split at p
    · rename_i i j
      rw [show x = .int i from px, show y = .int j from py]
      rw [if_pos rfl] at p
      exact ⟨i, j, rfl, rfl, p S r H _ (Ext.refl _ _) rs (hg i j S r)⟩
    · exact p.elim
theorem od_sub : OpD X ad (binaryOp .Sub) gSub := od_I0 op_sub fun _ _ _ _ => rfl
theorem od_mul : OpD X ad (binaryOp .Mult) gMul := od_I op_mulW (fun i j h => (of_decide_eq_true h : i.natAbs.log2 + j.natAbs.log2 < 1000000)) fun _ _ _ _ => rfl
theorem od_fdiv : OpD X ad (binaryOp .FloorDiv) gFdiv := od_I op_fdivW (fun i j h => (of_decide_eq_true h : 0 < j ∧ j.natAbs.log2 < 9000)) fun _ _ _ _ => rfl
theorem od_mod : OpD X ad (binaryOp .Mod) gMod := od_I op_mod (fun i j h => of_decide_eq_true h) fun _ _ _ _ => rfl
theorem od_pow : OpD X ad (binaryOp .Pow) gPow := od_I op_pow (fun i j h => (of_decide_eq_true h : 0 ≤ j ∧ j ≤ 1000000 ∧ i.natAbs < 2 ^ 64)) fun _ _ _ _ => rfl

/-! ### comparisons -/
/-- ints, texts -/
def gCmp (f : Int → Int → Bool) (g : Str → Str → Bool) : Store → D → D → Option (D × Store) := fun O x y => match x, y with
  | .int i, .int j => some (.bl (f i j), O)
  | .str i, .str j => some (.bl (g i j), O)
  | _, _ => none
def gLt := gCmp (fun i j => decide (i < j)) (fun i j => decide (i.cps.toList < j.cps.toList))
def gLe := gCmp (fun i j => decide (i ≤ j)) (fun i j => !decide (j.cps.toList < i.cps.toList))
def gGt := gCmp (fun i j => decide (j < i)) (fun i j => decide (j.cps.toList < i.cps.toList))
def gGe := gCmp (fun i j => decide (j ≤ i)) (fun i j => !decide (i.cps.toList < j.cps.toList))
theorem od_cmp {bop : Value → Value → Sem Value} {f : Int → Int → Bool} {g : Str → Str → Bool} (h1 : OpR X bop (rI0 fun i j => .bl (f i j))) (h2 : OpR X bop (fun x y H Q => ∃ i j, x = .str i ∧ y = .str j ∧ Q (.bl (g i j)) H)) : OpD X ad bop (gCmp f g) where
  ok := by
    refine ⟨_, OpR.or h1 h2, ?_⟩
    intro S r O H x y d e W σ Q rs px py p
    unfold gCmp at p
    split at p
    · rename_i i j
      rw [show x = .int i from px, show y = .int j from py]
      exact .inl ⟨i, j, rfl, rfl, p S r H _ (Ext.refl _ _) rs rfl⟩
    · rename_i i j
      rw [show x = .str i from px, show y = .str j from py]
      exact .inr ⟨i, j, rfl, rfl, p S r H _ (Ext.refl _ _) rs rfl⟩
    · exact p.elim
theorem od_lt : OpD X ad (compareOp .Lt) gLt := od_cmp op_lt op_lt_str
theorem od_le : OpD X ad (compareOp .LtE) gLe := od_cmp op_le op_le_str
theorem od_gt : OpD X ad (compareOp .Gt) gGt := od_cmp op_gt op_gt_str
theorem od_ge : OpD X ad (compareOp .GtE) gGe := od_cmp op_ge op_ge_str
/-- flat values -/
def flatOf : D → Option V
  | .non => some .non
  | .bl b => some (.bl b)
  | .int i => some (.int i)
  | .str s => some (.str s)
  | _ => none
theorem flatOf_ok {K : PySem.W.Frag} {S : Hp} {r : Rg} {d : D} {v x : V} (h : flatOf d = some v) (p : Rp K S r d x) : x = v ∧ flatV v = true := by
  cases d <;> first | (cases h; done) | (have e := Option.some.inj h; subst e; exact ⟨p, rfl⟩)
/-- a value read through, for == -/
def deep (O : Store) : Nat → D → Option PyData
  | 0, _ => none
  | n + 1, .non => some .none
  | n + 1, .bl b => some (.bool b)
  | n + 1, .int i => some (.int i)
  | n + 1, .str s => some (.str s)
  | n + 1, .lst xs => (xs.mapM (deep O n)).map .list
  | n + 1, .rol xs => (xs.mapM (deep O n)).map .list
  | n + 1, .tup xs => (xs.mapM (deep O n)).map .tuple
  | n + 1, .hdl k => match O[k]? with
    | some (.lst xs) => (xs.mapM (deep O n)).map .list
    | _ => none
theorem mapM_cons {α β : Type} {f : α → Option β} {x : α} {xs : List α} : (x :: xs).mapM f = (f x).bind fun y => (xs.mapM f).bind fun ys => some (y :: ys) := by
  simp [List.mapM_cons]
theorem deepAll_ok {K : PySem.W.Frag} {S : Hp} {r : Rg} {H : Hp} {g : D → Option PyData} (hg : ∀ d v p, Rp K S r d v → g d = some p → Dp K H v p) : ∀ {ds : List D} {vs : List V} {ps : List PyData}, RpAll K S r ds vs → ds.mapM g = some ps → DpAll K H vs ps
  | [], vs, ps, h, e => by
    rw [show vs = [] from h]
    have e : some [] = some ps := by rw [List.mapM_nil] at e; exact e
    cases e
    exact .nil
  | d :: ds, vs, ps, h, e => by
    obtain ⟨v, vr, rfl, h1, h2⟩ := h
    rw [mapM_cons] at e
    cases e1 : g d with
    | none => rw [e1] at e; cases e
    | some p =>
      rw [e1] at e
      cases e2 : ds.mapM g with
      | none =>
        rw [e2] at e
        cases e
      | some qs =>
        rw [e2] at e
        cases e
        exact .cons (hg d v p h1 e1) (deepAll_ok hg h2 e2)
theorem deep_ok {K : PySem.W.Frag} {S : Hp} {r : Rg} {O : Store} {H : Hp} (rs : Rs K ad S r O H) : ∀ (n : Nat) (d : D) (v : V) (p : PyData), Rp K S r d v → deep O n d = some p → Dp K H v p
  | 0, d, v, p, h, e => by cases e
  | n + 1, .non, v, p, h, e => by cases e; rw [show v = .non from h]; exact .non
  | n + 1, .bl b, v, p, h, e => by cases e; rw [show v = .bl b from h]; exact .bl b
  | n + 1, .int i, v, p, h, e => by cases e; rw [show v = .int i from h]; exact .int i
  | n + 1, .str s, v, p, h, e => by cases e; rw [show v = .str s from h]; exact .str s
  | n + 1, .lst xs, v, p, h, e => by
    obtain ⟨a, vs, rfl, q1, q2⟩ := h
    obtain ⟨ps, e1, rfl⟩ := Option.map_eq_some_iff.mp (show (xs.mapM (deep O n)).map .list = some p from e)
    exact .lst (.of (rs.sub _ _ q1)) (deepAll_ok (deep_ok rs n) q2 e1)
  | n + 1, .rol xs, v, p, h, e => by
    obtain ⟨a, vs, rfl, q1, q2⟩ := h
    obtain ⟨ps, e1, rfl⟩ := Option.map_eq_some_iff.mp (show (xs.mapM (deep O n)).map .list = some p from e)
    exact .lst (sqL_same rs.sub q1) (deepAll_ok (deep_ok rs n) q2 e1)
  | n + 1, .tup xs, v, p, h, e => by
    obtain ⟨a, vs, rfl, q1, q2⟩ := h
    obtain ⟨ps, e1, rfl⟩ := Option.map_eq_some_iff.mp (show (xs.mapM (deep O n)).map .tuple = some p from e)
    exact .tup (sqT_same rs.sub q1) (deepAll_ok (deep_ok rs n) q2 e1)
  | n + 1, .hdl k, v, p, h, e => by
    have e : (match O[k]? with | some (.lst xs) => (xs.mapM (deep O n)).map .list | _ => none) = some p := e
    split at e
    · rename_i xs hx
      obtain ⟨a, rfl, q1, _, vs, q3, q4⟩ := hdl_at rs h hx
      obtain ⟨ps, e1, rfl⟩ := Option.map_eq_some_iff.mp e
      exact .lst (.of q3) (deepAll_ok (deep_ok rs n) q4 e1)
    · cases e
/-- == -/
def eqD (O : Store) (x y : D) : Option Bool := match flatOf x, flatOf y with
  | some v, some u => if scal v u = true then some (decide (v = u)) else match deep O 2 x, deep O 2 y with
    | some p, some q => if SeqAt.shaped p = true ∧ SeqAt.shaped q = true then some (PyData.eqv p q) else none
    | _, _ => none
  | _, _ => match deep O 30 x, deep O 30 y with
    | some p, some q => if SeqAt.shaped p = true ∧ SeqAt.shaped q = true then some (PyData.eqv p q) else none
    | _, _ => none
def gEq : Store → D → D → Option (D × Store) := fun O x y => match eqD O x y with
  | some b => some (.bl b, O)
  | none => none
def gNe : Store → D → D → Option (D × Store) := fun O x y => match eqD O x y with
  | some b => some (.bl (!b), O)
  | none => none
theorem eqD_ok {S : Hp} {r : Rg} {O : Store} {H : Hp} {x y : V} {d e : D} {b : Bool} (rs : Rs X.K ad S r O H) (px : Rp X.K S r d x) (py : Rp X.K S r e y) (h : eqD O d e = some b) :
    (scal x y = true ∧ decide (x = y) = b) ∨ (∃ p q, Dp X.K H x p ∧ Dp X.K H y q ∧ SeqAt.shaped p = true ∧ SeqAt.shaped q = true ∧ PyData.eqv p q = b) := by
  have deepCase : ∀ n, (match deep O n d, deep O n e with | some p, some q => if SeqAt.shaped p = true ∧ SeqAt.shaped q = true then some (PyData.eqv p q) else none | _, _ => none) = some b →
      (∃ p q, Dp X.K H x p ∧ Dp X.K H y q ∧ SeqAt.shaped p = true ∧ SeqAt.shaped q = true ∧ PyData.eqv p q = b) := fun n h => by
    split at h
    · rename_i p q e1 e2
      split at h
      · rename_i hs
        exact ⟨p, q, deep_ok rs n d x p px e1, deep_ok rs n e y q py e2, hs.1, hs.2, Option.some.inj h⟩
      · cases h
    · cases h
  unfold eqD at h
  split at h
  · rename_i v u e1 e2
    split at h
    · rename_i hs
      obtain ⟨rfl, _⟩ := flatOf_ok e1 px
      obtain ⟨rfl, _⟩ := flatOf_ok e2 py
      exact .inl ⟨hs, Option.some.inj h⟩
    · exact .inr (deepCase 2 h)
  · exact .inr (deepCase 30 h)
theorem od_eq (hu : X.A.units + 64 < cLine) : OpD X ad (compareOp .Eq) gEq where
  ok := by
    refine ⟨_, OpR.or op_eq (op_eqD hu), ?_⟩
    intro S r O H x y d e W σ Q rs px py p
    unfold gEq at p
    split at p
    · rename_i b hb
      have q := p S r H (.bl b) (Ext.refl _ _) rs rfl
      rcases eqD_ok rs px py hb with ⟨h1, h2⟩ | ⟨p1, p2, h1, h2, h3, h4, h5⟩
      · exact .inl ⟨h1, by rw [h2]; exact q⟩
      · exact .inr ⟨p1, p2, h1, h2, h3, h4, by rw [h5]; exact q⟩
    · exact p.elim
theorem od_ne (hu : X.A.units + 64 < cLine) : OpD X ad (compareOp .NotEq) gNe where
  ok := by
    refine ⟨_, OpR.or op_ne (op_neD hu), ?_⟩
    intro S r O H x y d e W σ Q rs px py p
    unfold gNe at p
    split at p
    · rename_i b hb
      have q := p S r H (.bl (!b)) (Ext.refl _ _) rs rfl
      rcases eqD_ok rs px py hb with ⟨h1, h2⟩ | ⟨p1, p2, h1, h2, h3, h4, h5⟩
      · exact .inl ⟨h1, by rw [h2]; exact q⟩
      · exact .inr ⟨p1, p2, h1, h2, h3, h4, by rw [h5]; exact q⟩
    · exact p.elim
def isNon : D → Bool
  | .non => true
  | _ => false
theorem isNon_ok {K : PySem.W.Frag} {S : Hp} {r : Rg} {d : D} {x : V} (p : Rp K S r d x) : decide (x = .non) = isNon d := by
  cases d with
  | non => rw [show x = .non from p]; rfl
  | bl b => rw [show x = .bl b from p]; rfl
  | int i => rw [show x = .int i from p]; rfl
  | str s => rw [show x = .str s from p]; rfl
  | lst s => obtain ⟨a, _, rfl, _⟩ := p; rfl
  | rol s => obtain ⟨a, _, rfl, _⟩ := p; rfl
  | tup s => obtain ⟨a, _, rfl, _⟩ := p; rfl
  | hdl s => obtain ⟨a, rfl, _⟩ := p; rfl
def gIs : Store → D → D → Option (D × Store) := fun O x y => match y with
  | .non => some (.bl (isNon x), O)
  | _ => none
def gIsNot : Store → D → D → Option (D × Store) := fun O x y => match y with
  | .non => some (.bl (!isNon x), O)
  | _ => none
theorem od_is : OpD X ad (compareOp .Is) gIs where
  ok := by
    refine ⟨_, op_isN, ?_⟩
    intro S r O H x y d e W σ Q rs px py p
    unfold gIs at p
    split at p
    · exact ⟨py, by rw [isNon_ok px]; exact p S r H _ (Ext.refl _ _) rs rfl⟩
    · exact p.elim
theorem od_isnot : OpD X ad (compareOp .IsNot) gIsNot where
  ok := by
    refine ⟨_, op_notN, ?_⟩
    intro S r O H x y d e W σ Q rs px py p
    unfold gIsNot at p
    split at p
    · exact ⟨py, by rw [isNon_ok px]; exact p S r H _ (Ext.refl _ _) rs rfl⟩
    · exact p.elim
/-- in, not in: a sign in a text; a flat value in a list or tuple of flat ones -/
def inD (O : Store) (x y : D) : Option Bool := match x, y with
  | .str z, .str w => match z.cps.toList with
    | [c] => some (decide (c ∈ w.cps.toList))
    | _ => none
  | _, _ => match seqOf O y, flatOf x with
    | some ds, some v => match ds.mapM flatOf with
      | some vs => some (inV v vs)
      | none => none
    | _, _ => none
def gIn : Store → D → D → Option (D × Store) := fun O x y => match inD O x y with
  | some b => some (.bl b, O)
  | none => none
def gNotIn : Store → D → D → Option (D × Store) := fun O x y => match inD O x y with
  | some b => some (.bl (!b), O)
  | none => none
theorem flats_ok {K : PySem.W.Frag} {S : Hp} {r : Rg} : ∀ {ds : List D} {vs us : List V}, ds.mapM flatOf = some vs → RpAll K S r ds us → us = vs ∧ vs.all flatV = true
  | [], vs, us, e, h => by
    have e : some [] = some vs := by rw [List.mapM_nil] at e; exact e
    cases e
    exact ⟨h, rfl⟩
  | d :: ds, vs, us, e, h => by
    obtain ⟨v, vr, rfl, h1, h2⟩ := h
    rw [mapM_cons] at e
    cases e1 : flatOf d with
    | none => rw [e1] at e; cases e
    | some p =>
      rw [e1] at e
      cases e2 : ds.mapM flatOf with
      | none => rw [e2] at e; cases e
      | some qs =>
        rw [e2] at e
        cases e
        obtain ⟨rfl, f1⟩ := flatOf_ok e1 h1
        obtain ⟨rfl, f2⟩ := flats_ok e2 h2
        exact ⟨rfl, by rw [List.all_cons, f1, f2]; rfl⟩
theorem inD_ok {S : Hp} {r : Rg} {O : Store} {H : Hp} {x y : V} {d e : D} {b : Bool} (rs : Rs X.K ad S r O H) (px : Rp X.K S r d x) (py : Rp X.K S r e y) (h : inD O d e = some b) :
    (∃ (c : Nat) (z : Str), x = .str ⟨#[c]⟩ ∧ y = .str z ∧ decide (c ∈ z.cps.toList) = b) ∨ (∃ p xs, y = .ref p ∧ (SqL X.K H p xs ∨ SqT X.K H p xs) ∧ flatV x = true ∧ xs.all flatV = true ∧ inV x xs = b) := by
  unfold inD at h
  split at h
  · rename_i z w
    split at h
    · rename_i c hc
      refine .inl ⟨c, w, ?_, py, Option.some.inj h⟩
      rw [show x = .str z from px]
      congr 1
      obtain ⟨⟨l⟩⟩ := z
      have hc : l = [c] := hc
      rw [hc]
    · cases h
  · split at h
    · rename_i ds v e1 e2
      split at h
      · rename_i vs e3
        obtain ⟨a, us, rfl, q1, q2⟩ := seqOf_ok rs py e1
        obtain ⟨rfl, f1⟩ := flatOf_ok e2 px
        obtain ⟨rfl, f2⟩ := flats_ok e3 q2
        exact .inr ⟨a, us, rfl, q1, f1, f2, Option.some.inj h⟩
      · cases h
    · cases h
theorem od_in : OpD X ad (compareOp .In) gIn where
  ok := by
    refine ⟨_, OpR.or op_in_sign op_in_seq, ?_⟩
    intro S r O H x y d e W σ Q rs px py p
    unfold gIn at p
    split at p
    · rename_i b hb
      have q := p S r H (.bl b) (Ext.refl _ _) rs rfl
      rcases inD_ok rs px py hb with ⟨c, z, h1, h2, h3⟩ | ⟨p1, xs, h1, h2, h3, h4, h5⟩
      · exact .inl ⟨c, z, h1, h2, by rw [h3]; exact q⟩
      · exact .inr ⟨p1, xs, h1, h2, h3, h4, by rw [if_neg Bool.false_ne_true, h5]; exact q⟩
    · exact p.elim
theorem od_notin : OpD X ad (compareOp .NotIn) gNotIn where
  ok := by
    refine ⟨_, OpR.or op_notIn_sign op_notIn_seq, ?_⟩
    intro S r O H x y d e W σ Q rs px py p
    unfold gNotIn at p
    split at p
    · rename_i b hb
      have q := p S r H (.bl (!b)) (Ext.refl _ _) rs rfl
      rcases inD_ok rs px py hb with ⟨c, z, h1, h2, h3⟩ | ⟨p1, xs, h1, h2, h3, h4, h5⟩
      · exact .inl ⟨c, z, h1, h2, by rw [h3]; exact q⟩
      · exact .inr ⟨p1, xs, h1, h2, h3, h4, by rw [if_pos rfl, h5]; exact q⟩
    · exact p.elim
end

/-! ### subscripts -/
/-- xs[i], t[i], s[i] -/
def gIx : Store → D → D → Option (D × Store) := fun O x y => match y with
  | .int i => match x with
    | .str s => if s.length ≤ 1000000 then (match atI s.cps.toList i with
      | some c => some (.str ⟨#[c]⟩, O)
      | none => none) else none
    | _ => match seqOf O x with
      | some ds => match atI ds i with
        | some d => some (d, O)
        | none => none
      | none => none
  | _ => none
section
variable {X : Cx} {ad : Str → Addr} {J : L2.St → Prop} {W : WX} {pos p2 : Pos} {a b e : Expr} {ma mb : EM}
theorem atI_rp {K : PySem.W.Frag} {S : Hp} {r : Rg} {ds : List D} {vs : List V} {i : Int} {d : D} (h : RpAll K S r ds vs) (e : atI ds i = some d) : ∃ v, atI vs i = some v ∧ Rp K S r d v := by
  unfold atI at e ⊢
  rw [h.length]
  cases hj : ixN ds.length i with
  | none => rw [hj] at e; cases e
  | some j =>
    rw [hj] at e
    exact h.get e
theorem de_ix (ha : PE X a (tE X.K ad J W ma)) (hb : PE X b (tE X.K ad J W mb)) (hs : PlainIx b) : PE X (.Subscript a b pos) (tE X.K ad J W (mOp gIx ma mb)) := by
  refine pe_imp (pe_ix ix_seq ha hb hs) ?_
  rintro σ H Q ⟨S, r, L, O, j, rl, rs, p⟩
  refine ⟨S, r, L, O, j, rl, rs, (Post.bind p).imp ?_⟩
  rintro x H1 ⟨S1, r1, d, O1, e1, s1, p1, q1⟩
  refine ⟨S1, r1, L, O1, j, rl.mono e1, s1, (Post.bind q1).imp ?_⟩
  rintro y H2 ⟨S2, r2, e, O2, e2, s2, p2, q2⟩
  replace p1 := Rp.mono e2 d x p1
  replace q2 : Post X.K ad (fun S r => Rp X.K S r) W σ S2 r2 Q (ofO (gIx O2 d e)) := q2
  unfold gIx at q2
  split at q2
  · rename_i i
    rw [show y = .int i from p2]
    split at q2
    · rename_i s
      rw [show x = .str s from p1]
      split at q2
      · rename_i hl
        split at q2
        · rename_i c hc
          exact .inr (.inr ⟨s, i, c, rfl, rfl, million hl, hc, q2 S2 r2 H2 _ (Ext.refl _ _) s2 rfl⟩)
        · exact q2.elim
      · exact q2.elim
    · split at q2
      · rename_i ds hds
        split at q2
        · rename_i z hz
          obtain ⟨l, vs, rfl, h1, h2⟩ := seqOf_ok s2 p1 hds
          obtain ⟨v, hv, pv⟩ := atI_rp h2 hz
          have q := q2 S2 r2 H2 v (Ext.refl _ _) s2 pv
          rcases h1 with h1 | h1
          · exact .inl ⟨l, vs, i, v, rfl, rfl, h1, hv, q⟩
          · exact .inr (.inl ⟨l, vs, i, v, rfl, rfl, h1, hv, q⟩)
        · exact q2.elim
      · exact q2.elim
  · exact q2.elim
end
/-- lists alone -/
def lsqOf (O : Store) : D → Option (List D)
  | .lst xs => some xs
  | .rol xs => some xs
  | .hdl n => match O[n]? with
    | some (.lst xs) => some xs
    | _ => none
  | _ => none
theorem lsqOf_ok {K : PySem.W.Frag} {ad : Str → Addr} {S : Hp} {r : Rg} {O : Store} {H : Hp} {d : D} {x : V} {xs : List D} (s : Rs K ad S r O H) (p : Rp K S r d x) (h : lsqOf O d = some xs) : ∃ a vs, x = .ref a ∧ SqL K H a vs ∧ RpAll K S r xs vs := by
  cases d with
  | lst ds =>
    obtain rfl : ds = xs := Option.some.inj h
    obtain ⟨a, vs, e, q, w⟩ := p
    exact ⟨a, vs, e, .of (s.sub _ _ q), w⟩
  | rol ds =>
    obtain rfl : ds = xs := Option.some.inj h
    obtain ⟨a, vs, e, q, w⟩ := p
    exact ⟨a, vs, e, sqL_same s.sub q, w⟩
  | tup ds => cases h
  | hdl n =>
    replace h : (match O[n]? with | some (Ob.lst xs) => some xs | _ => none) = some xs := h
    split at h
    · rename_i zs e
      obtain rfl : zs = xs := Option.some.inj h
      obtain ⟨a, e1, e2, _, vs, e3, e4⟩ := hdl_at s p e
      exact ⟨a, vs, e1, .of e3, e4⟩
    · cases h
  | non => cases h
  | bl b => cases h
  | int i => cases h
  | str z => cases h
/-- a slice's ends -/
abbrev OM := Loc → Store → Res (Option Int)
def oNone : OM := fun _ O => .ok none O
def oSome (m : EM) : OM := fun L O => (m L O).bind fun d O1 => match d with
  | .int i => .ok (some i) O1
  | _ => .bad
def cutD {α : Type} (xs : List α) (lo hi : Option Int) : List α := (xs.drop (HT.sIx xs.length 0 lo)).take (HT.sIx xs.length xs.length hi - HT.sIx xs.length 0 lo)
def gSl (h : Bool) (x : D) (lo hi : Option Int) (O : Store) : Res D := match x with
  | .str s => if s.length ≤ 1000000 then .ok (.str (cutS s lo hi)) O else .bad
  | .tup ds => .ok (.tup (cutD ds lo hi)) O
  | _ => match lsqOf O x with
    | some ds => newL h (cutD ds lo hi) O
    | none => .bad
def mSl (h : Bool) (m : EM) (lo hi : OM) : EM := fun L O => (m L O).bind fun x O1 => (lo L O1).bind fun i O2 => (hi L O2).bind fun j O3 => gSl h x i j O3
section
variable {X : Cx} {ad : Str → Addr} {J : L2.St → Prop} {W : WX} {pos p2 : Pos} {a e : Expr} {ma : EM} {lo hi : Option Expr} {ml mh : OM}
def tO (K : PySem.W.Frag) (ad : Str → Addr) (J : L2.St → Prop) (W : WX) (m : OM) : TO := fun σ H Q => ∃ S r L O, J σ ∧ Rl K S r L σ ∧ Rs K ad S r O H ∧ Post K ad (fun _ _ a v => v = a) W σ S r Q (m L O)
theorem po_imp {t t' : TO} (h : PO X lo t) (k : ∀ σ H Q, t' σ H Q → t σ H Q) : PO X lo t' := ⟨fun pins s σ H Q I q => h.run pins s σ H Q I (k σ H Q q)⟩
theorem do_none : PO X none (tO X.K ad J W oNone) := by
  refine po_imp po_none ?_
  rintro σ H Q ⟨S, r, L, O, j, rl, rs, p⟩
  exact p S r H none (Ext.refl _ _) rs rfl
theorem do_some (he : PE X e (tE X.K ad J W ma)) : PO X (some e) (tO X.K ad J W (oSome ma)) := by
  refine po_imp (po_some he) ?_
  rintro σ H Q ⟨S, r, L, O, j, rl, rs, p⟩
  refine ⟨S, r, L, O, j, rl, rs, (Post.bind p).imp ?_⟩
  rintro x H1 ⟨S1, r1, d, O1, e1, s1, p1, q1⟩
  cases d with
  | int i => exact ⟨i, p1, q1 S1 r1 H1 _ (Ext.refl _ _) s1 rfl⟩
  | non => exact q1.elim
  | bl i => exact q1.elim
  | str s => exact q1.elim
  | lst s => exact q1.elim
  | rol s => exact q1.elim
  | tup s => exact q1.elim
  | hdl s => exact q1.elim
theorem cut_rp {K : PySem.W.Frag} {S : Hp} {r : Rg} {ds : List D} {vs : List V} (h : RpAll K S r ds vs) (lo hi : Option Int) : RpAll K S r (cutD ds lo hi) (cutV vs lo hi) := by
  unfold cutD cutV
  rw [h.length]
  exact (h.drop _).take _
theorem de_sl {hm : Bool} (ha : PE X a (tE X.K ad J W ma)) (hl : PO X lo (tO X.K ad J W ml)) (hh : PO X hi (tO X.K ad J W mh)) : PE X (.Subscript a (.Slice lo hi none p2) pos) (tE X.K ad J W (mSl hm ma ml mh)) := by
  refine pe_imp (pe_slice (SlR.or sl_list (SlR.or sl_tupA sl_str)) ha hl hh) ?_
  rintro σ H Q ⟨S, r, L, O, j, rl, rs, p⟩
  refine ⟨S, r, L, O, j, rl, rs, (Post.bind p).imp ?_⟩
  rintro x H1 ⟨S1, r1, d, O1, e1, s1, p1, q1⟩
  refine ⟨S1, r1, L, O1, j, rl.mono e1, s1, (Post.bind q1).imp ?_⟩
  rintro i H2 ⟨S2, r2, i', O2, e2, s2, rfl, q2⟩
  refine ⟨S2, r2, L, O2, j, rl.mono (e1.trans e2), s2, (Post.bind q2).imp ?_⟩
  rintro k H3 ⟨S3, r3, k', O3, e3, s3, rfl, q3⟩
  replace p1 := Rp.mono (e2.trans e3) d x p1
  unfold gSl at q3
  split at q3
  · rename_i s
    rw [show x = .str s from p1]
    split at q3
    · rename_i hl
      exact .inr (.inr ⟨s, rfl, million hl, q3 S3 r3 H3 _ (Ext.refl _ _) s3 rfl⟩)
    · exact q3.elim
  · rename_i ds
    obtain ⟨l, vs, rfl, h1, h2⟩ := p1
    have h3 := cut_rp h2 i k
    refine .inr (.inl ⟨l, vs, rfl, sqT_same s3.sub h1, fun ⟨z1, z2⟩ => ?_, fun _ => newT_post s3 h3 q3⟩)
    refine q3 S3 r3 H3 _ (Ext.refl _ _) s3 ⟨l, vs, rfl, h1, ?_⟩
    have e4 : cutV vs i k = vs := by
      unfold cutV
      rw [z1, z2, List.drop_zero, Nat.sub_zero, List.take_length]
    rw [e4] at h3
    exact h3
  · split at q3
    · rename_i ds hds
      obtain ⟨l, vs, rfl, h1, h2⟩ := lsqOf_ok s3 p1 hds
      exact .inl ⟨l, vs, rfl, h1, (newL_post s3 (cut_rp h2 i k) q3).2⟩
    · exact q3.elim
end
end DK
end
section
set_option Elab.async false
set_option linter.all false
set_option autoImplicit false
set_option maxRecDepth 100000
set_option maxHeartbeats 4000000
/-! DKCall: built-ins, methods, fields, objects, by mirrors. -/
namespace DK
open PySem L2

def g1 (f : Store → D → Option (D × Store)) : Store → List D → Option (D × Store) := fun O ds => match ds with
  | [d] => f O d
  | _ => none
def g2 (f : Store → D → D → Option (D × Store)) : Store → List D → Option (D × Store) := fun O ds => match ds with
  | [d, e] => f O d e
  | _ => none
theorem g1_cases {α : Type} {f : Store → D → Option (D × Store)} {O : Store} {ds : List D} {P : Res D → Prop} (hb : P .bad → False) (h : P (ofO (g1 f O ds))) : ∃ d, ds = [d] ∧ P (ofO (f O d)) := by
  unfold g1 at h
  split at h
  · exact ⟨_, rfl, h⟩
  · exact (hb h).elim
theorem g2_cases {f : Store → D → D → Option (D × Store)} {O : Store} {ds : List D} {P : Res D → Prop} (hb : P .bad → False) (h : P (ofO (g2 f O ds))) : ∃ d e, ds = [d, e] ∧ P (ofO (f O d e)) := by
  unfold g2 at h
  split at h
  · exact ⟨_, _, rfl, h⟩
  · exact (hb h).elim

/-! ### len, int, abs, str, list, .. -/
def gLen : Store → D → Option (D × Store) := fun O d => match d with
  | .str s => if s.length ≤ 1000000 then some (.int s.length, O) else none
  | .hdl n => match O[n]? with
    | some (.lst xs) => some (.int xs.length, O)
    | some (.dct xs) => some (.int xs.length, O)
    | _ => none
  | _ => match seqOf O d with
    | some xs => some (.int xs.length, O)
    | none => none
def gInt : Store → D → Option (D × Store) := fun O d => match d with
  | .int i => some (.int i, O)
  | .bl b => some (.int (if b then 1 else 0), O)
  | .str s => if s.length ≤ 640 then (match PySem.intText? s with
    | some n => some (.int n, O)
    | none => none) else none
  | _ => none
def gAbs : Store → D → Option (D × Store) := fun O d => match d with
  | .int i => some (.int (if i < 0 then -i else i), O)
  | _ => none
def gMax2 : Store → D → D → Option (D × Store) := fun O d e => match d, e with
  | .int i, .int j => some (.int (if j > i then j else i), O)
  | _, _ => none
def gMin2 : Store → D → D → Option (D × Store) := fun O d e => match d, e with
  | .int i, .int j => some (.int (if j < i then j else i), O)
  | _, _ => none
def gStr : Store → D → Option (D × Store) := fun O d => match d with
  | .int i => if i.natAbs.log2 < 1920 then some (.str (toString i), O) else none
  | .str s => some (.str s, O)
  | _ => none
def gList (h : Bool) : Store → D → Option (D × Store) := fun O d => match seqOf O d with
  | some xs => newLO h xs O
  | none => none
def intsOf : List D → Option (List Int)
  | [] => some []
  | .int i :: ds => (intsOf ds).map (i :: ·)
  | _ => none
def gSum : Store → D → Option (D × Store) := fun O d => match lsqOf O d with
  | some xs => match intsOf xs with
    | some ns => some (.int ns.sum, O)
    | none => none
  | none => none
def maxI : List Int → Option Int
  | [] => none
  | x :: xs => some (xs.foldl (fun a b => if b > a then b else a) x)
def minI : List Int → Option Int
  | [] => none
  | x :: xs => some (xs.foldl (fun a b => if b < a then b else a) x)
def gMaxL : Store → D → Option (D × Store) := fun O d => match lsqOf O d with
  | some xs => match (intsOf xs).bind maxI with
    | some n => some (.int n, O)
    | none => none
  | none => none
def gMinL : Store → D → Option (D × Store) := fun O d => match lsqOf O d with
  | some xs => match (intsOf xs).bind minI with
    | some n => some (.int n, O)
    | none => none
  | none => none
def boolsOf : List D → Option (List Bool)
  | [] => some []
  | .bl i :: ds => (boolsOf ds).map (i :: ·)
  | _ => none
def gAny : Store → D → Option (D × Store) := fun O d => match lsqOf O d with
  | some xs => match boolsOf xs with
    | some ns => some (.bl (ns.any id), O)
    | none => none
  | none => none
def gAll : Store → D → Option (D × Store) := fun O d => match lsqOf O d with
  | some xs => match boolsOf xs with
    | some ns => some (.bl (ns.all id), O)
    | none => none
  | none => none
theorem intsOf_rp {K : PySem.W.Frag} {S : Hp} {r : Rg} : ∀ {ds : List D} {vs : List V} {ns : List Int}, RpAll K S r ds vs → intsOf ds = some ns → vs = ns.map V.int
  | [], vs, ns, h, e => by cases e; exact h
  | .int i :: ds, vs, ns, h, e => by
    obtain ⟨v, vr, rfl, rfl, h2⟩ := h
    have e : (intsOf ds).map (i :: ·) = some ns := e
    obtain ⟨ms, e1, rfl⟩ := Option.map_eq_some_iff.mp e
    rw [intsOf_rp h2 e1]
    rfl
  | .non :: _, _, _, _, e => by cases e
  | .bl _ :: _, _, _, _, e => by cases e
  | .str _ :: _, _, _, _, e => by cases e
  | .lst _ :: _, _, _, _, e => by cases e
  | .rol _ :: _, _, _, _, e => by cases e
  | .tup _ :: _, _, _, _, e => by cases e
  | .hdl _ :: _, _, _, _, e => by cases e
theorem boolsOf_rp {K : PySem.W.Frag} {S : Hp} {r : Rg} : ∀ {ds : List D} {vs : List V} {ns : List Bool}, RpAll K S r ds vs → boolsOf ds = some ns → vs = ns.map V.bl
  | [], vs, ns, h, e => by cases e; exact h
  | .bl i :: ds, vs, ns, h, e => by
    obtain ⟨v, vr, rfl, rfl, h2⟩ := h
    have e : (boolsOf ds).map (i :: ·) = some ns := e
    obtain ⟨ms, e1, rfl⟩ := Option.map_eq_some_iff.mp e
    rw [boolsOf_rp h2 e1]
    rfl
  | .non :: _, _, _, _, e => by cases e
  | .int _ :: _, _, _, _, e => by cases e
  | .str _ :: _, _, _, _, e => by cases e
  | .lst _ :: _, _, _, _, e => by cases e
  | .rol _ :: _, _, _, _, e => by cases e
  | .tup _ :: _, _, _, _, e => by cases e
  | .hdl _ :: _, _, _, _, e => by cases e
theorem maxI_is {ns : List Int} {m m' : Int} (h : maxI ns = some m) (h1 : m' ∈ ns) (h2 : ∀ y, y ∈ ns → y ≤ m') : m' = m := by
  have key : ∀ (l : List Int) (a : Int), (a ≤ l.foldl (fun a b => if b > a then b else a) a) ∧ (∀ y ∈ l, y ≤ l.foldl (fun a b => if b > a then b else a) a) ∧ (l.foldl (fun a b => if b > a then b else a) a = a ∨ l.foldl (fun a b => if b > a then b else a) a ∈ l) := by
    intro l
    induction l with
    | nil => intro a; exact ⟨Int.le_refl a, fun y hy => by simp at hy, .inl rfl⟩
    | cons b l ih =>
      intro a
      obtain ⟨i1, i2, i3⟩ := ih (if b > a then b else a)
      rw [List.foldl_cons]
      refine ⟨?_, fun y hy => ?_, ?_⟩
      · refine Int.le_trans ?_ i1
        split <;> omega
      · rcases List.mem_cons.mp hy with rfl | hy
        · refine Int.le_trans ?_ i1
          split <;> omega
        · exact i2 y hy
      · rcases i3 with i3 | i3
        · rw [i3]
          split
          · exact .inr List.mem_cons_self
          · exact .inl rfl
        · exact .inr (List.mem_cons_of_mem _ i3)
  cases ns with
  | nil => cases h
  | cons a l =>
    cases h
    obtain ⟨i1, i2, i3⟩ := key l a
    refine Int.le_antisymm ?_ (h2 _ ?_)
    · rcases List.mem_cons.mp h1 with rfl | h1
      · exact i1
      · exact i2 _ h1
    · rcases i3 with i3 | i3
      · rw [i3]; exact List.mem_cons_self
      · exact List.mem_cons_of_mem _ i3
theorem minI_is {ns : List Int} {m m' : Int} (h : minI ns = some m) (h1 : m' ∈ ns) (h2 : ∀ y, y ∈ ns → m' ≤ y) : m' = m := by
  have key : ∀ (l : List Int) (a : Int), (l.foldl (fun a b => if b < a then b else a) a ≤ a) ∧ (∀ y ∈ l, l.foldl (fun a b => if b < a then b else a) a ≤ y) ∧ (l.foldl (fun a b => if b < a then b else a) a = a ∨ l.foldl (fun a b => if b < a then b else a) a ∈ l) := by
    intro l
    induction l with
    | nil => intro a; exact ⟨Int.le_refl a, fun y hy => by simp at hy, .inl rfl⟩
    | cons b l ih =>
      intro a
      obtain ⟨i1, i2, i3⟩ := ih (if b < a then b else a)
      rw [List.foldl_cons]
      refine ⟨?_, fun y hy => ?_, ?_⟩
      · refine Int.le_trans i1 ?_
        split <;> omega
      · rcases List.mem_cons.mp hy with rfl | hy
        · refine Int.le_trans i1 ?_
          split <;> omega
        · exact i2 y hy
      · rcases i3 with i3 | i3
        · rw [i3]
          split
          · exact .inr List.mem_cons_self
          · exact .inl rfl
        · exact .inr (List.mem_cons_of_mem _ i3)
  cases ns with
  | nil => cases h
  | cons a l =>
    cases h
    obtain ⟨i1, i2, i3⟩ := key l a
    refine Int.le_antisymm (h2 _ ?_) ?_
    · rcases i3 with i3 | i3
      · rw [i3]; exact List.mem_cons_self
      · exact List.mem_cons_of_mem _ i3
    · rcases List.mem_cons.mp h1 with rfl | h1
      · exact i1
      · exact i2 _ h1
section
variable {X : Cx} {ad : Str → Addr}
theorem cd_1 {f : Value} {rr : List V → Hp → VK → Prop} {g : Store → D → Option (D × Store)} (hc : CallR X f rr)
    (h : ∀ (S : Hp) (r : Rg) (O : Store) (H : Hp) (x : V) (d : D) (W : WX) (σ : L2.St) (Q : VK), Rs X.K ad S r O H → Rp X.K S r d x → Post X.K ad (fun S r => Rp X.K S r) W σ S r Q (ofO (g O d)) → rr [x] H Q) : CallD X ad f (g1 g) where
  ok := by
    refine ⟨rr, hc, fun S r O H vs ds W σ Q rs p q => ?_⟩
    unfold g1 at q
    split at q
    · rename_i d
      obtain ⟨v, vr, rfl, h1, rfl⟩ := p
      exact h S r O H v d W σ Q rs h1 q
    · exact q.elim
theorem cd_2 {f : Value} {rr : List V → Hp → VK → Prop} {g : Store → D → D → Option (D × Store)} (hc : CallR X f rr)
    (h : ∀ (S : Hp) (r : Rg) (O : Store) (H : Hp) (x y : V) (d e : D) (W : WX) (σ : L2.St) (Q : VK), Rs X.K ad S r O H → Rp X.K S r d x → Rp X.K S r e y → Post X.K ad (fun S r => Rp X.K S r) W σ S r Q (ofO (g O d e)) → rr [x, y] H Q) : CallD X ad f (g2 g) where
  ok := by
    refine ⟨rr, hc, fun S r O H vs ds W σ Q rs p q => ?_⟩
    unfold g2 at q
    split at q
    · rename_i d e
      obtain ⟨v, vr, rfl, h1, u, ur, rfl, h2, rfl⟩ := p
      exact h S r O H v u d e W σ Q rs h1 h2 q
    · exact q.elim
theorem cd_len : CallD X ad (.builtin "len") (g1 gLen) := cd_1 (CallR.or call_len call_lenD) fun S r O H x d W σ Q rs p q => by
  have seqCase : ∀ {xs : List D}, seqOf O d = some xs → Post X.K ad (fun S r => Rp X.K S r) W σ S r Q (ofO (some (D.int xs.length, O))) → ((∃ y n, [x] = [y] ∧ LenV X.K y H n ∧ Q (.int n) H) ∨ (∃ a kvs, [x] = [V.ref a] ∧ H a = some (.dK kvs) ∧ Q (.int kvs.length) H)) := fun {xs} e q => by
    obtain ⟨a, vs, rfl, h1, h2⟩ := seqOf_ok rs p e
    refine .inl ⟨_, vs.length, rfl, ?_, by rw [h2.length]; exact q S r H _ (Ext.refl _ _) rs rfl⟩
    rcases h1 with h1 | h1
    · exact .inl ⟨vs, h1, rfl⟩
    · exact .inr ⟨vs, h1, rfl⟩
  unfold gLen at q
  split at q
  · rename_i s
    rw [show x = .str s from p]
    split at q
    · rename_i hl
      exact .inl ⟨_, s.length, rfl, ⟨million hl, rfl⟩, q S r H _ (Ext.refl _ _) rs rfl⟩
    · exact q.elim
  · rename_i n
    split at q
    · rename_i xs hx
      refine seqCase ?_ q
      show (match O[n]? with | some (Ob.lst xs) => some xs | _ => none) = some xs
      rw [hx]
    · rename_i xs hx
      obtain ⟨a, rfl, h1, _, vs, h2, h3⟩ := hdl_at rs p hx
      have hl : ∀ {ks : List (Key × D)} {us : List (Key × V)}, RpP X.K S r ks us → us.length = ks.length := fun {ks} => by
        induction ks with
        | nil => intro us h; rw [show us = [] from h]; rfl
        | cons k ks ih => intro us h; obtain ⟨_, _, rfl, _, h⟩ := h; rw [List.length_cons, List.length_cons, ih h]
      exact .inr ⟨a, vs, rfl, h2, by rw [hl h3]; exact q S r H _ (Ext.refl _ _) rs rfl⟩
    · exact q.elim
  · split at q
    · rename_i xs hx
      exact seqCase hx q
    · exact q.elim
theorem cd_int : CallD X ad (.type "int") (g1 gInt) := cd_1 (CallR.or call_int1 call_int_str) fun S r O H x d W σ Q rs p q => by
  unfold gInt at q
  split at q
  · rename_i i
    rw [show x = .int i from p]
    exact .inl (.inl ⟨i, rfl, q S r H _ (Ext.refl _ _) rs rfl⟩)
  · rename_i b
    rw [show x = .bl b from p]
    exact .inl (.inr ⟨b, rfl, q S r H _ (Ext.refl _ _) rs rfl⟩)
  · rename_i s
    rw [show x = .str s from p]
    split at q
    · rename_i hl
      split at q
      · rename_i n hn
        exact .inr ⟨s, n, rfl, hn, hl, q S r H _ (Ext.refl _ _) rs rfl⟩
      · exact q.elim
    · exact q.elim
  · exact q.elim
theorem cd_abs : CallD X ad (.builtin "abs") (g1 gAbs) := cd_1 call_abs fun S r O H x d W σ Q rs p q => by
  unfold gAbs at q
  split at q
  · rename_i i
    rw [show x = .int i from p]
    exact ⟨i, rfl, q S r H _ (Ext.refl _ _) rs rfl⟩
  · exact q.elim
theorem cd_max2 (hc : X.calm = true) : CallD X ad (.builtin "max") (g2 gMax2) := cd_2 (call_max2 hc) fun S r O H x y d e W σ Q rs p1 p2 q => by
  unfold gMax2 at q
  split at q
  · rename_i i j
    rw [show x = .int i from p1, show y = .int j from p2]
    exact ⟨i, j, rfl, q S r H _ (Ext.refl _ _) rs rfl⟩
  · exact q.elim
theorem cd_min2 (hc : X.calm = true) : CallD X ad (.builtin "min") (g2 gMin2) := cd_2 (call_min2 hc) fun S r O H x y d e W σ Q rs p1 p2 q => by
  unfold gMin2 at q
  split at q
  · rename_i i j
    rw [show x = .int i from p1, show y = .int j from p2]
    exact ⟨i, j, rfl, q S r H _ (Ext.refl _ _) rs rfl⟩
  · exact q.elim
theorem cd_str : CallD X ad (.type "str") (g1 gStr) := cd_1 (CallR.or call_str_int SkE.call_str_str) fun S r O H x d W σ Q rs p q => by
  unfold gStr at q
  split at q
  · rename_i i
    rw [show x = .int i from p]
    split at q
    · rename_i hl
      exact .inl ⟨i, rfl, hl, q S r H _ (Ext.refl _ _) rs rfl⟩
    · exact q.elim
  · rename_i i
    rw [show x = .str i from p]
    exact .inr ⟨i, rfl, q S r H _ (Ext.refl _ _) rs rfl⟩
  · exact q.elim
theorem cd_list (h : Bool) : CallD X ad (.type "list") (g1 (gList h)) := cd_1 call_list_of fun S r O H x d W σ Q rs p q => by
  unfold gList at q
  split at q
  · rename_i xs hx
    obtain ⟨a, vs, rfl, h1, h2⟩ := seqOf_ok rs p hx
    rw [ofO_newLO] at q
    exact ⟨a, vs, rfl, h1, (newL_post rs h2 q).2⟩
  · exact q.elim
theorem cd_sum (hc : X.calm = true) : CallD X ad (.builtin "sum") (g1 gSum) := cd_1 (cr_sum hc) fun S r O H x d W σ Q rs p q => by
  unfold gSum at q
  split at q
  · rename_i xs hx
    obtain ⟨a, vs, rfl, h1, h2⟩ := lsqOf_ok rs p hx
    split at q
    · rename_i ns hn
      rw [intsOf_rp h2 hn] at h1
      exact ⟨a, ns, rfl, h1, q S r H _ (Ext.refl _ _) rs rfl⟩
    · exact q.elim
  · exact q.elim
theorem cd_maxL (hc : X.calm = true) : CallD X ad (.builtin "max") (g1 gMaxL) := cd_1 (cr_max hc) fun S r O H x d W σ Q rs p q => by
  unfold gMaxL at q
  split at q
  · rename_i xs hx
    obtain ⟨a, vs, rfl, h1, h2⟩ := lsqOf_ok rs p hx
    split at q
    · rename_i n hn
      obtain ⟨ns, e1, e2⟩ := Option.bind_eq_some_iff.mp hn
      rw [intsOf_rp h2 e1] at h1
      refine ⟨a, ns, rfl, h1, ?_, fun m hm hy => ?_⟩
      · cases ns with
        | nil => cases e2
        | cons z zs => exact Nat.succ_pos _
      · rw [maxI_is e2 hm hy]
        exact q S r H _ (Ext.refl _ _) rs rfl
    · exact q.elim
  · exact q.elim
theorem cd_minL (hc : X.calm = true) : CallD X ad (.builtin "min") (g1 gMinL) := cd_1 (cr_min hc) fun S r O H x d W σ Q rs p q => by
  unfold gMinL at q
  split at q
  · rename_i xs hx
    obtain ⟨a, vs, rfl, h1, h2⟩ := lsqOf_ok rs p hx
    split at q
    · rename_i n hn
      obtain ⟨ns, e1, e2⟩ := Option.bind_eq_some_iff.mp hn
      rw [intsOf_rp h2 e1] at h1
      refine ⟨a, ns, rfl, h1, ?_, fun m hm hy => ?_⟩
      · cases ns with
        | nil => cases e2
        | cons z zs => exact Nat.succ_pos _
      · rw [minI_is e2 hm hy]
        exact q S r H _ (Ext.refl _ _) rs rfl
    · exact q.elim
  · exact q.elim
theorem cd_any (hc : X.calm = true) : CallD X ad (.builtin "any") (g1 gAny) := cd_1 (cr_any hc) fun S r O H x d W σ Q rs p q => by
  unfold gAny at q
  split at q
  · rename_i xs hx
    obtain ⟨a, vs, rfl, h1, h2⟩ := lsqOf_ok rs p hx
    split at q
    · rename_i ns hn
      rw [boolsOf_rp h2 hn] at h1
      exact ⟨a, ns, rfl, h1, q S r H _ (Ext.refl _ _) rs rfl⟩
    · exact q.elim
  · exact q.elim
theorem cd_all (hc : X.calm = true) : CallD X ad (.builtin "all") (g1 gAll) := cd_1 (cr_all hc) fun S r O H x d W σ Q rs p q => by
  unfold gAll at q
  split at q
  · rename_i xs hx
    obtain ⟨a, vs, rfl, h1, h2⟩ := lsqOf_ok rs p hx
    split at q
    · rename_i ns hn
      rw [boolsOf_rp h2 hn] at h1
      exact ⟨a, ns, rfl, h1, q S r H _ (Ext.refl _ _) rs rfl⟩
    · exact q.elim
  · exact q.elim
theorem ud_neg : UnD X ad (unaryOp .USub) (fun O d => match d with | .int i => some (.int (-i), O) | _ => none) where
  ok := by
    refine ⟨_, un_neg, fun S r O H x d W σ Q rs p q => ?_⟩
    split at q
    · rename_i i
      rw [show x = .int i from p]
      exact ⟨i, rfl, q S r H _ (Ext.refl _ _) rs rfl⟩
    · exact q.elim
end
def mNeg (m : EM) : EM := fun L O => (m L O).bind fun d O1 => match d with
  | .int i => .ok (.int (-i)) O1
  | _ => .bad

/-! ### isinstance -/
def tyD (O : Store) : D → Option String
  | .non => some "NoneType"
  | .bl _ => some "bool"
  | .int _ => some "int"
  | .str _ => some "str"
  | .lst _ => some "list"
  | .rol _ => some "list"
  | .tup _ => some "tuple"
  | .hdl n => match O[n]? with
    | some (.lst _) => some "list"
    | some (.dct _) => some "dict"
    | _ => none
/-- isinstance(x, T) -/
def mIsi (T : String) (m : EM) : EM := fun L O => (m L O).bind fun d O1 => match tyD O1 d with
  | some t => match kitB t T with
    | some b => .ok (.bl b) O1
    | none => .bad
  | none => .bad
def kitL (t : String) : List String → Option Bool
  | [] => some false
  | T :: Ts => match kitB t T with
    | some true => some true
    | some false => kitL t Ts
    | none => none
def mIsiT (Ts : List String) (m : EM) : EM := fun L O => (m L O).bind fun d O1 => match tyD O1 d with
  | some t => match kitL t Ts with
    | some b => .ok (.bl b) O1
    | none => .bad
  | none => .bad
section
variable {X : Cx} {ad : Str → Addr} {J : L2.St → Prop} {W : WX} {pos p p2 p3 p4 p5 : Pos} {a b e : Expr} {es : List Expr} {m : EM} {mt : AM}
theorem tyD_ok {S : Hp} {r : Rg} {O : Store} {H : Hp} {d : D} {x : V} {t : String} (rs : Rs X.K ad S r O H) (px : Rp X.K S r d x) (h : tyD O d = some t) : TyX X.K H x (.type t) := by
  cases d with
  | non => cases h; rw [show x = .non from px]; exact .base .non
  | bl b => cases h; rw [show x = .bl b from px]; exact .base (.bl b)
  | int b => cases h; rw [show x = .int b from px]; exact .base (.int b)
  | str b => cases h; rw [show x = .str b from px]; exact .base (.str b)
  | lst s =>
    cases h
    obtain ⟨a, vs, rfl, q, _⟩ := px
    exact .base (.lst (rs.sub _ _ q))
  | rol s =>
    cases h
    obtain ⟨a, vs, rfl, q, _⟩ := px
    rcases sqL_same rs.sub q with (q | ⟨o, q⟩) | ⟨o, its, n, q, c, _⟩
    · exact .base (.lst q)
    · exact .base (.frz q)
    · exact .kList q c
  | tup s =>
    cases h
    obtain ⟨a, vs, rfl, q, _⟩ := px
    rcases sqT_same rs.sub q with (q | ⟨o, q⟩) | ⟨o, its, n, q, c, _⟩
    · exact .base (.tup q)
    · exact .fTuple q
    · exact .kTuple q c
  | hdl n =>
    replace h : (match O[n]? with | some (Ob.lst _) => some "list" | some (Ob.dct _) => some "dict" | _ => none) = some t := h
    split at h
    · rename_i zs e
      cases h
      obtain ⟨a, rfl, _, _, vs, q, _⟩ := hdl_at rs px e
      exact .base (.lst q)
    · rename_i zs e
      cases h
      obtain ⟨a, rfl, _, _, vs, q, _⟩ := hdl_at rs px e
      exact .base (.dK q)
    · cases h
theorem de_isi {T : String} {x : Str} (hg : Gl X "isinstance") (hm : X.mg "isinstance" = none) (hv : bootBuiltins "isinstance" = some (.builtin "isinstance")) (hg2 : Gl X x) (hm2 : X.mg x = none) (hv2 : bootBuiltins x = some (.type T)) (he : PE X e (tE X.K ad J W m))
    (hn : x ≠ "__name__" := by decide) (hd : (x == ("__debug__" : Str)) = false := by decide)
    (hs1 : starEach (e :: [.Name x p2]) X.env = (false, eval e X.env) :: starEach [.Name x p2] X.env := by rfl) (hs2 : starEach (.Name x p2 :: []) X.env = (false, eval (.Name x p2) X.env) :: starEach [] X.env := by rfl)
    (hpl : (backTo pos (starEach [.Name x p2] X.env)).any (·.1) = false := by rfl) : PE X (.Call (.Name "isinstance" p) [e, .Name x p2] [] pos) (tE X.K ad J W (mIsi T m)) := by
  refine pe_imp (pe_callB call_isi hg hm hv (pa_cons he (pa_cons (pe_bltn (v := .ty T) hg2 hm2 hv2 rfl hn hd) pa_nil hs2) hs1) (by decide) (by decide) hs1 hpl) ?_
  rintro σ H Q ⟨S, r, L, O, j, rl, rs, q⟩
  refine ⟨S, r, L, O, j, rl, rs, (Post.bind q).imp ?_⟩
  rintro x H1 ⟨S1, r1, d, O1, e1, s1, p1, q1⟩
  split at q1
  · rename_i t ht
    split at q1
    · rename_i b hb
      exact ⟨x, .ty T, _, .type T, b, rfl, .ty T, tyD_ok s1 p1 ht, kit_ty hb, q1 S1 r1 H1 _ (Ext.refl _ _) s1 rfl⟩
    · exact q1.elim
  · exact q1.elim
/-- the classes written in a tuple -/
inductive TyEs (X : Cx) : List Expr → List String → Prop where
  | nil : TyEs X [] []
  | cons {x : Str} {q : Pos} {T : String} {es : List Expr} {Ts : List String} (hg2 : Gl X x) (hm2 : X.mg x = none) (hv2 : bootBuiltins x = some (.type T)) (hn : x ≠ "__name__") (hd : (x == ("__debug__" : Str)) = false)
      (hs : starEach (.Name x q :: es) X.env = (false, eval (.Name x q) X.env) :: starEach es X.env) (h : TyEs X es Ts) : TyEs X (.Name x q :: es) (T :: Ts)
def tTys (Ts : List String) : TA := fun _ H Q => Q (Ts.map V.ty) H
theorem TyEs.pa {es : List Expr} {Ts : List String} (h : TyEs X es Ts) : PA X es (tTys Ts) := by
  induction h with
  | nil => exact pa_imp pa_nil fun _ _ _ q => q
  | cons hg2 hm2 hv2 hn hd hs h ih => exact pa_imp (pa_cons (pe_bltn (v := .ty _) hg2 hm2 hv2 rfl hn hd) ih hs) fun _ _ _ q => q
theorem kitL_ok {K : PySem.W.Frag} {t : String} : ∀ {Ts : List String} {b : Bool}, kitL t Ts = some b → PySem.W.kitAny K (.type t) (Ts.map Value.type) = some b
  | [], b, h => h
  | T :: Ts, b, h => by
    unfold kitL at h
    split at h
    · rename_i hk
      exact kitAny_cons (kit_ty hk) (fun z => nomatch z) fun _ => (Option.some.inj h).symm
    · rename_i hk
      exact kitAny_cons (kit_ty hk) (fun _ => kitL_ok h) fun z => nomatch z
    · cases h
theorem paired_ty : ∀ Ts : List String, Paired ClsV (Ts.map V.ty) (Ts.map Value.type)
  | [] => .nil
  | T :: Ts => .cons (.ty T) (paired_ty Ts)
theorem de_isiT {Ts : List String} {k : Nat} (hg : Gl X "isinstance") (hm : X.mg "isinstance" = none) (hv : bootBuiltins "isinstance" = some (.builtin "isinstance")) (ht : TyEs X es Ts) (hl : Ts.length ≤ 1000) (he : PE X e (tE X.K ad J W m))
    (hs1 : starEach (e :: [.Tuple es k p2]) X.env = (false, eval e X.env) :: starEach [.Tuple es k p2] X.env := by rfl) (hs2 : starEach (.Tuple es k p2 :: []) X.env = (false, eval (.Tuple es k p2) X.env) :: starEach [] X.env := by rfl)
    (hpl : (backTo pos (starEach [.Tuple es k p2] X.env)).any (·.1) = false := by rfl) : PE X (.Call (.Name "isinstance" p) [e, .Tuple es k p2] [] pos) (tE X.K ad J W (mIsiT Ts m)) := by
  refine pe_imp (pe_callB call_isiT hg hm hv (pa_cons he (pa_cons (pe_tup ht.pa) pa_nil hs2) hs1) (by decide) (by decide) hs1 hpl) ?_
  rintro σ H Q ⟨S, r, L, O, j, rl, rs, q⟩
  refine ⟨S, r, L, O, j, rl, rs, (Post.bind q).imp ?_⟩
  rintro x H1 ⟨S1, r1, d, O1, e1, s1, p1, q1⟩
  refine ⟨by rw [List.length_map]; exact million (by omega), fun tp hp => ?_⟩
  split at q1
  · rename_i t ht
    split at q1
    · rename_i b hb
      have s2 := s1.junk (o := .tup (Ts.map V.ty)) hp
      exact ⟨x, tp, Ts.map V.ty, _, Ts.map Value.type, b, rfl, upd_same, paired_ty Ts, tyD_ok s2 p1 ht, kitL_ok hb, q1 S1 r1 _ _ (Ext.refl _ _) s2 rfl⟩
    · exact q1.elim
  · exact q1.elim
theorem de_neg (ha : PE X a (tE X.K ad J W m)) : PE X (.UnaryOp .USub a pos) (tE X.K ad J W (mNeg m)) := by
  refine pe_imp (pe_un un_neg ha) ?_
  rintro σ H Q ⟨S, r, L, O, j, rl, rs, q⟩
  refine ⟨S, r, L, O, j, rl, rs, (Post.bind q).imp ?_⟩
  rintro x H1 ⟨S1, r1, d, O1, e1, s1, p1, q1⟩
  cases d with
  | int i => exact ⟨i, p1, q1 S1 r1 H1 _ (Ext.refl _ _) s1 rfl⟩
  | non => exact q1.elim
  | bl i => exact q1.elim
  | str s => exact q1.elim
  | lst s => exact q1.elim
  | rol s => exact q1.elim
  | tup s => exact q1.elim
  | hdl s => exact q1.elim
end
end DK
end
section
set_option Elab.async false
set_option linter.all false
set_option autoImplicit false
set_option maxRecDepth 100000
set_option maxHeartbeats 4000000
/-! DKObj: lists that change, objects, exceptions, comprehensions, by mirrors. -/
namespace DK
open PySem L2

/-! ### lists that change -/
/-- xs.append(e), the list one of the store -/
def mApp (m e : EM) : EM := fun L O => (m L O).bind fun x O1 => match x with
  | .hdl n => match lstOf O1 (.hdl n) with
    | some _ => (e L O1).bind fun y O2 => match lstOf O2 (.hdl n) with
      | some xs => if xs.length ≤ 1000000 then .ok .non (O2.set n (.lst (xs ++ [y]))) else .bad
      | none => .bad
    | none => .bad
  | _ => .bad
/-- o[i] = v, the list one of the store -/
def bSubL (mo mi : EM) : BM := fun d L O => match mo L O with
  | .ok (.hdl n) O1 => match mi L O1 with
    | .ok (.int i) O2 => match lstOf O2 (.hdl n) with
      | some xs => match ixN xs.length i with
        | some k => some (L, O2.set n (.lst (xs.set k d)))
        | none => none
      | none => none
    | _ => none
  | _ => none
section
variable {X : Cx} {ad : Str → Addr} {J : L2.St → Prop} {W : WX} {pos p p2 apos cpos : Pos} {a b e o : Expr} {es : List Expr} {m me mo mi : EM} {mt : AM}
theorem hdl_lst {S : Hp} {r : Rg} {O : Store} {H : Hp} {n : Nat} {a : Addr} {xs : List D} (rs : Rs X.K ad S r O H) (hr : r.l[n]? = some a) (h : lstOf O (.hdl n) = some xs) : S a = none ∧ ∃ vs, H a = some (.lst vs) ∧ RpAll X.K S r xs vs := by
  replace h : (match O[n]? with | some (Ob.lst xs) => some xs | _ => none) = some xs := h
  split at h
  · rename_i zs hz
    obtain rfl : zs = xs := Option.some.inj h
    exact rs.ob n a _ hr hz
  · cases h
theorem set_lst {S : Hp} {r : Rg} {O : Store} {H : Hp} {n : Nat} {a : Addr} {vs us : List V} {ys : List D} (rs : Rs X.K ad S r O H) (hr : r.l[n]? = some a) (hz : S a = none) (h : RpAll X.K S r ys us) : Rs X.K ad S r (O.set n (.lst ys)) (upd H a (.lst us)) :=
  rs.write hr hz ⟨hz, us, upd_same, h⟩
theorem de_app (hm : PE X o (tE X.K ad J W m)) (he : PE X e (tE X.K ad J W me)) (hbase : attributeBase o "append" X.env (eval o X.env) = eval o X.env := by rfl)
    (hfew : ((backTo cpos (starEach (e :: []) X.env)).all (fun x => !x.1) && (backToKw cpos (keywordEach [] X.env)).all (fun x => x.1.isSome)
      && decide ((e :: []).length + ([] : List Keyword).length + (if ([] : List Keyword).isEmpty then 0 else 1) < 30)) = true := by rfl)
    (hline : (apos.endLine == cpos.line) = true := by rfl) (hs : starEach (e :: []) X.env = (false, eval e X.env) :: starEach [] X.env := by rfl) (hplain : (backTo cpos (starEach [] X.env)).any (·.1) = false := by rfl) :
    PE X (.Call (.Attribute o "append" apos) [e] [] cpos) (tE X.K ad J W (mApp m me)) := by
  refine pe_imp (pe_bm PySem.F.plainAttrs_list PySem.F.slot_list_append PySem.F.type_list_append mt_append hm (pa_cons he pa_nil hs) hbase hfew hline hs hplain) ?_
  rintro σ H Q ⟨S, r, L, O, j, rl, rs, q⟩
  refine ⟨S, r, L, O, j, rl, rs, (Post.bind q).imp ?_⟩
  rintro x H1 ⟨S1, r1, d, O1, e1, s1, p1, q1⟩
  cases d with
  | hdl n =>
    obtain ⟨l, rfl, hl⟩ := p1
    replace q1 : Post X.K ad (fun S r => Rp X.K S r) W σ S1 r1 Q (match lstOf O1 (.hdl n) with
      | some _ => (me L O1).bind fun y O2 => match lstOf O2 (.hdl n) with
        | some xs => if xs.length ≤ 1000000 then .ok .non (O2.set n (.lst (xs ++ [y]))) else .bad
        | none => .bad
      | none => .bad) := q1
    split at q1
    · rename_i zs hz
      obtain ⟨_, vs, g1, g2⟩ := hdl_lst s1 hl hz
      refine ⟨.inl ⟨rfl, vs, .of g1⟩, S1, r1, L, O1, j, rl.mono e1, s1, (Post.bind q1).imp ?_⟩
      rintro y H2 ⟨S2, r2, d, O2, e2, s2, p2, q2⟩
      have hl2 := pre_get e2.r hl
      replace q2 : Post X.K ad (fun S r => Rp X.K S r) W σ S2 r2 Q (match lstOf O2 (.hdl n) with | some xs => if xs.length ≤ 1000000 then .ok .non (O2.set n (.lst (xs ++ [d]))) else .bad | none => .bad) := q2
      split at q2
      · rename_i xs hx
        obtain ⟨z2, us, g3, g4⟩ := hdl_lst s2 hl2 hx
        split at q2
        · rename_i hlen
          exact ⟨l, us, y, rfl, rfl, g3, by rw [g4.length]; exact million_lt hlen, q2 S2 r2 _ _ (Ext.refl _ _) (set_lst (vs := us) s2 hl2 z2 (g4.append (.cons p2 .nil))) rfl⟩
        · exact q2.elim
      · exact q2.elim
    · exact q1.elim
  | non => exact q1.elim
  | bl i => exact q1.elim
  | int i => exact q1.elim
  | str s => exact q1.elim
  | lst s => exact q1.elim
  | rol s => exact q1.elim
  | tup s => exact q1.elim
theorem dg_subL (ho : PE X o (tE X.K ad J W mo)) (hi : PE X e (tE X.K ad J W mi))
    (ha : ∀ v, assign (.Subscript o e pos) X.env v = (do
      let ov ← holding [v] (eval o X.env)
      let iv ← holding [v, ov] (eval e X.env)
      standAt pos
      holding [v, ov, iv] (setItem ov iv v)
      release [v, ov, iv] []) := by intro _; rfl) : PG X (.Subscript o e pos) (tG X.K ad J (bSubL mo mi)) := by
  refine pg_imp (pg_sub ho hi set_list ha) ?_
  rintro v σ H Q ⟨S, r, L, O, d, j, rl, rs, rp, q⟩
  refine ⟨S, r, L, O, j, rl, rs, ?_⟩
  replace q : PostB X.K ad J S r Q (match mo L O with
    | .ok (.hdl n) O1 => match mi L O1 with
      | .ok (.int i) O2 => match lstOf O2 (.hdl n) with
        | some xs => match ixN xs.length i with
          | some k => some (L, O2.set n (.lst (xs.set k d)))
          | none => none
        | none => none
      | _ => none
    | _ => none) := q
  generalize mo L O = z at q
  cases z with
  | exc x O1 => exact q.elim
  | bad => exact q.elim
  | ok y O1 =>
    intro S1 r1 H1 u e1 s1 p1
    cases y with
    | hdl n =>
      obtain ⟨l, rfl, hl⟩ := p1
      refine ⟨S1, r1, L, O1, j, rl.mono e1, s1, ?_⟩
      replace q : PostB X.K ad J S r Q (match mi L O1 with
        | .ok (.int i) O2 => match lstOf O2 (.hdl n) with
          | some xs => match ixN xs.length i with
            | some k => some (L, O2.set n (.lst (xs.set k d)))
            | none => none
          | none => none
        | _ => none) := q
      generalize mi L O1 = z at q
      cases z with
      | exc x O2 => exact q.elim
      | bad => exact q.elim
      | ok y O2 =>
        intro S2 r2 H2 u2 e2 s2 p2
        cases y with
        | int i =>
          rw [show u2 = .int i from p2]
          have hl2 := pre_get e2.r hl
          replace q : PostB X.K ad J S r Q (match lstOf O2 (.hdl n) with
            | some xs => match ixN xs.length i with
              | some k => some (L, O2.set n (.lst (xs.set k d)))
              | none => none
            | none => none) := q
          split at q
          · rename_i xs hx
            obtain ⟨z2, us, g3, g4⟩ := hdl_lst s2 hl2 hx
            split at q
            · rename_i k hk
              refine ⟨l, us, i, k, rfl, rfl, g3, by rw [g4.length]; exact hk, ?_⟩
              exact q S2 r2 σ _ (e1.trans e2) j (rl.mono (e1.trans e2)) (set_lst (vs := us) s2 hl2 z2 (g4.set k (Rp.mono (e1.trans e2) d v rp)))
            · exact q.elim
          · exact q.elim
        | non => exact q.elim
        | bl i => exact q.elim
        | hdl i => exact q.elim
        | str s => exact q.elim
        | lst s => exact q.elim
        | rol s => exact q.elim
        | tup s => exact q.elim
    | non => exact q.elim
    | bl i => exact q.elim
    | int i => exact q.elim
    | str s => exact q.elim
    | lst s => exact q.elim
    | rol s => exact q.elim
    | tup s => exact q.elim
end
/-- a, b = a list -/
def bLst (n : Nat) (c : BsM) : BM := fun d L O => match lsqOf O d with
  | some ds => if ds.length = n then c ds L O else none
  | none => none
section
variable {X : Cx} {ad : Str → Addr} {J : L2.St → Prop} {W : WX} {pos : Pos} {es : List Expr} {bs : BsM}
theorem dg_lst {k n : Nat} (hc : X.calm = true) (h : PGs X es (tGs X.K ad J bs)) (hn : (assignEach es X.env).length = n := by rfl) (hst : (assignEach es X.env).findIdx? (·.1) = none := by rfl) : PG X (.Tuple es k pos) (tG X.K ad J (bLst n bs)) := by
  refine pg_imp (pg_lst hc h hn hst) ?_
  rintro v σ H Q ⟨S, r, L, O, d, j, rl, rs, rp, q⟩
  replace q : PostB X.K ad J S r Q (match lsqOf O d with | some ds => if ds.length = n then bs ds L O else none | none => none) := q
  split at q
  · rename_i ds hd
    obtain ⟨a, vs, rfl, q1, q2⟩ := lsqOf_ok rs rp hd
    split at q
    · rename_i hl
      exact ⟨a, vs, rfl, q1, by rw [q2.length]; exact hl, S, r, L, O, ds, j, rl, rs, q2, q⟩
    · exact q.elim
  · exact q.elim
end

/-! ### objects -/
def mFld (c f : Str) (m : EM) : EM := fun L O => (m L O).bind fun x O1 => match x with
  | .hdl n => match O1[n]? with
    | some (.ins c' fs) => if c' = c then (match fs.lookup f with
      | some d => .ok d O1
      | none => .bad) else .bad
    | _ => .bad
  | _ => .bad
def putD (f : Str) (d : D) : List (Str × D) → List (Str × D)
  | [] => [(f, d)]
  | (g, e) :: r => if g = f then (g, d) :: r else (g, e) :: putD f d r
/-- o.f = e : the value first -/
def sFldM (c f : Str) (mo mv : EM) : SM := fun L O => ofRes L (mv L O) fun y O1 => ofRes L (mo L O1) fun x O2 => match x with
  | .hdl n => match O2[n]? with
    | some (.ins c' fs) => if c' = c ∧ fs.length < 1000 then .next L (O2.set n (.ins c' (putD f y fs))) else .bad
    | _ => .bad
  | _ => .bad
def mMeth (c m : Str) (f : FM) (dds : List D) (mo : EM) (t : AM) : EM := fun L O => (mo L O).bind fun x O1 => match x with
  | .hdl n => match O1[n]? with
    | some (.ins c' fs) => if c' = c ∧ fs.lookup m = none then (t L O1).bind fun xs O2 => f (.hdl n :: (xs ++ dds)) O2 else .bad
    | _ => .bad
  | _ => .bad
def mMake (c : Str) (f : FM) (dds : List D) (t : AM) : EM := fun L O => (t L O).bind fun xs O1 => (f (.hdl O1.length :: (xs ++ dds)) (O1 ++ [.ins c []])).bind fun d O2 => match d with
  | .non => .ok (.hdl O1.length) O2
  | _ => .bad
section
variable {K : PySem.W.Frag} {S : Hp} {r : Rg}
theorem RpP.lookup {f : Str} : ∀ {fs : List (Str × D)} {gs : List (Str × V)} {d : D}, RpP K S r fs gs → fs.lookup f = some d → ∃ v, gs.lookup f = some v ∧ Rp K S r d v
  | [], gs, d, h, e => by cases e
  | (g, x) :: fs, gs, d, h, e => by
    obtain ⟨v, gr, rfl, h1, h2⟩ := h
    rw [List.lookup_cons] at e ⊢
    cases hb : f == g with
    | true =>
      rw [hb] at e
      cases e
      exact ⟨v, rfl, h1⟩
    | false =>
      rw [hb] at e
      exact RpP.lookup h2 e
theorem RpP.lookup0 {f : Str} : ∀ {fs : List (Str × D)} {gs : List (Str × V)}, RpP K S r fs gs → fs.lookup f = none → gs.lookup f = none
  | [], gs, h, e => by rw [show gs = [] from h]; rfl
  | (g, x) :: fs, gs, h, e => by
    obtain ⟨v, gr, rfl, h1, h2⟩ := h
    rw [List.lookup_cons] at e ⊢
    cases hb : f == g with
    | true => rw [hb] at e; cases e
    | false => rw [hb] at e; exact RpP.lookup0 h2 e
theorem RpP.length {κ : Type} : ∀ {fs : List (κ × D)} {gs : List (κ × V)}, RpP K S r fs gs → gs.length = fs.length
  | [], gs, h => by rw [show gs = [] from h]; rfl
  | (g, x) :: fs, gs, h => by
    obtain ⟨v, gr, rfl, h1, h2⟩ := h
    rw [List.length_cons, List.length_cons, RpP.length h2]
theorem RpP.put {f : Str} {d : D} {v : V} (hv : Rp K S r d v) : ∀ {fs : List (Str × D)} {gs : List (Str × V)}, RpP K S r fs gs → RpP K S r (putD f d fs) (putF f v gs)
  | [], gs, h => by
    rw [show gs = [] from h]
    exact ⟨v, [], rfl, hv, rfl⟩
  | (g, x) :: fs, gs, h => by
    obtain ⟨u, gr, rfl, h1, h2⟩ := h
    unfold putD putF
    split
    · exact ⟨v, gr, rfl, hv, h2⟩
    · exact ⟨u, putF f v gr, rfl, h1, RpP.put hv h2⟩
end
section
variable {X : Cx} {ad : Str → Addr} {J : L2.St → Prop} {W : WX} {pos pos' p p2 apos cpos : Pos} {a b e o : Expr} {es : List Expr} {m me mo mi mv : EM} {mt : AM} {c f : Str}
theorem de_fld (he : PE X e (tE X.K ad J W m)) (hc : Cls X.K (ad c)) (hn : NoAttr X.K (ad c) f) (hb : attributeBase e f X.env (eval e X.env) = eval e X.env := by rfl) : PE X (.Attribute e f pos) (tE X.K ad J W (mFld c f m)) := by
  refine pe_imp (pe_fld he hb) ?_
  rintro σ H Q ⟨S, r, L, O, j, rl, rs, q⟩
  refine ⟨S, r, L, O, j, rl, rs, (Post.bind q).imp ?_⟩
  rintro x H1 ⟨S1, r1, d, O1, e1, s1, p1, q1⟩
  cases d with
  | hdl n =>
    replace q1 : Post X.K ad (fun S r => Rp X.K S r) W σ S1 r1 Q (match O1[n]? with
      | some (.ins c' fs) => if c' = c then (match fs.lookup f with
        | some d => .ok d O1
        | none => .bad) else .bad
      | _ => .bad) := q1
    split at q1
    · rename_i c' fs ho
      split at q1
      · rename_i hcc
        subst hcc
        split at q1
        · rename_i d hd
          obtain ⟨l, rfl, _, _, dx, gs, g1, g2⟩ := hdl_at s1 p1 ho
          obtain ⟨v, hv, pv⟩ := g2.lookup hd
          exact ⟨l, ad c', dx, gs, v, rfl, g1, hc, hn, hv, q1 S1 r1 H1 v (Ext.refl _ _) s1 pv⟩
        · exact q1.elim
      · exact q1.elim
    · exact q1.elim
  | non => exact q1.elim
  | bl i => exact q1.elim
  | int i => exact q1.elim
  | str s => exact q1.elim
  | lst s => exact q1.elim
  | rol s => exact q1.elim
  | tup s => exact q1.elim
theorem ds_fld (ho : PE X o (tE X.K ad J W mo)) (he : PE X e (tE X.K ad J W mv)) (hc : Cls X.K (ad c)) (hn : NoAttr X.K (ad c) f) (hs : swapsWith e (some (.Attribute o f pos')) pos.line X.env = pure false := by rfl) : PS X (.Assign [.Attribute o f pos'] e pos) (tS X.K ad J W (sFldM c f mo mv)) := by
  refine ps_imp (ps_fld ho he hs) ?_
  rintro En σ H ⟨S, r, L, O, j, rl, rs, q⟩
  refine ⟨S, r, L, O, j, rl, rs, (bindS j rl q).imp ?_⟩
  rintro y H1 ⟨S1, r1, dy, O1, e1, s1, p1, q1⟩
  refine ⟨S1, r1, L, O1, j, rl.mono e1, s1, (bindS j (rl.mono e1) q1).imp ?_⟩
  rintro x H2 ⟨S2, r2, d, O2, e2, s2, p2, q2⟩
  cases d with
  | hdl n =>
    replace q2 : PostS X.K ad J W S2 r2 En (match O2[n]? with
      | some (.ins c' fs) => if c' = c ∧ fs.length < 1000 then .next L (O2.set n (.ins c' (putD f dy fs))) else .bad
      | _ => .bad) := q2
    split at q2
    · rename_i c' fs ho
      split at q2
      · rename_i hcc
        obtain ⟨rfl, hl⟩ := hcc
        obtain ⟨l, rfl, hr, hz, dx, gs, g1, g2⟩ := hdl_at s2 p2 ho
        refine ⟨l, ad c', dx, gs, rfl, g1, hc, hn, by rw [g2.length]; exact hl, ?_⟩
        exact q2 S2 r2 σ _ (Ext.refl _ _) j (rl.mono (e1.trans e2)) (s2.write hr hz ⟨hz, dx, _, upd_same, RpP.put (Rp.mono e2 _ _ p1) g2⟩)
      · exact q2.elim
    · exact q2.elim
  | non => exact q2.elim
  | bl i => exact q2.elim
  | int i => exact q2.elim
  | str s => exact q2.elim
  | lst s => exact q2.elim
  | rol s => exact q2.elim
  | tup s => exact q2.elim
/-- a method's call, at the slots -/
theorem meth_run {pins : List (Addr × Obj)} {s : Shared} {σ : L2.St} {H : Hp} {Q : VK} {k : Nat} {g : Addr} {fd : FuncData} {ps : List Str} {sp : Sp} {dvs : List V} {ds : List Value} {E : L2.St → XK} {nm : Str} {C : Addr} {t : TA} {ta : TE} {pl : Sem Bool}
    (he : PE X o ta) (hc : Cls X.K C) (hm : Meth X.K C nm g) (F : FnOk X.prog X.w X.K X.mg X.base (L2.CX X.prog X.w) k g fd ps sp) (hr : Room k X.A) (hb : Binds X.K fd ps ds) (hd : Vals dvs ds) (hx : ∀ σ, PassesAt (L2.CX X.prog X.w) X σ (E σ)) (ha : PA X (e :: es) t)
    (hst : starEach (e :: es) X.env = (false, eval e X.env) :: starEach es X.env) (hpl : (backTo pos (starEach es X.env)).any (·.1) = false)
    (ht : eval (.Call (.Attribute o nm apos) (e :: es) [] pos) X.env = (do
      let ov ← eval o X.env
      standAt apos.atName
      let (f, first) ← holding [ov] (getMethod ov nm pl)
      callWith pos f first (backTo pos (starEach (e :: es) X.env)) (backToKw pos (keywordEach [] X.env))))
    (I : Inv X pins σ H s) (h : ta σ H fun x H1 => ∃ a dx fs, x = .ref a ∧ H1 a = some (.ins C dx fs) ∧ fs.lookup nm = none ∧ t σ H1 fun vs H2 => sp (x :: (vs ++ dvs)) H2 Q (E σ)) :
    wpAny (model X.prog X.w) X.A (eval (.Call (.Attribute o nm apos) (e :: es) [] pos) X.env) (EP X pins σ Q) X.xe s := by
  refine PySem.W.methodCall_KW (pl := pl) (thn (he.run pins s σ H _ I h) ?_) ht
  rintro u s1 ⟨x, H1, I1, rx, a, dx, fs, ex, ea, l, q⟩
  subst ex
  obtain rfl : u = Value.ref a := rx
  refine getmeth_ok I1 ea hc hm l ?_
  refine PySem.W.callWith_K (first := [.ref a]) (h₀ := X.base) I.ok.mod.kin hm.kp (thn (ha.run pos pins s1 σ H1 _ I1 q) ?_) hst hpl
  rintro us s2 ⟨vs, H2, I2, rr, q2⟩
  exact ⟨I2.kIn, run_fnSD (us := .ref a :: us) (vs := .ref a :: vs) F hr hb hd (hx σ) I2 (.cons rfl rr) q2⟩
theorem meth_run0 {pins : List (Addr × Obj)} {s : Shared} {σ : L2.St} {H : Hp} {Q : VK} {k : Nat} {g : Addr} {fd : FuncData} {ps : List Str} {sp : Sp} {dvs : List V} {ds : List Value} {E : L2.St → XK} {nm : Str} {C : Addr} {ta : TE} {pl : Sem Bool}
    (he : PE X o ta) (hc : Cls X.K C) (hm : Meth X.K C nm g) (F : FnOk X.prog X.w X.K X.mg X.base (L2.CX X.prog X.w) k g fd ps sp) (hr : Room k X.A) (hb : Binds X.K fd ps ds) (hd : Vals dvs ds) (hx : ∀ σ, PassesAt (L2.CX X.prog X.w) X σ (E σ))
    (ht : eval (.Call (.Attribute o nm apos) [] [] pos) X.env = (do
      let ov ← eval o X.env
      standAt apos.atName
      let (f, first) ← holding [ov] (getMethod ov nm pl)
      callWith pos f first (backTo pos (starEach [] X.env)) (backToKw pos (keywordEach [] X.env))))
    (I : Inv X pins σ H s) (h : ta σ H fun x H1 => ∃ a dx fs, x = .ref a ∧ H1 a = some (.ins C dx fs) ∧ fs.lookup nm = none ∧ sp (x :: dvs) H1 Q (E σ)) :
    wpAny (model X.prog X.w) X.A (eval (.Call (.Attribute o nm apos) [] [] pos) X.env) (EP X pins σ Q) X.xe s := by
  refine PySem.W.methodCall_KW (pl := pl) (thn (he.run pins s σ H _ I h) ?_) ht
  rintro u s1 ⟨x, H1, I1, rx, a, dx, fs, ex, ea, l, q⟩
  subst ex
  obtain rfl : u = Value.ref a := rx
  refine getmeth_ok I1 ea hc hm l ?_
  exact PySem.W.callWith_K0 (first := [.ref a]) I1.kIn hm.kp (run_fnSD (us := [.ref a]) (vs := [.ref a]) F hr hb hd (hx σ) I1 (.cons rfl .nil) q)
theorem meth_imp {nm : Str} {n : Nat} {fm : FM} {dvs : List V} {dds : List D} (hdd : ∀ S r, RpAll X.K S r dds dvs) : ∀ σ H Q, tE X.K ad J W (mMeth c nm (arity n fm) dds mo mt) σ H Q →
    (tE X.K ad J W mo) σ H fun x H1 => ∃ a dx fs, x = .ref a ∧ H1 a = some (.ins (ad c) dx fs) ∧ fs.lookup nm = none ∧ (tA X.K ad J W mt) σ H1 fun vs H2 => spM X.K ad n fm (x :: (vs ++ dvs)) H2 Q (WE W σ) := by
  rintro σ H Q ⟨S, r, L, O, j, rl, rs, q⟩
  refine ⟨S, r, L, O, j, rl, rs, (Post.bind q).imp ?_⟩
  rintro x H1 ⟨S1, r1, d, O1, e1, s1, p1, q1⟩
  cases d with
  | hdl n' =>
    replace q1 : Post X.K ad (fun S r => Rp X.K S r) W σ S1 r1 Q (match O1[n']? with
      | some (.ins c' fs) => if c' = c ∧ fs.lookup nm = none then (mt L O1).bind fun xs O2 => arity n fm (.hdl n' :: (xs ++ dds)) O2 else .bad
      | _ => .bad) := q1
    split at q1
    · rename_i c' fs ho
      split at q1
      · rename_i hcc
        obtain ⟨rfl, hl⟩ := hcc
        obtain ⟨l, rfl, hr, hz, dx, gs, g1, g2⟩ := hdl_at s1 p1 ho
        refine ⟨l, dx, gs, rfl, g1, g2.lookup0 hl, S1, r1, L, O1, j, rl.mono e1, s1, (Post.bind q1).imp ?_⟩
        rintro vs H2 ⟨S2, r2, ds, O2, e2, s2, p2, q2⟩
        exact spM_ar s2 (.cons (Rp.mono e2 (.hdl n') _ p1) (p2.append (hdd S2 r2))) q2
      · exact q1.elim
    · exact q1.elim
  | non => exact q1.elim
  | bl i => exact q1.elim
  | int i => exact q1.elim
  | str s => exact q1.elim
  | lst s => exact q1.elim
  | rol s => exact q1.elim
  | tup s => exact q1.elim
theorem de_meth {nm : Str} {k n : Nat} {g : Addr} {fd : FuncData} {ps : List Str} {fm : FM} {dvs : List V} {dds : List D} {ds : List Value} {pl : Sem Bool} (he : PE X o (tE X.K ad J W mo)) (hc : Cls X.K (ad c)) (hm : Meth X.K (ad c) nm g) (F : FnOk X.prog X.w X.K X.mg X.base (L2.CX X.prog X.w) k g fd ps (spM X.K ad n fm))
    (hr : Room k X.A) (hb : Binds X.K fd ps ds) (hd : Vals dvs ds) (hdd : ∀ S r, RpAll X.K S r dds dvs) (tk : Takes X W) (ha : PA X (e :: es) (tA X.K ad J W mt))
    (hst : starEach (e :: es) X.env = (false, eval e X.env) :: starEach es X.env := by rfl) (hpl : (backTo pos (starEach es X.env)).any (·.1) = false := by rfl)
    (ht : eval (.Call (.Attribute o nm apos) (e :: es) [] pos) X.env = (do
      let ov ← eval o X.env
      standAt apos.atName
      let (f, first) ← holding [ov] (getMethod ov nm pl)
      callWith pos f first (backTo pos (starEach (e :: es) X.env)) (backToKw pos (keywordEach [] X.env))) := by rfl) :
    PE X (.Call (.Attribute o nm apos) (e :: es) [] pos) (tE X.K ad J W (mMeth c nm (arity n fm) dds mo mt)) :=
  ⟨fun pins s σ H Q I h => meth_run he hc hm F hr hb hd (fun σ => passAt tk σ) ha hst hpl ht I (meth_imp hdd σ H Q h)⟩
theorem de_meth0 {nm : Str} {k n : Nat} {g : Addr} {fd : FuncData} {ps : List Str} {fm : FM} {dvs : List V} {dds : List D} {ds : List Value} {pl : Sem Bool} (he : PE X o (tE X.K ad J W mo)) (hc : Cls X.K (ad c)) (hm : Meth X.K (ad c) nm g) (F : FnOk X.prog X.w X.K X.mg X.base (L2.CX X.prog X.w) k g fd ps (spM X.K ad n fm))
    (hr : Room k X.A) (hb : Binds X.K fd ps ds) (hd : Vals dvs ds) (hdd : ∀ S r, RpAll X.K S r dds dvs) (tk : Takes X W)
    (ht : eval (.Call (.Attribute o nm apos) [] [] pos) X.env = (do
      let ov ← eval o X.env
      standAt apos.atName
      let (f, first) ← holding [ov] (getMethod ov nm pl)
      callWith pos f first (backTo pos (starEach [] X.env)) (backToKw pos (keywordEach [] X.env))) := by rfl) :
    PE X (.Call (.Attribute o nm apos) [] [] pos) (tE X.K ad J W (mMeth c nm (arity n fm) dds mo mNil)) :=
  ⟨fun pins s σ H Q I h => meth_run0 he hc hm F hr hb hd (fun σ => passAt tk σ) ht I (by
    obtain ⟨S, r, L, O, j, rl, rs, q⟩ := meth_imp (mt := mNil) hdd σ H Q h
    refine ⟨S, r, L, O, j, rl, rs, q.imp ?_⟩
    rintro x H1 ⟨a, dx, fs, ex, ea, l, S1, r1, L1, O1, j1, rl1, rs1, q1⟩
    exact ⟨a, dx, fs, ex, ea, l, q1 S1 r1 H1 [] (Ext.refl _ _) rs1 rfl⟩)⟩
/-- an object is made, at the slots -/
theorem make_run {pins : List (Addr × Obj)} {s : Shared} {σ : L2.St} {H : Hp} {Q : VK} {k : Nat} {C g : Addr} {fd : FuncData} {ps : List Str} {sp : Sp} {dvs : List V} {ds : List Value} {E : XK} {us : List Value} {vs : List V} (M : Mk X.K C g) (F : FnOk X.prog X.w X.K X.mg X.base (L2.CX X.prog X.w) k g fd ps sp) (hr : Room (k + 1) X.A)
    (hb : Binds X.K fd ps ds) (hd : Vals dvs ds) (hx : PassesAt (L2.CX X.prog X.w) X σ E) (I : Inv X pins σ H s) (rr : Vals vs us)
    (h : ∀ x dx, H x = none → H dx = none → dx ≠ x → sp (.ref x :: (vs ++ dvs)) (upd (upd H dx (.own x)) x (.ins C dx [])) (fun v H2 => v = .non ∧ Q (.ref x) H2) E) :
    wpAny (model X.prog X.w) X.A (call (.ref C) us) (EP X pins σ Q) X.xe s := by
  let n := s.heap.objs.size
  have I2 := Inv.made (C := C) I
  have hq := h (n + 1) n (I.hok.fresh (Nat.le_succ n)) (I.hok.fresh (Nat.le_refl n)) (Nat.ne_of_lt (Nat.lt_succ_self n))
  have r2 : Vals (V.ref (n + 1) :: (vs ++ dvs)) (Value.ref (n + 1) :: (us ++ ds)) := .cons rfl (rr.append hd)
  have hl : ((Value.ref (n + 1) :: us) ++ ds).length = ps.length := by
    rw [← F.len _ _ _ _ hq]
    exact r2.length.symm
  have inner := F.run _ X.stack _ _ ⟨Value.ref (n + 1) :: us, []⟩ (Value.ref (n + 1) :: (us ++ ds)) _ _ E (hr.make C us []) (I2.env0.make C us []) (hb _ (Value.ref (n + 1) :: us) I2.kIn hl) r2 hq
  refine wpAny_call (make_map (f := g) I.kIn M.makes M.init (beq_iff_eq.mp M.fn) (codeAny_mono inner ?_))
  intro res s' hres
  cases res with
  | error e => exact hx pins _ _ e s' I2 hres
  | ok fl =>
    cases fl with
    | ret u =>
      obtain ⟨v, H', I3, rv, ev, q3⟩ := I2.after hres
      subst ev
      exact ⟨rv, V.ref (n + 1), H', I3, rfl, q3⟩
    | next => exact hres.elim
    | brk => exact hres.elim
    | cont => exact hres.elim
/-- the new object joins the store -/
theorem make_post {n : Nat} {fm : FM} {S : Hp} {r : Rg} {O : Store} {H : Hp} {xs : List D} {vs : List V} {σ : L2.St} {Q : VK} (rs : Rs X.K ad S r O H) (p : RpAll X.K S r xs vs)
    (q : Post X.K ad (fun S r => Rp X.K S r) W σ S r Q ((arity n fm (.hdl O.length :: xs) (O ++ [.ins c []])).bind fun d O2 => match d with | .non => .ok (.hdl O.length) O2 | _ => .bad)) :
    ∀ x dx, H x = none → H dx = none → dx ≠ x → spM X.K ad n fm (.ref x :: vs) (upd (upd H dx (.own x)) x (.ins (ad c) dx [])) (fun v H2 => v = .non ∧ Q (.ref x) H2) (WE W σ) := by
  intro x dx hx hdx hne
  have hx2 : (upd H dx (.own x)) x = none := by rw [upd_ne (Ne.symm hne)]; exact hx
  have s2 : Rs X.K ad S (r.push x) (O ++ [.ins c []]) (upd (upd H dx (.own x)) x (.ins (ad c) dx [])) := (rs.junk hdx).push hx2 ⟨rs.fresh hx, dx, [], upd_same, rfl⟩
  have e2 := Ext.push S r x
  have hself : Rp X.K S (r.push x) (.hdl O.length) (.ref x) := by
    refine ⟨x, rfl, ?_⟩
    show (r.l ++ [x])[O.length]? = some x
    rw [← rs.len, List.getElem?_append_right (Nat.le_refl _)]
    simp
  refine spM_ar (σ := σ) s2 (.cons hself (RpAll.mono e2 _ _ p)) ?_
  refine (Post.bind (Post.mono e2 q)).imp ?_
  rintro v H2 ⟨S3, r3, d, O3, e3, s3, p3, q3⟩
  cases d with
  | non => exact ⟨p3, q3 S3 r3 H2 _ (Ext.refl _ _) s3 (Rp.mono e3 (.hdl O.length) _ hself)⟩
  | hdl i => exact q3.elim
  | bl i => exact q3.elim
  | int i => exact q3.elim
  | str s => exact q3.elim
  | lst s => exact q3.elim
  | rol s => exact q3.elim
  | tup s => exact q3.elim
theorem de_make {x : Str} {k n : Nat} {g : Addr} {fd : FuncData} {ps : List Str} {fm : FM} {dvs : List V} {dds : List D} {ds : List Value} (M : Mk X.K (ad c) g) (F : FnOk X.prog X.w X.K X.mg X.base (L2.CX X.prog X.w) k g fd ps (spM X.K ad n fm)) (hr : Room (k + 1) X.A) (hg : Gl X x) (hm : X.mg x = some (.ref (ad c)))
    (hb : Binds X.K fd ps ds) (hd : Vals dvs ds) (hdd : ∀ S r, RpAll X.K S r dds dvs) (tk : Takes X W) (ha : PA X (e :: es) (tA X.K ad J W mt)) (hdb : (x == ("__debug__" : Str)) = false := by decide)
    (he : starEach (e :: es) X.env = (false, eval e X.env) :: starEach es X.env := by rfl) (hpl : (backTo pos (starEach es X.env)).any (·.1) = false := by rfl) : PE X (.Call (.Name x p) (e :: es) [] pos) (tE X.K ad J W (mMake c (arity n fm) dds mt)) := by
  refine ⟨fun pins s σ H Q I h => ?_⟩
  refine wpAny_Call_Name_kw (ld_glob I hg hm ?_ hdb)
  obtain ⟨S, r, L, O, j, rl, rs, q⟩ := h
  refine PySem.W.callWith_K (h₀ := X.base) I.ok.mod.kin M.kp (thn (ha.run pos pins s σ H _ I ⟨S, r, L, O, j, rl, rs, Post.bind q⟩) ?_) he hpl
  rintro us s1 ⟨vs, H1, I1, rr, S1, r1, ds, O1, e1, s1', p1, q1⟩
  exact ⟨I1.kIn, make_run M F hr hb hd (passAt tk σ) I1 rr (make_post s1' (p1.append (hdd S1 r1)) q1)⟩
theorem de_make0 {x : Str} {k n : Nat} {g : Addr} {fd : FuncData} {ps : List Str} {fm : FM} {dvs : List V} {dds : List D} {ds : List Value} (M : Mk X.K (ad c) g) (F : FnOk X.prog X.w X.K X.mg X.base (L2.CX X.prog X.w) k g fd ps (spM X.K ad n fm)) (hr : Room (k + 1) X.A) (hg : Gl X x) (hm : X.mg x = some (.ref (ad c)))
    (hb : Binds X.K fd ps ds) (hd : Vals dvs ds) (hdd : ∀ S r, RpAll X.K S r dds dvs) (tk : Takes X W) (hdb : (x == ("__debug__" : Str)) = false := by decide) : PE X (.Call (.Name x p) [] [] pos) (tE X.K ad J W (mMake c (arity n fm) dds mNil)) := by
  refine ⟨fun pins s σ H Q I h => ?_⟩
  refine wpAny_Call_Name_kw (ld_glob I hg hm ?_ hdb)
  obtain ⟨S, r, L, O, j, rl, rs, q⟩ := h
  refine PySem.W.callWith_K0 I.kIn M.kp ?_
  exact make_run (us := []) (vs := []) M F hr hb hd (passAt tk σ) I .nil (make_post rs (hdd S r) q)
end
end DK
end
section
set_option Elab.async false
set_option linter.all false
set_option autoImplicit false
set_option maxRecDepth 100000
set_option maxHeartbeats 4000000
/-! DKExc: raise, try, comprehensions, by mirrors. -/
namespace DK
open PySem L2

abbrev WF : WX := fun _ _ _ _ => False
theorem takesF {X : Cx} : Takes X WF := takes0

/-! ### raise, try -/
def sRaise (c : Str) (t : AM) : SM := fun L O => ofRes L (t L O) fun ds O1 => if ds.length ≤ 1000 then .exc ⟨c, none⟩ L O1 else .bad
def sTryAs (subc : Str → Option Bool) (i : Nat) (b : SM) (suite : Str → SM) : SM := fun L O => match b L O with
  | .next L1 O1 => .next L1 O1
  | .ret d O1 => .ret d O1
  | .brk L1 O1 => .brk L1 O1
  | .cnt L1 O1 => .cnt L1 O1
  | .exc ⟨c, none⟩ L1 O1 => match subc c with
    | some true => if i < L1.length then (match suite c (L1.set i none) O1 with
      | .next L2 O2 => .next (L2.set i none) O2
      | .ret d O2 => .ret d O2
      | .brk L2 O2 => .brk (L2.set i none) O2
      | .cnt L2 O2 => .cnt (L2.set i none) O2
      | _ => .bad) else .bad
    | some false => .exc ⟨c, none⟩ L1 O1
    | none => .bad
  | .exc ⟨_, some _⟩ _ _ => .bad
  | .bad => .bad
def sTry (subc : Str → Option Bool) (b : SM) (suite : Str → SM) : SM := fun L O => match b L O with
  | .next L1 O1 => .next L1 O1
  | .ret d O1 => .ret d O1
  | .brk L1 O1 => .brk L1 O1
  | .cnt L1 O1 => .cnt L1 O1
  | .exc ⟨c, none⟩ L1 O1 => match subc c with
    | some true => (match suite c L1 O1 with
      | .next L2 O2 => .next L2 O2
      | .ret d O2 => .ret d O2
      | .brk L2 O2 => .brk L2 O2
      | .cnt L2 O2 => .cnt L2 O2
      | _ => .bad)
    | some false => .exc ⟨c, none⟩ L1 O1
    | none => .bad
  | .exc ⟨_, some _⟩ _ _ => .bad
  | .bad => .bad
abbrev Jx (i : Nat) (a : Addr) : L2.St → Prop := fun σ => σ[i]? = some (some (.ref a))
section
variable {X : Cx} {ad : Str → Addr} {J : L2.St → Prop} {W : WX} {pos pos' p p2 np : Pos} {e : Expr} {es : List Expr} {mt : AM} {c : Str} {body suite : List Stmt} {b0 : Stmt} {sb : SM} {ss : Str → SM}
theorem ds_raise {x : Str} {bmB : List Value} {B newId initId : String} (hc : X.calm = true) (tk : Takes X W) (F : ExcBaseFacts B newId initId bmB) (q : PySem.W.excIn X.K (ad c) bmB newId = true) (gC : X.mg x = some (.ref (ad c))) (kC : PySem.W.keepIn X.K (.ref (ad c)) = true) (r : Raises X (.ref (ad c))) (hg : Gl X x)
    (ha : PA X (e :: es) (tA X.K ad J W mt)) (hdb : (x == ("__debug__" : Str)) = false := by decide) (he : starEach (e :: es) X.env = (false, eval e X.env) :: starEach es X.env := by rfl) (hpl : (backTo p2 (starEach es X.env)).any (·.1) = false := by rfl) :
    PS X (.Raise (some (.Call (.Name x p) (e :: es) [] p2)) none pos) (tS X.K ad J W (sRaise c mt)) := by
  refine ps_imp (ps_raise hc tk (pmk_ownA F q gC kC r hg ha hdb he hpl)) ?_
  rintro En σ H ⟨S, r, L, O, j, rl, rs, z⟩
  refine ⟨S, r, L, O, j, rl, rs, (bindS j rl z).imp ?_⟩
  rintro vs H1 ⟨S1, r1, ds, O1, e1, s1, p1, q1⟩
  replace q1 : PostS X.K ad J W S1 r1 En (if ds.length ≤ 1000 then .exc ⟨c, none⟩ L O1 else .bad) := q1
  split at q1
  · rename_i hl
    exact ⟨by rw [p1.length]; exact million (by omega), q1 S1 r1 σ H1 none (Ext.refl _ _) j (rl.mono e1) s1 rfl⟩
  · exact q1.elim
/-- a statement whose mirror is told by what is at hand -/
theorem pss_ex {α : Type} {st : List Stmt} {P : α → Prop} {t : α → TS} (h : ∀ x, P x → PSs X st (t x)) : PSs X st (fun En σ H => ∃ x, P x ∧ t x En σ H) := ⟨fun pins s σ H En I ⟨x, hp, q⟩ => (h x hp).run pins s σ H En I q⟩
theorem ds_try_as {x n : Str} {i : Nat} {cv : Value} {subc : Str → Option Bool} (hs : X.stack = X.env :: X.outer) (hf : X.env.frame = some X.env.locals) (hN : X.N.Nodup) (hi : X.N[i]? = some n) (hln : X.env.kindOf n = some .local) (hc : Names X x cv) (tk : Takes X W)
    (hsub : ∀ nm b, subc nm = some b → PySem.W.exmOne X.K (.ref (ad nm)) cv = some b)
    (hb : ∀ (W : WX) (pn : List (Addr × Obj)) (xe : Value → Shared → Prop), Takes (X.tr pn xe) W → PassesOwn (model X.prog X.w) X.A X.env xe → PSs (X.tr pn xe) body (tS X.K ad JT W sb))
    (hsu : ∀ (nm : Str) (a : Addr) (oe : Obj) (pn : List (Addr × Obj)), subc nm = some true → Zc (.ref (ad nm)) none oe → (∃ vs, oe.data = .fields vs) → PSs (X.suite a ((a, oe) :: pn)) (b0 :: suite) (tS X.K ad (Jx i a) WF (ss nm))) :
    PS X (.Try body [.ExceptHandler (some (.Name x np)) (some n) (b0 :: suite) pos'] [] [] pos) (tS X.K ad JT W (sTryAs subc i sb ss)) := by
  refine ps_imp (ps_try_as (i := i) (tb := fun W => tS X.K ad JT W sb) (ts := fun a cls d En σ H => ∃ nm : Str, (cls = .ref (ad nm) ∧ d = none ∧ subc nm = some true) ∧ tS X.K ad (Jx i a) WF (ss nm) En σ H) hs hf hN hi hln hc tk hb ?_) ?_
  · intro a oe cls d pn hz hfl
    exact pss_ex fun nm hp => by
      obtain ⟨rfl, rfl, h3⟩ := hp
      exact hsu nm a oe pn h3 hz hfl
  rintro En σ H ⟨S, r, L, O, j, rl, rs, z⟩
  refine ⟨S, r, L, O, j, rl, rs, ?_⟩
  unfold sTryAs at z
  generalize sb L O = y at z
  cases y with
  | next L O => exact z
  | ret L O => exact z
  | brk L O => exact z
  | cnt L O => exact z
  | bad => exact z.elim
  | exc x L1 O1 =>
    obtain ⟨nm, fs⟩ := x
    cases fs with
    | some fs => exact z.elim
    | none =>
      replace z : PostS X.K ad JT W S r En (match subc nm with
        | some true => if i < L1.length then (match ss nm (L1.set i none) O1 with
          | .next L2 O2 => .next (L2.set i none) O2
          | .ret d O2 => .ret d O2
          | .brk L2 O2 => .brk (L2.set i none) O2
          | .cnt L2 O2 => .cnt (L2.set i none) O2
          | _ => .bad) else .bad
        | some false => .exc ⟨nm, none⟩ L1 O1
        | none => .bad) := z
      intro S1 r1 σ1 H1 d e1 j1 l1 s1 hd
      obtain rfl : d = none := hd
      cases hsc : subc nm with
      | none => rw [hsc] at z; exact z.elim
      | some b =>
        rw [hsc] at z
        refine ⟨b, hsub nm b hsc, fun hbt a ha => ?_, fun hbf => ?_⟩
        · subst hbt
          replace z : PostS X.K ad JT W S r En (if i < L1.length then (match ss nm (L1.set i none) O1 with
            | .next L2 O2 => .next (L2.set i none) O2
            | .ret d O2 => .ret d O2
            | .brk L2 O2 => .brk (L2.set i none) O2
            | .cnt L2 O2 => .cnt (L2.set i none) O2
            | _ => .bad) else .bad) := z
          refine ⟨nm, ⟨rfl, rfl, hsc⟩, S1, r1, L1.set i none, O1, ?_, l1.wipe i _, s1, ?_⟩
          · split at z
            · rename_i hil
              exact List.getElem?_set_self (by rw [l1.len]; exact hil)
            · exact z.elim
          · split at z
            · generalize ss nm (L1.set i none) O1 = y at z
              cases y with
              | next L2 O2 => exact fun S2 r2 σ2 H2 e2 j2 l2 s2 => z S2 r2 _ H2 (e1.trans e2) trivial (l2.wipe i none) s2
              | ret d O2 => exact fun S2 r2 H2 v e2 s2 p2 => z S2 r2 H2 v (e1.trans e2) s2 p2
              | brk L2 O2 => exact fun S2 r2 σ2 H2 e2 j2 l2 s2 => z S2 r2 _ H2 (e1.trans e2) trivial (l2.wipe i none) s2
              | cnt L2 O2 => exact fun S2 r2 σ2 H2 e2 j2 l2 s2 => z S2 r2 _ H2 (e1.trans e2) trivial (l2.wipe i none) s2
              | exc x L2 O2 => exact z.elim
              | bad => exact z.elim
            · exact z.elim
        · subst hbf
          exact z S1 r1 σ1 H1 none e1 j1 l1 s1 rfl
theorem ds_try {x : Str} {cv : Value} {subc : Str → Option Bool} (hs : X.stack = X.env :: X.outer) (hf : X.env.frame = some X.env.locals) (hc : Names X x cv) (tk : Takes X W)
    (hsub : ∀ nm b, subc nm = some b → PySem.W.exmOne X.K (.ref (ad nm)) cv = some b)
    (hb : ∀ (W : WX) (pn : List (Addr × Obj)) (xe : Value → Shared → Prop), Takes (X.tr pn xe) W → PassesOwn (model X.prog X.w) X.A X.env xe → PSs (X.tr pn xe) body (tS X.K ad JT W sb))
    (hsu : ∀ (nm : Str) (a : Addr) (oe : Obj) (pn : List (Addr × Obj)), subc nm = some true → Zc (.ref (ad nm)) none oe → (∃ vs, oe.data = .fields vs) → PSs (X.suite a ((a, oe) :: pn)) (b0 :: suite) (tS X.K ad JT WF (ss nm))) :
    PS X (.Try body [.ExceptHandler (some (.Name x np)) none (b0 :: suite) pos'] [] [] pos) (tS X.K ad JT W (sTry subc sb ss)) := by
  refine ps_imp (ps_try_only (tb := fun W => tS X.K ad JT W sb) (ts := fun a cls d En σ H => ∃ nm : Str, (cls = .ref (ad nm) ∧ d = none ∧ subc nm = some true) ∧ tS X.K ad JT WF (ss nm) En σ H) hs hf hc tk hb ?_) ?_
  · intro a oe cls d pn hz hfl
    exact pss_ex fun nm hp => by
      obtain ⟨rfl, rfl, h3⟩ := hp
      exact hsu nm a oe pn h3 hz hfl
  rintro En σ H ⟨S, r, L, O, j, rl, rs, z⟩
  refine ⟨S, r, L, O, j, rl, rs, ?_⟩
  unfold sTry at z
  generalize sb L O = y at z
  cases y with
  | next L O => exact z
  | ret L O => exact z
  | brk L O => exact z
  | cnt L O => exact z
  | bad => exact z.elim
  | exc x L1 O1 =>
    obtain ⟨nm, fs⟩ := x
    cases fs with
    | some fs => exact z.elim
    | none =>
      replace z : PostS X.K ad JT W S r En (match subc nm with
        | some true => (match ss nm L1 O1 with
          | .next L2 O2 => .next L2 O2
          | .ret d O2 => .ret d O2
          | .brk L2 O2 => .brk L2 O2
          | .cnt L2 O2 => .cnt L2 O2
          | _ => .bad)
        | some false => .exc ⟨nm, none⟩ L1 O1
        | none => .bad) := z
      intro S1 r1 σ1 H1 d e1 j1 l1 s1 hd
      obtain rfl : d = none := hd
      cases hsc : subc nm with
      | none => rw [hsc] at z; exact z.elim
      | some b =>
        rw [hsc] at z
        refine ⟨b, hsub nm b hsc, fun hbt a ha => ?_, fun hbf => ?_⟩
        · subst hbt
          refine ⟨nm, ⟨rfl, rfl, hsc⟩, S1, r1, L1, O1, trivial, l1, s1, ?_⟩
          generalize ss nm L1 O1 = y at z
          cases y with
          | next L2 O2 => exact fun S2 r2 σ2 H2 e2 j2 l2 s2 => z S2 r2 _ H2 (e1.trans e2) trivial l2 s2
          | ret d O2 => exact fun S2 r2 H2 v e2 s2 p2 => z S2 r2 H2 v (e1.trans e2) s2 p2
          | brk L2 O2 => exact fun S2 r2 σ2 H2 e2 j2 l2 s2 => z S2 r2 _ H2 (e1.trans e2) trivial l2 s2
          | cnt L2 O2 => exact fun S2 r2 σ2 H2 e2 j2 l2 s2 => z S2 r2 _ H2 (e1.trans e2) trivial l2 s2
          | exc x L2 O2 => exact z.elim
          | bad => exact z.elim
        · subst hbf
          exact z S1 r1 σ1 H1 none e1 j1 l1 s1 rfl
/-- isinstance(e, C) in an except suite, e what is handled -/
theorem de_isE {a : Addr} {oe : Obj} {pn : List (Addr × Obj)} {nm x ex : Str} {i : Nat} {v : V} {cv : Value} {b : Bool} (C : ExcC X.K (ad nm)) (hz : Zc (.ref (ad nm)) none oe) (hf : ∃ vs, oe.data = .fields vs) (hv : PE (X.suite a ((a, oe) :: pn)) (.Name ex p) (tVar i)) (hC : PE (X.suite a ((a, oe) :: pn)) (.Name x p2) (tC v))
    (hcv : ∀ u, RelV v u → u = cv) (hk : PySem.W.kitOne X.K (.ref (ad nm)) cv = some b) (hg : Gl X "isinstance") (hm : X.mg "isinstance" = none) (hbv : bootBuiltins "isinstance" = some (.builtin "isinstance"))
    (hs1 : starEach (.Name ex p :: [.Name x p2]) X.env = (false, eval (.Name ex p) X.env) :: starEach [.Name x p2] X.env := by rfl) (hs2 : starEach (.Name x p2 :: []) X.env = (false, eval (.Name x p2) X.env) :: starEach [] X.env := by rfl)
    (hpl : (backTo pos (starEach [.Name x p2] X.env)).any (·.1) = false := by rfl) :
    PE (X.suite a ((a, oe) :: pn)) (.Call (.Name "isinstance" np) [.Name ex p, .Name x p2] [] pos) (tE X.K ad (Jx i a) WF (mC (.bl b))) := by
  refine pe_imp (pe_callB (X := X.suite a ((a, oe) :: pn)) (call_isE C hz hf) hg hm hbv (pa_cons hv (pa_cons hC pa_nil hs2) hs1) (by decide) (by decide) hs1 hpl) ?_
  rintro σ H Q ⟨S, r, L, O, j, rl, rs, q⟩
  exact ⟨.ref a, j, v, cv, b, rfl, hcv, hk, q S r H _ (Ext.refl _ _) rs rfl⟩
end

/-! ### comprehensions -/
def wipeL (L : Loc) : List Nat → Loc
  | [] => L
  | v :: vs => (wipeL L vs).set v none
def lcTurn (vs : List Nat) (b : BM) (tt : TM) (el : EM) (L : Loc) (d : D) (O : Store) (acc : List D) : Option (Store × List D) := match b d (wipeL L vs) O with
  | some p => match tt p.1 p.2 with
    | .ok true O2 => match el p.1 O2 with
      | .ok y O3 => if acc.length ≤ 900000 then some (O3, acc ++ [y]) else none
      | _ => none
    | .ok false O2 => some (O2, acc)
    | _ => none
  | none => none
def lcG (nx : Nat → Store → Option (Option D)) (turn : D → Store → List D → Option (Store × List D)) : Nat → Nat → Store → List D → Option (Store × List D)
  | 0, i, O, acc => match nx i O with
    | some none => some (O, acc)
    | _ => none
  | k + 1, i, O, acc => match nx i O with
    | some none => some (O, acc)
    | some (some d) => match turn d O acc with
      | some p => lcG nx turn k (i + 1) p.1 p.2
      | none => none
    | none => none
def mYes : TM := fun _ O => .ok true O
def lcEnd (h : Bool) : Option (Store × List D) → Res D
  | some p => newL h p.2 p.1
  | none => .bad
/-- over a list -/
def mLcL (h : Bool) (src : EM) (vs : List Nat) (b : BM) (tt : TM) (el : EM) : EM := fun L O => (src L O).bind fun d O1 => match lsqOf O1 d with
  | some xs => lcEnd h (lcG (fun i O => (lsqOf O d).map (·[i]?)) (lcTurn vs b tt el L) xs.length 0 O1 [])
  | none => .bad
def mLcT (h : Bool) (src : EM) (vs : List Nat) (b : BM) (tt : TM) (el : EM) : EM := fun L O => (src L O).bind fun d O1 => match d with
  | .tup xs => lcEnd h (lcG (fun i _ => some xs[i]?) (lcTurn vs b tt el L) xs.length 0 O1 [])
  | _ => .bad
def mLcR1 (h : Bool) (t : AM) (vs : List Nat) (b : BM) (tt : TM) (el : EM) : EM := fun L O => (t L O).bind fun ds O1 => match int1 ds with
  | some j => lcEnd h (lcG (fun i _ => some (rangeD 0 j.toNat)[i]?) (lcTurn vs b tt el L) j.toNat 0 O1 [])
  | none => .bad
def mLcR2 (h : Bool) (t : AM) (vs : List Nat) (b : BM) (tt : TM) (el : EM) : EM := fun L O => (t L O).bind fun ds O1 => match int2 ds with
  | some p => lcEnd h (lcG (fun i _ => some (rangeD p.1 (p.2 - p.1).toNat)[i]?) (lcTurn vs b tt el L) (p.2 - p.1).toNat 0 O1 [])
  | none => .bad
/-- what a block may not touch -/
def Cl (vs : List Nat) (J : L2.St → Prop) : Prop := ∀ (σ : L2.St) (v : V) (i : Nat), i ∈ vs → J σ → J (σ.set i (some v))
section
variable {X : Cx} {ad : Str → Addr} {J : L2.St → Prop} {W : WX} {pos p q : Pos} {a b tg elt iter : Expr} {ifs : List Expr} {m me : EM} {mt : AM} {bm : BM} {tm : TM} {own : List (Str × Nat)} {scope : Scope}
theorem wipe_rl {K : PySem.W.Frag} {S : Hp} {r : Rg} {L : Loc} {σ : L2.St} (h : Rl K S r L σ) : ∀ vs : List Nat, Rl K S r (wipeL L vs) (wipe σ vs)
  | [] => h
  | v :: vs => by
    unfold wipeL wipe
    exact (wipe_rl h vs).wipe v none
theorem wipe_cl {σ0 : L2.St} {vs : List Nat} : Cl vs (fun σ => wipe σ vs = σ0) := fun σ v i hi h => by
  have key : ∀ (vs : List Nat) (σ : L2.St), i ∈ vs → wipe (σ.set i (some v)) vs = wipe σ vs := fun vs => by
    induction vs with
    | nil => intro σ hi; simp at hi
    | cons w ws ih =>
      intro σ hi
      unfold wipe
      by_cases hw : i ∈ ws
      · rw [ih σ hw]
      · have e : i = w := by
          rcases List.mem_cons.mp hi with e | e
          · exact e
          · exact absurd e hw
        subst e
        have comm : ∀ (us : List Nat) (σ : L2.St), i ∉ us → wipe (σ.set i (some v)) us = (wipe σ us).set i (some v) := fun us => by
          induction us with
          | nil => intro σ _; rfl
          | cons u us ih2 =>
            intro σ hu
            unfold wipe
            rw [ih2 σ (fun z => hu (List.mem_cons_of_mem _ z)), List.set_comm _ _ (fun z => hu (by rw [z]; exact List.mem_cons_self))]
        rw [comm ws σ hw, List.set_set]
  show wipe (σ.set i (some v)) vs = σ0
  rw [key vs σ hi]
  exact h
/-- what is told for every J that lets the block's names change -/
def tGx (K : PySem.W.Frag) (ad : Str → Addr) (vs : List Nat) (b : BM) : TG := fun v σ H Q => ∃ J', Cl vs J' ∧ tG K ad J' b v σ H Q
def tTx (K : PySem.W.Frag) (ad : Str → Addr) (vs : List Nat) (m : TM) : TT := fun σ H Q => ∃ J', Cl vs J' ∧ tT K ad J' WF m σ H Q
def tEx (K : PySem.W.Frag) (ad : Str → Addr) (vs : List Nat) (m : EM) : TE := fun σ H Q => ∃ J', Cl vs J' ∧ tE K ad J' WF m σ H Q
theorem gx_of {Y : Cx} {vs : List Nat} (h : ∀ J', Cl vs J' → PG Y tg (tG Y.K ad J' bm)) : PG Y tg (tGx Y.K ad vs bm) := ⟨fun pins s σ H v u Q I r ⟨J', hJ, z⟩ => (h J' hJ).run pins s σ H v u Q I r z⟩
theorem tx_of {Y : Cx} {vs : List Nat} (h : ∀ J', Cl vs J' → PTs Y ifs (tT Y.K ad J' WF tm)) : PTs Y ifs (tTx Y.K ad vs tm) := ⟨fun pins s σ H Q I ⟨J', hJ, z⟩ => (h J' hJ).run pins s σ H Q I z⟩
theorem ex_of {Y : Cx} {vs : List Nat} (h : ∀ J', Cl vs J' → PE Y elt (tE Y.K ad J' WF me)) : PE Y elt (tEx Y.K ad vs me) := ⟨fun pins s σ H Q I ⟨J', hJ, z⟩ => (h J' hJ).run pins s σ H Q I z⟩
theorem dts_nil {Y : Cx} : PTs Y [] (tT Y.K ad J W mYes) := ⟨fun pins s σ H Q I ⟨S, r, L, O, j, rl, rs, z⟩ => pts_nil.run pins s σ H Q I (z S r H true (Ext.refl _ _) rs rfl)⟩
theorem dts_one {Y : Cx} (h : PT Y a (tT Y.K ad J W tm)) : PTs Y [a] (tT Y.K ad J W tm) := pts_one h
/-- a comprehension's loop -/
theorem lc_post {It' : It} {nx : Nat → Store → Option (Option D)} {hm : Bool} {vs : List Nat} {S1 : Hp} {r1 : Rg} {L : Loc} {σ : L2.St} {Q : VK} {k : Nat} {O1 : Store} {H1 : Hp}
    (hgo : ∀ (i : Nat) (S : Hp) (r : Rg) (O : Store) (H : Hp) (d : D), Same S1 S → r1.l <+: r.l → Rs X.K ad S r O H → nx i O = some (some d) → It'.go i H ∧ ∀ x H', It'.yld i H x H' → H' = H ∧ Rp X.K S r d x)
    (hst : ∀ (i : Nat) (S : Hp) (r : Rg) (O : Store) (H : Hp), Same S1 S → r1.l <+: r.l → Rs X.K ad S r O H → nx i O = some none → It'.stop i H)
    (rl : Rl X.K S1 r1 L σ) (rs : Rs X.K ad S1 r1 O1 H1) (z : Post X.K ad (fun S r => Rp X.K S r) W σ S1 r1 Q (lcEnd hm (lcG nx (lcTurn vs bm tm me L) k 0 O1 []))) :
    ∀ Dn, H1 Dn = none → ∃ W' : Nat → Nat → Hp → Prop, (∃ m, W' 0 m (upd H1 Dn (.lst []))) ∧ ∀ i m H, W' i m H →
      (It'.stop i H ∧ Q (.ref Dn) H) ∨ (It'.go i H ∧ ∃ Nx : Hp → Prop, (∀ H', Nx H' → ∃ m', m' < m ∧ W' (i + 1) m' H') ∧ ∀ x H', It'.yld i H x H' → tGx X.K ad vs bm x (wipe σ vs) H' fun σ2 H2 => wipe σ2 vs = wipe σ vs ∧ tTx X.K ad vs tm σ2 H2 fun b H3 =>
        if b = true then tEx X.K ad vs me σ2 H3 fun y H4 => ∃ acc, H4 Dn = some (.lst acc) ∧ acc.length < sizeLine ∧ Nx (upd H4 Dn (.lst (acc ++ [y]))) else Nx H3) := by
  intro Dn hDn
  have hfr : r1.fr Dn = none := rs.fr.free hDn
  have ww : wipe (wipe σ vs) vs = wipe σ vs := by
    have key : ∀ (us : List Nat) (τ : L2.St), (∀ u ∈ us, ∀ w, τ[u]? = some w → w = none) → wipe τ us = τ := fun us => by
      induction us with
      | nil => intro τ _; rfl
      | cons u us ih =>
        intro τ h
        unfold wipe
        rw [ih τ fun u' hu' => h u' (List.mem_cons_of_mem _ hu')]
        refine List.ext_getElem? fun n => ?_
        by_cases hn : u = n
        · subst hn
          by_cases hl : u < τ.length
          · rw [List.getElem?_set_self hl]
            have := h u List.mem_cons_self τ[u] (List.getElem?_eq_getElem hl)
            rw [List.getElem?_eq_getElem hl, this]
          · rw [List.getElem?_eq_none (by rw [List.length_set]; omega), List.getElem?_eq_none (by omega)]
        · rw [List.getElem?_set_ne hn]
    refine key vs _ fun u hu w hw => ?_
    cases w with
    | none => rfl
    | some w => exact absurd hu (wipe_some hw).2
  refine ⟨fun i m H => ∃ S r O acc us, Same S1 S ∧ r1.l <+: r.l ∧ r.fr = r1.fr ∧ Rs X.K ad S (r.at (upd r1.fr Dn (.lst us))) O H ∧ RpAll X.K S r acc us ∧ Post X.K ad (fun S r => Rp X.K S r) W σ S1 r1 Q (lcEnd hm (lcG nx (lcTurn vs bm tm me L) m i O acc)),
    ⟨k, S1, r1, O1, [], [], Same.refl _, List.prefix_rfl, rfl, rs.hold hDn, rfl, z⟩, ?_⟩
  rintro i m H ⟨S, r, O, acc, us, es, el, ef, rs, ra, z⟩
  have fin : nx i O = some none → Post X.K ad (fun S r => Rp X.K S r) W σ S1 r1 Q (lcEnd hm (some (O, acc))) → It'.stop i H ∧ Q (.ref Dn) H := fun hn z => by
    refine ⟨hst i S (r.at (upd r1.fr Dn (.lst us))) O H es el rs hn, ?_⟩
    have rs' : Rs X.K ad S (r.at (upd r.fr Dn (.lst us))) O H := by rw [ef]; exact rs
    obtain ⟨q1, q2, q3, q4⟩ := rs'.unhold (by rw [ef]; exact hfr)
    have e0 : Ext S1 r1 S r := ⟨es, ef, el⟩
    replace z : Post X.K ad (fun S r => Rp X.K S r) W σ S1 r1 Q (newL hm acc O) := z
    unfold newL at z
    split at z
    · cases hm with
      | true =>
        rw [if_pos rfl] at z
        refine z S (r.push Dn) H _ (e0.trans (Ext.push S r Dn)) (q1.pushAt ⟨q3, us, q2, RpAll.mono (Ext.push S r Dn) _ _ ra⟩ q4 (by rw [ef]; exact hfr)) ⟨Dn, rfl, ?_⟩
        show (r.l ++ [Dn])[O.length]? = some Dn
        rw [← q1.len, List.getElem?_append_right (Nat.le_refl _)]
        simp
      | false =>
        rw [if_neg Bool.false_ne_true] at z
        exact z (upd S Dn (.lst us)) r H _ (e0.trans (Ext.new q3)) (q1.sealAt q2 q3 q4 (by rw [ef]; exact hfr)) ⟨Dn, us, rfl, upd_same, RpAll.mono (Ext.new q3) _ _ ra⟩
    · exact z.elim
  have next : ∀ m', m = m' + 1 → ∀ d, nx i O = some (some d) → Post X.K ad (fun S r => Rp X.K S r) W σ S1 r1 Q (lcEnd hm (match lcTurn vs bm tm me L d O acc with | some p => lcG nx (lcTurn vs bm tm me L) m' (i + 1) p.1 p.2 | none => none)) →
      (It'.go i H ∧ ∃ Nx : Hp → Prop, (∀ H', Nx H' → ∃ m'', m'' < m ∧ (∃ S r O acc us, Same S1 S ∧ r1.l <+: r.l ∧ r.fr = r1.fr ∧ Rs X.K ad S (r.at (upd r1.fr Dn (.lst us))) O H' ∧ RpAll X.K S r acc us ∧ Post X.K ad (fun S r => Rp X.K S r) W σ S1 r1 Q (lcEnd hm (lcG nx (lcTurn vs bm tm me L) m'' (i + 1) O acc)))) ∧
        ∀ x H', It'.yld i H x H' → tGx X.K ad vs bm x (wipe σ vs) H' fun σ2 H2 => wipe σ2 vs = wipe σ vs ∧ tTx X.K ad vs tm σ2 H2 fun b H3 =>
          if b = true then tEx X.K ad vs me σ2 H3 fun y H4 => ∃ acc, H4 Dn = some (.lst acc) ∧ acc.length < sizeLine ∧ Nx (upd H4 Dn (.lst (acc ++ [y]))) else Nx H3) := by
    intro m' hm' d hd z
    obtain ⟨g1, g2⟩ := hgo i S (r.at (upd r1.fr Dn (.lst us))) O H d es el rs hd
    refine ⟨g1, _, fun H' hN => ⟨m', by omega, hN⟩, fun x H' hy => ?_⟩
    obtain ⟨rfl, px⟩ := g2 x H' hy
    let rr := r.at (upd r1.fr Dn (.lst us))
    have rlw : Rl X.K S rr (wipeL L vs) (wipe σ vs) := ⟨(wipe_rl rl vs).len, fun n d hn => by
      obtain ⟨v, q1, q2⟩ := (wipe_rl rl vs).at_ n d hn
      exact ⟨v, q1, Rp.monoW (r' := rr) es el d v q2⟩⟩
    refine ⟨fun τ => wipe τ vs = wipe σ vs, wipe_cl, S, rr, wipeL L vs, O, d, ww, rlw, rs, px, ?_⟩
    unfold lcTurn at z
    generalize bm d (wipeL L vs) O = w at z
    cases w with
    | none => exact z.elim
    | some w =>
      intro S2 r2 σ2 H2 e2 j2 l2 s2
      refine ⟨j2, fun τ => wipe τ vs = wipe σ vs, wipe_cl, S2, r2, w.1, w.2, j2, l2, s2, ?_⟩
      replace z : Post X.K ad (fun S r => Rp X.K S r) W σ S1 r1 Q (lcEnd hm (match (match tm w.1 w.2 with
        | .ok true O2 => match me w.1 O2 with
          | .ok y O3 => if acc.length ≤ 900000 then some (O3, acc ++ [y]) else none
          | _ => none
        | .ok false O2 => some (O2, acc)
        | _ => none) with | some p => lcG nx (lcTurn vs bm tm me L) m' (i + 1) p.1 p.2 | none => none)) := z
      generalize tm w.1 w.2 = t at z
      cases t with
      | exc x O3 => exact z.elim
      | bad => exact z.elim
      | ok k O3 =>
        intro S3 r3 H3 k' e3 s3 ek
        obtain rfl : k' = k := ek
        cases k' with
        | false =>
          rw [if_neg Bool.false_ne_true]
          have e23 := e2.trans e3
          have hr3 : r3 = (r3.at r1.fr).at (upd r1.fr Dn (.lst us)) := by
            obtain ⟨l3, f3⟩ := r3
            have : f3 = upd r1.fr Dn (.lst us) := e23.f
            subst this
            rfl
          rw [hr3] at s3
          exact ⟨S3, r3.at r1.fr, O3, acc, us, es.trans e23.s, List.IsPrefix.trans el e23.r, rfl, s3, RpAll.monoW (r := r) (r' := r3.at r1.fr) e23.s e23.r _ _ ra, z⟩
        | true =>
          rw [if_pos rfl]
          refine ⟨fun τ => wipe τ vs = wipe σ vs, wipe_cl, S3, r3, w.1, O3, j2, l2.mono e3, s3, ?_⟩
          replace z : Post X.K ad (fun S r => Rp X.K S r) W σ S1 r1 Q (lcEnd hm (match (match me w.1 O3 with
            | .ok y O3 => if acc.length ≤ 900000 then some (O3, acc ++ [y]) else none
            | _ => none) with | some p => lcG nx (lcTurn vs bm tm me L) m' (i + 1) p.1 p.2 | none => none)) := z
          generalize me w.1 O3 = t at z
          cases t with
          | exc x O3 => exact z.elim
          | bad => exact z.elim
          | ok y O4 =>
            intro S4 r4 H4 v e4 s4 pv
            have e24 := (e2.trans e3).trans e4
            have hr4 : r4 = (r4.at r1.fr).at (upd r1.fr Dn (.lst us)) := by
              obtain ⟨l4, f4⟩ := r4
              have : f4 = upd r1.fr Dn (.lst us) := e24.f
              subst this
              rfl
            rw [hr4] at s4
            replace z : Post X.K ad (fun S r => Rp X.K S r) W σ S1 r1 Q (lcEnd hm (match (if acc.length ≤ 900000 then some (O4, acc ++ [y]) else none) with | some p => lcG nx (lcTurn vs bm tm me L) m' (i + 1) p.1 p.2 | none => none)) := z
            split at z
            · rename_i hacc
              split at hacc
              · rename_i hlen
                cases hacc
                refine ⟨us, s4.fr Dn _ upd_same, by rw [ra.length]; exact million_lt (by omega), S4, r4.at r1.fr, O4, acc ++ [y], us ++ [v], es.trans e24.s, List.IsPrefix.trans el e24.r, rfl, s4.rehold, ?_, z⟩
                exact (RpAll.monoW (r := r) (r' := r4.at r1.fr) e24.s e24.r _ _ ra).append (.cons (Rp.monoW (r := r4) (r' := r4.at r1.fr) (Same.refl _) List.prefix_rfl _ _ pv) .nil)
              · cases hacc
            · exact z.elim
  cases hn : nx i O with
  | none =>
    have e : lcG nx (lcTurn vs bm tm me L) m i O acc = none := by
      cases m with
      | zero => unfold lcG; rw [hn]
      | succ m => unfold lcG; rw [hn]
    rw [e] at z
    exact z.elim
  | some o =>
    cases o with
    | none =>
      have e : lcG nx (lcTurn vs bm tm me L) m i O acc = some (O, acc) := by
        cases m with
        | zero => unfold lcG; rw [hn]
        | succ m => unfold lcG; rw [hn]
      rw [e] at z
      exact .inl (fin hn z)
    | some d =>
      cases m with
      | zero =>
        have e : lcG nx (lcTurn vs bm tm me L) 0 i O acc = none := by unfold lcG; rw [hn]
        rw [e] at z
        exact z.elim
      | succ m =>
        have e : lcG nx (lcTurn vs bm tm me L) (m + 1) i O acc = (match lcTurn vs bm tm me L d O acc with | some p => lcG nx (lcTurn vs bm tm me L) m (i + 1) p.1 p.2 | none => none) := by
          show (match nx i O with | some none => some (O, acc) | some (some d) => (match lcTurn vs bm tm me L d O acc with | some p => lcG nx (lcTurn vs bm tm me L) m (i + 1) p.1 p.2 | none => none) | none => none) = _
          rw [hn]
        rw [e] at z
        exact .inr (next m rfl d hn z)
theorem lcL_imp {hm : Bool} : ∀ σ H Q, (tE X.K ad J W (mLcL hm m (own.map (·.2)) bm tm me)) σ H Q → tLc (iList X.K (tE X.K ad J W m)) (tGx X.K ad (own.map (·.2)) bm) (tTx X.K ad (own.map (·.2)) tm) (tEx X.K ad (own.map (·.2)) me) (own.map (·.2)) σ H Q := by
  rintro σ H Q ⟨S, r, L, O, j, rl, rs, z⟩
  refine ⟨S, r, L, O, j, rl, rs, (Post.bind z).imp ?_⟩
  rintro x H1 ⟨S1, r1, d, O1, e1, s1, p1, q1⟩
  replace q1 : Post X.K ad (fun S r => Rp X.K S r) W σ S1 r1 Q (match lsqOf O1 d with
    | some xs => lcEnd hm (lcG (fun i O => (lsqOf O d).map (·[i]?)) (lcTurn (own.map (·.2)) bm tm me L) xs.length 0 O1 [])
    | none => .bad) := q1
  split at q1
  · rename_i xs hx
    obtain ⟨a, vs, rfl, h1, h2⟩ := lsqOf_ok s1 p1 hx
    refine ⟨a, rfl, ⟨vs, h1⟩, lc_post (fun i S r O H d' es el rs hn => ?_) (fun i S r O H es el rs hn => ?_) (rl.mono e1) s1 q1⟩
    · obtain ⟨ys, hy, e⟩ := Option.map_eq_some_iff.mp (show (lsqOf O d).map (·[i]?) = some (some d') from hn)
      obtain ⟨a', us, ea, g1, g2⟩ := lsqOf_ok rs (Rp.monoW es el d _ p1) hy
      cases ea
      obtain ⟨v, hv, pv⟩ := g2.get e
      exact ⟨⟨us, v, g1, hv⟩, fun x H' hyy => ⟨hyy.1, by rw [Option.some.inj ((hyy.2 us g1).symm.trans hv)]; exact pv⟩⟩
    · obtain ⟨ys, hy, e⟩ := Option.map_eq_some_iff.mp (show (lsqOf O d).map (·[i]?) = some none from hn)
      obtain ⟨a', us, ea, g1, g2⟩ := lsqOf_ok rs (Rp.monoW es el d _ p1) hy
      cases ea
      exact ⟨us, g1, by rw [g2.length]; exact List.getElem?_eq_none_iff.mp e⟩
  · exact q1.elim
theorem de_lcL {hm : Bool} (hc : X.calm = true) (hN : X.N.Nodup) (hi : PE X iter (tE X.K ad J W m)) (ok : BlkOk X.N X.env.scope scope own)
    (hg : ∀ (s : Shared) (H : Hp) (C : Addr) (cl : List (Str × Addr)) (fp : List Addr) (J' : L2.St → Prop), Cl (own.map (·.2)) J' → PG (X.blk s H scope (PySem.compEnvC scope cl C X.env) fp) tg (tG X.K ad J' bm))
    (ht : ∀ (s : Shared) (H : Hp) (C : Addr) (cl : List (Str × Addr)) (fp : List Addr) (J' : L2.St → Prop), Cl (own.map (·.2)) J' → PTs (X.blk s H scope (PySem.compEnvC scope cl C X.env) fp) ifs (tT X.K ad J' WF tm))
    (he : ∀ (s : Shared) (H : Hp) (C : Addr) (cl : List (Str × Addr)) (fp : List Addr) (J' : L2.St → Prop), Cl (own.map (·.2)) J' → PE (X.blk s H scope (PySem.compEnvC scope cl C X.env) fp) elt (tE X.K ad J' WF me)) (hs : ∀ x, foldedSetIterable iter X.env x = pure x := by intro _; rfl) :
    PE X (.ListComp elt [⟨tg, iter, ifs, 0⟩] scope pos) (tE X.K ad J W (mLcL hm m (own.map (·.2)) bm tm me)) :=
  pe_imp (pe_lc hc hN (pi_list hi) ok (g := tGx X.K ad (own.map (·.2)) bm) (tt := tTx X.K ad (own.map (·.2)) tm) (te := tEx X.K ad (own.map (·.2)) me) (fun s H C cl fp => gx_of (hg s H C cl fp)) (fun s H C cl fp => tx_of (ht s H C cl fp)) (fun s H C cl fp => ex_of (he s H C cl fp)) hs) lcL_imp
theorem ds_setLcL {y : Str} {py spos : Pos} {iy : Nat} {hm : Bool} (hc : X.calm = true) (hN : X.N.Nodup) (hi : PE X iter (tE X.K ad J W m)) (ok : BlkOk X.N X.env.scope scope own)
    (hg : ∀ (s : Shared) (H : Hp) (C : Addr) (cl : List (Str × Addr)) (fp : List Addr) (J' : L2.St → Prop), Cl (own.map (·.2)) J' → PG (X.blk s H scope (PySem.compEnvC scope cl C X.env) fp) tg (tG X.K ad J' bm))
    (ht : ∀ (s : Shared) (H : Hp) (C : Addr) (cl : List (Str × Addr)) (fp : List Addr) (J' : L2.St → Prop), Cl (own.map (·.2)) J' → PTs (X.blk s H scope (PySem.compEnvC scope cl C X.env) fp) ifs (tT X.K ad J' WF tm))
    (he : ∀ (s : Shared) (H : Hp) (C : Addr) (cl : List (Str × Addr)) (fp : List Addr) (J' : L2.St → Prop), Cl (own.map (·.2)) J' → PE (X.blk s H scope (PySem.compEnvC scope cl C X.env) fp) elt (tE X.K ad J' WF me)) (hs : ∀ x, foldedSetIterable iter X.env x = pure x := by intro _; rfl) (hy : X.N[iy]? = some y) (hyl : X.env.scope.names.lookup y = some .local) (hsw : swapsWith (.ListComp elt [⟨tg, iter, ifs, 0⟩] scope pos) (some (.Name y py)) spos.line X.env = pure true) (hJ : ∀ σ v, J σ → J (σ.set iy v) := by intro _ _ _; trivial) :
    PS X (.Assign [.Name y py] (.ListComp elt [⟨tg, iter, ifs, 0⟩] scope pos) spos) (tS X.K ad J W (sAsg (mLcL hm m (own.map (·.2)) bm tm me) (bName iy))) := by
  refine ps_imp (ps_setLc hc hN hy hyl hsw (pi_list hi) ok (g := tGx X.K ad (own.map (·.2)) bm) (tt := tTx X.K ad (own.map (·.2)) tm) (te := tEx X.K ad (own.map (·.2)) me) (fun s H C cl fp => gx_of (hg s H C cl fp)) (fun s H C cl fp => tx_of (ht s H C cl fp)) (fun s H C cl fp => ex_of (he s H C cl fp)) hs) ?_
  rintro En σ H h
  refine lcL_imp (hm := hm) (W := W) (J := J) σ H _ ?_
  refine asg_imp (t := gName iy) ?_ En σ H h
  rintro v σ H Q ⟨S, r, L, O, d, j, rl, rs, rp, p⟩
  exact p S r _ H (Ext.refl _ _) (hJ _ _ j) (rl.set iy rp) rs
theorem lcT_imp {hm : Bool} : ∀ σ H Q, (tE X.K ad J W (mLcT hm m (own.map (·.2)) bm tm me)) σ H Q → tLc (iTup X.K (tE X.K ad J W m)) (tGx X.K ad (own.map (·.2)) bm) (tTx X.K ad (own.map (·.2)) tm) (tEx X.K ad (own.map (·.2)) me) (own.map (·.2)) σ H Q := by
  rintro σ H Q ⟨S, r, L, O, j, rl, rs, z⟩
  refine ⟨S, r, L, O, j, rl, rs, (Post.bind z).imp ?_⟩
  rintro x H1 ⟨S1, r1, d, O1, e1, s1, p1, q1⟩
  cases d with
  | tup xs =>
    obtain ⟨a, vs, rfl, h1, h2⟩ := p1
    refine ⟨a, rfl, ⟨vs, sqT_same s1.sub h1⟩, lc_post (nx := fun i _ => some xs[i]?) (fun i S r O H d' es el rs hn => ?_) (fun i S r O H es el rs hn => ?_) (rl.mono e1) s1 q1⟩
    · have g1 : SqT X.K H a vs := sqT_same rs.sub (sqT_same es h1)
      obtain ⟨v, hv, pv⟩ := (RpAll.monoW es el _ _ h2).get (Option.some.inj hn)
      exact ⟨⟨vs, v, g1, hv⟩, fun x H' hyy => ⟨hyy.1, by rw [Option.some.inj ((hyy.2 vs g1).symm.trans hv)]; exact pv⟩⟩
    · exact ⟨vs, sqT_same rs.sub (sqT_same es h1), by rw [h2.length]; exact List.getElem?_eq_none_iff.mp (Option.some.inj hn)⟩
  | hdl n => exact q1.elim
  | lst n => exact q1.elim
  | rol n => exact q1.elim
  | non => exact q1.elim
  | bl b => exact q1.elim
  | int i => exact q1.elim
  | str s => exact q1.elim
theorem de_lcT {hm : Bool} (hc : X.calm = true) (hN : X.N.Nodup) (hi : PE X iter (tE X.K ad J W m)) (ok : BlkOk X.N X.env.scope scope own)
    (hg : ∀ (s : Shared) (H : Hp) (C : Addr) (cl : List (Str × Addr)) (fp : List Addr) (J' : L2.St → Prop), Cl (own.map (·.2)) J' → PG (X.blk s H scope (PySem.compEnvC scope cl C X.env) fp) tg (tG X.K ad J' bm))
    (ht : ∀ (s : Shared) (H : Hp) (C : Addr) (cl : List (Str × Addr)) (fp : List Addr) (J' : L2.St → Prop), Cl (own.map (·.2)) J' → PTs (X.blk s H scope (PySem.compEnvC scope cl C X.env) fp) ifs (tT X.K ad J' WF tm))
    (he : ∀ (s : Shared) (H : Hp) (C : Addr) (cl : List (Str × Addr)) (fp : List Addr) (J' : L2.St → Prop), Cl (own.map (·.2)) J' → PE (X.blk s H scope (PySem.compEnvC scope cl C X.env) fp) elt (tE X.K ad J' WF me)) (hs : ∀ x, foldedSetIterable iter X.env x = pure x := by intro _; rfl) :
    PE X (.ListComp elt [⟨tg, iter, ifs, 0⟩] scope pos) (tE X.K ad J W (mLcT hm m (own.map (·.2)) bm tm me)) :=
  pe_imp (pe_lc hc hN (pi_tup hi) ok (g := tGx X.K ad (own.map (·.2)) bm) (tt := tTx X.K ad (own.map (·.2)) tm) (te := tEx X.K ad (own.map (·.2)) me) (fun s H C cl fp => gx_of (hg s H C cl fp)) (fun s H C cl fp => tx_of (ht s H C cl fp)) (fun s H C cl fp => ex_of (he s H C cl fp)) hs) lcT_imp
theorem ds_setLcT {y : Str} {py spos : Pos} {iy : Nat} {hm : Bool} (hc : X.calm = true) (hN : X.N.Nodup) (hi : PE X iter (tE X.K ad J W m)) (ok : BlkOk X.N X.env.scope scope own)
    (hg : ∀ (s : Shared) (H : Hp) (C : Addr) (cl : List (Str × Addr)) (fp : List Addr) (J' : L2.St → Prop), Cl (own.map (·.2)) J' → PG (X.blk s H scope (PySem.compEnvC scope cl C X.env) fp) tg (tG X.K ad J' bm))
    (ht : ∀ (s : Shared) (H : Hp) (C : Addr) (cl : List (Str × Addr)) (fp : List Addr) (J' : L2.St → Prop), Cl (own.map (·.2)) J' → PTs (X.blk s H scope (PySem.compEnvC scope cl C X.env) fp) ifs (tT X.K ad J' WF tm))
    (he : ∀ (s : Shared) (H : Hp) (C : Addr) (cl : List (Str × Addr)) (fp : List Addr) (J' : L2.St → Prop), Cl (own.map (·.2)) J' → PE (X.blk s H scope (PySem.compEnvC scope cl C X.env) fp) elt (tE X.K ad J' WF me)) (hs : ∀ x, foldedSetIterable iter X.env x = pure x := by intro _; rfl) (hy : X.N[iy]? = some y) (hyl : X.env.scope.names.lookup y = some .local) (hsw : swapsWith (.ListComp elt [⟨tg, iter, ifs, 0⟩] scope pos) (some (.Name y py)) spos.line X.env = pure true) (hJ : ∀ σ v, J σ → J (σ.set iy v) := by intro _ _ _; trivial) :
    PS X (.Assign [.Name y py] (.ListComp elt [⟨tg, iter, ifs, 0⟩] scope pos) spos) (tS X.K ad J W (sAsg (mLcT hm m (own.map (·.2)) bm tm me) (bName iy))) := by
  refine ps_imp (ps_setLc hc hN hy hyl hsw (pi_tup hi) ok (g := tGx X.K ad (own.map (·.2)) bm) (tt := tTx X.K ad (own.map (·.2)) tm) (te := tEx X.K ad (own.map (·.2)) me) (fun s H C cl fp => gx_of (hg s H C cl fp)) (fun s H C cl fp => tx_of (ht s H C cl fp)) (fun s H C cl fp => ex_of (he s H C cl fp)) hs) ?_
  rintro En σ H h
  refine lcT_imp (hm := hm) (W := W) (J := J) σ H _ ?_
  refine asg_imp (t := gName iy) ?_ En σ H h
  rintro v σ H Q ⟨S, r, L, O, d, j, rl, rs, rp, p⟩
  exact p S r _ H (Ext.refl _ _) (hJ _ _ j) (rl.set iy rp) rs
theorem lc_range {hm : Bool} {vs : List Nat} {lo : Int} {n : Nat} {S1 : Hp} {r1 : Rg} {L : Loc} {σ : L2.St} {Q : VK} {O1 : Store} {H1 : Hp} (rl : Rl X.K S1 r1 L σ) (rs : Rs X.K ad S1 r1 O1 H1) (z : Post X.K ad (fun S r => Rp X.K S r) W σ S1 r1 Q (lcEnd hm (lcG (fun i _ => some (rangeD lo n)[i]?) (lcTurn vs bm tm me L) n 0 O1 []))) :
    ∀ Dn, H1 Dn = none → ∃ W' : Nat → Nat → Hp → Prop, (∃ m, W' 0 m (upd H1 Dn (.lst []))) ∧ ∀ i m H, W' i m H →
      ((Itr lo n).stop i H ∧ Q (.ref Dn) H) ∨ ((Itr lo n).go i H ∧ ∃ Nx : Hp → Prop, (∀ H', Nx H' → ∃ m', m' < m ∧ W' (i + 1) m' H') ∧ ∀ x H', (Itr lo n).yld i H x H' → tGx X.K ad vs bm x (wipe σ vs) H' fun σ2 H2 => wipe σ2 vs = wipe σ vs ∧ tTx X.K ad vs tm σ2 H2 fun b H3 =>
        if b = true then tEx X.K ad vs me σ2 H3 fun y H4 => ∃ acc, H4 Dn = some (.lst acc) ∧ acc.length < sizeLine ∧ Nx (upd H4 Dn (.lst (acc ++ [y]))) else Nx H3) := by
  have hl : (rangeD lo n).length = n := by unfold rangeD; rw [List.length_map, List.length_range]
  refine lc_post (It' := Itr lo n) (nx := fun i _ => some (rangeD lo n)[i]?) (fun i S r O H d' es el rs hn => ?_) (fun i S r O H es el rs hn => ?_) rl rs z
  · have hn' : (rangeD lo n)[i]? = some d' := Option.some.inj hn
    have hi : i < n := by rw [← hl]; exact (List.getElem?_eq_some_iff.mp hn').1
    refine ⟨hi, fun x H' hy => ⟨hy.1, ?_⟩⟩
    unfold rangeD at hn'
    rw [List.getElem?_map, List.getElem?_range hi] at hn'
    cases hn'
    exact hy.2
  · have := List.getElem?_eq_none_iff.mp (Option.some.inj hn)
    rw [hl] at this
    exact this
theorem lcR1_imp {hm : Bool} : ∀ σ H Q, (tE X.K ad J W (mLcR1 hm mt (own.map (·.2)) bm tm me)) σ H Q → tLc (iRng1 (tA X.K ad J W mt)) (tGx X.K ad (own.map (·.2)) bm) (tTx X.K ad (own.map (·.2)) tm) (tEx X.K ad (own.map (·.2)) me) (own.map (·.2)) σ H Q := by
  rintro σ H Q ⟨S, r, L, O, j, rl, rs, z⟩
  refine ⟨S, r, L, O, j, rl, rs, (Post.bind z).imp ?_⟩
  rintro vs H1 ⟨S1, r1, ds, O1, e1, s1, p1, q1⟩
  have q2 : Post X.K ad (fun S r => Rp X.K S r) W σ S1 r1 Q (match int1 ds with | some j => lcEnd hm (lcG (fun i _ => some (rangeD 0 j.toNat)[i]?) (lcTurn (own.map (·.2)) bm tm me L) j.toNat 0 O1 []) | none => .bad) := q1
  clear q1
  revert q2
  cases hj : int1 ds with
  | none => exact fun z => z.elim
  | some jj =>
    intro q1
    obtain ⟨rfl, b1, b2⟩ := int1_ok hj
    obtain ⟨v, vr, rfl, rfl, rfl⟩ := p1
    exact ⟨jj, rfl, by omega, by omega, lc_range (rl.mono e1) s1 q1⟩
theorem de_lcR1 {hm : Bool} {p q : Pos} (hc : X.calm = true) (hN : X.N.Nodup) (hg0 : Gl X "range") (hmr : X.mg "range" = none) (ha : PA X [a] (tA X.K ad J W mt)) (ok : BlkOk X.N X.env.scope scope own)
    (hg : ∀ (s : Shared) (H : Hp) (C : Addr) (cl : List (Str × Addr)) (fp : List Addr) (J' : L2.St → Prop), Cl (own.map (·.2)) J' → PG (X.blk s H scope (PySem.compEnvC scope cl C X.env) fp) tg (tG X.K ad J' bm))
    (ht : ∀ (s : Shared) (H : Hp) (C : Addr) (cl : List (Str × Addr)) (fp : List Addr) (J' : L2.St → Prop), Cl (own.map (·.2)) J' → PTs (X.blk s H scope (PySem.compEnvC scope cl C X.env) fp) ifs (tT X.K ad J' WF tm))
    (he : ∀ (s : Shared) (H : Hp) (C : Addr) (cl : List (Str × Addr)) (fp : List Addr) (J' : L2.St → Prop), Cl (own.map (·.2)) J' → PE (X.blk s H scope (PySem.compEnvC scope cl C X.env) fp) elt (tE X.K ad J' WF me))
    (hs0 : starEach [a] X.env = [(false, eval a X.env)] := by rfl) (hs : ∀ x, foldedSetIterable (.Call (.Name "range" p) [a] [] q) X.env x = pure x := by intro _; rfl) :
    PE X (.ListComp elt [⟨tg, .Call (.Name "range" p) [a] [] q, ifs, 0⟩] scope pos) (tE X.K ad J W (mLcR1 hm mt (own.map (·.2)) bm tm me)) :=
  pe_imp (pe_lc hc hN (pi_range1 hg0 hmr ha hs0) ok (g := tGx X.K ad (own.map (·.2)) bm) (tt := tTx X.K ad (own.map (·.2)) tm) (te := tEx X.K ad (own.map (·.2)) me) (fun s H C cl fp => gx_of (hg s H C cl fp)) (fun s H C cl fp => tx_of (ht s H C cl fp)) (fun s H C cl fp => ex_of (he s H C cl fp)) hs) lcR1_imp
theorem ds_setLcR1 {y : Str} {py spos : Pos} {iy : Nat} {hm : Bool} {p q : Pos} (hc : X.calm = true) (hN : X.N.Nodup) (hg0 : Gl X "range") (hmr : X.mg "range" = none) (ha : PA X [a] (tA X.K ad J W mt)) (ok : BlkOk X.N X.env.scope scope own)
    (hg : ∀ (s : Shared) (H : Hp) (C : Addr) (cl : List (Str × Addr)) (fp : List Addr) (J' : L2.St → Prop), Cl (own.map (·.2)) J' → PG (X.blk s H scope (PySem.compEnvC scope cl C X.env) fp) tg (tG X.K ad J' bm))
    (ht : ∀ (s : Shared) (H : Hp) (C : Addr) (cl : List (Str × Addr)) (fp : List Addr) (J' : L2.St → Prop), Cl (own.map (·.2)) J' → PTs (X.blk s H scope (PySem.compEnvC scope cl C X.env) fp) ifs (tT X.K ad J' WF tm))
    (he : ∀ (s : Shared) (H : Hp) (C : Addr) (cl : List (Str × Addr)) (fp : List Addr) (J' : L2.St → Prop), Cl (own.map (·.2)) J' → PE (X.blk s H scope (PySem.compEnvC scope cl C X.env) fp) elt (tE X.K ad J' WF me))
    (hs0 : starEach [a] X.env = [(false, eval a X.env)] := by rfl) (hs : ∀ x, foldedSetIterable (.Call (.Name "range" p) [a] [] q) X.env x = pure x := by intro _; rfl) (hy : X.N[iy]? = some y) (hyl : X.env.scope.names.lookup y = some .local) (hsw : swapsWith (.ListComp elt [⟨tg, .Call (.Name "range" p) [a] [] q, ifs, 0⟩] scope pos) (some (.Name y py)) spos.line X.env = pure true) (hJ : ∀ σ v, J σ → J (σ.set iy v) := by intro _ _ _; trivial) :
    PS X (.Assign [.Name y py] (.ListComp elt [⟨tg, .Call (.Name "range" p) [a] [] q, ifs, 0⟩] scope pos) spos) (tS X.K ad J W (sAsg (mLcR1 hm mt (own.map (·.2)) bm tm me) (bName iy))) := by
  refine ps_imp (ps_setLc hc hN hy hyl hsw (pi_range1 hg0 hmr ha hs0) ok (g := tGx X.K ad (own.map (·.2)) bm) (tt := tTx X.K ad (own.map (·.2)) tm) (te := tEx X.K ad (own.map (·.2)) me) (fun s H C cl fp => gx_of (hg s H C cl fp)) (fun s H C cl fp => tx_of (ht s H C cl fp)) (fun s H C cl fp => ex_of (he s H C cl fp)) hs) ?_
  rintro En σ H h
  refine lcR1_imp (hm := hm) (W := W) (J := J) σ H _ ?_
  refine asg_imp (t := gName iy) ?_ En σ H h
  rintro v σ H Q ⟨S, r, L, O, d, j, rl, rs, rp, p⟩
  exact p S r _ H (Ext.refl _ _) (hJ _ _ j) (rl.set iy rp) rs
theorem lcR2_imp {hm : Bool} : ∀ σ H Q, (tE X.K ad J W (mLcR2 hm mt (own.map (·.2)) bm tm me)) σ H Q → tLc (iRng2 (tA X.K ad J W mt)) (tGx X.K ad (own.map (·.2)) bm) (tTx X.K ad (own.map (·.2)) tm) (tEx X.K ad (own.map (·.2)) me) (own.map (·.2)) σ H Q := by
  rintro σ H Q ⟨S, r, L, O, j, rl, rs, z⟩
  refine ⟨S, r, L, O, j, rl, rs, (Post.bind z).imp ?_⟩
  rintro vs H1 ⟨S1, r1, ds, O1, e1, s1, p1, q1⟩
  have q2 : Post X.K ad (fun S r => Rp X.K S r) W σ S1 r1 Q (match int2 ds with | some p => lcEnd hm (lcG (fun i _ => some (rangeD p.1 (p.2 - p.1).toNat)[i]?) (lcTurn (own.map (·.2)) bm tm me L) (p.2 - p.1).toNat 0 O1 []) | none => .bad) := q1
  clear q1
  revert q2
  cases hj : int2 ds with
  | none => exact fun z => z.elim
  | some jj =>
    intro q1
    obtain ⟨rfl, ⟨b1, b2⟩, b3, b4⟩ := int2_ok hj
    obtain ⟨v, vr, rfl, rfl, u, ur, rfl, rfl, rfl⟩ := p1
    exact ⟨jj.1, jj.2, rfl, ⟨by omega, by omega, by omega, by omega⟩, lc_range (rl.mono e1) s1 q1⟩
theorem de_lcR2 {hm : Bool} {p q : Pos} (hc : X.calm = true) (hN : X.N.Nodup) (hg0 : Gl X "range") (hmr : X.mg "range" = none) (ha : PA X [a, b] (tA X.K ad J W mt)) (ok : BlkOk X.N X.env.scope scope own)
    (hg : ∀ (s : Shared) (H : Hp) (C : Addr) (cl : List (Str × Addr)) (fp : List Addr) (J' : L2.St → Prop), Cl (own.map (·.2)) J' → PG (X.blk s H scope (PySem.compEnvC scope cl C X.env) fp) tg (tG X.K ad J' bm))
    (ht : ∀ (s : Shared) (H : Hp) (C : Addr) (cl : List (Str × Addr)) (fp : List Addr) (J' : L2.St → Prop), Cl (own.map (·.2)) J' → PTs (X.blk s H scope (PySem.compEnvC scope cl C X.env) fp) ifs (tT X.K ad J' WF tm))
    (he : ∀ (s : Shared) (H : Hp) (C : Addr) (cl : List (Str × Addr)) (fp : List Addr) (J' : L2.St → Prop), Cl (own.map (·.2)) J' → PE (X.blk s H scope (PySem.compEnvC scope cl C X.env) fp) elt (tE X.K ad J' WF me))
    (hs0 : starEach [a, b] X.env = [(false, eval a X.env), (false, eval b X.env)] := by rfl) (hs2 : starEach [b] X.env = [(false, eval b X.env)] := by rfl) (hs : ∀ x, foldedSetIterable (.Call (.Name "range" p) [a, b] [] q) X.env x = pure x := by intro _; rfl) :
    PE X (.ListComp elt [⟨tg, .Call (.Name "range" p) [a, b] [] q, ifs, 0⟩] scope pos) (tE X.K ad J W (mLcR2 hm mt (own.map (·.2)) bm tm me)) :=
  pe_imp (pe_lc hc hN (pi_range2 hg0 hmr ha hs0 hs2) ok (g := tGx X.K ad (own.map (·.2)) bm) (tt := tTx X.K ad (own.map (·.2)) tm) (te := tEx X.K ad (own.map (·.2)) me) (fun s H C cl fp => gx_of (hg s H C cl fp)) (fun s H C cl fp => tx_of (ht s H C cl fp)) (fun s H C cl fp => ex_of (he s H C cl fp)) hs) lcR2_imp
theorem ds_setLcR2 {y : Str} {py spos : Pos} {iy : Nat} {hm : Bool} {p q : Pos} (hc : X.calm = true) (hN : X.N.Nodup) (hg0 : Gl X "range") (hmr : X.mg "range" = none) (ha : PA X [a, b] (tA X.K ad J W mt)) (ok : BlkOk X.N X.env.scope scope own)
    (hg : ∀ (s : Shared) (H : Hp) (C : Addr) (cl : List (Str × Addr)) (fp : List Addr) (J' : L2.St → Prop), Cl (own.map (·.2)) J' → PG (X.blk s H scope (PySem.compEnvC scope cl C X.env) fp) tg (tG X.K ad J' bm))
    (ht : ∀ (s : Shared) (H : Hp) (C : Addr) (cl : List (Str × Addr)) (fp : List Addr) (J' : L2.St → Prop), Cl (own.map (·.2)) J' → PTs (X.blk s H scope (PySem.compEnvC scope cl C X.env) fp) ifs (tT X.K ad J' WF tm))
    (he : ∀ (s : Shared) (H : Hp) (C : Addr) (cl : List (Str × Addr)) (fp : List Addr) (J' : L2.St → Prop), Cl (own.map (·.2)) J' → PE (X.blk s H scope (PySem.compEnvC scope cl C X.env) fp) elt (tE X.K ad J' WF me))
    (hs0 : starEach [a, b] X.env = [(false, eval a X.env), (false, eval b X.env)] := by rfl) (hs2 : starEach [b] X.env = [(false, eval b X.env)] := by rfl) (hs : ∀ x, foldedSetIterable (.Call (.Name "range" p) [a, b] [] q) X.env x = pure x := by intro _; rfl) (hy : X.N[iy]? = some y) (hyl : X.env.scope.names.lookup y = some .local) (hsw : swapsWith (.ListComp elt [⟨tg, .Call (.Name "range" p) [a, b] [] q, ifs, 0⟩] scope pos) (some (.Name y py)) spos.line X.env = pure true) (hJ : ∀ σ v, J σ → J (σ.set iy v) := by intro _ _ _; trivial) :
    PS X (.Assign [.Name y py] (.ListComp elt [⟨tg, .Call (.Name "range" p) [a, b] [] q, ifs, 0⟩] scope pos) spos) (tS X.K ad J W (sAsg (mLcR2 hm mt (own.map (·.2)) bm tm me) (bName iy))) := by
  refine ps_imp (ps_setLc hc hN hy hyl hsw (pi_range2 hg0 hmr ha hs0 hs2) ok (g := tGx X.K ad (own.map (·.2)) bm) (tt := tTx X.K ad (own.map (·.2)) tm) (te := tEx X.K ad (own.map (·.2)) me) (fun s H C cl fp => gx_of (hg s H C cl fp)) (fun s H C cl fp => tx_of (ht s H C cl fp)) (fun s H C cl fp => ex_of (he s H C cl fp)) hs) ?_
  rintro En σ H h
  refine lcR2_imp (hm := hm) (W := W) (J := J) σ H _ ?_
  refine asg_imp (t := gName iy) ?_ En σ H h
  rintro v σ H Q ⟨S, r, L, O, d, j, rl, rs, rp, p⟩
  exact p S r _ H (Ext.refl _ _) (hJ _ _ j) (rl.set iy rp) rs
end
end DK
end
section
set_option Elab.async false
set_option linter.all false
set_option autoImplicit false
set_option maxRecDepth 100000
set_option maxHeartbeats 4000000
/-! DKMore: loops over a text, methods of texts, repr. -/
namespace DK
open PySem L2

def charsD (s : Str) : List D := s.cps.toList.map fun c => .str ⟨#[c]⟩
theorem chars_rp {K : PySem.W.Frag} {S : Hp} {r : Rg} : ∀ cs : List Nat, RpAll K S r (cs.map fun c => D.str ⟨#[c]⟩) (cs.map fun c => V.str ⟨#[c]⟩)
  | [] => rfl
  | _ :: cs => ⟨_, _, rfl, rfl, chars_rp cs⟩
def sForS (m : EM) (b : BM) (body : SM) : SM := fun L O => ofRes L (m L O) fun d O1 => match d with
  | .str s => loopD (turnOf b body) (charsD s) L O1
  | _ => .bad
def mLcS (h : Bool) (src : EM) (vs : List Nat) (b : BM) (tt : TM) (el : EM) : EM := fun L O => (src L O).bind fun d O1 => match d with
  | .str s => lcEnd h (lcG (fun i _ => some (charsD s)[i]?) (lcTurn vs b tt el L) (charsD s).length 0 O1 [])
  | _ => .bad
section
variable {X : Cx} {ad : Str → Addr} {J : L2.St → Prop} {W : WX} {pos : Pos} {a b c e tg iter elt : Expr} {es ifs : List Expr} {m me : EM} {mt : AM} {tm : TM} {st : Stmt} {rest body els : List Stmt} {s1 s2 : SM} {bm : BM} {bs : BsM} {scope : Scope} {own : List (Str × Nat)}
theorem its_at {x : Str} {i : Nat} {v : V} (h : (x.cps.toList.map fun c => V.str ⟨#[c]⟩)[i]? = some v) : ∃ c, x.cps[i]? = some c ∧ v = .str ⟨#[c]⟩ := by
  rw [List.getElem?_map] at h
  obtain ⟨c, hc, rfl⟩ := Option.map_eq_some_iff.mp h
  exact ⟨c, by rw [← Array.getElem?_toList]; exact hc, rfl⟩
theorem ds_forS (hp : PassesOwn (model X.prog X.w) X.A X.env X.xe) (hc : X.calm = true) (hi : PE X iter (tE X.K ad J W m)) (hg : PG X tg (tG X.K ad J bm)) (hb : PSs X body (tS X.K ad J W s1)) (hs : ∀ x, foldedSetIterable iter X.env x = pure x := by intro _; rfl) :
    PS X (.For tg iter body [] pos) (tS X.K ad J W (sForS m bm s1)) := by
  refine ps_imp (ps_for hp hc (pi_str hi) hg hb hs) ?_
  rintro En σ H ⟨S, r, L, O, j, rl, rs, p⟩
  refine ⟨S, r, L, O, j, rl, rs, (bindS j rl p).imp ?_⟩
  rintro x H1 ⟨S1, r1, d, O1, e1, q1, p1, k1⟩
  have rl1 := rl.mono e1
  cases d with
  | str s =>
    refine ⟨s, p1, for_still (It' := Its s) (charsD s) (chars_rp s.cps.toList) (fun i H S x e e' hx => ?_) (fun i H S x y H' e e' hx hy => ?_) (fun i H S e e' hl => ?_) j rl1 q1 k1⟩
    · obtain ⟨c, hc, _⟩ := its_at hx
      exact (Array.getElem?_eq_some_iff.mp hc).1
    · obtain ⟨c, hc, rfl⟩ := its_at hx
      obtain ⟨h1, c2, h2, h3⟩ := hy
      rw [hc] at h2
      cases h2
      exact ⟨h3, h1⟩
    · rw [List.length_map] at hl
      exact hl
  | hdl n => exact k1.elim
  | lst n => exact k1.elim
  | rol n => exact k1.elim
  | tup n => exact k1.elim
  | non => exact k1.elim
  | bl b => exact k1.elim
  | int i => exact k1.elim
theorem lcS_imp {hm : Bool} : ∀ σ H Q, (tE X.K ad J W (mLcS hm m (own.map (·.2)) bm tm me)) σ H Q → tLc (iStr (tE X.K ad J W m)) (tGx X.K ad (own.map (·.2)) bm) (tTx X.K ad (own.map (·.2)) tm) (tEx X.K ad (own.map (·.2)) me) (own.map (·.2)) σ H Q := by
  rintro σ H Q ⟨S, r, L, O, j, rl, rs, z⟩
  refine ⟨S, r, L, O, j, rl, rs, (Post.bind z).imp ?_⟩
  rintro x H1 ⟨S1, r1, d, O1, e1, s1, p1, q1⟩
  cases d with
  | str s =>
    refine ⟨s, p1, lc_post (nx := fun i _ => some (charsD s)[i]?) (fun i S r O H d' es el rs hn => ?_) (fun i S r O H es el rs hn => ?_) (rl.mono e1) s1 q1⟩
    · have hn' : (charsD s)[i]? = some d' := Option.some.inj hn
      unfold charsD at hn'
      rw [List.getElem?_map] at hn'
      obtain ⟨c, hc, rfl⟩ := Option.map_eq_some_iff.mp hn'
      rw [Array.getElem?_toList] at hc
      refine ⟨(Array.getElem?_eq_some_iff.mp hc).1, fun x H' hyy => ⟨hyy.1, ?_⟩⟩
      obtain ⟨_, c2, h2, h3⟩ := hyy
      rw [hc] at h2
      cases h2
      exact h3
    · have := List.getElem?_eq_none_iff.mp (Option.some.inj hn)
      unfold charsD at this
      rw [List.length_map] at this
      exact this
  | hdl n => exact q1.elim
  | lst n => exact q1.elim
  | rol n => exact q1.elim
  | tup n => exact q1.elim
  | non => exact q1.elim
  | bl b => exact q1.elim
  | int i => exact q1.elim
theorem de_lcS {hm : Bool} (hc : X.calm = true) (hN : X.N.Nodup) (hi : PE X iter (tE X.K ad J W m)) (ok : BlkOk X.N X.env.scope scope own)
    (hg : ∀ (s : Shared) (H : Hp) (C : Addr) (cl : List (Str × Addr)) (fp : List Addr) (J' : L2.St → Prop), Cl (own.map (·.2)) J' → PG (X.blk s H scope (PySem.compEnvC scope cl C X.env) fp) tg (tG X.K ad J' bm))
    (ht : ∀ (s : Shared) (H : Hp) (C : Addr) (cl : List (Str × Addr)) (fp : List Addr) (J' : L2.St → Prop), Cl (own.map (·.2)) J' → PTs (X.blk s H scope (PySem.compEnvC scope cl C X.env) fp) ifs (tT X.K ad J' WF tm))
    (he : ∀ (s : Shared) (H : Hp) (C : Addr) (cl : List (Str × Addr)) (fp : List Addr) (J' : L2.St → Prop), Cl (own.map (·.2)) J' → PE (X.blk s H scope (PySem.compEnvC scope cl C X.env) fp) elt (tE X.K ad J' WF me)) (hs : ∀ x, foldedSetIterable iter X.env x = pure x := by intro _; rfl) :
    PE X (.ListComp elt [⟨tg, iter, ifs, 0⟩] scope pos) (tE X.K ad J W (mLcS hm m (own.map (·.2)) bm tm me)) :=
  pe_imp (pe_lc hc hN (pi_str hi) ok (g := tGx X.K ad (own.map (·.2)) bm) (tt := tTx X.K ad (own.map (·.2)) tm) (te := tEx X.K ad (own.map (·.2)) me) (fun s H C cl fp => gx_of (hg s H C cl fp)) (fun s H C cl fp => tx_of (ht s H C cl fp)) (fun s H C cl fp => ex_of (he s H C cl fp)) hs) lcS_imp
/-! ### repr -/
def gRepr : Store → D → Option (D × Store) := fun O d => match d with
  | .bl b => some (.str (if b then "True" else "False"), O)
  | .non => some (.str "None", O)
  | .int i => if i.natAbs.log2 < 1920 then some (.str (toString i), O) else none
  | _ => none
theorem call_repr_bl : CallR X (.builtin "repr") (fun xs H Q => ∃ b : Bool, xs = [.bl b] ∧ Q (.str (if b then "True" else "False")) H) := by
  intro pins s σ H xs us Q I r h
  obtain ⟨b, rfl, q⟩ := h
  obtain ⟨u, rfl, t⟩ := vals1 r
  rw [show u = .bool b from t]
  exact PySem.P.repr_of_bool ⟨.str _, H, I.tok _, ⟨_, rfl⟩, q⟩
theorem call_repr_non : CallR X (.builtin "repr") (fun xs H Q => xs = [.non] ∧ Q (.str "None") H) := by
  intro pins s σ H xs us Q I r h
  obtain ⟨rfl, q⟩ := h
  obtain ⟨u, rfl, t⟩ := vals1 r
  rw [show u = .none from t]
  exact PySem.P.repr_of_none ⟨.str _, H, I.tok _, ⟨_, rfl⟩, q⟩
theorem cd_repr : CallD X ad (.builtin "repr") (g1 gRepr) := cd_1 (CallR.or call_repr_bl (CallR.or call_repr_non SkE.call_repr_int)) fun S r O H x d W σ Q rs p q => by
  unfold gRepr at q
  split at q
  · rename_i b
    rw [show x = .bl b from p]
    exact .inl ⟨b, rfl, q S r H _ (Ext.refl _ _) rs rfl⟩
  · rw [show x = .non from p]
    exact .inr (.inl ⟨rfl, q S r H _ (Ext.refl _ _) rs rfl⟩)
  · rename_i i
    rw [show x = .int i from p]
    split at q
    · rename_i hl
      exact .inr (.inr ⟨i, rfl, hl, q S r H _ (Ext.refl _ _) rs rfl⟩)
    · exact q.elim
  · exact q.elim
end
/-! ### methods of texts -/
structure MethS (X : Cx) (ad : Str → Addr) (id : String) (g : Store → Str → List D → Option (D × Store)) : Prop where
  ok : ∃ rr, MtR X id rr ∧ ∀ (S : Hp) (r : Rg) (O : Store) (H : Hp) (s : Str) (vs : List V) (ds : List D) (W : WX) (σ : L2.St) (Q : VK), Rs X.K ad S r O H → RpAll X.K S r ds vs →
    Post X.K ad (fun S r => Rp X.K S r) W σ S r Q (ofO (g O s ds)) → rr (.str s) vs H Q
def mBS (g : Store → Str → List D → Option (D × Store)) (mo : EM) (mt : AM) : EM := fun L O => (mo L O).bind fun d O1 => match d with
  | .str s => (mt L O1).bind fun ds O2 => ofO (g O2 s ds)
  | _ => .bad
def rows (h : Bool) (ys : List Str) (O : Store) : Option (D × Store) := newLO h (ys.map .str) O
def gSplit (h : Bool) : Store → Str → List D → Option (D × Store) := fun O a ds => match ds with
  | [.str b] => if (b.length == 0) = false ∧ a.length ≤ 1000000 then rows h (Txt.split a b) O else none
  | _ => none
def strsOf : List D → Option (List Str)
  | [] => some []
  | .str s :: ds => (strsOf ds).map (s :: ·)
  | _ => none
def gJoin : Store → Str → List D → Option (D × Store) := fun O a ds => match ds with
  | [d] => match seqOf O d with
    | some xs => match strsOf xs with
      | some ys => if (ys.map (·.length)).sum + ys.length * a.length ≤ 16777216 then some (.str (Txt.join a ys), O) else none
      | none => none
    | none => none
  | _ => none
def gTxt2 (f : Str → Str → D) : Store → Str → List D → Option (D × Store) := fun O a ds => match ds with
  | [.str b] => some (f a b, O)
  | _ => none
def gStarts := gTxt2 fun a b => .bl (Txt.startswith a b)
def gEnds := gTxt2 fun a b => .bl (Txt.endswith a b)
theorem strsOf_rp {K : PySem.W.Frag} {S : Hp} {r : Rg} : ∀ {ds : List D} {vs : List V} {ns : List Str}, RpAll K S r ds vs → strsOf ds = some ns → vs = ns.map V.str
  | [], vs, ns, h, e => by cases e; exact h
  | .str i :: ds, vs, ns, h, e => by
    obtain ⟨v, vr, rfl, rfl, h2⟩ := h
    have e : (strsOf ds).map (i :: ·) = some ns := e
    obtain ⟨ms, e1, rfl⟩ := Option.map_eq_some_iff.mp e
    rw [strsOf_rp h2 e1]
    rfl
  | .non :: _, _, _, _, e => by cases e
  | .int _ :: _, _, _, _, e => by cases e
  | .bl _ :: _, _, _, _, e => by cases e
  | .lst _ :: _, _, _, _, e => by cases e
  | .rol _ :: _, _, _, _, e => by cases e
  | .tup _ :: _, _, _, _, e => by cases e
  | .hdl _ :: _, _, _, _, e => by cases e
theorem strs_rp {K : PySem.W.Frag} {S : Hp} {r : Rg} : ∀ ys : List Str, RpAll K S r (ys.map D.str) (ys.map V.str)
  | [] => rfl
  | _ :: ys => ⟨_, _, rfl, rfl, strs_rp ys⟩
section
variable {X : Cx} {ad : Str → Addr} {J : L2.St → Prop} {W : WX} {apos cpos : Pos} {o e : Expr} {es : List Expr} {mo : EM} {mt : AM}
theorem de_bS {name : Str} {id : String} {g : Store → Str → List D → Option (D × Store)} (pa : PlainAttrs "str") (slot : Slot "str" name id) (hty : typeOf (.builtin id) = pure (.type "method_descriptor")) (hm : MethS X ad id g) (ho : PE X o (tE X.K ad J W mo)) (ha : PA X (e :: es) (tA X.K ad J W mt))
    (hbase : attributeBase o name X.env (eval o X.env) = eval o X.env := by rfl)
    (hfew : ((backTo cpos (starEach (e :: es) X.env)).all (fun x => !x.1) && (backToKw cpos (keywordEach [] X.env)).all (fun x => x.1.isSome)
      && decide ((e :: es).length + ([] : List Keyword).length + (if ([] : List Keyword).isEmpty then 0 else 1) < 30)) = true := by rfl)
    (hline : (apos.endLine == cpos.line) = true := by rfl) (hs : starEach (e :: es) X.env = (false, eval e X.env) :: starEach es X.env := by rfl) (hplain : (backTo cpos (starEach es X.env)).any (·.1) = false := by rfl) :
    PE X (.Call (.Attribute o name apos) (e :: es) [] cpos) (tE X.K ad J W (mBS g mo mt)) := by
  obtain ⟨rr, h1, h2⟩ := hm.ok
  refine pe_imp (pe_bm pa slot hty h1 ho ha hbase hfew hline hs hplain) ?_
  rintro σ H Q ⟨S, r, L, O, j, rl, rs, q⟩
  refine ⟨S, r, L, O, j, rl, rs, (Post.bind q).imp ?_⟩
  rintro x H1 ⟨S1, r1, d, O1, e1, s1, p1, q1⟩
  cases d with
  | str s =>
    refine ⟨by rw [show x = .str s from p1]; rfl, S1, r1, L, O1, j, rl.mono e1, s1, (Post.bind q1).imp ?_⟩
    rintro vs H2 ⟨S2, r2, ds, O2, e2, s2, p2, q2⟩
    rw [show x = .str s from p1]
    exact h2 S2 r2 O2 H2 s vs ds W σ Q s2 p2 q2
  | hdl n => exact q1.elim
  | lst n => exact q1.elim
  | rol n => exact q1.elim
  | tup n => exact q1.elim
  | non => exact q1.elim
  | bl b => exact q1.elim
  | int i => exact q1.elim
theorem rows_post {h : Bool} {ys : List Str} {S : Hp} {r : Rg} {O : Store} {H : Hp} {σ : L2.St} {Q : VK} (rs : Rs X.K ad S r O H) (q : Post X.K ad (fun S r => Rp X.K S r) W σ S r Q (ofO (rows h ys O))) : rNewStrs ys H Q := by
  unfold rows at q
  rw [ofO_newLO] at q
  exact (newL_post rs (strs_rp ys) q).2
theorem ms_split (h : Bool) : MethS X ad "str.split" (gSplit h) where
  ok := ⟨_, mt_split, fun S r O H s vs ds W σ Q rs p q => by
    unfold gSplit at q
    split at q
    · rename_i b
      obtain ⟨v, vr, rfl, rfl, rfl⟩ := p
      split at q
      · rename_i hc
        exact ⟨s, b, rfl, rfl, hc.1, by rw [sizeLine_eq]; omega, rows_post rs q⟩
      · exact q.elim
    · exact q.elim⟩
theorem ms_join : MethS X ad "str.join" gJoin where
  ok := ⟨_, mt_join, fun S r O H s vs ds W σ Q rs p q => by
    unfold gJoin at q
    split at q
    · rename_i d
      obtain ⟨v, vr, rfl, p1, rfl⟩ := p
      split at q
      · rename_i xs hx
        split at q
        · rename_i ys hy
          split at q
          · rename_i hl
            obtain ⟨a, us, rfl, h1, h2⟩ := seqOf_ok rs p1 hx
            rw [strsOf_rp h2 hy] at h1
            exact ⟨s, a, ys, rfl, rfl, h1, hl, q S r H _ (Ext.refl _ _) rs rfl⟩
          · exact q.elim
        · exact q.elim
      · exact q.elim
    · exact q.elim⟩
theorem ms_txt2 {id : String} {f : Str → Str → D} {g : Str → Str → V} (h : MtR X id (fun x xs H Q => ∃ a b, x = .str a ∧ xs = [.str b] ∧ Q (g a b) H)) (hf : ∀ a b S r, Rp X.K S r (f a b) (g a b)) : MethS X ad id (gTxt2 f) where
  ok := ⟨_, h, fun S r O H s vs ds W σ Q rs p q => by
    unfold gTxt2 at q
    split at q
    · rename_i b
      obtain ⟨v, vr, rfl, rfl, rfl⟩ := p
      exact ⟨s, b, rfl, rfl, q S r H _ (Ext.refl _ _) rs (hf s b S r)⟩
    · exact q.elim⟩
theorem ms_starts : MethS X ad "str.startswith" gStarts := ms_txt2 (g := fun a b => .bl (Txt.startswith a b)) mt_startswith fun _ _ _ _ => rfl
theorem ms_ends : MethS X ad "str.endswith" gEnds := ms_txt2 (g := fun a b => .bl (Txt.endswith a b)) mt_endswith fun _ _ _ _ => rfl
end
end DK
end
section
set_option Elab.async false
set_option linter.all false
set_option autoImplicit false
set_option maxRecDepth 100000
set_option maxHeartbeats 4000000
/-! DKHead: facts of the head by names, a def's datum, the law's own end. -/
namespace DK
open PySem L2

/-! ### more facts -/
inductive Fx where
  | exc (x : Str)
  | kitR (x y : Str) (b : Bool)
  | kitT (x : Str) (T : String) (b : Bool)
def Fx.ok (K : PySem.W.Frag) : Fx → Bool
  | .exc x => (decide (PySem.W.findIn K (.ref (He.ga K x)) "__getattribute__" = some (some (.builtin "BaseException.__getattribute__")) ∧ PySem.W.findIn K (.ref (He.ga K x)) "__getattr__" = some none ∧ PySem.W.subIn K (.ref (He.ga K x)) (.type "BaseException") = some true ∧ PySem.W.hasDictIn K (He.ga K x) = true ∧ PySem.W.findIn K (.ref (He.ga K x)) "__class__" = some (some (.builtin "object.__class__"))
      ∧ PySem.W.specialIn K (.builtin "object.__class__") "__get__" = some (some (.builtin "getset_descriptor.__get__")) ∧ PySem.W.takesIn K (.builtin "object.__class__") = some true ∧ PySem.W.mroIn K (He.ga K x) (.type "object") = some true))
  | .kitR x y b => decide (PySem.W.kitOne K (.ref (He.ga K x)) (.ref (He.ga K y)) = some b)
  | .kitT x T b => decide (PySem.W.kitOne K (.ref (He.ga K x)) (.type T) = some b)
theorem fx_exc {K : PySem.W.Frag} {x : Str} (h : (Fx.exc x).ok K = true) : ExcC K (He.ga K x) := by
  obtain ⟨h1, h2, h3, h4, h5, h6, h7, h8⟩ := of_decide_eq_true h
  exact ⟨h1, h2, h3, h4, h5, h6, h7, h8⟩
theorem fx_kitR {K : PySem.W.Frag} {x y : Str} {b : Bool} (h : (Fx.kitR x y b).ok K = true) : PySem.W.kitOne K (.ref (He.ga K x)) (.ref (He.ga K y)) = some b := of_decide_eq_true h
theorem fx_kitT {K : PySem.W.Frag} {x : Str} {T : String} {b : Bool} (h : (Fx.kitT x T b).ok K = true) : PySem.W.kitOne K (.ref (He.ga K x)) (.type T) = some b := of_decide_eq_true h
def allFx (fx : List Fx) (K : PySem.W.Frag) : Bool := fx.all fun f => f.ok K
theorem fx_at {fx : List Fx} {K : PySem.W.Frag} (c : allFx fx K = true) (i : Nat) {f : Fx} (h : fx[i]? = some f := by rfl) : f.ok K = true := List.all_eq_true.mp c f (List.mem_of_getElem? h)
/-- what the head tells of K -/
structure Knows (fa : List He.Fa) (fn : List He.DefD) (fx : List Fx) (K : PySem.W.Frag) (mg : Str → Option Value) : Prop where
  c : He.SaysD fa fn K
  x : allFx fx K = true
  h : ∃ h : Heap, K.In h ∧ h.Ns mainGlobals mg
section
variable {fa : List He.Fa} {fn : List He.DefD} {fx : List Fx} {K : PySem.W.Frag} {mg : Str → Option Value} (k : Knows fa fn fx K mg)
include k
theorem Knows.glo (i : Nat) {x : Str} (e : fa[i]? = some (.glo x) := by rfl) : mg x = some (.ref (He.ga K x)) := by
  obtain ⟨h, X, G⟩ := k.h
  exact He.glo_ok X G (k.c.fact i e)
theorem Knows.free (i : Nat) {x : Str} (e : fa[i]? = some (.free x) := by rfl) : mg x = none := by
  obtain ⟨h, X, G⟩ := k.h
  exact He.free_ok X G (k.c.fact i e)
theorem Knows.int (i : Nat) {x : Str} {z : Int} (e : fa[i]? = some (.int x z) := by rfl) : ∃ t, mg x = some (.int z t) := by
  obtain ⟨h, X, G⟩ := k.h
  exact He.int_ok X G (k.c.fact i e)
theorem Knows.str (i : Nat) {x z : Str} (e : fa[i]? = some (.str x z) := by rfl) : ∃ t, mg x = some (.str z t) := by
  obtain ⟨h, X, G⟩ := k.h
  exact He.str_ok X G (k.c.fact i e)
theorem Knows.cls (i : Nat) {x : Str} (e : fa[i]? = some (.cls x) := by rfl) : Cls K (He.ga K x) := He.cls_ok (k.c.fact i e)
theorem Knows.noat (i : Nat) {x f : Str} (e : fa[i]? = some (.noat x f) := by rfl) : NoAttr K (He.ga K x) f := He.noat_ok (k.c.fact i e)
theorem Knows.meth (i : Nat) {x m : Str} (e : fa[i]? = some (.meth x m) := by rfl) : Meth K (He.ga K x) m (He.fAd K (x, some m)) := He.meth_ok (k.c.fact i e)
theorem Knows.mkr (i : Nat) {x : Str} (e : fa[i]? = some (.mkr x) := by rfl) : Mk K (He.ga K x) (He.fAd K (x, some "__init__")) := He.mkr_ok (k.c.fact i e)
theorem Knows.exc (i : Nat) {x : Str} (e : fa[i]? = some (.exc x) := by rfl) : PySem.W.excIn K (He.ga K x) He.veBase "ValueError.__new__" = true ∧ PySem.W.keepIn K (.ref (He.ga K x)) = true ∧ PySem.W.subIn K (.ref (He.ga K x)) (.type "BaseException") = some true ∧ PySem.W.typeIn K (.ref (He.ga K x)) = some (.type "type") := He.exc_ok (k.c.fact i e)
theorem Knows.exm (i : Nat) {x y : Str} {b : Bool} (e : fa[i]? = some (.exm x y b) := by rfl) : PySem.W.exmOne K (.ref (He.ga K x)) (.ref (He.ga K y)) = some b := He.exm_ok (k.c.fact i e)
end
/-- a def that the mirror tells -/
def Has (P : Program) (w : World) (K : PySem.W.Frag) (mg : Str → Option Value) (base : Heap) (k : Nat) (d : He.DefD) (ps : List Str) (fm : FM) : Prop :=
  ∃ fd, FunD K d.name d.qual d.params d.body d.scope (d.dvs K) (d.kws K) (He.fAd K d.at_) fd ∧ FnOk P w K mg base (L2.CX P w) k (He.fAd K d.at_) fd ps (spM K (He.ga K) ps.length fm)
section
variable {P : Program} {w : World} {K : PySem.W.Frag} {mg : Str → Option Value} {base : Heap} {d : He.DefD} {ps N : List Str} {fm : FM} {b : SM}
theorem has_mono {j k : Nat} (h : Has P w K mg base j d ps fm) (e : j ≤ k) : Has P w K mg base k d ps fm := by
  obtain ⟨fd, F, O⟩ := h
  exact ⟨fd, F, O.mono e⟩
theorem has_def {k : Nat} (c : ∃ fd, FunD K d.name d.qual d.params d.body d.scope (d.dvs K) (d.kws K) (He.fAd K d.at_) fd) (sc : FnScope N ps d.scope)
    (hb : ∀ (f : Addr) (cdv : Value) (A : Around) (outer : List Env) (s : Shared) (H : Hp) (E : XK), Room k (A.deeper (PyProof.Rows.envOfC d.qual d.scope s.heap.objs.size f cdv)) →
      PSs (cxOf (L2.CX P w) P w K mg base N d.qual d.scope f cdv A outer s H E) d.body (tS K (He.ga K) JT (fun c d _ H => E c d H) b)) :
    Has P w K mg base (k + 1) d ps (runF N.length b) := by
  obtain ⟨fd, F⟩ := c
  exact ⟨fd, F, fn_def F sc fun cdv A outer s H E hr => hb _ cdv A outer s H E hr⟩
/-- a def that is never asked -/
theorem has_bad {k : Nat} (c : ∃ fd, FunD K d.name d.qual d.params d.body d.scope (d.dvs K) (d.kws K) (He.fAd K d.at_) fd) : Has P w K mg base k d ps (fun _ _ => .bad) := by
  obtain ⟨fd, F⟩ := c
  refine ⟨fd, F, fun vs H Q E h => ?_, fun A outer s H args us vs Q E hr e0 hb hv h => ?_⟩
  · obtain ⟨S, r, O, ds, hl, _, hp, z⟩ := h
    exact z.elim
  · obtain ⟨S, r, O, ds, hl, _, hp, z⟩ := h
    exact z.elim
end
/-! ### the law's def: nothing is let out -/
section
variable {P : Program} {w : World} {K : PySem.W.Frag} {mg : Str → Option Value} {base : Heap} {ad : Str → Addr}
/-- the promise: the law gives True -/
def spLaw (K : PySem.W.Frag) (m : FM) : Sp := fun vs H Q _ => ∃ (a : Addr) (ns : List Int), vs = [.ref a] ∧ SqL K H a (ns.map V.int) ∧ ns.length ≤ 63 ∧ (∃ O, m [.rol (ns.map D.int)] [] = .ok (.bl true) O) ∧ ∀ H', Q (.bl true) H'
theorem ints_rp {S : Hp} {r : Rg} : ∀ ns : List Int, RpAll K S r (ns.map D.int) (ns.map V.int)
  | [] => rfl
  | n :: ns => ⟨_, _, rfl, rfl, ints_rp ns⟩
theorem law_def {x qual : Str} {params : Arguments} {bd : List Stmt} {scope : Scope} {f : Addr} {fd : FuncData} {N : List Str} {k : Nat} {b : SM} {y : Str} (F : FunD K x qual params bd scope [] [] f fd) (sc : FnScope N [y] scope)
    (hb : ∀ (cdv : Value) (A : Around) (outer : List Env) (s : Shared) (H : Hp) (E : XK), Room k (A.deeper (PyProof.Rows.envOfC qual scope s.heap.objs.size f cdv)) →
      PSs (cxOf CX0 P w K mg base N qual scope f cdv A outer s H E) bd (tS K ad JT WF b)) :
    FnOk P w K mg base CX0 (k + 1) f fd [y] (spLaw K (runF N.length b)) := by
  have hpl : 1 ≤ N.length := by have := congrArg List.length sc.pre; rw [List.length_take] at this; simp at this; omega
  refine F.ok sc (fun vs H Q E h => ?_) (fun cdv A outer s H vs Q E hr h => ?_)
  · obtain ⟨a, ns, rfl, _⟩ := h
    rfl
  · refine ⟨_, hb cdv A outer s H E hr, ?_⟩
    obtain ⟨a, ns, rfl, hS, hl, ⟨O1, hm⟩, hQ⟩ := h
    have p1 : RpAll K H ⟨[], fun _ => none⟩ [.rol (ns.map D.int)] [.ref a] := ⟨_, _, rfl, ⟨a, _, rfl, hS, ints_rp ns⟩, rfl⟩
    have rs : Rs K ad H ⟨[], fun _ => none⟩ [] H := ⟨Same.refl H, rfl, List.nodup_nil, fun n a o h => (by simp at h), fun b u e => (by cases e), fun a o e => (by cases e)⟩
    refine ⟨H, ⟨[], fun _ => none⟩, _, [], trivial, start_rl (ds := [.rol (ns.map D.int)]) hpl p1, rs, ?_⟩
    unfold runF at hm
    generalize b (([D.rol (ns.map D.int)] : List D).map some ++ List.replicate (N.length - ([D.rol (ns.map D.int)] : List D).length) none) [] = z at hm ⊢
    cases z with
    | next L O => cases hm
    | ret d O =>
      cases hm
      exact fun S' r' H' v e _ p => by
        rw [show v = .bl true from p]
        exact hQ H'
    | brk L O => cases hm
    | cnt L O => cases hm
    | exc x L O => cases hm
    | bad => cases hm
end
/-- one address, one function object -/
theorem fd_eq {K : PySem.W.Frag} {x x' qual qual' : Str} {params params' : Arguments} {bd bd' : List Stmt} {scope scope' : Scope} {dvs dvs' : List V} {kws kws' : List (Str × V)} {f : Addr} {fd fd' : FuncData} (F : FunD K x qual params bd scope dvs kws f fd) (G : FunD K x' qual' params' bd' scope' dvs' kws' f fd') : fd = fd' := by
  obtain ⟨_, _, _, _, _, _, _, _, _, _, rfl, l1, _⟩ := F.ex
  obtain ⟨_, _, _, _, _, _, _, _, _, _, rfl, l2, _⟩ := G.ex
  have e := l1.symm.trans l2
  injection e with e
  injection e with _ _ e _
  injection e
/-! ### small helps -/
theorem tk_of {P : Program} {w : World} {K : PySem.W.Frag} {mg : Str → Option Value} {base : Heap} {N : List Str} {qual : Str} {scope : Scope} {f : Addr} {cdv : Value} {A : Around} {outer : List Env} {s : Shared} {H : Hp} {E : XK} : Takes (cxOf (L2.CX P w) P w K mg base N qual scope f cdv A outer s H E) (fun c d _ H => E c d H) := takes_of rfl rfl rfl rfl
theorem own_of {CX : CXT} {P : Program} {w : World} {K : PySem.W.Frag} {mg : Str → Option Value} {base : Heap} {N : List Str} {qual : Str} {scope : Scope} {f : Addr} {cdv : Value} {A : Around} {outer : List Env} {s : Shared} {H : Hp} {E : XK} : PassesOwn (model P w) (cxOf CX P w K mg base N qual scope f cdv A outer s H E).A (cxOf CX P w K mg base N qual scope f cdv A outer s H E).env (cxOf CX P w K mg base N qual scope f cdv A outer s H E).xe := passes_of rfl
def inC (st : Stmt) (i : Nat) : Stmt := match st with
  | .ClassDef _ _ _ b _ _ _ _ _ _ _ => b.getD i (.Pass ⟨0, 0, 0, 0⟩)
  | _ => .Pass ⟨0, 0, 0, 0⟩
end DK
end
section
set_option Elab.async false
set_option linter.all false
set_option autoImplicit false
set_option maxRecDepth 100000
set_option maxHeartbeats 4000000
/-! DKPlain: the draws of the laws, in plain Lean. -/
namespace DK
open PySem L2

def bDraw : SM := (sSeq (sIf (mTest (mOp gGt (mOp gIx (mVar 0) (mC (.int 2))) (mC (.int 0)))) (sSeq (sAsg (mOp gMod (mCall (g1 gInt) (mCons (mOp gIx (mVar 0) (mC (.int 2))) mNil)) (mVar 1)) (bName 2))
    (sSeq (sAsg (mOp gFdiv (mOp gIx (mVar 0) (mC (.int 2))) (mVar 1)) (bSubL (mVar 0) (mC (.int 2))))
    (sRet (mVar 2)))) sNext)
    (sSeq (sIf (mAnd (mTest (mOp gEq (mOp gMod (mCall (g1 gInt) (mCons (mOp gIx (mVar 0) (mC (.int 4))) mNil)) (mC (.int 8))) (mC (.int 0)))) (mTest (mOp gLt (mOp gIx (mVar 0) (mC (.int 1))) (mCall (g1 gLen) (mCons (mOp gIx (mVar 0) (mC (.int 0))) mNil))))) (sSeq (sAsg (mCall (g1 gAbs) (mCons (mOp gIx (mOp gIx (mVar 0) (mC (.int 0))) (mOp gIx (mVar 0) (mC (.int 1)))) mNil)) (bName 3))
    (sSeq (sAsg (mOp (gAdd false) (mOp gIx (mVar 0) (mC (.int 1))) (mC (.int 1))) (bSubL (mVar 0) (mC (.int 1))))
    (sSeq (sIf (mTest (mOp gGe (mVar 3) (mOp gPow (mC (.int 10)) (mC (.int 18))))) (sSeq (sAsg (mOp gFdiv (mVar 3) (mVar 1)) (bSubL (mVar 0) (mC (.int 2))))
    (sRet (mOp gMod (mCall (g1 gInt) (mCons (mVar 3) mNil)) (mVar 1)))) sNext)
    (sAsg (mVar 3) (bSubL (mVar 0) (mC (.int 3))))))) sNext)
    (sSeq (sAsg (mOp (gAdd false) (mOp gIx (mVar 0) (mC (.int 4))) (mC (.int 1))) (bSubL (mVar 0) (mC (.int 4))))
    (sSeq (sAsg (mOp gMod (mCall (g1 gInt) (mCons (mOp (gAdd false) (mOp (gAdd false) (mOp gMul (mOp gIx (mVar 0) (mC (.int 3))) (mC (.int 48271))) (mOp gMul (mOp gIx (mVar 0) (mC (.int 4))) (mC (.int 69621)))) (mC (.int 7919))) mNil)) (mC (.int 2147483647))) (bName 4))
    (sSeq (sAsg (mOp gMod (mCall (g1 gInt) (mCons (mOp (gAdd false) (mOp gMul (mVar 4) (mVar 4)) (mOp gMul (mOp gIx (mVar 0) (mC (.int 4))) (mC (.int 40692)))) mNil)) (mC (.int 2147483399))) (bName 4))
    (sRet (mOp gMod (mCall (g1 gInt) (mCons (mVar 4) mNil)) (mVar 1))))))))
def fDraw : FM := runF 5 bDraw
/-- the pool of draws at n: its script, place, what is left, last number, count (at most b) -/
def poolL (ns : List Int) (z la li k : Int) : List D := [.lst (ns.map D.int), .int z, .int la, .int li, .int k]
structure Pool (b : Nat) (n : Nat) (O : Store) : Prop where
  ex : ∃ ns z la li k, O[n]? = some (.lst (poolL ns z la li k)) ∧ 0 ≤ z ∧ z ≤ ns.length ∧ 0 ≤ la ∧ 0 ≤ li ∧ li < 10 ^ 18 ∧ 0 ≤ k ∧ k ≤ b
theorem set_at {O : Store} {n : Nat} {o p : Ob} (h : O[n]? = some o) : (O.set n p)[n]? = some p := List.getElem?_set_self (List.getElem?_eq_some_iff.mp h).1


theorem gMul_ok {O : Store} {i j : Int} (hi : i.natAbs < 2 ^ 4096) (hj : j.natAbs < 2 ^ 4096) : gMul O (.int i) (.int j) = some (.int (i * j), O) := by
  have h1 : i.natAbs.log2 ≤ 4096 := by
    by_cases h : i.natAbs = 0
    · rw [h]; decide
    · exact Nat.le_of_lt ((Nat.log2_lt h).mpr hi)
  have h2 : j.natAbs.log2 ≤ 4096 := by
    by_cases h : j.natAbs = 0
    · rw [h]; decide
    · exact Nat.le_of_lt ((Nat.log2_lt h).mpr hj)
  unfold gMul gI
  have e : decide (i.natAbs.log2 + j.natAbs.log2 < 1000000) = true := decide_eq_true (by omega)
  simp only [e, if_pos]
theorem gFdiv_ok {O : Store} {i j : Int} (h0 : 0 < j) (hj : j.natAbs < 2 ^ 4096) : gFdiv O (.int i) (.int j) = some (.int (i / j), O) := by
  have h2 : j.natAbs.log2 ≤ 4096 := Nat.le_of_lt ((Nat.log2_lt (by omega)).mpr hj)
  unfold gFdiv gI
  have e : decide (0 < j ∧ j.natAbs.log2 < 9000) = true := decide_eq_true ⟨h0, by omega⟩
  simp only [e, if_pos]
theorem gMod_ok {O : Store} {i j : Int} (h0 : 0 < j) : gMod O (.int i) (.int j) = some (.int (i % j), O) := by
  unfold gMod gI
  have e : decide (0 < j) = true := decide_eq_true h0
  simp only [e, if_pos]
theorem gPow_ok {O : Store} {i j : Int} (h0 : 0 ≤ j) (h1 : j ≤ 1000000) (h2 : i.natAbs < 2 ^ 64) : gPow O (.int i) (.int j) = some (.int (i ^ j.toNat), O) := by
  unfold gPow gI
  have e : decide (0 ≤ j ∧ j ≤ 1000000 ∧ i.natAbs < 2 ^ 64) = true := decide_eq_true ⟨h0, h1, h2⟩
  simp only [e, if_pos]
theorem gSub_ok {O : Store} {i j : Int} : gSub O (.int i) (.int j) = some (.int (i - j), O) := rfl
theorem gAdd_ok {O : Store} {h : Bool} {i j : Int} : gAdd h O (.int i) (.int j) = some (.int (i + j), O) := rfl
theorem gEq_int {O : Store} {i j : Int} : gEq O (.int i) (.int j) = some (.bl (decide (i = j)), O) := by
  have : decide (V.int i = V.int j) = decide (i = j) := by simp
  show (match some (decide (V.int i = V.int j)) with | some b => some (D.bl b, O) | none => none) = _
  rw [this]
theorem gNe_int {O : Store} {i j : Int} : gNe O (.int i) (.int j) = some (.bl (!decide (i = j)), O) := by
  have : decide (V.int i = V.int j) = decide (i = j) := by simp
  show (match some (decide (V.int i = V.int j)) with | some b => some (D.bl (!b), O) | none => none) = _
  rw [this]
theorem gLt_int {O : Store} {i j : Int} : gLt O (.int i) (.int j) = some (.bl (decide (i < j)), O) := rfl
theorem gLe_int {O : Store} {i j : Int} : gLe O (.int i) (.int j) = some (.bl (decide (i ≤ j)), O) := rfl
theorem gGt_int {O : Store} {i j : Int} : gGt O (.int i) (.int j) = some (.bl (decide (j < i)), O) := rfl
theorem gGe_int {O : Store} {i j : Int} : gGe O (.int i) (.int j) = some (.bl (decide (j ≤ i)), O) := rfl
theorem atI_nat {α : Type} {xs : List α} {i : Int} {x : α} (h0 : 0 ≤ i) (h : xs[i.toNat]? = some x) : atI xs i = some x := by
  have hl := (List.getElem?_eq_some_iff.mp h).1
  unfold atI ixN
  rw [if_pos h0, if_pos (by omega)]
  exact h
theorem big_of {i : Int} {n : Nat} (h0 : 0 ≤ i) (h : i ≤ n) (hn : n < 2 ^ 4096) : i.natAbs < 2 ^ 4096 := by omega

theorem atI_c0 {α : Type} {a : α} {xs : List α} : atI (a :: xs) 0 = some a := atI_nat (by decide) rfl
theorem atI_c1 {α : Type} {a b : α} {xs : List α} : atI (a :: b :: xs) 1 = some b := atI_nat (by decide) rfl
theorem atI_c2 {α : Type} {a b c : α} {xs : List α} : atI (a :: b :: c :: xs) 2 = some c := atI_nat (by decide) rfl
theorem atI_c3 {α : Type} {a b c d : α} {xs : List α} : atI (a :: b :: c :: d :: xs) 3 = some d := atI_nat (by decide) rfl
theorem atI_c4 {α : Type} {a b c d e : α} {xs : List α} : atI (a :: b :: c :: d :: e :: xs) 4 = some e := atI_nat (by decide) rfl
theorem ixN5_1 : ixN 5 1 = some 1 := rfl
theorem ixN5_2 : ixN 5 2 = some 2 := rfl
theorem ixN5_3 : ixN 5 3 = some 3 := rfl
theorem ixN5_4 : ixN 5 4 = some 4 := rfl
theorem draw_ok {b n : Nat} {O : Store} {many : Int} (h : Pool b n O) (hm : 0 < many) (hm2 : many ≤ 2 ^ 64) (hb : b ≤ 2 ^ 64) :
    ∃ v P, fDraw [.hdl n, .int many] O = .ok (.int v) (O.set n (.lst P)) ∧ 0 ≤ v ∧ v < many ∧ Pool (b + 1) n (O.set n (.lst P)) := by
  obtain ⟨ns, z, la, li, k, h, hz0, hz1, hla0, hli0, hli1, hk0, hkb⟩ := h
  have hmb : many.natAbs < 2 ^ 4096 := big_of (n := 2 ^ 64) (by omega) hm2 (by decide)
  have fd : ∀ (O : Store) (i : Int), gFdiv O (.int i) (.int many) = some (.int (i / many), O) := fun O i => gFdiv_ok hm hmb
  have md : ∀ (O : Store) (i : Int), gMod O (.int i) (.int many) = some (.int (i % many), O) := fun O i => gMod_ok hm
  have v0 : ∀ i : Int, 0 ≤ i % many ∧ i % many < many := fun i => ⟨Int.emod_nonneg i (by omega), Int.emod_lt_of_pos i hm⟩
  have m8 : ∀ (O : Store) (i : Int), gMod O (.int i) (.int 8) = some (.int (i % 8), O) := fun O i => gMod_ok (by decide)
  have m1 : ∀ (O : Store) (i : Int), gMod O (.int i) (.int 2147483647) = some (.int (i % 2147483647), O) := fun O i => gMod_ok (by decide)
  have m2 : ∀ (O : Store) (i : Int), gMod O (.int i) (.int 2147483399) = some (.int (i % 2147483399), O) := fun O i => gMod_ok (by decide)
  have pw : ∀ (O : Store), gPow O (.int 10) (.int 18) = some (.int (10 ^ 18), O) := fun O => gPow_ok (by decide) (by decide) (by decide)
  by_cases c1 : 0 < la
  · refine ⟨la % many, poolL ns z (la / many) li k, ?_, (v0 la).1, (v0 la).2, ns, z, la / many, li, k, set_at h, hz0, hz1, Int.ediv_nonneg (by omega) (by omega), hli0, hli1, hk0, by omega⟩
    simp [fDraw, runF, bDraw, sSeq, sIf, ofRes, mTest, mOp, mVar, mC, gGt_int, gIx, seqOf, h, poolL, atI_c0, atI_c1, atI_c2, atI_c3, atI_c4, ixN5_1, ixN5_2, ixN5_3, ixN5_4, Res.bind, ofO, sAsg, mCall, mCons, mNil, g1, gInt, bName, fd, md, c1, bSubL, lstOf, ofB, sRet]
  · have c1' : la = 0 := by omega
    subst c1'
    have hset : ∀ p : Ob, (O.set n p)[n]? = some p := fun p => set_at h
    have hk : k.natAbs < 2 ^ 4096 := big_of hk0 hkb (by omega)
    have k1 : (k + 1).natAbs < 2 ^ 4096 := by omega
    have ml : ∀ (O : Store) (i j : Int), i.natAbs < 2 ^ 4096 → j.natAbs < 2 ^ 4096 → gMul O (.int i) (.int j) = some (.int (i * j), O) := fun O i j h1 h2 => gMul_ok h1 h2
    have mx : ∀ (O : Store) (i : Int), gMul O (.int (i % 2147483647)) (.int (i % 2147483647)) = some (.int (i % 2147483647 * (i % 2147483647)), O) := fun O i => by
      have h1 := Int.emod_nonneg i (show (2147483647 : Int) ≠ 0 by decide)
      have h2 := Int.emod_lt_of_pos i (show (0 : Int) < 2147483647 by decide)
      have := big_of (n := 2147483647) h1 (by omega) (by decide)
      exact gMul_ok this this
    have mk1 : ∀ (O : Store), gMul O (.int (k + 1)) (.int 69621) = some (.int ((k + 1) * 69621), O) := fun O => gMul_ok k1 (by decide)
    have mk2 : ∀ (O : Store), gMul O (.int (k + 1)) (.int 40692) = some (.int ((k + 1) * 40692), O) := fun O => gMul_ok k1 (by decide)
    have mli : ∀ (O : Store) (i : Int), 0 ≤ i → i < 10 ^ 18 → gMul O (.int i) (.int 48271) = some (.int (i * 48271), O) := fun O i h0 h1 => gMul_ok (big_of (n := 10 ^ 18) h0 (by omega) (by decide)) (by decide)
    by_cases c2 : k % 8 = 0
    · by_cases c3 : z < ns.length
      · obtain ⟨c, hc⟩ : ∃ c, ns[z.toNat]? = some c := ⟨ns[z.toNat]'(by omega), List.getElem?_eq_getElem _⟩
        have hix : atI (ns.map D.int) z = some (.int c) := atI_nat hz0 (by rw [List.getElem?_map, hc]; rfl)
        obtain ⟨e, he⟩ : ∃ e, (if c < 0 then -c else c) = e := ⟨_, rfl⟩
        have he0 : 0 ≤ e := by rw [← he]; split <;> omega
        by_cases c4 : (10 : Int) ^ 18 ≤ e
        · refine ⟨e % many, poolL ns (z + 1) (e / many) li k, ?_, (v0 _).1, (v0 _).2, ns, z + 1, e / many, li, k, set_at h, by omega, by omega, Int.ediv_nonneg he0 (by omega), hli0, hli1, hk0, by omega⟩
          simp only [show (10 : Int) ^ 18 = 1000000000000000000 by decide] at c4 pw
          simp [fDraw, runF, bDraw, sSeq, sIf, sNext, ofRes, mTest, mOp, mVar, mC, gGt_int, gLt_int, gGe_int, gEq_int, gIx, seqOf, h, poolL, atI_c0, atI_c1, atI_c2, atI_c3, atI_c4, ixN5_1, ixN5_2, ixN5_3, ixN5_4, Res.bind, ofO, sAsg, mCall, mCons, mNil, g1, gInt, gLen, gAbs, bName, fd, md, m8, m1, m2, pw, bSubL, lstOf, ofB, sRet, mAnd, gAdd_ok, hset, List.set_set, c2, c3, hix, he, c4]
        · refine ⟨((e * 48271 + (k + 1) * 69621 + 7919) % 2147483647 * ((e * 48271 + (k + 1) * 69621 + 7919) % 2147483647) + (k + 1) * 40692) % 2147483399 % many, poolL ns (z + 1) 0 e (k + 1), ?_, (v0 _).1, (v0 _).2, ns, z + 1, 0, e, k + 1, set_at h, by omega, by omega, by omega, he0, by omega, by omega, by omega⟩
          have me := fun O => mli O e he0 (by omega)
          simp only [show (10 : Int) ^ 18 = 1000000000000000000 by decide] at c4 pw
          simp [fDraw, runF, bDraw, sSeq, sIf, sNext, ofRes, mTest, mOp, mVar, mC, gGt_int, gLt_int, gGe_int, gEq_int, gIx, seqOf, h, poolL, atI_c0, atI_c1, atI_c2, atI_c3, atI_c4, ixN5_1, ixN5_2, ixN5_3, ixN5_4, Res.bind, ofO, sAsg, mCall, mCons, mNil, g1, gInt, gLen, gAbs, bName, fd, md, m8, m1, m2, pw, bSubL, lstOf, ofB, sRet, mAnd, gAdd_ok, hset, List.set_set, c2, c3, hix, he, c4, me, mx, mk1, mk2]
      · refine ⟨((li * 48271 + (k + 1) * 69621 + 7919) % 2147483647 * ((li * 48271 + (k + 1) * 69621 + 7919) % 2147483647) + (k + 1) * 40692) % 2147483399 % many, poolL ns z 0 li (k + 1), ?_, (v0 _).1, (v0 _).2, ns, z, 0, li, k + 1, set_at h, by omega, by omega, by omega, hli0, by omega, by omega, by omega⟩
        have me := fun O => mli O li hli0 hli1
        simp [fDraw, runF, bDraw, sSeq, sIf, sNext, ofRes, mTest, mOp, mVar, mC, gGt_int, gLt_int, gGe_int, gEq_int, gIx, seqOf, h, poolL, atI_c0, atI_c1, atI_c2, atI_c3, atI_c4, ixN5_1, ixN5_2, ixN5_3, ixN5_4, Res.bind, ofO, sAsg, mCall, mCons, mNil, g1, gInt, gLen, gAbs, bName, fd, md, m8, m1, m2, pw, bSubL, lstOf, ofB, sRet, mAnd, gAdd_ok, hset, List.set_set, c2, c3, me, mx, mk1, mk2]
    · refine ⟨((li * 48271 + (k + 1) * 69621 + 7919) % 2147483647 * ((li * 48271 + (k + 1) * 69621 + 7919) % 2147483647) + (k + 1) * 40692) % 2147483399 % many, poolL ns z 0 li (k + 1), ?_, (v0 _).1, (v0 _).2, ns, z, 0, li, k + 1, set_at h, by omega, by omega, by omega, hli0, by omega, by omega, by omega⟩
      have me := fun O => mli O li hli0 hli1
      simp [fDraw, runF, bDraw, sSeq, sIf, sNext, ofRes, mTest, mOp, mVar, mC, gGt_int, gLt_int, gGe_int, gEq_int, gIx, seqOf, h, poolL, atI_c0, atI_c1, atI_c2, atI_c3, atI_c4, ixN5_1, ixN5_2, ixN5_3, ixN5_4, Res.bind, ofO, sAsg, mCall, mCons, mNil, g1, gInt, gLen, gAbs, bName, fd, md, m8, m1, m2, pw, bSubL, lstOf, ofB, sRet, mAnd, gAdd_ok, hset, List.set_set, c2, me, mx, mk1, mk2]

/-! ### evaluation -/
theorem kitTab : kitB "NoneType" "bool" = some false ∧ kitB "NoneType" "int" = some false ∧ kitB "NoneType" "str" = some false ∧ kitB "NoneType" "list" = some false ∧ kitB "NoneType" "tuple" = some false ∧ kitB "NoneType" "dict" = some false ∧ kitB "bool" "bool" = some true ∧ kitB "bool" "int" = some true ∧ kitB "bool" "str" = some false ∧ kitB "bool" "list" = some false ∧ kitB "bool" "tuple" = some false ∧ kitB "bool" "dict" = some false ∧ kitB "int" "bool" = some false ∧ kitB "int" "int" = some true ∧ kitB "int" "str" = some false ∧ kitB "int" "list" = some false ∧ kitB "int" "tuple" = some false ∧ kitB "int" "dict" = some false ∧ kitB "str" "bool" = some false ∧ kitB "str" "int" = some false ∧ kitB "str" "str" = some true ∧ kitB "str" "list" = some false ∧ kitB "str" "tuple" = some false ∧ kitB "str" "dict" = some false ∧ kitB "list" "bool" = some false ∧ kitB "list" "int" = some false ∧ kitB "list" "str" = some false ∧ kitB "list" "list" = some true ∧ kitB "list" "tuple" = some false ∧ kitB "list" "dict" = some false ∧ kitB "tuple" "bool" = some false ∧ kitB "tuple" "int" = some false ∧ kitB "tuple" "str" = some false ∧ kitB "tuple" "list" = some false ∧ kitB "tuple" "tuple" = some true ∧ kitB "tuple" "dict" = some false ∧ kitB "dict" "bool" = some false ∧ kitB "dict" "int" = some false ∧ kitB "dict" "str" = some false ∧ kitB "dict" "list" = some false ∧ kitB "dict" "tuple" = some false ∧ kitB "dict" "dict" = some true := by decide +kernel
theorem gNe_bl {O : Store} {i j : Bool} : gNe O (.bl i) (.bl j) = some (.bl (!decide (i = j)), O) := by cases i <;> cases j <;> rfl
theorem gEq_bl {O : Store} {i j : Bool} : gEq O (.bl i) (.bl j) = some (.bl (decide (i = j)), O) := by cases i <;> cases j <;> rfl
theorem gEq_str {O : Store} {i j : Str} : gEq O (.str i) (.str j) = some (.bl (decide (i = j)), O) := by
  have : decide (V.str i = V.str j) = decide (i = j) := by simp
  show (match some (decide (V.str i = V.str j)) with | some b => some (D.bl b, O) | none => none) = _
  rw [this]
theorem gNe_str {O : Store} {i j : Str} : gNe O (.str i) (.str j) = some (.bl (!decide (i = j)), O) := by
  have : decide (V.str i = V.str j) = decide (i = j) := by simp
  show (match some (decide (V.str i = V.str j)) with | some b => some (D.bl (!b), O) | none => none) = _
  rw [this]
theorem isNon_t : isNon .non = true ∧ (∀ b, isNon (.bl b) = false) ∧ (∀ b, isNon (.int b) = false) ∧ (∀ b, isNon (.str b) = false) ∧ (∀ b, isNon (.lst b) = false) ∧ (∀ b, isNon (.tup b) = false) ∧ (∀ b, isNon (.hdl b) = false) := ⟨rfl, fun _ => rfl, fun _ => rfl, fun _ => rfl, fun _ => rfl, fun _ => rfl, fun _ => rfl⟩
/-- a loop keeps what each turn keeps -/
theorem loopD_keeps {turn : D → SM} {I : Nat → Loc → Store → Prop} : ∀ (ds : List D) (i : Nat) (L : Loc) (O : Store), I i L O → (∀ j d L O, ds[j]? = some d → I (i + j) L O → ∃ L' O', turn d L O = .next L' O' ∧ I (i + j + 1) L' O') → ∃ L' O', loopD turn ds L O = .next L' O' ∧ I (i + ds.length) L' O'
  | [], i, L, O, h, _ => ⟨L, O, rfl, h⟩
  | d :: ds, i, L, O, h, k => by
    obtain ⟨L1, O1, e, h1⟩ := k 0 d L O rfl h
    obtain ⟨L2, O2, e2, h2⟩ := loopD_keeps ds (i + 1) L1 O1 h1 fun j d' L O hd hI => by
      have := k (j + 1) d' L O hd (by rw [show i + (j + 1) = i + 1 + j by omega]; exact hI)
      rw [show i + (j + 1) + 1 = i + 1 + j + 1 by omega] at this
      exact this
    refine ⟨L2, O2, ?_, by rw [show i + (d :: ds).length = i + 1 + ds.length by rw [List.length_cons]; omega]; exact h2⟩
    show (match turn d L O with
      | .next L1 O1 => loopD turn ds L1 O1
      | .cnt L1 O1 => loopD turn ds L1 O1
      | .brk L1 O1 => .next L1 O1
      | .ret d O1 => .ret d O1
      | .exc x L1 O1 => .exc x L1 O1
      | .bad => .bad) = _
    rw [e]
    exact e2
end DK
end
section
set_option Elab.async false
set_option linter.all false
set_option autoImplicit false
set_option maxRecDepth 100000
set_option maxHeartbeats 4000000
/-! DKText: the takes of the laws; loops over the signs of a text, in plain Lean. -/
namespace DK
open PySem L2

def fCell : FM := runF 2 (sSeq (sIf (mTest (mOp gLt (mVar 1) (mCall (g1 gLen) (mCons (mVar 0) mNil)))) (sRet (mCall (g1 gAbs) (mCons (mCall (g1 gInt) (mCons (mOp gIx (mVar 0) (mVar 1)) mNil)) mNil))) sNext)
    (sRet (mOp (gAdd false) (mOp gMul (mC (.int 37)) (mVar 1)) (mC (.int 11)))))
def bTake : SM := (sSeq (sIf (mTest (mOp gGt (mOp gIx (mVar 0) (mC (.int 2))) (mC (.int 0)))) (sSeq (sAsg (mOp gMod (mCall (g1 gInt) (mCons (mOp gIx (mVar 0) (mC (.int 2))) mNil)) (mVar 1)) (bName 2))
    (sSeq (sAsg (mOp gFdiv (mCall (g1 gInt) (mCons (mOp gIx (mVar 0) (mC (.int 2))) mNil)) (mVar 1)) (bSubL (mVar 0) (mC (.int 2))))
    (sRet (mVar 2)))) sNext)
    (sSeq (sAsg (mFn (arity 2 fCell) [] (mCons (mOp gIx (mVar 0) (mC (.int 0))) (mCons (mOp gIx (mVar 0) (mC (.int 1))) mNil))) (bName 3))
    (sSeq (sAsg (mOp (gAdd false) (mOp gIx (mVar 0) (mC (.int 1))) (mC (.int 1))) (bSubL (mVar 0) (mC (.int 1))))
    (sSeq (sIf (mTest (mOp gGe (mVar 3) (mOp gPow (mC (.int 10)) (mC (.int 9))))) (sAsg (mOp gFdiv (mCall (g1 gInt) (mCons (mVar 3) mNil)) (mVar 1)) (bSubL (mVar 0) (mC (.int 2)))) sNext)
    (sRet (mOp gMod (mCall (g1 gInt) (mCons (mVar 3) mNil)) (mVar 1)))))))
def fTake : FM := runF 4 bTake
/-- the state of the takes at n: its script, place (at most b), what is left -/
def takeL (ns : List Int) (z la : Int) : List D := [.rol (ns.map D.int), .int z, .int la]
structure Take (b : Nat) (n : Nat) (O : Store) : Prop where
  ex : ∃ ns z la, O[n]? = some (.lst (takeL ns z la)) ∧ ns.length ≤ 1000 ∧ 0 ≤ z ∧ z ≤ b ∧ 0 ≤ la
theorem tmono {n a c : Nat} {O : Store} (hac : a ≤ c) : Take a n O → Take c n O := fun ⟨ns, z, la, h, h0, h1, h2, h3⟩ => ⟨ns, z, la, h, h0, h1, by omega, h3⟩
theorem cell_ok {ns : List Int} {z : Int} {O : Store} (h0 : 0 ≤ z) (h1 : z ≤ 2 ^ 64) : ∃ c, fCell [.rol (ns.map D.int), .int z] O = .ok (.int c) O ∧ 0 ≤ c := by
  have ml : ∀ O : Store, gMul O (.int 37) (.int z) = some (.int (37 * z), O) := fun O => gMul_ok (by decide) (big_of (n := 2 ^ 64) h0 (by omega) (by decide))
  by_cases c : z < ns.length
  · obtain ⟨x, hx⟩ : ∃ x, ns[z.toNat]? = some x := ⟨ns[z.toNat]'(by omega), List.getElem?_eq_getElem _⟩
    have hix : atI (ns.map D.int) z = some (.int x) := atI_nat h0 (by rw [List.getElem?_map, hx]; rfl)
    exact ⟨if x < 0 then -x else x, by simp [fCell, runF, sSeq, sIf, sNext, sDrop, sRet, sRetN, sAsg, ofRes, ofB, bName, bNil, bCons, bTup, bLst, bSubL, mTest, mOp, mVar, mC, mChain, mAnd, mOr, mNot, mIf, mAndV, mOrV, mNotV, mNeg, mCons, mNil, mTup, mLst, newL, mCall, mFn, arity, g1, g2, gLen, gInt, gAbs, gMax2, gMin2, gIx, seqOf, lsqOf, lstOf, Res.bind, ofO, gAdd_ok, gSub_ok, gEq_int, gNe_int, gLt_int, gLe_int, gGt_int, gGe_int, gEq_bl, gNe_bl, gEq_str, gNe_str, mIsi, mIsiT, tyD, kitL, kitTab, atI_c0, atI_c1, atI_c2, atI_c3, atI_c4, sForR1, int1, int2, mMeth, mMake, mFld, sFldM, gIs, gIsNot, isNon_t, sRaise, gList, newLO, c, hix], by split <;> omega⟩
  · exact ⟨37 * z + 11, by simp [fCell, runF, sSeq, sIf, sNext, sDrop, sRet, sRetN, sAsg, ofRes, ofB, bName, bNil, bCons, bTup, bLst, bSubL, mTest, mOp, mVar, mC, mChain, mAnd, mOr, mNot, mIf, mAndV, mOrV, mNotV, mNeg, mCons, mNil, mTup, mLst, newL, mCall, mFn, arity, g1, g2, gLen, gInt, gAbs, gMax2, gMin2, gIx, seqOf, lsqOf, lstOf, Res.bind, ofO, gAdd_ok, gSub_ok, gEq_int, gNe_int, gLt_int, gLe_int, gGt_int, gGe_int, gEq_bl, gNe_bl, gEq_str, gNe_str, mIsi, mIsiT, tyD, kitL, kitTab, atI_c0, atI_c1, atI_c2, atI_c3, atI_c4, sForR1, int1, int2, mMeth, mMake, mFld, sFldM, gIs, gIsNot, isNon_t, sRaise, gList, newLO, c, ml], by omega⟩
theorem ixN3_1 : ixN 3 1 = some 1 := rfl
theorem ixN3_2 : ixN 3 2 = some 2 := rfl
theorem take_ok {b n : Nat} {O : Store} {m : Int} (h : Take b n O) (hm : 0 < m) (hm2 : m ≤ 2 ^ 64) (hb : b ≤ 2 ^ 32) :
    ∃ v P, fTake [.hdl n, .int m] O = .ok (.int v) (O.set n (.lst P)) ∧ 0 ≤ v ∧ v < m ∧ Take (b + 1) n (O.set n (.lst P)) := by
  obtain ⟨ns, z, la, h, hl, hz0, hz1, hla0⟩ := h
  have hmb : m.natAbs < 2 ^ 4096 := big_of (n := 2 ^ 64) (by omega) hm2 (by decide)
  have fd : ∀ (O : Store) (i : Int), gFdiv O (.int i) (.int m) = some (.int (i / m), O) := fun O i => gFdiv_ok hm hmb
  have md : ∀ (O : Store) (i : Int), gMod O (.int i) (.int m) = some (.int (i % m), O) := fun O i => gMod_ok hm
  have v0 : ∀ i : Int, 0 ≤ i % m ∧ i % m < m := fun i => ⟨Int.emod_nonneg i (by omega), Int.emod_lt_of_pos i hm⟩
  have hset : ∀ p : Ob, (O.set n p)[n]? = some p := fun p => set_at h
  have pw : ∀ (O : Store), gPow O (.int 10) (.int 9) = some (.int (10 ^ 9), O) := fun O => gPow_ok (by decide) (by decide) (by decide)
  by_cases c1 : 0 < la
  · refine ⟨la % m, takeL ns z (la / m), ?_, (v0 la).1, (v0 la).2, ns, z, la / m, set_at h, hl, hz0, by omega, Int.ediv_nonneg (by omega) (by omega)⟩
    simp [fTake, bTake, runF, sSeq, sIf, sNext, sDrop, sRet, sRetN, sAsg, ofRes, ofB, bName, bNil, bCons, bTup, bLst, bSubL, mTest, mOp, mVar, mC, mChain, mAnd, mOr, mNot, mIf, mAndV, mOrV, mNotV, mNeg, mCons, mNil, mTup, mLst, newL, mCall, mFn, arity, g1, g2, gLen, gInt, gAbs, gMax2, gMin2, gIx, seqOf, lsqOf, lstOf, Res.bind, ofO, gAdd_ok, gSub_ok, gEq_int, gNe_int, gLt_int, gLe_int, gGt_int, gGe_int, gEq_bl, gNe_bl, gEq_str, gNe_str, mIsi, mIsiT, tyD, kitL, kitTab, atI_c0, atI_c1, atI_c2, atI_c3, atI_c4, sForR1, int1, int2, mMeth, mMake, mFld, sFldM, gIs, gIsNot, isNon_t, sRaise, gList, newLO, h, hset, takeL, fd, md, c1, ixN3_1, ixN3_2]
  · obtain ⟨c, hc, c0⟩ := cell_ok (ns := ns) (O := O) hz0 (by omega)
    by_cases c2 : (10 : Int) ^ 9 ≤ c
    · refine ⟨c % m, takeL ns (z + 1) (c / m), ?_, (v0 c).1, (v0 c).2, ns, z + 1, c / m, set_at h, hl, by omega, by omega, Int.ediv_nonneg c0 (by omega)⟩
      simp only [show (10 : Int) ^ 9 = 1000000000 by decide] at c2 pw
      simp [fTake, bTake, runF, sSeq, sIf, sNext, sDrop, sRet, sRetN, sAsg, ofRes, ofB, bName, bNil, bCons, bTup, bLst, bSubL, mTest, mOp, mVar, mC, mChain, mAnd, mOr, mNot, mIf, mAndV, mOrV, mNotV, mNeg, mCons, mNil, mTup, mLst, newL, mCall, mFn, arity, g1, g2, gLen, gInt, gAbs, gMax2, gMin2, gIx, seqOf, lsqOf, lstOf, Res.bind, ofO, gAdd_ok, gSub_ok, gEq_int, gNe_int, gLt_int, gLe_int, gGt_int, gGe_int, gEq_bl, gNe_bl, gEq_str, gNe_str, mIsi, mIsiT, tyD, kitL, kitTab, atI_c0, atI_c1, atI_c2, atI_c3, atI_c4, sForR1, int1, int2, mMeth, mMake, mFld, sFldM, gIs, gIsNot, isNon_t, sRaise, gList, newLO, h, hset, takeL, fd, md, c1, c2, pw, hc, ixN3_1, ixN3_2]
    · refine ⟨c % m, takeL ns (z + 1) la, ?_, (v0 c).1, (v0 c).2, ns, z + 1, la, set_at h, hl, by omega, by omega, hla0⟩
      simp only [show (10 : Int) ^ 9 = 1000000000 by decide] at c2 pw
      simp [fTake, bTake, runF, sSeq, sIf, sNext, sDrop, sRet, sRetN, sAsg, ofRes, ofB, bName, bNil, bCons, bTup, bLst, bSubL, mTest, mOp, mVar, mC, mChain, mAnd, mOr, mNot, mIf, mAndV, mOrV, mNotV, mNeg, mCons, mNil, mTup, mLst, newL, mCall, mFn, arity, g1, g2, gLen, gInt, gAbs, gMax2, gMin2, gIx, seqOf, lsqOf, lstOf, Res.bind, ofO, gAdd_ok, gSub_ok, gEq_int, gNe_int, gLt_int, gLe_int, gGt_int, gGe_int, gEq_bl, gNe_bl, gEq_str, gNe_str, mIsi, mIsiT, tyD, kitL, kitTab, atI_c0, atI_c1, atI_c2, atI_c3, atI_c4, sForR1, int1, int2, mMeth, mMake, mFld, sFldM, gIs, gIsNot, isNon_t, sRaise, gList, newLO, h, hset, takeL, fd, md, c1, c2, pw, hc, ixN3_1, ixN3_2]
/-! ### signs -/
theorem notIn_sign {c : Nat} {cs : Str} {O : Store} : gNotIn O (.str ⟨#[c]⟩) (.str cs) = some (.bl (!decide (c ∈ cs.cps.toList)), O) := rfl
/-- all signs are among cs -/
def allIn (cs : Str) (w : List Nat) : Bool := w.all fun c => decide (c ∈ cs.cps.toList)
abbrev signB (i : Nat) (cs : Str) (bad : SM) : SM := sIf (mTest (mOp gNotIn (mVar i) (mC (.str cs)))) bad sNext
theorem turn_sign {i c : Nat} {cs : Str} {bad : SM} {L : Loc} {O : Store} (hi : i < L.length) : turnOf (bName i) (signB i cs bad) (.str ⟨#[c]⟩) L O = if c ∈ cs.cps.toList then .next (L.set i (some (.str ⟨#[c]⟩))) O else bad (L.set i (some (.str ⟨#[c]⟩))) O := by
  by_cases h : c ∈ cs.cps.toList <;> simp [signB, turnOf, runF, sSeq, sIf, sNext, sDrop, sRet, sRetN, sAsg, ofRes, ofB, bName, bNil, bCons, bTup, bLst, bSubL, mTest, mOp, mVar, mC, mChain, mAnd, mOr, mNot, mIf, mAndV, mOrV, mNotV, mNeg, mCons, mNil, mTup, mLst, newL, mCall, mFn, arity, g1, g2, gLen, gInt, gAbs, gMax2, gMin2, gIx, seqOf, lsqOf, lstOf, Res.bind, ofO, gAdd_ok, gSub_ok, gEq_int, gNe_int, gLt_int, gLe_int, gGt_int, gGe_int, gEq_bl, gNe_bl, gEq_str, gNe_str, mIsi, mIsiT, tyD, kitL, kitTab, atI_c0, atI_c1, atI_c2, atI_c3, atI_c4, sForR1, int1, int2, mMeth, mMake, mFld, sFldM, gIs, gIsNot, isNon_t, sRaise, gList, newLO, hi, notIn_sign, h]
theorem loop_signs_ok {i : Nat} {cs : Str} {bad : SM} : ∀ (w : List Nat) (L : Loc) (O : Store), i < L.length → allIn cs w = true → ∃ d, loopD (turnOf (bName i) (signB i cs bad)) (w.map fun c => D.str ⟨#[c]⟩) L O = .next (L.set i d) O
  | [], L, O, hi, _ => ⟨L[i], by rw [List.set_getElem_self]; rfl⟩
  | c :: w, L, O, hi, h => by
    obtain ⟨h1, h2⟩ := (Bool.and_eq_true _ _ ▸ h : decide (c ∈ cs.cps.toList) = true ∧ allIn cs w = true)
    have e := turn_sign (bad := bad) (O := O) (c := c) (cs := cs) hi
    rw [if_pos (of_decide_eq_true h1)] at e
    obtain ⟨d, hd⟩ := loop_signs_ok (bad := bad) w (L.set i (some (.str ⟨#[c]⟩))) O (by rw [List.length_set]; exact hi) h2
    rw [List.set_set] at hd
    refine ⟨d, ?_⟩
    rw [List.map_cons, loopD_cons, e]
    exact hd
theorem loop_signs_no {i : Nat} {cs : Str} {bad : SM} (hb : ∀ L O, (∃ d, bad L O = .ret d O) ∨ ∃ x, bad L O = .exc x L O) : ∀ (w : List Nat) (L : Loc) (O : Store), i < L.length → allIn cs w = false → ∃ L', loopD (turnOf (bName i) (signB i cs bad)) (w.map fun c => D.str ⟨#[c]⟩) L O = bad L' O
  | [], L, O, hi, h => by cases h
  | c :: w, L, O, hi, h => by
    have e := turn_sign (bad := bad) (O := O) (c := c) (cs := cs) hi
    rw [List.map_cons, loopD_cons, e]
    by_cases h1 : c ∈ cs.cps.toList
    · rw [if_pos h1]
      refine loop_signs_no hb w _ O (by rw [List.length_set]; exact hi) ?_
      have : (decide (c ∈ cs.cps.toList) && allIn cs w) = false := h
      rw [decide_eq_true h1] at this
      exact this
    · rw [if_neg h1]
      refine ⟨L.set i (some (.str ⟨#[c]⟩)), ?_⟩
      rcases hb (L.set i (some (.str ⟨#[c]⟩))) O with ⟨d, h⟩ | ⟨x, h⟩ <;> rw [h] <;> rfl
/-- the signs that are not among cs -/
def outOf (cs : Str) (w : List Nat) : List Nat := w.filter fun c => !decide (c ∈ cs.cps.toList)
theorem outOf_nil {cs : Str} : ∀ {w : List Nat}, (outOf cs w = []) ↔ allIn cs w = true := fun {w} => by
  unfold outOf allIn
  rw [List.filter_eq_nil_iff, List.all_eq_true]
  simp
theorem outOf_zero {cs : Str} {w : List Nat} : ((outOf cs w).length = 0) ↔ allIn cs w = true := by
  rw [List.length_eq_zero_iff, outOf_nil]
theorem outOf_in {cs : Str} {c : Nat} {w : List Nat} (h : c ∈ cs.cps.toList) : outOf cs (c :: w) = outOf cs w := by
  unfold outOf
  rw [List.filter_cons, if_neg (by rw [decide_eq_true h]; decide)]
theorem outOf_out {cs : Str} {c : Nat} {w : List Nat} (h : ¬ c ∈ cs.cps.toList) : outOf cs (c :: w) = c :: outOf cs w := by
  unfold outOf
  rw [List.filter_cons, if_pos (by rw [decide_eq_false h]; decide)]
theorem comp_signs {i : Nat} {cs : Str} {L : Loc} (hi : i < L.length) : ∀ (w pre : List Nat) (acc : List D) (O : Store), acc.length + w.length ≤ 900000 →
    lcG (fun j _ => some ((pre ++ w).map fun c => D.str ⟨#[c]⟩)[j]?) (lcTurn [i] (bName i) (mTest (mOp gNotIn (mVar i) (mC (.str cs)))) (mVar i) L) w.length pre.length O acc = some (O, acc ++ (outOf cs w).map fun c => D.str ⟨#[c]⟩)
  | [], pre, acc, O, h => by
    have : ((pre ++ []).map fun c => D.str ⟨#[c]⟩)[pre.length]? = none := by rw [List.append_nil, List.getElem?_map, List.getElem?_eq_none (Nat.le_refl _)]; rfl
    simp [lcG, outOf]
  | c :: w, pre, acc, O, h => by
    have e1 : ((pre ++ c :: w).map fun c => D.str ⟨#[c]⟩)[pre.length]? = some (.str ⟨#[c]⟩) := by simp
    have e2 : pre ++ c :: w = (pre ++ [c]) ++ w := by simp
    have e3 : pre.length + 1 = (pre ++ [c]).length := by simp
    have hi2 : i < (L.set i none).length := by rw [List.length_set]; exact hi
    have ih := fun acc h => comp_signs (cs := cs) (L := L) hi w (pre ++ [c]) acc O h
    have hl : acc.length ≤ 900000 := by omega
    rw [show (c :: w).length = w.length + 1 from rfl]
    unfold lcG
    simp only [e1]
    by_cases hc : c ∈ cs.cps.toList
    · have et : lcTurn [i] (bName i) (mTest (mOp gNotIn (mVar i) (mC (.str cs)))) (mVar i) L (.str ⟨#[c]⟩) O acc = some (O, acc) := by
        simp [lcTurn, wipeL, runF, sSeq, sIf, sNext, sDrop, sRet, sRetN, sAsg, ofRes, ofB, bName, bNil, bCons, bTup, bLst, bSubL, mTest, mOp, mVar, mC, mChain, mAnd, mOr, mNot, mIf, mAndV, mOrV, mNotV, mNeg, mCons, mNil, mTup, mLst, newL, mCall, mFn, arity, g1, g2, gLen, gInt, gAbs, gMax2, gMin2, gIx, seqOf, lsqOf, lstOf, Res.bind, ofO, gAdd_ok, gSub_ok, gEq_int, gNe_int, gLt_int, gLe_int, gGt_int, gGe_int, gEq_bl, gNe_bl, gEq_str, gNe_str, mIsi, mIsiT, tyD, kitL, kitTab, atI_c0, atI_c1, atI_c2, atI_c3, atI_c4, sForR1, int1, int2, mMeth, mMake, mFld, sFldM, gIs, gIsNot, isNon_t, sRaise, gList, newLO, hi, notIn_sign, hc]
      rw [et]
      simp only
      rw [e2, e3, outOf_in hc]
      exact ih acc (by simp at h; omega)
    · have et : lcTurn [i] (bName i) (mTest (mOp gNotIn (mVar i) (mC (.str cs)))) (mVar i) L (.str ⟨#[c]⟩) O acc = some (O, acc ++ [.str ⟨#[c]⟩]) := by
        simp [lcTurn, wipeL, runF, sSeq, sIf, sNext, sDrop, sRet, sRetN, sAsg, ofRes, ofB, bName, bNil, bCons, bTup, bLst, bSubL, mTest, mOp, mVar, mC, mChain, mAnd, mOr, mNot, mIf, mAndV, mOrV, mNotV, mNeg, mCons, mNil, mTup, mLst, newL, mCall, mFn, arity, g1, g2, gLen, gInt, gAbs, gMax2, gMin2, gIx, seqOf, lsqOf, lstOf, Res.bind, ofO, gAdd_ok, gSub_ok, gEq_int, gNe_int, gLt_int, gLe_int, gGt_int, gGe_int, gEq_bl, gNe_bl, gEq_str, gNe_str, mIsi, mIsiT, tyD, kitL, kitTab, atI_c0, atI_c1, atI_c2, atI_c3, atI_c4, sForR1, int1, int2, mMeth, mMake, mFld, sFldM, gIs, gIsNot, isNon_t, sRaise, gList, newLO, hi, notIn_sign, hc, hl]
      rw [et]
      simp only
      rw [e2, e3, outOf_out hc]
      refine (ih (acc ++ [.str ⟨#[c]⟩]) (by simp at h ⊢; omega)).trans ?_
      simp
theorem lcS_signs {i : Nat} {cs w : Str} {src : EM} {L : Loc} {O : Store} (hi : i < L.length) (hs : src L O = .ok (.str w) O) (hw : w.length ≤ 900000) :
    mLcS false src [i] (bName i) (mTest (mOp gNotIn (mVar i) (mC (.str cs)))) (mVar i) L O = .ok (.lst ((outOf cs w.cps.toList).map fun c => D.str ⟨#[c]⟩)) O := by
  have hl : w.cps.toList.length ≤ 900000 := by rw [Array.length_toList]; exact hw
  have h := comp_signs (cs := cs) hi w.cps.toList [] [] O (by simpa using hl)
  have ho : (outOf cs w.cps.toList).length ≤ 1000000 := Nat.le_trans (List.length_filter_le _ _) (by omega)
  unfold mLcS
  rw [hs]
  simp only [Res.bind, charsD, List.length_map]
  simp only [List.nil_append, List.length_nil] at h
  rw [h]
  simp [lcEnd, newL, ho]
end DK
end
section
set_option Elab.async false
set_option linter.all false
set_option autoImplicit false
set_option maxRecDepth 100000
set_option maxHeartbeats 4000000
/-! The walk of darkrise_k10_names_and_numbers: printed by gen.py. -/
namespace DK.k10
open PySem L2 DK
def top (i : Nat) : Stmt := PySem.Challenge.pw_darkrise_k10_names_and_numbers.main.body.getD i (.Pass ⟨0, 0, 0, 0⟩)
abbrev s_law_cell : Stmt := top 18
abbrev s_law_take : Stmt := top 19
abbrev s_law_word : Stmt := top 20
abbrev s_law_name_due : Stmt := top 22
abbrev s_law_figures : Stmt := top 21
abbrev s_law_number_due : Stmt := top 23
abbrev s_is_number : Stmt := top 11
abbrev s_checked_number : Stmt := top 12
abbrev s_read_number : Stmt := top 13
abbrev s_law_read : Stmt := top 25
abbrev s_is_name : Stmt := top 9
abbrev s_told : Stmt := top 14
abbrev s_sooner : Stmt := top 15
abbrev s_not_later : Stmt := top 16
abbrev s_law_minutes_right : Stmt := top 27
abbrev s_checked_name : Stmt := top 10
abbrev s_law_name_told : Stmt := top 24
abbrev s_law_checked : Stmt := top 26
abbrev s_law : Stmt := top 28
def d_law_cell : He.DefD := ⟨("_law_cell", none), "_law_cell", "_law_cell", defArgs s_law_cell, defBody s_law_cell, defScope s_law_cell, [], []⟩
theorem sc_law_cell : FnScope ["script", "k"] ["script", "k"] (defScope s_law_cell) := ⟨rfl, rfl, rfl, by decide +kernel, rfl, by decide +kernel, by decide +kernel⟩
def d_law_take : He.DefD := ⟨("_law_take", none), "_law_take", "_law_take", defArgs s_law_take, defBody s_law_take, defScope s_law_take, [], []⟩
theorem sc_law_take : FnScope ["state", "limit", "found", "cell"] ["state", "limit"] (defScope s_law_take) := ⟨rfl, rfl, rfl, by decide +kernel, rfl, by decide +kernel, by decide +kernel⟩
def d_law_word : He.DefD := ⟨("_law_word", none), "_law_word", "_law_word", defArgs s_law_word, defBody s_law_word, defScope s_law_word, [], []⟩
theorem sc_law_word : FnScope ["state", "signs", "word", "k"] ["state"] (defScope s_law_word) := ⟨rfl, rfl, rfl, by decide +kernel, rfl, by decide +kernel, by decide +kernel⟩
def d_law_name_due : He.DefD := ⟨("_law_name_due", none), "_law_name_due", "_law_name_due", defArgs s_law_name_due, defBody s_law_name_due, defScope s_law_name_due, [], []⟩
theorem sc_law_name_due : FnScope ["word", "sign"] ["word"] (defScope s_law_name_due) := ⟨rfl, rfl, rfl, by decide +kernel, rfl, by decide +kernel, by decide +kernel⟩
def d_law_figures : He.DefD := ⟨("_law_figures", none), "_law_figures", "_law_figures", defArgs s_law_figures, defBody s_law_figures, defScope s_law_figures, [], []⟩
theorem sc_law_figures : FnScope ["state", "signs", "word", "k"] ["state"] (defScope s_law_figures) := ⟨rfl, rfl, rfl, by decide +kernel, rfl, by decide +kernel, by decide +kernel⟩
def d_law_number_due : He.DefD := ⟨("_law_number_due", none), "_law_number_due", "_law_number_due", defArgs s_law_number_due, defBody s_law_number_due, defScope s_law_number_due, [], []⟩
theorem sc_law_number_due : FnScope ["word", "least", "most", "sign"] ["word", "least", "most"] (defScope s_law_number_due) := ⟨rfl, rfl, rfl, by decide +kernel, rfl, by decide +kernel, by decide +kernel⟩
def d_is_number : He.DefD := ⟨("is_number", none), "is_number", "is_number", defArgs s_is_number, defBody s_is_number, defScope s_is_number, [.int 0, .int 1000000], []⟩
theorem sc_is_number : FnScope ["value", "least", "most"] ["value", "least", "most"] (defScope s_is_number) := ⟨rfl, rfl, rfl, by decide +kernel, rfl, by decide +kernel, by decide +kernel⟩
def d_checked_number : He.DefD := ⟨("checked_number", none), "checked_number", "checked_number", defArgs s_checked_number, defBody s_checked_number, defScope s_checked_number, [.int 0, .int 1000000], []⟩
theorem sc_checked_number : FnScope ["value", "least", "most"] ["value", "least", "most"] (defScope s_checked_number) := ⟨rfl, rfl, rfl, by decide +kernel, rfl, by decide +kernel, by decide +kernel⟩
def d_read_number : He.DefD := ⟨("read_number", none), "read_number", "read_number", defArgs s_read_number, defBody s_read_number, defScope s_read_number, [.int 0, .int 1000000], []⟩
theorem sc_read_number : FnScope ["word", "least", "most", "sign"] ["word", "least", "most"] (defScope s_read_number) := ⟨rfl, rfl, rfl, by decide +kernel, rfl, by decide +kernel, by decide +kernel⟩
def d_law_read : He.DefD := ⟨("_law_read", none), "_law_read", "_law_read", defArgs s_law_read, defBody s_law_read, defScope s_law_read, [], []⟩
theorem sc_law_read : FnScope ["word", "least", "most", "e"] ["word", "least", "most"] (defScope s_law_read) := ⟨rfl, rfl, rfl, by decide +kernel, rfl, by decide +kernel, by decide +kernel⟩
def d_is_name : He.DefD := ⟨("is_name", none), "is_name", "is_name", defArgs s_is_name, defBody s_is_name, defScope s_is_name, [], []⟩
theorem sc_is_name : FnScope ["word", "sign"] ["word"] (defScope s_is_name) := ⟨rfl, rfl, rfl, by decide +kernel, rfl, by decide +kernel, by decide +kernel⟩
def d_told : He.DefD := ⟨("told", none), "told", "told", defArgs s_told, defBody s_told, defScope s_told, [], []⟩
theorem sc_told : FnScope ["value"] ["value"] (defScope s_told) := ⟨rfl, rfl, rfl, by decide +kernel, rfl, by decide +kernel, by decide +kernel⟩
def d_sooner : He.DefD := ⟨("sooner", none), "sooner", "sooner", defArgs s_sooner, defBody s_sooner, defScope s_sooner, [], []⟩
theorem sc_sooner : FnScope ["one", "other"] ["one", "other"] (defScope s_sooner) := ⟨rfl, rfl, rfl, by decide +kernel, rfl, by decide +kernel, by decide +kernel⟩
def d_not_later : He.DefD := ⟨("not_later", none), "not_later", "not_later", defArgs s_not_later, defBody s_not_later, defScope s_not_later, [], []⟩
theorem sc_not_later : FnScope ["one", "other"] ["one", "other"] (defScope s_not_later) := ⟨rfl, rfl, rfl, by decide +kernel, rfl, by decide +kernel, by decide +kernel⟩
def d_law_minutes_right : He.DefD := ⟨("_law_minutes_right", none), "_law_minutes_right", "_law_minutes_right", defArgs s_law_minutes_right, defBody s_law_minutes_right, defScope s_law_minutes_right, [], []⟩
theorem sc_law_minutes_right : FnScope ["one", "other", "rank", "due", "value"] ["one", "other"] (defScope s_law_minutes_right) := ⟨rfl, rfl, rfl, by decide +kernel, rfl, by decide +kernel, by decide +kernel⟩
def d_checked_name : He.DefD := ⟨("checked_name", none), "checked_name", "checked_name", defArgs s_checked_name, defBody s_checked_name, defScope s_checked_name, [], []⟩
theorem sc_checked_name : FnScope ["word"] ["word"] (defScope s_checked_name) := ⟨rfl, rfl, rfl, by decide +kernel, rfl, by decide +kernel, by decide +kernel⟩
def d_law_name_told : He.DefD := ⟨("_law_name_told", none), "_law_name_told", "_law_name_told", defArgs s_law_name_told, defBody s_law_name_told, defScope s_law_name_told, [], []⟩
theorem sc_law_name_told : FnScope ["word", "e"] ["word"] (defScope s_law_name_told) := ⟨rfl, rfl, rfl, by decide +kernel, rfl, by decide +kernel, by decide +kernel⟩
def d_law_checked : He.DefD := ⟨("_law_checked", none), "_law_checked", "_law_checked", defArgs s_law_checked, defBody s_law_checked, defScope s_law_checked, [], []⟩
theorem sc_law_checked : FnScope ["value", "least", "most"] ["value", "least", "most"] (defScope s_law_checked) := ⟨rfl, rfl, rfl, by decide +kernel, rfl, by decide +kernel, by decide +kernel⟩
def d_law : He.DefD := ⟨("law", none), "law", "law", defArgs s_law, defBody s_law, defScope s_law, [], []⟩
theorem sc_law : FnScope ["script", "state", "k", "word", "due", "least", "most", "found", "value", "good"] ["script"] (defScope s_law) := ⟨rfl, rfl, rfl, by decide +kernel, rfl, by decide +kernel, by decide +kernel⟩
def fn : List He.DefD := [d_law_cell, d_law_take, d_law_word, d_law_name_due, d_law_figures, d_law_number_due, d_is_number, d_checked_number, d_read_number, d_law_read, d_is_name, d_told, d_sooner, d_not_later, d_law_minutes_right, d_checked_name, d_law_name_told, d_law_checked, d_law]
def fa : List He.Fa := [.glo "law", .free "len", .free "int", .free "abs", .glo "_law_cell", .glo "_law_take", .free "range", .free "str", .free "isinstance", .free "bool", .glo "is_number", .exc "InvalidNumber", .glo "InvalidNumber", .str "FIGURES" "0123456789", .glo "checked_number", .exm "InvalidName" "InvalidNumber" false, .exm "InvalidNumber" "InvalidNumber" true, .glo "read_number", .glo "RiseError", .int "LONGEST" 12, .str "LETTERS" "abcdefghijklmnopqrstuvwxyz", .free "min", .glo "sooner", .glo "not_later", .free "repr", .glo "told", .glo "is_name", .exc "InvalidName", .glo "InvalidName", .exm "InvalidName" "InvalidName" true, .exm "InvalidNumber" "InvalidName" false, .glo "checked_name", .free "ValueError", .glo "_law_word", .glo "_law_name_due", .glo "_law_name_told", .glo "_law_figures", .glo "_law_number_due", .glo "_law_read", .glo "_law_checked", .glo "_law_minutes_right"]
def fx : List Fx := [.exc "InvalidNumber", .kitR "InvalidNumber" "RiseError" true, .exc "InvalidName", .kitT "InvalidName" "ValueError" true, .kitR "InvalidName" "RiseError" true]
abbrev Kn (K : PySem.W.Frag) (mg : Str → Option Value) : Prop := Knows fa fn fx K mg
def b_law_cell : SM := (sSeq (sIf (mTest (mOp gLt (mVar 1) (mCall (g1 gLen) (mCons (mVar 0) mNil)))) (sRet (mCall (g1 gAbs) (mCons (mCall (g1 gInt) (mCons (mOp gIx (mVar 0) (mVar 1)) mNil)) mNil))) sNext)
    (sRet (mOp (gAdd false) (mOp gMul (mC (.int 37)) (mVar 1)) (mC (.int 11)))))
def f_law_cell : FM := runF 2 b_law_cell
theorem ok_law_cell {P : Program} {w : World} {K : PySem.W.Frag} {mg : Str → Option Value} {base : Heap} (kn : Kn K mg) : Has P w K mg base 1 d_law_cell ["script", "k"] f_law_cell := by
  refine has_def (k := 0) (N := ["script", "k"]) (d := d_law_cell) (kn.c.def_ 0 (d := d_law_cell) rfl) sc_law_cell fun f cdv A outer s H E hr => ?_
  delta b_law_cell
  exact (dss_cons (ds_if (dt_cmp od_lt (de_var (pv 1)) (de_callB cd_len rfl (kn.free 1) (by decide +kernel) (da_cons (de_var (pv 0)) da_nil)) (nomark _)) (dss_one (ds_ret (de_callB cd_abs rfl (kn.free 3) (by decide +kernel) (da_cons (de_callTy cd_int rfl (kn.free 2) (by decide +kernel) (da_cons (de_ix (de_var (pv 0)) (de_var (pv 1)) (fun _ _ => rfl)) da_nil)) da_nil)))) dss_nil)
    (dss_one (ds_ret (de_op (od_add false) (de_op od_mul de_int (de_var (pv 1))) de_int))))
def b_law_take : SM := (sSeq (sIf (mTest (mOp gGt (mOp gIx (mVar 0) (mC (.int 2))) (mC (.int 0)))) (sSeq (sAsg (mOp gMod (mCall (g1 gInt) (mCons (mOp gIx (mVar 0) (mC (.int 2))) mNil)) (mVar 1)) (bName 2))
    (sSeq (sAsg (mOp gFdiv (mCall (g1 gInt) (mCons (mOp gIx (mVar 0) (mC (.int 2))) mNil)) (mVar 1)) (bSubL (mVar 0) (mC (.int 2))))
    (sRet (mVar 2)))) sNext)
    (sSeq (sAsg (mFn (arity 2 f_law_cell) [] (mCons (mOp gIx (mVar 0) (mC (.int 0))) (mCons (mOp gIx (mVar 0) (mC (.int 1))) mNil))) (bName 3))
    (sSeq (sAsg (mOp (gAdd false) (mOp gIx (mVar 0) (mC (.int 1))) (mC (.int 1))) (bSubL (mVar 0) (mC (.int 1))))
    (sSeq (sIf (mTest (mOp gGe (mVar 3) (mOp gPow (mC (.int 10)) (mC (.int 9))))) (sAsg (mOp gFdiv (mCall (g1 gInt) (mCons (mVar 3) mNil)) (mVar 1)) (bSubL (mVar 0) (mC (.int 2)))) sNext)
    (sRet (mOp gMod (mCall (g1 gInt) (mCons (mVar 3) mNil)) (mVar 1)))))))
def f_law_take : FM := runF 4 b_law_take
theorem ok_law_take {P : Program} {w : World} {K : PySem.W.Frag} {mg : Str → Option Value} {base : Heap} (kn : Kn K mg) : Has P w K mg base 2 d_law_take ["state", "limit"] f_law_take := by
  obtain ⟨fd0, F0, O0⟩ := ok_law_cell (P := P) (w := w) (base := base) kn
  have B1 := FunD.bindsN (ps := ["script", "k"]) F0 (fun _ _ _ _ _ _ us hl => match us, hl with | [_, _], _ => rfl)
  refine has_def (k := 1) (N := ["state", "limit", "found", "cell"]) (d := d_law_take) (kn.c.def_ 1 (d := d_law_take) rfl) sc_law_take fun f cdv A outer s H E hr => ?_
  delta b_law_take
  exact (dss_cons (ds_if (dt_cmp od_gt (de_ix (de_var (pv 0)) de_int (fun _ _ => rfl)) de_int (nomark _)) (dss_cons (ds_set (i := 2) sc_law_take.nd rfl (by first | exact .inl rfl | exact .inr rfl) (de_op od_mod (de_callTy cd_int rfl (kn.free 2) (by decide +kernel) (da_cons (de_ix (de_var (pv 0)) de_int (fun _ _ => rfl)) da_nil)) (de_var (pv 1))))
    (dss_cons (ds_asg (de_op od_fdiv (de_callTy cd_int rfl (kn.free 2) (by decide +kernel) (da_cons (de_ix (de_var (pv 0)) de_int (fun _ _ => rfl)) da_nil)) (de_var (pv 1))) (dg_subL (W := WF) (de_var (pv 0)) de_int))
    (dss_one (ds_ret (de_var (pv 2)))))) dss_nil)
    (dss_cons (ds_set (i := 3) sc_law_take.nd rfl (by first | exact .inl rfl | exact .inr rfl) (de_call (dds := []) O0 (hr.mono (by omega)) rfl (kn.glo 4) F0.kp B1 .nil (fun _ _ => rfl) tk_of (da_cons (de_ix (de_var (pv 0)) de_int (fun _ _ => rfl)) (da_cons (de_ix (de_var (pv 0)) de_int (fun _ _ => rfl)) da_nil))))
    (dss_cons (ds_asg (de_op (od_add false) (de_ix (de_var (pv 0)) de_int (fun _ _ => rfl)) de_int) (dg_subL (W := WF) (de_var (pv 0)) de_int))
    (dss_cons (ds_if (dt_cmp od_ge (de_var (pv 3)) (de_op od_pow de_int de_int) (nomark _)) (dss_one (ds_asg (de_op od_fdiv (de_callTy cd_int rfl (kn.free 2) (by decide +kernel) (da_cons (de_var (pv 3)) da_nil)) (de_var (pv 1))) (dg_subL (W := WF) (de_var (pv 0)) de_int))) dss_nil)
    (dss_one (ds_ret (de_op od_mod (de_callTy cd_int rfl (kn.free 2) (by decide +kernel) (da_cons (de_var (pv 3)) da_nil)) (de_var (pv 1)))))))))
def b_law_word : SM := (sSeq (sAsg (mC (.str "abyzAZ09 -_.~{`")) (bName 1))
    (sSeq (sAsg (mC (.str "")) (bName 2))
    (sSeq (sForR1 (mCons (mFn (arity 2 f_law_take) [] (mCons (mVar 0) (mCons (mC (.int 14)) mNil))) mNil) (bName 3) (sAsg (mOp (gAdd false) (mVar 2) (mOp gIx (mVar 1) (mIf (mTest (mOp gEq (mFn (arity 2 f_law_take) [] (mCons (mVar 0) (mCons (mC (.int 4)) mNil))) (mC (.int 0)))) (mFn (arity 2 f_law_take) [] (mCons (mVar 0) (mCons (mC (.int 15)) mNil))) (mFn (arity 2 f_law_take) [] (mCons (mVar 0) (mCons (mC (.int 4)) mNil)))))) (bName 2)))
    (sRet (mVar 2)))))
def f_law_word : FM := runF 4 b_law_word
theorem ok_law_word {P : Program} {w : World} {K : PySem.W.Frag} {mg : Str → Option Value} {base : Heap} (kn : Kn K mg) : Has P w K mg base 3 d_law_word ["state"] f_law_word := by
  obtain ⟨fd0, F0, O0⟩ := ok_law_take (P := P) (w := w) (base := base) kn
  have B1 := FunD.bindsN (ps := ["state", "limit"]) F0 (fun _ _ _ _ _ _ us hl => match us, hl with | [_, _], _ => rfl)
  refine has_def (k := 2) (N := ["state", "signs", "word", "k"]) (d := d_law_word) (kn.c.def_ 2 (d := d_law_word) rfl) sc_law_word fun f cdv A outer s H E hr => ?_
  delta b_law_word
  exact (dss_cons (ds_set (i := 1) sc_law_word.nd rfl (by first | exact .inl rfl | exact .inr rfl) de_str)
    (dss_cons (ds_set (i := 2) sc_law_word.nd rfl (by first | exact .inl rfl | exact .inr rfl) de_str)
    (dss_cons (ds_forR1 own_of rfl rfl (kn.free 6) (da_cons (de_call (dds := []) O0 (hr.mono (by omega)) rfl (kn.glo 5) F0.kp B1 .nil (fun _ _ => rfl) tk_of (da_cons (de_var (pv 0)) (da_cons de_int da_nil))) da_nil) (dg_name (i := 3) sc_law_word.nd rfl (by first | exact .inl rfl | exact .inr rfl)) (dss_one (ds_set (i := 2) sc_law_word.nd rfl (by first | exact .inl rfl | exact .inr rfl) (de_op (od_add false) (de_var (pv 2)) (de_ix (de_var (pv 1)) (de_if (dt_cmp (od_eq hr.units) (de_call (dds := []) O0 (hr.mono (by omega)) rfl (kn.glo 5) F0.kp B1 .nil (fun _ _ => rfl) tk_of (da_cons (de_var (pv 0)) (da_cons de_int da_nil))) de_int (nomark _)) (de_call (dds := []) O0 (hr.mono (by omega)) rfl (kn.glo 5) F0.kp B1 .nil (fun _ _ => rfl) tk_of (da_cons (de_var (pv 0)) (da_cons de_int da_nil))) (de_call (dds := []) O0 (hr.mono (by omega)) rfl (kn.glo 5) F0.kp B1 .nil (fun _ _ => rfl) tk_of (da_cons (de_var (pv 0)) (da_cons de_int da_nil)))) (fun _ _ => rfl))))))
    (dss_one (ds_ret (de_var (pv 2)))))))
theorem blk_law_name_due_87_15 : BlkOk ["word", "sign"] (defScope s_law_name_due) { kind := .function, names := [(".0", .local), ("sign", .local)], isGenerator := false, isCoroutine := false, more := [] } [("sign", 1)] := ⟨rfl, by decide +kernel, by decide +kernel, by decide +kernel, by decide +kernel⟩
def b_law_name_due : SM := (sSeq (sIf (mNot (mTest (mChain gLe gLe (mC (.int 1)) (mCall (g1 gLen) (mCons (mVar 0) mNil)) (mC (.int 12))))) (sRet (mC (.bl false))) sNext)
    (sRet (mOp gEq (mCall (g1 gLen) (mCons (mLcS false (mVar 0) [1] (bName 1) (mTest (mOp gNotIn (mVar 1) (mC (.str "abcdefghijklmnopqrstuvwxyz")))) (mVar 1)) mNil)) (mC (.int 0)))))
def f_law_name_due : FM := runF 2 b_law_name_due
theorem ok_law_name_due {P : Program} {w : World} {K : PySem.W.Frag} {mg : Str → Option Value} {base : Heap} (kn : Kn K mg) : Has P w K mg base 1 d_law_name_due ["word"] f_law_name_due := by
  refine has_def (k := 0) (N := ["word", "sign"]) (d := d_law_name_due) (kn.c.def_ 3 (d := d_law_name_due) rfl) sc_law_name_due fun f cdv A outer s H E hr => ?_
  delta b_law_name_due
  exact (dss_cons (ds_if (dt_not (dt_chain od_le od_le de_int (de_callB cd_len rfl (kn.free 1) (by decide +kernel) (da_cons (de_var (pv 0)) da_nil)) de_int)) (dss_one (ds_ret de_bl)) dss_nil)
    (dss_one (ds_ret (de_cmp (od_eq hr.units) (de_callB cd_len rfl (kn.free 1) (by decide +kernel) (da_cons (de_lcS (own := [("sign", 1)]) (hm := false) rfl sc_law_name_due.nd (de_var (pv 0)) blk_law_name_due_87_15 (fun s1 H1 C1 cl1 fp1 J1 hJ1 => (dg_name (i := 1) sc_law_name_due.nd rfl (by first | exact .inl rfl | exact .inr rfl) (hJ := fun σ v h => hJ1 σ v 1 (by simp) h))) (fun s1 H1 C1 cl1 fp1 J1 hJ1 => (dts_one (dt_cmp od_notin (de_var (pv 1)) de_str (by with_unfolding_all rfl)))) (fun s1 H1 C1 cl1 fp1 J1 hJ1 => (de_var (pv 1)))) da_nil)) de_int (nomark _)))))
def b_law_figures : SM := (sSeq (sIf (mTest (mOp gEq (mFn (arity 2 f_law_take) [] (mCons (mVar 0) (mCons (mC (.int 3)) mNil))) (mC (.int 0)))) (sRet (mCall (g1 gStr) (mCons (mOp gIx (mLst false (mCons (mC (.int 0)) (mCons (mC (.int 9)) (mCons (mC (.int 10)) (mCons (mC (.int 999999)) (mCons (mC (.int 1000000)) (mCons (mC (.int 1000001)) (mCons (mC (.int 9999999)) (mCons (mC (.int 10000000)) mNil))))))))) (mFn (arity 2 f_law_take) [] (mCons (mVar 0) (mCons (mC (.int 8)) mNil)))) mNil))) sNext)
    (sSeq (sAsg (mC (.str "0123456789+-a ")) (bName 1))
    (sSeq (sAsg (mC (.str "")) (bName 2))
    (sSeq (sForR1 (mCons (mFn (arity 2 f_law_take) [] (mCons (mVar 0) (mCons (mC (.int 9)) mNil))) mNil) (bName 3) (sAsg (mOp (gAdd false) (mVar 2) (mOp gIx (mVar 1) (mIf (mTest (mOp gEq (mFn (arity 2 f_law_take) [] (mCons (mVar 0) (mCons (mC (.int 6)) mNil))) (mC (.int 0)))) (mFn (arity 2 f_law_take) [] (mCons (mVar 0) (mCons (mC (.int 14)) mNil))) (mFn (arity 2 f_law_take) [] (mCons (mVar 0) (mCons (mC (.int 10)) mNil)))))) (bName 2)))
    (sRet (mVar 2))))))
def f_law_figures : FM := runF 4 b_law_figures
theorem ok_law_figures {P : Program} {w : World} {K : PySem.W.Frag} {mg : Str → Option Value} {base : Heap} (kn : Kn K mg) : Has P w K mg base 3 d_law_figures ["state"] f_law_figures := by
  obtain ⟨fd0, F0, O0⟩ := ok_law_take (P := P) (w := w) (base := base) kn
  have B1 := FunD.bindsN (ps := ["state", "limit"]) F0 (fun _ _ _ _ _ _ us hl => match us, hl with | [_, _], _ => rfl)
  refine has_def (k := 2) (N := ["state", "signs", "word", "k"]) (d := d_law_figures) (kn.c.def_ 4 (d := d_law_figures) rfl) sc_law_figures fun f cdv A outer s H E hr => ?_
  delta b_law_figures
  exact (dss_cons (ds_if (dt_cmp (od_eq hr.units) (de_call (dds := []) O0 (hr.mono (by omega)) rfl (kn.glo 5) F0.kp B1 .nil (fun _ _ => rfl) tk_of (da_cons (de_var (pv 0)) (da_cons de_int da_nil))) de_int (nomark _)) (dss_one (ds_ret (de_callTy cd_str rfl (kn.free 7) (by decide +kernel) (da_cons (de_ix (de_lst (hm := false) (da_cons de_int (da_cons de_int (da_cons de_int (da_cons de_int (da_cons de_int (da_cons de_int (da_cons de_int (da_cons de_int da_nil))))))))) (de_call (dds := []) O0 (hr.mono (by omega)) rfl (kn.glo 5) F0.kp B1 .nil (fun _ _ => rfl) tk_of (da_cons (de_var (pv 0)) (da_cons de_int da_nil))) (fun _ _ => rfl)) da_nil)))) dss_nil)
    (dss_cons (ds_set (i := 1) sc_law_figures.nd rfl (by first | exact .inl rfl | exact .inr rfl) de_str)
    (dss_cons (ds_set (i := 2) sc_law_figures.nd rfl (by first | exact .inl rfl | exact .inr rfl) de_str)
    (dss_cons (ds_forR1 own_of rfl rfl (kn.free 6) (da_cons (de_call (dds := []) O0 (hr.mono (by omega)) rfl (kn.glo 5) F0.kp B1 .nil (fun _ _ => rfl) tk_of (da_cons (de_var (pv 0)) (da_cons de_int da_nil))) da_nil) (dg_name (i := 3) sc_law_figures.nd rfl (by first | exact .inl rfl | exact .inr rfl)) (dss_one (ds_set (i := 2) sc_law_figures.nd rfl (by first | exact .inl rfl | exact .inr rfl) (de_op (od_add false) (de_var (pv 2)) (de_ix (de_var (pv 1)) (de_if (dt_cmp (od_eq hr.units) (de_call (dds := []) O0 (hr.mono (by omega)) rfl (kn.glo 5) F0.kp B1 .nil (fun _ _ => rfl) tk_of (da_cons (de_var (pv 0)) (da_cons de_int da_nil))) de_int (nomark _)) (de_call (dds := []) O0 (hr.mono (by omega)) rfl (kn.glo 5) F0.kp B1 .nil (fun _ _ => rfl) tk_of (da_cons (de_var (pv 0)) (da_cons de_int da_nil))) (de_call (dds := []) O0 (hr.mono (by omega)) rfl (kn.glo 5) F0.kp B1 .nil (fun _ _ => rfl) tk_of (da_cons (de_var (pv 0)) (da_cons de_int da_nil)))) (fun _ _ => rfl))))))
    (dss_one (ds_ret (de_var (pv 2))))))))
theorem blk_law_number_due_89_38 : BlkOk ["word", "least", "most", "sign"] (defScope s_law_number_due) { kind := .function, names := [(".0", .local), ("sign", .local)], isGenerator := false, isCoroutine := false, more := [] } [("sign", 3)] := ⟨rfl, by decide +kernel, by decide +kernel, by decide +kernel, by decide +kernel⟩
def b_law_number_due : SM := (sSeq (sIf (mOr (mNot (mTest (mChain gLe gLe (mC (.int 1)) (mCall (g1 gLen) (mCons (mVar 0) mNil)) (mC (.int 7))))) (mTest (mOp gGt (mCall (g1 gLen) (mCons (mLcS false (mVar 0) [3] (bName 3) (mTest (mOp gNotIn (mVar 3) (mC (.str "0123456789")))) (mVar 3)) mNil)) (mC (.int 0))))) (sRet (mC .non)) sNext)
    (sSeq (sIf (mAnd (mTest (mOp gGt (mCall (g1 gLen) (mCons (mVar 0) mNil)) (mC (.int 1)))) (mTest (mOp gEq (mOp gIx (mVar 0) (mC (.int 0))) (mC (.str "0"))))) (sRet (mC .non)) sNext)
    (sRet (mIf (mTest (mChain gLe gLe (mVar 1) (mCall (g1 gInt) (mCons (mVar 0) mNil)) (mVar 2))) (mCall (g1 gInt) (mCons (mVar 0) mNil)) (mC .non)))))
def f_law_number_due : FM := runF 4 b_law_number_due
theorem ok_law_number_due {P : Program} {w : World} {K : PySem.W.Frag} {mg : Str → Option Value} {base : Heap} (kn : Kn K mg) : Has P w K mg base 1 d_law_number_due ["word", "least", "most"] f_law_number_due := by
  refine has_def (k := 0) (N := ["word", "least", "most", "sign"]) (d := d_law_number_due) (kn.c.def_ 5 (d := d_law_number_due) rfl) sc_law_number_due fun f cdv A outer s H E hr => ?_
  delta b_law_number_due
  exact (dss_cons (ds_if (PW.pt (dw_or (dt_not (dt_chain od_le od_le de_int (de_callB cd_len rfl (kn.free 1) (by decide +kernel) (da_cons (de_var (pv 0)) da_nil)) de_int)) (dw_or1 (dt_cmp od_gt (de_callB cd_len rfl (kn.free 1) (by decide +kernel) (da_cons (de_lcS (own := [("sign", 3)]) (hm := false) rfl sc_law_number_due.nd (de_var (pv 0)) blk_law_number_due_89_38 (fun s1 H1 C1 cl1 fp1 J1 hJ1 => (dg_name (i := 3) sc_law_number_due.nd rfl (by first | exact .inl rfl | exact .inr rfl) (hJ := fun σ v h => hJ1 σ v 3 (by simp) h))) (fun s1 H1 C1 cl1 fp1 J1 hJ1 => (dts_one (dt_cmp od_notin (de_var (pv 3)) de_str (by with_unfolding_all rfl)))) (fun s1 H1 C1 cl1 fp1 J1 hJ1 => (de_var (pv 3)))) da_nil)) de_int (nomark _))))) (dss_one (ds_ret de_non)) dss_nil)
    (dss_cons (ds_if (PW.pt (dw_and (dt_cmp od_gt (de_callB cd_len rfl (kn.free 1) (by decide +kernel) (da_cons (de_var (pv 0)) da_nil)) de_int (nomark _)) (dw_and1 (dt_cmp (od_eq hr.units) (de_ix (de_var (pv 0)) de_int (fun _ _ => rfl)) de_str (nomark _))))) (dss_one (ds_ret de_non)) dss_nil)
    (dss_one (ds_ret (de_if (dt_chain od_le od_le (de_var (pv 1)) (de_callTy cd_int rfl (kn.free 2) (by decide +kernel) (da_cons (de_var (pv 0)) da_nil)) (de_var (pv 2))) (de_callTy cd_int rfl (kn.free 2) (by decide +kernel) (da_cons (de_var (pv 0)) da_nil)) de_non)))))
def b_is_number : SM := (sSeq (sIf (mOr (mTest (mIsi "bool" (mVar 0))) (mNot (mTest (mIsi "int" (mVar 0))))) (sRet (mC (.bl false))) sNext)
    (sRet (mChain gLe gLe (mVar 1) (mVar 0) (mVar 2))))
def f_is_number : FM := runF 3 b_is_number
theorem ok_is_number {P : Program} {w : World} {K : PySem.W.Frag} {mg : Str → Option Value} {base : Heap} (kn : Kn K mg) : Has P w K mg base 1 d_is_number ["value", "least", "most"] f_is_number := by
  refine has_def (k := 0) (N := ["value", "least", "most"]) (d := d_is_number) (kn.c.def_ 6 (d := d_is_number) rfl) sc_is_number fun f cdv A outer s H E hr => ?_
  delta b_is_number
  exact (dss_cons (ds_if (PW.pt (dw_or (dt_val (de_isi (T := "bool") rfl (kn.free 8) (by decide +kernel) rfl (kn.free 9) (by decide +kernel) (de_var (pv 0)))) (dw_or1 (dt_not (dt_val (de_isi (T := "int") rfl (kn.free 8) (by decide +kernel) rfl (kn.free 2) (by decide +kernel) (de_var (pv 0)))))))) (dss_one (ds_ret de_bl)) dss_nil)
    (dss_one (ds_ret (de_chain od_le od_le (de_var (pv 1)) (de_var (pv 0)) (de_var (pv 2))))))
def b_checked_number : SM := (sSeq (sIf (mNot (mTest (mFn (arity 3 f_is_number) [] (mCons (mVar 0) (mCons (mVar 1) (mCons (mVar 2) mNil)))))) (sRaise "InvalidNumber" (mCons (mOp (gAdd false) (mOp (gAdd false) (mOp (gAdd false) (mC (.str "no number from ")) (mCall (g1 gStr) (mCons (mVar 1) mNil))) (mC (.str " to "))) (mCall (g1 gStr) (mCons (mVar 2) mNil))) mNil)) sNext)
    (sRet (mVar 0)))
def f_checked_number : FM := runF 3 b_checked_number
theorem ok_checked_number {P : Program} {w : World} {K : PySem.W.Frag} {mg : Str → Option Value} {base : Heap} (kn : Kn K mg) : Has P w K mg base 2 d_checked_number ["value", "least", "most"] f_checked_number := by
  obtain ⟨fd0, F0, O0⟩ := ok_is_number (P := P) (w := w) (base := base) kn
  obtain ⟨ds1, V1, B1⟩ := FunD.binds1 (ps := ["value", "least", "most"]) F0 3 2 (by intro z; cases z) rfl (fun T kV doc pm an cdv ct us its h1 h2 => match us, its, h1, h2 with | [_, _, _], [_, _], _, _ => ⟨_, rfl, rfl⟩)
  refine has_def (k := 1) (N := ["value", "least", "most"]) (d := d_checked_number) (kn.c.def_ 7 (d := d_checked_number) rfl) sc_checked_number fun f cdv A outer s H E hr => ?_
  delta b_checked_number
  exact (dss_cons (ds_if (dt_not (dt_val (de_call (dds := []) O0 (hr.mono (by omega)) rfl (kn.glo 10) F0.kp B1 V1 (fun _ _ => rfl) tk_of (da_cons (de_var (pv 0)) (da_cons (de_var (pv 1)) (da_cons (de_var (pv 2)) da_nil)))))) (dss_one (ds_raise (c := "InvalidNumber") rfl tk_of PySem.F.excBase_ValueError (kn.exc 11).1 (kn.glo 12) (kn.exc 11).2.1 (raises_own (kn.exc 11).2.2.1 (kn.exc 11).2.2.2) rfl (da_cons (de_op (od_add false) (de_op (od_add false) (de_op (od_add false) de_str (de_callTy cd_str rfl (kn.free 7) (by decide +kernel) (da_cons (de_var (pv 1)) da_nil))) de_str) (de_callTy cd_str rfl (kn.free 7) (by decide +kernel) (da_cons (de_var (pv 2)) da_nil))) da_nil))) dss_nil)
    (dss_one (ds_ret (de_var (pv 0)))))
def b_read_number : SM := (sSeq (sIf (mOr (mNot (mTest (mIsi "str" (mVar 0)))) (mNot (mTest (mChain gLe gLe (mC (.int 1)) (mCall (g1 gLen) (mCons (mVar 0) mNil)) (mC (.int 7)))))) (sRaise "InvalidNumber" (mCons (mC (.str "no number")) mNil)) sNext)
    (sSeq (sForS (mVar 0) (bName 3) (sIf (mTest (mOp gNotIn (mVar 3) (mC (.str "0123456789")))) (sRaise "InvalidNumber" (mCons (mC (.str "no number")) mNil)) sNext))
    (sSeq (sIf (mAnd (mTest (mOp gGt (mCall (g1 gLen) (mCons (mVar 0) mNil)) (mC (.int 1)))) (mTest (mOp gEq (mOp gIx (mVar 0) (mC (.int 0))) (mC (.str "0"))))) (sRaise "InvalidNumber" (mCons (mC (.str "a nought ahead")) mNil)) sNext)
    (sRet (mFn (arity 3 f_checked_number) [] (mCons (mCall (g1 gInt) (mCons (mVar 0) mNil)) (mCons (mVar 1) (mCons (mVar 2) mNil))))))))
def f_read_number : FM := runF 4 b_read_number
theorem ok_read_number {P : Program} {w : World} {K : PySem.W.Frag} {mg : Str → Option Value} {base : Heap} (kn : Kn K mg) : Has P w K mg base 3 d_read_number ["word", "least", "most"] f_read_number := by
  obtain ⟨t0, G0⟩ := kn.str 13 (z := "0123456789")
  obtain ⟨fd1, F1, O1⟩ := ok_checked_number (P := P) (w := w) (base := base) kn
  obtain ⟨ds2, V2, B2⟩ := FunD.binds1 (ps := ["value", "least", "most"]) F1 3 2 (by intro z; cases z) rfl (fun T kV doc pm an cdv ct us its h1 h2 => match us, its, h1, h2 with | [_, _, _], [_, _], _, _ => ⟨_, rfl, rfl⟩)
  refine has_def (k := 2) (N := ["word", "least", "most", "sign"]) (d := d_read_number) (kn.c.def_ 8 (d := d_read_number) rfl) sc_read_number fun f cdv A outer s H E hr => ?_
  delta b_read_number
  exact (dss_cons (ds_if (PW.pt (dw_or (dt_not (dt_val (de_isi (T := "str") rfl (kn.free 8) (by decide +kernel) rfl (kn.free 7) (by decide +kernel) (de_var (pv 0))))) (dw_or1 (dt_not (dt_chain od_le od_le de_int (de_callB cd_len rfl (kn.free 1) (by decide +kernel) (da_cons (de_var (pv 0)) da_nil)) de_int))))) (dss_one (ds_raise (c := "InvalidNumber") rfl tk_of PySem.F.excBase_ValueError (kn.exc 11).1 (kn.glo 12) (kn.exc 11).2.1 (raises_own (kn.exc 11).2.2.1 (kn.exc 11).2.2.2) rfl (da_cons de_str da_nil))) dss_nil)
    (dss_cons (ds_forS own_of rfl (de_var (pv 0)) (dg_name (i := 3) sc_read_number.nd rfl (by first | exact .inl rfl | exact .inr rfl)) (dss_one (ds_if (dt_cmp od_notin (de_var (pv 3)) (de_c (pe_glob (v := .str "0123456789") rfl G0 ⟨t0, rfl⟩) fun _ _ => rfl) (by with_unfolding_all rfl)) (dss_one (ds_raise (c := "InvalidNumber") rfl tk_of PySem.F.excBase_ValueError (kn.exc 11).1 (kn.glo 12) (kn.exc 11).2.1 (raises_own (kn.exc 11).2.2.1 (kn.exc 11).2.2.2) rfl (da_cons de_str da_nil))) dss_nil)))
    (dss_cons (ds_if (PW.pt (dw_and (dt_cmp od_gt (de_callB cd_len rfl (kn.free 1) (by decide +kernel) (da_cons (de_var (pv 0)) da_nil)) de_int (nomark _)) (dw_and1 (dt_cmp (od_eq hr.units) (de_ix (de_var (pv 0)) de_int (fun _ _ => rfl)) de_str (nomark _))))) (dss_one (ds_raise (c := "InvalidNumber") rfl tk_of PySem.F.excBase_ValueError (kn.exc 11).1 (kn.glo 12) (kn.exc 11).2.1 (raises_own (kn.exc 11).2.2.1 (kn.exc 11).2.2.2) rfl (da_cons de_str da_nil))) dss_nil)
    (dss_one (ds_ret (de_call (dds := []) O1 (hr.mono (by omega)) rfl (kn.glo 14) F1.kp B2 V2 (fun _ _ => rfl) tk_of (da_cons (de_callTy cd_int rfl (kn.free 2) (by decide +kernel) (da_cons (de_var (pv 0)) da_nil)) (da_cons (de_var (pv 1)) (da_cons (de_var (pv 2)) da_nil)))))))))
def sub_law_read_100 (nm : Str) : Option Bool := if nm = "InvalidName" then some false else if nm = "InvalidNumber" then some true else none
theorem subok_law_read_100 {K : PySem.W.Frag} {mg : Str → Option Value} (kn : Kn K mg) (nm : Str) (b : Bool) (z : sub_law_read_100 nm = some b) : PySem.W.exmOne K (.ref (He.ga K nm)) (.ref (He.ga K "InvalidNumber")) = some b := by
  unfold sub_law_read_100 at z
  split at z
  · rename_i e; cases z; rw [e]; exact kn.exm 15
  split at z
  · rename_i e; cases z; rw [e]; exact kn.exm 16
  cases z
def b_law_read : SM := (sTryAs sub_law_read_100 3 (sRet (mFn (arity 3 f_read_number) [] (mCons (mVar 0) (mCons (mVar 1) (mCons (mVar 2) mNil))))) (fun nm => if nm = "InvalidNumber" then (sRet (mIf (mTest (mC (.bl true))) (mC .non) (mC (.str "other")))) else fun _ _ => .bad))
def f_law_read : FM := runF 4 b_law_read
theorem ok_law_read {P : Program} {w : World} {K : PySem.W.Frag} {mg : Str → Option Value} {base : Heap} (kn : Kn K mg) : Has P w K mg base 4 d_law_read ["word", "least", "most"] f_law_read := by
  obtain ⟨fd0, F0, O0⟩ := ok_read_number (P := P) (w := w) (base := base) kn
  obtain ⟨ds1, V1, B1⟩ := FunD.binds1 (ps := ["word", "least", "most"]) F0 3 2 (by intro z; cases z) rfl (fun T kV doc pm an cdv ct us its h1 h2 => match us, its, h1, h2 with | [_, _, _], [_, _], _, _ => ⟨_, rfl, rfl⟩)
  refine has_def (k := 3) (N := ["word", "least", "most", "e"]) (d := d_law_read) (kn.c.def_ 9 (d := d_law_read) rfl) sc_law_read fun f cdv A outer s H E hr => ?_
  delta b_law_read
  exact (dss_one (ds_try_as (i := 3) (cv := (.ref (He.ga K "InvalidNumber"))) rfl rfl sc_law_read.nd rfl rfl (⟨rfl, by decide, .inl (kn.glo 12)⟩) tk_of (subok_law_read_100 kn) (fun W1 pn1 xe1 tk1 own1 => (dss_one (ds_ret (de_call (dds := []) O0 (hr.mono (by omega)) rfl (kn.glo 17) F0.kp B1 V1 (fun _ _ => rfl) tk1 (da_cons (de_var (pv 0)) (da_cons (de_var (pv 1)) (da_cons (de_var (pv 2)) da_nil))))))) (fun nm a oe pn hc hz hf => by
      unfold sub_law_read_100 at hc
      split at hc
      · cases hc
      split at hc
      · rename_i e; subst e; show PSs _ _ (tS _ _ _ _ (sRet (mIf (mTest (mC (.bl true))) (mC .non) (mC (.str "other"))))); exact (dss_one (ds_ret (de_if (dt_val (by exact de_isE (fx_exc (fx_at kn.x 0)) hz hf (pv 3) (pe_glob (v := .ref (He.ga K "RiseError")) rfl (kn.glo 18) rfl) (fun _ r => r) (fx_kitR (fx_at kn.x 1)) rfl (kn.free 8) (by decide +kernel))) de_non de_str)))
      cases hc)))
def b_is_name : SM := (sSeq (sIf (mOr (mNot (mTest (mIsi "str" (mVar 0)))) (mNot (mTest (mChain gLe gLe (mC (.int 1)) (mCall (g1 gLen) (mCons (mVar 0) mNil)) (mC (.int 12)))))) (sRet (mC (.bl false))) sNext)
    (sSeq (sForS (mVar 0) (bName 1) (sIf (mTest (mOp gNotIn (mVar 1) (mC (.str "abcdefghijklmnopqrstuvwxyz")))) (sRet (mC (.bl false))) sNext))
    (sRet (mC (.bl true)))))
def f_is_name : FM := runF 2 b_is_name
theorem ok_is_name {P : Program} {w : World} {K : PySem.W.Frag} {mg : Str → Option Value} {base : Heap} (kn : Kn K mg) : Has P w K mg base 1 d_is_name ["word"] f_is_name := by
  obtain ⟨t0, G0⟩ := kn.int 19 (z := 12)
  obtain ⟨t1, G1⟩ := kn.str 20 (z := "abcdefghijklmnopqrstuvwxyz")
  refine has_def (k := 0) (N := ["word", "sign"]) (d := d_is_name) (kn.c.def_ 10 (d := d_is_name) rfl) sc_is_name fun f cdv A outer s H E hr => ?_
  delta b_is_name
  exact (dss_cons (ds_if (PW.pt (dw_or (dt_not (dt_val (de_isi (T := "str") rfl (kn.free 8) (by decide +kernel) rfl (kn.free 7) (by decide +kernel) (de_var (pv 0))))) (dw_or1 (dt_not (dt_chain od_le od_le de_int (de_callB cd_len rfl (kn.free 1) (by decide +kernel) (da_cons (de_var (pv 0)) da_nil)) (de_c (pe_glob (v := .int 12) rfl G0 ⟨t0, rfl⟩) fun _ _ => rfl)))))) (dss_one (ds_ret de_bl)) dss_nil)
    (dss_cons (ds_forS own_of rfl (de_var (pv 0)) (dg_name (i := 1) sc_is_name.nd rfl (by first | exact .inl rfl | exact .inr rfl)) (dss_one (ds_if (dt_cmp od_notin (de_var (pv 1)) (de_c (pe_glob (v := .str "abcdefghijklmnopqrstuvwxyz") rfl G1 ⟨t1, rfl⟩) fun _ _ => rfl) (by with_unfolding_all rfl)) (dss_one (ds_ret de_bl)) dss_nil)))
    (dss_one (ds_ret de_bl))))
def b_told : SM := (sSeq (sIf (mTest (mOp gIs (mVar 0) (mC .non))) (sRet (mC (.str "never"))) sNext)
    (sRet (mCall (g1 gStr) (mCons (mVar 0) mNil))))
def f_told : FM := runF 1 b_told
theorem ok_told {P : Program} {w : World} {K : PySem.W.Frag} {mg : Str → Option Value} {base : Heap} (kn : Kn K mg) : Has P w K mg base 1 d_told ["value"] f_told := by
  refine has_def (k := 0) (N := ["value"]) (d := d_told) (kn.c.def_ 11 (d := d_told) rfl) sc_told fun f cdv A outer s H E hr => ?_
  delta b_told
  exact (dss_cons (ds_if (dt_cmp od_is (de_var (pv 0)) de_non (nomark _)) (dss_one (ds_ret de_str)) dss_nil)
    (dss_one (ds_ret (de_callTy cd_str rfl (kn.free 7) (by decide +kernel) (da_cons (de_var (pv 0)) da_nil)))))
def b_sooner : SM := (sSeq (sIf (mTest (mOp gIs (mVar 0) (mC .non))) (sRet (mVar 1)) sNext)
    (sSeq (sIf (mTest (mOp gIs (mVar 1) (mC .non))) (sRet (mVar 0)) sNext)
    (sRet (mCall (g2 gMin2) (mCons (mVar 0) (mCons (mVar 1) mNil))))))
def f_sooner : FM := runF 2 b_sooner
theorem ok_sooner {P : Program} {w : World} {K : PySem.W.Frag} {mg : Str → Option Value} {base : Heap} (kn : Kn K mg) : Has P w K mg base 1 d_sooner ["one", "other"] f_sooner := by
  refine has_def (k := 0) (N := ["one", "other"]) (d := d_sooner) (kn.c.def_ 12 (d := d_sooner) rfl) sc_sooner fun f cdv A outer s H E hr => ?_
  delta b_sooner
  exact (dss_cons (ds_if (dt_cmp od_is (de_var (pv 0)) de_non (nomark _)) (dss_one (ds_ret (de_var (pv 1)))) dss_nil)
    (dss_cons (ds_if (dt_cmp od_is (de_var (pv 1)) de_non (nomark _)) (dss_one (ds_ret (de_var (pv 0)))) dss_nil)
    (dss_one (ds_ret (de_callB (cd_min2 rfl) rfl (kn.free 21) (by decide +kernel) (da_cons (de_var (pv 0)) (da_cons (de_var (pv 1)) da_nil)))))))
def b_not_later : SM := (sSeq (sIf (mTest (mOp gIs (mVar 1) (mC .non))) (sRet (mC (.bl true))) sNext)
    (sRet (mAndV (mOp gIsNot (mVar 0) (mC .non)) (mOp gLe (mVar 0) (mVar 1)))))
def f_not_later : FM := runF 2 b_not_later
theorem ok_not_later {P : Program} {w : World} {K : PySem.W.Frag} {mg : Str → Option Value} {base : Heap} (kn : Kn K mg) : Has P w K mg base 1 d_not_later ["one", "other"] f_not_later := by
  refine has_def (k := 0) (N := ["one", "other"]) (d := d_not_later) (kn.c.def_ 13 (d := d_not_later) rfl) sc_not_later fun f cdv A outer s H E hr => ?_
  delta b_not_later
  exact (dss_cons (ds_if (dt_cmp od_is (de_var (pv 1)) de_non (nomark _)) (dss_one (ds_ret de_bl)) dss_nil)
    (dss_one (ds_ret (de_and (de_cmp od_isnot (de_var (pv 0)) de_non (nomark _)) (de_and1 (by exact (de_cmp od_le (de_var (pv 0)) (de_var (pv 1)) (nomark _))))))))
theorem blk_law_minutes_right_110_11 : BlkOk ["one", "other", "rank", "due", "value"] (defScope s_law_minutes_right) { kind := .function, names := [(".0", .local), ("value", .local)], isGenerator := false, isCoroutine := false, more := [] } [("value", 4)] := ⟨rfl, by decide +kernel, by decide +kernel, by decide +kernel, by decide +kernel⟩
def b_law_minutes_right : SM := (sSeq (sAsg (mLcT false (mTup (mCons (mVar 0) (mCons (mVar 1) mNil))) [4] (bName 4) mYes (mIf (mTest (mOp gIs (mVar 4) (mC .non))) (mOp gPow (mC (.int 10)) (mC (.int 9))) (mVar 4))) (bName 2))
    (sSeq (sAsg (mOp gIx (mLst false (mCons (mVar 0) (mCons (mVar 1) mNil))) (mCall (g1 gInt) (mCons (mOp gLt (mOp gIx (mVar 2) (mC (.int 1))) (mOp gIx (mVar 2) (mC (.int 0)))) mNil))) (bName 3))
    (sSeq (sIf (mOr (mTest (mOp gNe (mFn (arity 2 f_sooner) [] (mCons (mVar 0) (mCons (mVar 1) mNil))) (mVar 3))) (mTest (mOp gNe (mCall (g1 gRepr) (mCons (mFn (arity 2 f_not_later) [] (mCons (mVar 0) (mCons (mVar 1) mNil))) mNil)) (mCall (g1 gRepr) (mCons (mOp gLe (mOp gIx (mVar 2) (mC (.int 0))) (mOp gIx (mVar 2) (mC (.int 1)))) mNil))))) (sRet (mC (.bl false))) sNext)
    (sRet (mOp gEq (mFn (arity 1 f_told) [] (mCons (mVar 0) mNil)) (mIf (mTest (mOp gIs (mVar 0) (mC .non))) (mC (.str "never")) (mCall (g1 gStr) (mCons (mVar 0) mNil))))))))
def f_law_minutes_right : FM := runF 5 b_law_minutes_right
theorem ok_law_minutes_right {P : Program} {w : World} {K : PySem.W.Frag} {mg : Str → Option Value} {base : Heap} (kn : Kn K mg) : Has P w K mg base 2 d_law_minutes_right ["one", "other"] f_law_minutes_right := by
  obtain ⟨fd0, F0, O0⟩ := ok_sooner (P := P) (w := w) (base := base) kn
  have B1 := FunD.bindsN (ps := ["one", "other"]) F0 (fun _ _ _ _ _ _ us hl => match us, hl with | [_, _], _ => rfl)
  obtain ⟨fd2, F2, O2⟩ := ok_not_later (P := P) (w := w) (base := base) kn
  have B3 := FunD.bindsN (ps := ["one", "other"]) F2 (fun _ _ _ _ _ _ us hl => match us, hl with | [_, _], _ => rfl)
  obtain ⟨fd4, F4, O4⟩ := ok_told (P := P) (w := w) (base := base) kn
  have B5 := FunD.bindsN (ps := ["value"]) F4 (fun _ _ _ _ _ _ us hl => match us, hl with | [_], _ => rfl)
  refine has_def (k := 1) (N := ["one", "other", "rank", "due", "value"]) (d := d_law_minutes_right) (kn.c.def_ 14 (d := d_law_minutes_right) rfl) sc_law_minutes_right fun f cdv A outer s H E hr => ?_
  delta b_law_minutes_right
  exact (dss_cons (ds_setLcT (iy := 2) (own := [("value", 4)]) (hm := false) rfl sc_law_minutes_right.nd (de_tup (da_cons (de_var (pv 0)) (da_cons (de_var (pv 1)) da_nil))) blk_law_minutes_right_110_11 (fun s1 H1 C1 cl1 fp1 J1 hJ1 => (dg_name (i := 4) sc_law_minutes_right.nd rfl (by first | exact .inl rfl | exact .inr rfl) (hJ := fun σ v h => hJ1 σ v 4 (by simp) h))) (fun s1 H1 C1 cl1 fp1 J1 hJ1 => dts_nil) (fun s1 H1 C1 cl1 fp1 J1 hJ1 => (de_if (dt_cmp od_is (de_var (pv 4)) de_non (nomark _)) (de_op od_pow de_int de_int) (de_var (pv 4)))) (hy := rfl) (hyl := rfl) (hsw := rfl))
    (dss_cons (ds_set (i := 3) sc_law_minutes_right.nd rfl (by first | exact .inl rfl | exact .inr rfl) (de_ix (de_lst (hm := false) (da_cons (de_var (pv 0)) (da_cons (de_var (pv 1)) da_nil))) (de_callTy cd_int rfl (kn.free 2) (by decide +kernel) (da_cons (de_cmp od_lt (de_ix (de_var (pv 2)) de_int (fun _ _ => rfl)) (de_ix (de_var (pv 2)) de_int (fun _ _ => rfl)) (nomark _)) da_nil)) (fun _ _ => rfl)))
    (dss_cons (ds_if (PW.pt (dw_or (dt_cmp (od_ne hr.units) (de_call (dds := []) O0 (hr.mono (by omega)) rfl (kn.glo 22) F0.kp B1 .nil (fun _ _ => rfl) tk_of (da_cons (de_var (pv 0)) (da_cons (de_var (pv 1)) da_nil))) (de_var (pv 3)) (nomark _)) (dw_or1 (dt_cmp (od_ne hr.units) (de_callB cd_repr rfl (kn.free 24) (by decide +kernel) (da_cons (de_call (dds := []) O2 (hr.mono (by omega)) rfl (kn.glo 23) F2.kp B3 .nil (fun _ _ => rfl) tk_of (da_cons (de_var (pv 0)) (da_cons (de_var (pv 1)) da_nil))) da_nil)) (de_callB cd_repr rfl (kn.free 24) (by decide +kernel) (da_cons (de_cmp od_le (de_ix (de_var (pv 2)) de_int (fun _ _ => rfl)) (de_ix (de_var (pv 2)) de_int (fun _ _ => rfl)) (nomark _)) da_nil)) (nomark _))))) (dss_one (ds_ret de_bl)) dss_nil)
    (dss_one (ds_ret (de_cmp (od_eq hr.units) (de_call (dds := []) O4 (hr.mono (by omega)) rfl (kn.glo 25) F4.kp B5 .nil (fun _ _ => rfl) tk_of (da_cons (de_var (pv 0)) da_nil)) (de_if (dt_cmp od_is (de_var (pv 0)) de_non (nomark _)) de_str (de_callTy cd_str rfl (kn.free 7) (by decide +kernel) (da_cons (de_var (pv 0)) da_nil))) (nomark _)))))))
def b_checked_name : SM := (sSeq (sIf (mNot (mTest (mFn (arity 1 f_is_name) [] (mCons (mVar 0) mNil)))) (sRaise "InvalidName" (mCons (mC (.str "no name")) mNil)) sNext)
    (sRet (mVar 0)))
def f_checked_name : FM := runF 1 b_checked_name
theorem ok_checked_name {P : Program} {w : World} {K : PySem.W.Frag} {mg : Str → Option Value} {base : Heap} (kn : Kn K mg) : Has P w K mg base 2 d_checked_name ["word"] f_checked_name := by
  obtain ⟨fd0, F0, O0⟩ := ok_is_name (P := P) (w := w) (base := base) kn
  have B1 := FunD.bindsN (ps := ["word"]) F0 (fun _ _ _ _ _ _ us hl => match us, hl with | [_], _ => rfl)
  refine has_def (k := 1) (N := ["word"]) (d := d_checked_name) (kn.c.def_ 15 (d := d_checked_name) rfl) sc_checked_name fun f cdv A outer s H E hr => ?_
  delta b_checked_name
  exact (dss_cons (ds_if (dt_not (dt_val (de_call (dds := []) O0 (hr.mono (by omega)) rfl (kn.glo 26) F0.kp B1 .nil (fun _ _ => rfl) tk_of (da_cons (de_var (pv 0)) da_nil)))) (dss_one (ds_raise (c := "InvalidName") rfl tk_of PySem.F.excBase_ValueError (kn.exc 27).1 (kn.glo 28) (kn.exc 27).2.1 (raises_own (kn.exc 27).2.2.1 (kn.exc 27).2.2.2) rfl (da_cons de_str da_nil))) dss_nil)
    (dss_one (ds_ret (de_var (pv 0)))))
def sub_law_name_told_95 (nm : Str) : Option Bool := if nm = "InvalidName" then some true else if nm = "InvalidNumber" then some false else none
theorem subok_law_name_told_95 {K : PySem.W.Frag} {mg : Str → Option Value} (kn : Kn K mg) (nm : Str) (b : Bool) (z : sub_law_name_told_95 nm = some b) : PySem.W.exmOne K (.ref (He.ga K nm)) (.ref (He.ga K "InvalidName")) = some b := by
  unfold sub_law_name_told_95 at z
  split at z
  · rename_i e; cases z; rw [e]; exact kn.exm 29
  split at z
  · rename_i e; cases z; rw [e]; exact kn.exm 30
  cases z
def b_law_name_told : SM := (sTryAs sub_law_name_told_95 1 (sRet (mFn (arity 1 f_checked_name) [] (mCons (mVar 0) mNil))) (fun nm => if nm = "InvalidName" then (sRet (mLst false (mCons (mC (.bl true)) (mCons (mC (.bl true)) mNil)))) else fun _ _ => .bad))
def f_law_name_told : FM := runF 2 b_law_name_told
theorem ok_law_name_told {P : Program} {w : World} {K : PySem.W.Frag} {mg : Str → Option Value} {base : Heap} (kn : Kn K mg) : Has P w K mg base 3 d_law_name_told ["word"] f_law_name_told := by
  obtain ⟨fd0, F0, O0⟩ := ok_checked_name (P := P) (w := w) (base := base) kn
  have B1 := FunD.bindsN (ps := ["word"]) F0 (fun _ _ _ _ _ _ us hl => match us, hl with | [_], _ => rfl)
  refine has_def (k := 2) (N := ["word", "e"]) (d := d_law_name_told) (kn.c.def_ 16 (d := d_law_name_told) rfl) sc_law_name_told fun f cdv A outer s H E hr => ?_
  delta b_law_name_told
  exact (dss_one (ds_try_as (i := 1) (cv := (.ref (He.ga K "InvalidName"))) rfl rfl sc_law_name_told.nd rfl rfl (⟨rfl, by decide, .inl (kn.glo 28)⟩) tk_of (subok_law_name_told_95 kn) (fun W1 pn1 xe1 tk1 own1 => (dss_one (ds_ret (de_call (dds := []) O0 (hr.mono (by omega)) rfl (kn.glo 31) F0.kp B1 .nil (fun _ _ => rfl) tk1 (da_cons (de_var (pv 0)) da_nil))))) (fun nm a oe pn hc hz hf => by
      unfold sub_law_name_told_95 at hc
      split at hc
      · rename_i e; subst e; show PSs _ _ (tS _ _ _ _ (sRet (mLst false (mCons (mC (.bl true)) (mCons (mC (.bl true)) mNil))))); exact (dss_one (ds_ret (de_lst (hm := false) (da_cons (by exact de_isE (fx_exc (fx_at kn.x 2)) hz hf (pv 1) (pe_glob (v := .ref (He.ga K "RiseError")) rfl (kn.glo 18) rfl) (fun _ r => r) (fx_kitR (fx_at kn.x 4)) rfl (kn.free 8) (by decide +kernel)) (da_cons (by exact de_isE (fx_exc (fx_at kn.x 2)) hz hf (pv 1) (pe_bltn (v := .ty "ValueError") rfl (kn.free 32) (by decide +kernel) rfl) (fun _ r => r) (fx_kitT (fx_at kn.x 3)) rfl (kn.free 8) (by decide +kernel)) da_nil)))))
      split at hc
      · cases hc
      cases hc)))
def sub_law_checked_105 (nm : Str) : Option Bool := if nm = "InvalidName" then some false else if nm = "InvalidNumber" then some true else none
theorem subok_law_checked_105 {K : PySem.W.Frag} {mg : Str → Option Value} (kn : Kn K mg) (nm : Str) (b : Bool) (z : sub_law_checked_105 nm = some b) : PySem.W.exmOne K (.ref (He.ga K nm)) (.ref (He.ga K "InvalidNumber")) = some b := by
  unfold sub_law_checked_105 at z
  split at z
  · rename_i e; cases z; rw [e]; exact kn.exm 15
  split at z
  · rename_i e; cases z; rw [e]; exact kn.exm 16
  cases z
def b_law_checked : SM := (sTry sub_law_checked_105 (sRet (mLst false (mCons (mFn (arity 3 f_checked_number) [] (mCons (mVar 0) (mCons (mVar 1) (mCons (mVar 2) mNil)))) mNil))) (fun nm => if nm = "InvalidNumber" then (sRet (mC .non)) else fun _ _ => .bad))
def f_law_checked : FM := runF 3 b_law_checked
theorem ok_law_checked {P : Program} {w : World} {K : PySem.W.Frag} {mg : Str → Option Value} {base : Heap} (kn : Kn K mg) : Has P w K mg base 3 d_law_checked ["value", "least", "most"] f_law_checked := by
  obtain ⟨fd0, F0, O0⟩ := ok_checked_number (P := P) (w := w) (base := base) kn
  obtain ⟨ds1, V1, B1⟩ := FunD.binds1 (ps := ["value", "least", "most"]) F0 3 2 (by intro z; cases z) rfl (fun T kV doc pm an cdv ct us its h1 h2 => match us, its, h1, h2 with | [_, _, _], [_, _], _, _ => ⟨_, rfl, rfl⟩)
  refine has_def (k := 2) (N := ["value", "least", "most"]) (d := d_law_checked) (kn.c.def_ 17 (d := d_law_checked) rfl) sc_law_checked fun f cdv A outer s H E hr => ?_
  delta b_law_checked
  exact (dss_one (ds_try (cv := (.ref (He.ga K "InvalidNumber"))) rfl rfl (⟨rfl, by decide, .inl (kn.glo 12)⟩) tk_of (subok_law_checked_105 kn) (fun W1 pn1 xe1 tk1 own1 => (dss_one (ds_ret (de_lst (hm := false) (da_cons (de_call (dds := []) O0 (hr.mono (by omega)) rfl (kn.glo 14) F0.kp B1 V1 (fun _ _ => rfl) tk1 (da_cons (de_var (pv 0)) (da_cons (de_var (pv 1)) (da_cons (de_var (pv 2)) da_nil)))) da_nil))))) (fun nm a oe pn hc hz hf => by
      unfold sub_law_checked_105 at hc
      split at hc
      · cases hc
      split at hc
      · rename_i e; subst e; show PSs _ _ (tS _ _ _ _ (sRet (mC .non))); exact (dss_one (ds_ret de_non))
      cases hc)))
def b_law : SM := (sSeq (sAsg (mLst true (mCons (mVar 0) (mCons (mC (.int 0)) (mCons (mC (.int 0)) mNil)))) (bName 1))
    (sSeq (sForR1 (mCons (mC (.int 6)) mNil) (bName 2) (sSeq (sAsg (mFn (arity 1 f_law_word) [] (mCons (mVar 1) mNil)) (bName 3))
    (sSeq (sAsg (mFn (arity 1 f_law_name_due) [] (mCons (mVar 3) mNil)) (bName 4))
    (sSeq (sIf (mOr (mTest (mOp gNe (mCall (g1 gRepr) (mCons (mFn (arity 1 f_is_name) [] (mCons (mVar 3) mNil)) mNil)) (mCall (g1 gRepr) (mCons (mVar 4) mNil)))) (mTest (mOp gNe (mFn (arity 1 f_law_name_told) [] (mCons (mVar 3) mNil)) (mIf (mTru (mVar 4)) (mVar 3) (mLst false (mCons (mC (.bl true)) (mCons (mC (.bl true)) mNil))))))) (sRet (mC (.bl false))) sNext)
    (sSeq (sAsg (mFn (arity 1 f_law_figures) [] (mCons (mVar 1) mNil)) (bName 3))
    (sSeq (sAsg (mOp gIx (mLst false (mCons (mC (.int 0)) (mCons (mC (.int 0)) (mCons (mC (.int 1)) (mCons (mC (.int 10)) mNil))))) (mFn (arity 2 f_law_take) [] (mCons (mVar 1) (mCons (mC (.int 4)) mNil)))) (bName 5))
    (sSeq (sAsg (mOp gIx (mLst false (mCons (mC (.int 1000000)) (mCons (mC (.int 1000000)) (mCons (mC (.int 999999)) (mCons (mC (.int 20)) mNil))))) (mFn (arity 2 f_law_take) [] (mCons (mVar 1) (mCons (mC (.int 4)) mNil)))) (bName 6))
    (sSeq (sAsg (mFn (arity 3 f_law_number_due) [] (mCons (mVar 3) (mCons (mVar 5) (mCons (mVar 6) mNil)))) (bName 4))
    (sSeq (sAsg (mFn (arity 3 f_law_read) [] (mCons (mVar 3) (mCons (mVar 5) (mCons (mVar 6) mNil)))) (bName 7))
    (sSeq (sIf (mOr (mTest (mOp gNe (mVar 7) (mVar 4))) (mOr (mTest (mIsi "bool" (mVar 7))) (mTest (mOp gNe (mFn (arity 3 f_law_read) [] (mCons (mVar 3) (mCons (mC (.int 0)) (mCons (mC (.int 1000000)) mNil)))) (mFn (arity 3 f_law_number_due) [] (mCons (mVar 3) (mCons (mC (.int 0)) (mCons (mC (.int 1000000)) mNil)))))))) (sRet (mC (.bl false))) sNext)
    (sSeq (sAsg (mOp gIx (mLst false (mCons (mOp gSub (mFn (arity 2 f_law_take) [] (mCons (mVar 1) (mCons (mC (.int 1000003)) mNil))) (mC (.int 1))) (mCons (mOp gSub (mVar 5) (mC (.int 1))) (mCons (mVar 5) (mCons (mVar 6) (mCons (mOp (gAdd false) (mVar 6) (mC (.int 1))) (mCons (mC (.bl true)) (mCons (mC (.bl false)) (mCons (mC (.str "5")) (mCons (mC .non) mNil)))))))))) (mFn (arity 2 f_law_take) [] (mCons (mVar 1) (mCons (mC (.int 9)) mNil)))) (bName 8))
    (sSeq (sAsg (mAndV (mIsi "int" (mVar 8)) (mAndV (mNotV (mIsi "bool" (mVar 8))) (mChain gLe gLe (mVar 5) (mVar 8) (mVar 6)))) (bName 9))
    (sSeq (sIf (mOr (mTest (mOp gNe (mCall (g1 gRepr) (mCons (mFn (arity 3 f_is_number) [] (mCons (mVar 8) (mCons (mVar 5) (mCons (mVar 6) mNil)))) mNil)) (mCall (g1 gRepr) (mCons (mVar 9) mNil)))) (mTest (mOp gNe (mFn (arity 3 f_law_checked) [] (mCons (mVar 8) (mCons (mVar 5) (mCons (mVar 6) mNil)))) (mIf (mTru (mVar 9)) (mLst false (mCons (mVar 8) mNil)) (mC .non))))) (sRet (mC (.bl false))) sNext)
    (sIf (mNot (mTest (mFn (arity 2 f_law_minutes_right) [] (mCons (mOp gIx (mLst false (mCons (mC .non) (mCons (mC (.int 0)) (mCons (mC (.int 4)) (mCons (mC (.int 9)) mNil))))) (mFn (arity 2 f_law_take) [] (mCons (mVar 1) (mCons (mC (.int 4)) mNil)))) (mCons (mOp gIx (mLst false (mCons (mC .non) (mCons (mC (.int 0)) (mCons (mC (.int 4)) (mCons (mC (.int 9)) mNil))))) (mFn (arity 2 f_law_take) [] (mCons (mVar 1) (mCons (mC (.int 4)) mNil)))) mNil))))) (sRet (mC (.bl false))) sNext))))))))))))))
    (sSeq (sIf (mOr (mTest (mFn (arity 1 f_is_name) [] (mCons (mC (.int 5)) mNil))) (mOr (mTest (mFn (arity 1 f_is_name) [] (mCons (mC .non) mNil))) (mOr (mTest (mFn (arity 1 f_is_name) [] (mCons (mLst false (mCons (mC (.str "a")) mNil)) mNil))) (mTest (mOp gIsNot (mFn (arity 3 f_law_read) [] (mCons (mC (.int 5)) (mCons (mC (.int 0)) (mCons (mC (.int 9)) mNil)))) (mC .non)))))) (sRet (mC (.bl false))) sNext)
    (sRet (mAndV (mFn (arity 3 f_is_number) [.int 0, .int 1000000] (mCons (mC (.int 1000000)) mNil)) (mAndV (mNotV (mFn (arity 3 f_is_number) [.int 0, .int 1000000] (mCons (mC (.int 1000001)) mNil))) (mAndV (mNotV (mFn (arity 3 f_is_number) [.int 0, .int 1000000] (mCons (mOp gSub (mC (.int 0)) (mC (.int 1))) mNil))) (mFn (arity 3 f_is_number) [.int 0, .int 1000000] (mCons (mC (.int 0)) mNil)))))))))
def f_law : FM := runF 10 b_law
theorem ok_law {P : Program} {w : World} {K : PySem.W.Frag} {mg : Str → Option Value} {base : Heap} (kn : Kn K mg) : ∃ fd, FunD K "law" "law" (defArgs s_law) (defBody s_law) (defScope s_law) [] [] (He.ga K "law") fd ∧ FnOk P w K mg base CX0 5 (He.ga K "law") fd ["script"] (spLaw K f_law) := by
  obtain ⟨fd0, F0, O0⟩ := ok_law_word (P := P) (w := w) (base := base) kn
  have B1 := FunD.bindsN (ps := ["state"]) F0 (fun _ _ _ _ _ _ us hl => match us, hl with | [_], _ => rfl)
  obtain ⟨fd2, F2, O2⟩ := ok_law_name_due (P := P) (w := w) (base := base) kn
  have B3 := FunD.bindsN (ps := ["word"]) F2 (fun _ _ _ _ _ _ us hl => match us, hl with | [_], _ => rfl)
  obtain ⟨fd4, F4, O4⟩ := ok_is_name (P := P) (w := w) (base := base) kn
  have B5 := FunD.bindsN (ps := ["word"]) F4 (fun _ _ _ _ _ _ us hl => match us, hl with | [_], _ => rfl)
  obtain ⟨fd6, F6, O6⟩ := ok_law_name_told (P := P) (w := w) (base := base) kn
  have B7 := FunD.bindsN (ps := ["word"]) F6 (fun _ _ _ _ _ _ us hl => match us, hl with | [_], _ => rfl)
  obtain ⟨fd8, F8, O8⟩ := ok_law_figures (P := P) (w := w) (base := base) kn
  have B9 := FunD.bindsN (ps := ["state"]) F8 (fun _ _ _ _ _ _ us hl => match us, hl with | [_], _ => rfl)
  obtain ⟨fd10, F10, O10⟩ := ok_law_take (P := P) (w := w) (base := base) kn
  have B11 := FunD.bindsN (ps := ["state", "limit"]) F10 (fun _ _ _ _ _ _ us hl => match us, hl with | [_, _], _ => rfl)
  obtain ⟨fd12, F12, O12⟩ := ok_law_number_due (P := P) (w := w) (base := base) kn
  have B13 := FunD.bindsN (ps := ["word", "least", "most"]) F12 (fun _ _ _ _ _ _ us hl => match us, hl with | [_, _, _], _ => rfl)
  obtain ⟨fd14, F14, O14⟩ := ok_law_read (P := P) (w := w) (base := base) kn
  have B15 := FunD.bindsN (ps := ["word", "least", "most"]) F14 (fun _ _ _ _ _ _ us hl => match us, hl with | [_, _, _], _ => rfl)
  obtain ⟨fd16, F16, O16⟩ := ok_is_number (P := P) (w := w) (base := base) kn
  obtain ⟨ds17, V17, B17⟩ := FunD.binds1 (ps := ["value", "least", "most"]) F16 3 2 (by intro z; cases z) rfl (fun T kV doc pm an cdv ct us its h1 h2 => match us, its, h1, h2 with | [_, _, _], [_, _], _, _ => ⟨_, rfl, rfl⟩)
  obtain ⟨fd18, F18, O18⟩ := ok_law_checked (P := P) (w := w) (base := base) kn
  have B19 := FunD.bindsN (ps := ["value", "least", "most"]) F18 (fun _ _ _ _ _ _ us hl => match us, hl with | [_, _, _], _ => rfl)
  obtain ⟨fd20, F20, O20⟩ := ok_law_minutes_right (P := P) (w := w) (base := base) kn
  have B21 := FunD.bindsN (ps := ["one", "other"]) F20 (fun _ _ _ _ _ _ us hl => match us, hl with | [_, _], _ => rfl)
  obtain ⟨ds22, V22, B22⟩ := FunD.binds1 (ps := ["value", "least", "most"]) F16 1 0 (by intro z; cases z) rfl (fun T kV doc pm an cdv ct us its h1 h2 => match us, its, h1, h2 with | [_], [_, _], _, _ => ⟨_, rfl, rfl⟩)
  obtain ⟨fd, F⟩ := kn.c.def_ 18 (d := d_law) rfl
  refine ⟨fd, F, law_def (ad := He.ga K) (k := 4) (N := ["script", "state", "k", "word", "due", "least", "most", "found", "value", "good"]) F sc_law fun cdv A outer s H E hr => ?_⟩
  delta b_law
  exact (dss_cons (ds_set (i := 1) sc_law.nd rfl (by first | exact .inl rfl | exact .inr rfl) (de_lst (hm := true) (da_cons (de_var (pv 0)) (da_cons de_int (da_cons de_int da_nil)))))
    (dss_cons (ds_forR1 own_of rfl rfl (kn.free 6) (da_cons de_int da_nil) (dg_name (i := 2) sc_law.nd rfl (by first | exact .inl rfl | exact .inr rfl)) (dss_cons (ds_set (i := 3) sc_law.nd rfl (by first | exact .inl rfl | exact .inr rfl) (de_call (dds := []) O0 (hr.mono (by omega)) rfl (kn.glo 33) F0.kp B1 .nil (fun _ _ => rfl) takesF (da_cons (de_var (pv 1)) da_nil)))
    (dss_cons (ds_set (i := 4) sc_law.nd rfl (by first | exact .inl rfl | exact .inr rfl) (de_call (dds := []) O2 (hr.mono (by omega)) rfl (kn.glo 34) F2.kp B3 .nil (fun _ _ => rfl) takesF (da_cons (de_var (pv 3)) da_nil)))
    (dss_cons (ds_if (PW.pt (dw_or (dt_cmp (od_ne hr.units) (de_callB cd_repr rfl (kn.free 24) (by decide +kernel) (da_cons (de_call (dds := []) O4 (hr.mono (by omega)) rfl (kn.glo 26) F4.kp B5 .nil (fun _ _ => rfl) takesF (da_cons (de_var (pv 3)) da_nil)) da_nil)) (de_callB cd_repr rfl (kn.free 24) (by decide +kernel) (da_cons (de_var (pv 4)) da_nil)) (nomark _)) (dw_or1 (dt_cmp (od_ne hr.units) (de_call (dds := []) O6 (hr.mono (by omega)) rfl (kn.glo 35) F6.kp B7 .nil (fun _ _ => rfl) takesF (da_cons (de_var (pv 3)) da_nil)) (de_if (dt_truth (de_var (pv 4))) (de_var (pv 3)) (de_lst (hm := false) (da_cons de_bl (da_cons de_bl da_nil)))) (nomark _))))) (dss_one (ds_ret de_bl)) dss_nil)
    (dss_cons (ds_set (i := 3) sc_law.nd rfl (by first | exact .inl rfl | exact .inr rfl) (de_call (dds := []) O8 (hr.mono (by omega)) rfl (kn.glo 36) F8.kp B9 .nil (fun _ _ => rfl) takesF (da_cons (de_var (pv 1)) da_nil)))
    (dss_cons (ds_set (i := 5) sc_law.nd rfl (by first | exact .inl rfl | exact .inr rfl) (de_ix (de_lst (hm := false) (da_cons de_int (da_cons de_int (da_cons de_int (da_cons de_int da_nil))))) (de_call (dds := []) O10 (hr.mono (by omega)) rfl (kn.glo 5) F10.kp B11 .nil (fun _ _ => rfl) takesF (da_cons (de_var (pv 1)) (da_cons de_int da_nil))) (fun _ _ => rfl)))
    (dss_cons (ds_set (i := 6) sc_law.nd rfl (by first | exact .inl rfl | exact .inr rfl) (de_ix (de_lst (hm := false) (da_cons de_int (da_cons de_int (da_cons de_int (da_cons de_int da_nil))))) (de_call (dds := []) O10 (hr.mono (by omega)) rfl (kn.glo 5) F10.kp B11 .nil (fun _ _ => rfl) takesF (da_cons (de_var (pv 1)) (da_cons de_int da_nil))) (fun _ _ => rfl)))
    (dss_cons (ds_set (i := 4) sc_law.nd rfl (by first | exact .inl rfl | exact .inr rfl) (de_call (dds := []) O12 (hr.mono (by omega)) rfl (kn.glo 37) F12.kp B13 .nil (fun _ _ => rfl) takesF (da_cons (de_var (pv 3)) (da_cons (de_var (pv 5)) (da_cons (de_var (pv 6)) da_nil)))))
    (dss_cons (ds_set (i := 7) sc_law.nd rfl (by first | exact .inl rfl | exact .inr rfl) (de_call (dds := []) O14 (hr.mono (by omega)) rfl (kn.glo 38) F14.kp B15 .nil (fun _ _ => rfl) takesF (da_cons (de_var (pv 3)) (da_cons (de_var (pv 5)) (da_cons (de_var (pv 6)) da_nil)))))
    (dss_cons (ds_if (PW.pt (dw_or (dt_cmp (od_ne hr.units) (de_var (pv 7)) (de_var (pv 4)) (nomark _)) (dw_or (dt_val (de_isi (T := "bool") rfl (kn.free 8) (by decide +kernel) rfl (kn.free 9) (by decide +kernel) (de_var (pv 7)))) (dw_or1 (dt_cmp (od_ne hr.units) (de_call (dds := []) O14 (hr.mono (by omega)) rfl (kn.glo 38) F14.kp B15 .nil (fun _ _ => rfl) takesF (da_cons (de_var (pv 3)) (da_cons de_int (da_cons de_int da_nil)))) (de_call (dds := []) O12 (hr.mono (by omega)) rfl (kn.glo 37) F12.kp B13 .nil (fun _ _ => rfl) takesF (da_cons (de_var (pv 3)) (da_cons de_int (da_cons de_int da_nil)))) (nomark _)))))) (dss_one (ds_ret de_bl)) dss_nil)
    (dss_cons (ds_set (i := 8) sc_law.nd rfl (by first | exact .inl rfl | exact .inr rfl) (de_ix (de_lst (hm := false) (da_cons (de_op od_sub (de_call (dds := []) O10 (hr.mono (by omega)) rfl (kn.glo 5) F10.kp B11 .nil (fun _ _ => rfl) takesF (da_cons (de_var (pv 1)) (da_cons de_int da_nil))) de_int) (da_cons (de_op od_sub (de_var (pv 5)) de_int) (da_cons (de_var (pv 5)) (da_cons (de_var (pv 6)) (da_cons (de_op (od_add false) (de_var (pv 6)) de_int) (da_cons de_bl (da_cons de_bl (da_cons de_str (da_cons de_non da_nil)))))))))) (de_call (dds := []) O10 (hr.mono (by omega)) rfl (kn.glo 5) F10.kp B11 .nil (fun _ _ => rfl) takesF (da_cons (de_var (pv 1)) (da_cons de_int da_nil))) (fun _ _ => rfl)))
    (dss_cons (ds_set (i := 9) sc_law.nd rfl (by first | exact .inl rfl | exact .inr rfl) (de_and (de_isi (T := "int") rfl (kn.free 8) (by decide +kernel) rfl (kn.free 2) (by decide +kernel) (de_var (pv 8))) (de_and (de_not (de_isi (T := "bool") rfl (kn.free 8) (by decide +kernel) rfl (kn.free 9) (by decide +kernel) (de_var (pv 8)))) (de_and1 (by exact (de_chain od_le od_le (de_var (pv 5)) (de_var (pv 8)) (de_var (pv 6))))))))
    (dss_cons (ds_if (PW.pt (dw_or (dt_cmp (od_ne hr.units) (de_callB cd_repr rfl (kn.free 24) (by decide +kernel) (da_cons (de_call (dds := []) O16 (hr.mono (by omega)) rfl (kn.glo 10) F16.kp B17 V17 (fun _ _ => rfl) takesF (da_cons (de_var (pv 8)) (da_cons (de_var (pv 5)) (da_cons (de_var (pv 6)) da_nil)))) da_nil)) (de_callB cd_repr rfl (kn.free 24) (by decide +kernel) (da_cons (de_var (pv 9)) da_nil)) (nomark _)) (dw_or1 (dt_cmp (od_ne hr.units) (de_call (dds := []) O18 (hr.mono (by omega)) rfl (kn.glo 39) F18.kp B19 .nil (fun _ _ => rfl) takesF (da_cons (de_var (pv 8)) (da_cons (de_var (pv 5)) (da_cons (de_var (pv 6)) da_nil)))) (de_if (dt_truth (de_var (pv 9))) (de_lst (hm := false) (da_cons (de_var (pv 8)) da_nil)) de_non) (nomark _))))) (dss_one (ds_ret de_bl)) dss_nil)
    (dss_one (ds_if (dt_not (dt_val (de_call (dds := []) O20 (hr.mono (by omega)) rfl (kn.glo 40) F20.kp B21 .nil (fun _ _ => rfl) takesF (da_cons (de_ix (de_lst (hm := false) (da_cons de_non (da_cons de_int (da_cons de_int (da_cons de_int da_nil))))) (de_call (dds := []) O10 (hr.mono (by omega)) rfl (kn.glo 5) F10.kp B11 .nil (fun _ _ => rfl) takesF (da_cons (de_var (pv 1)) (da_cons de_int da_nil))) (fun _ _ => rfl)) (da_cons (de_ix (de_lst (hm := false) (da_cons de_non (da_cons de_int (da_cons de_int (da_cons de_int da_nil))))) (de_call (dds := []) O10 (hr.mono (by omega)) rfl (kn.glo 5) F10.kp B11 .nil (fun _ _ => rfl) takesF (da_cons (de_var (pv 1)) (da_cons de_int da_nil))) (fun _ _ => rfl)) da_nil))))) (dss_one (ds_ret de_bl)) dss_nil)))))))))))))))
    (dss_cons (ds_if (PW.pt (dw_or (dt_val (de_call (dds := []) O4 (hr.mono (by omega)) rfl (kn.glo 26) F4.kp B5 .nil (fun _ _ => rfl) takesF (da_cons de_int da_nil))) (dw_or (dt_val (de_call (dds := []) O4 (hr.mono (by omega)) rfl (kn.glo 26) F4.kp B5 .nil (fun _ _ => rfl) takesF (da_cons de_non da_nil))) (dw_or (dt_val (de_call (dds := []) O4 (hr.mono (by omega)) rfl (kn.glo 26) F4.kp B5 .nil (fun _ _ => rfl) takesF (da_cons (de_lst (hm := false) (da_cons de_str da_nil)) da_nil))) (dw_or1 (dt_cmp od_isnot (de_call (dds := []) O14 (hr.mono (by omega)) rfl (kn.glo 38) F14.kp B15 .nil (fun _ _ => rfl) takesF (da_cons de_int (da_cons de_int (da_cons de_int da_nil)))) de_non (nomark _))))))) (dss_one (ds_ret de_bl)) dss_nil)
    (dss_one (ds_ret (de_and (de_call (dds := [.int 0, .int 1000000]) O16 (hr.mono (by omega)) rfl (kn.glo 10) F16.kp B22 V22 (fun _ _ => ⟨_, _, rfl, rfl, ⟨_, _, rfl, rfl, rfl⟩⟩) takesF (da_cons de_int da_nil)) (de_and (de_not (de_call (dds := [.int 0, .int 1000000]) O16 (hr.mono (by omega)) rfl (kn.glo 10) F16.kp B22 V22 (fun _ _ => ⟨_, _, rfl, rfl, ⟨_, _, rfl, rfl, rfl⟩⟩) takesF (da_cons de_int da_nil))) (de_and (de_not (de_call (dds := [.int 0, .int 1000000]) O16 (hr.mono (by omega)) rfl (kn.glo 10) F16.kp B22 V22 (fun _ _ => ⟨_, _, rfl, rfl, ⟨_, _, rfl, rfl, rfl⟩⟩) takesF (da_cons (de_op od_sub de_int de_int) da_nil))) (de_and1 (by exact (de_call (dds := [.int 0, .int 1000000]) O16 (hr.mono (by omega)) rfl (kn.glo 10) F16.kp B22 V22 (fun _ _ => ⟨_, _, rfl, rfl, ⟨_, _, rfl, rfl, rfl⟩⟩) takesF (da_cons de_int da_nil))))))))))))
end DK.k10
end
section
set_option Elab.async false
set_option linter.all false
set_option autoImplicit false
set_option maxRecDepth 100000
set_option maxHeartbeats 0
/-! The head of darkrise_k10_names_and_numbers: printed by gen.py. -/
namespace DK.k10
open PySem L2 DK
def loose0 : List PySem.Str := ["RiseError", "InvalidName", "InvalidNumber", "LETTERS", "FIGURES", "LONGEST", "GREATEST", "is_name", "checked_name", "is_number", "checked_number", "read_number", "told", "sooner", "not_later", "_law_cell", "_law_take", "_law_word", "_law_figures", "_law_name_due", "_law_number_due", "_law_name_told", "_law_read", "_law_checked", "_law_minutes_right"]
def loose : List PySem.Str := loose0
abbrev R : PySem.W.OpenRow := PySem.W.OpenLaw.row PySem.Challenge.rw_darkrise_k10_names_and_numbers
abbrev hk : PySem.W.Hook := He.hookX 6 fa fn [] [] (allFx fx)
def ob (s : PySem.W.SharedT) : He.AlX := He.obsX 6 fa fn [] [] (allFx fx) (HandSHeadRun.getT s)
theorem ob_eq (s : PySem.W.SharedT) : ob s = hk.obs s.abs := He.obsX_eq (HandSHeadRun.getT_eq s)
theorem run (w : World) : HandSHeadRun.RunEq R (PySem.W.view R.prog [28]) hk ob 20000 loose w := by
  intro os
  kernel_rfl
end DK.k10
open PySem PySem.W PySem.Calls PyProof.Rows
theorem DK.k10.core (hm : ∀ ns : List Int, ns.length ≤ 63 → ∃ O, DK.k10.f_law [.rol (ns.map DK.D.int)] [] = .ok (.bl true) O) : PySem.Challenge.rw_darkrise_k10_names_and_numbers.Holds := by
  w_on; o_law
  refine HandSHeadRun.head_any (r := OpenLaw.row PySem.Challenge.rw_darkrise_k10_names_and_numbers) (q := view (OpenLaw.row PySem.Challenge.rw_darkrise_k10_names_and_numbers).prog [28]) (H := DK.k10.hk) (ob := DK.k10.ob) (M := 20000) (loose := DK.k10.loose) (d := HandSHeadRun.topDef (OpenLaw.row PySem.Challenge.rw_darkrise_k10_names_and_numbers).prog 28) (kwd := []) DK.k10.ob_eq
    (by kernel_rfl) (fun s => by kernel_rfl) DK.k10.run (by kernel_rfl) (by kernel_rfl) (by kernel_rfl) (by rfl) (by first | assumption | decide +kernel) (by decide +kernel) ⟨rfl, rfl, rfl, rfl, rfl, by decide +kernel⟩ ?hw ?hc
  case hw => w_witness2
  case hc =>
    refine L2.walk_ofE (l := PySem.Challenge.rw_darkrise_k10_names_and_numbers) (n := 63) (k := 5) (x := "script") (CX := L2.CX0) rfl (by decide) (by kernel_rfl) ⟨rfl, by decide, by decide⟩ ?F (fun _ _ _ _ z => z)
    intro w mg fa h Y G hmg0
    obtain ⟨K, KX, c⟩ := Y
    have hmg : mg ("law" : PySem.Str) = some (.ref fa) := by
      have e : (HandSHeadRun.topDef (OpenLaw.row PySem.Challenge.rw_darkrise_k10_names_and_numbers).prog 28).name = ("law" : PySem.Str) := by kernel_rfl
      rw [← e]
      exact hmg0
    have kn : DK.k10.Kn K mg := ⟨c.t.d, c.more, h, KX, G⟩
    have e := hmg.symm.trans (kn.glo 0)
    cases e
    obtain ⟨fd1, F1⟩ := kn.c.def_ 18 (d := DK.k10.d_law) rfl
    obtain ⟨fd, F, _⟩ := DK.k10.ok_law (P := (PySem.Challenge.rw_darkrise_k10_names_and_numbers).prog) (w := w) (base := h) kn
    have b := L2.FunD.bindsA (ps := ["script"]) F fun _ _ _ _ _ _ us hl => match us, hl with | [_], _ => rfl
    refine ⟨K, fd, DK.spLaw K DK.k10.f_law, KX, fun s v => b s [v] rfl, fun H a ns hl _ hS => ⟨a, ns, rfl, hS, hl, hm ns hl, fun _ => rfl⟩, fun base _ _ => ?_⟩
    obtain ⟨fd2, F2, O2⟩ := DK.k10.ok_law (P := (PySem.Challenge.rw_darkrise_k10_names_and_numbers).prog) (w := w) (base := base) kn
    rw [DK.fd_eq F F2]
    exact O2
end
section
set_option Elab.async false
set_option linter.all false
set_option autoImplicit false
set_option maxRecDepth 100000
set_option maxHeartbeats 4000000
/-! K10Law: the plain law. -/
namespace DK.k10
open PySem L2 DK
theorem cell_is : f_law_cell = fCell := rfl
theorem take_is : f_law_take = fTake := rfl
theorem gAdd_str {O : Store} {h : Bool} {a b : Str} (hl : a.length + b.length ≤ 1000000) : gAdd h O (.str a) (.str b) = some (.str (a ++ b), O) := by
  show (if a.length + b.length ≤ 1000000 then some (D.str (a ++ b), O) else none) = _
  rw [if_pos hl]
theorem str_len (a b : Str) : (a ++ b).length = a.length + b.length := by
  show (a.cps ++ b.cps).size = _
  rw [Array.size_append]
  rfl
theorem gIx_str {O : Store} {s : Str} {i : Int} {c : Nat} (hl : s.length ≤ 1000000) (h : atI s.cps.toList i = some c) : gIx O (.str s) (.int i) = some (.str ⟨#[c]⟩, O) := by
  show (if s.length ≤ 1000000 then (match atI s.cps.toList i with
      | some c => some (D.str ⟨#[c]⟩, O)
      | none => none) else none) = _
  rw [if_pos hl, h]
theorem take1 {b n : Nat} {O : Store} {m : Int} (h : Take b n O) (hm : 0 < m) (hm2 : m ≤ 2 ^ 64) (hb : b ≤ 2 ^ 32) :
    ∃ v P, f_law_take [.hdl n, .int m] O = .ok (.int v) (O.set n (.lst P)) ∧ 0 ≤ v ∧ v < m ∧ Take (b + 1) n (O.set n (.lst P)) := take_ok h hm hm2 hb
/-! ### words -/
abbrev tkE (k : Int) : EM := mFn (arity 2 f_law_take) [] (mCons (mVar 0) (mCons (mC (.int k)) mNil))
abbrev bodyW (k1 k2 k3 : Int) : SM := sAsg (mOp (gAdd false) (mVar 2) (mOp gIx (mVar 1) (mIf (mTest (mOp gEq (tkE k1) (mC (.int 0)))) (tkE k2) (tkE k3)))) (bName 2)
def Wd (b n : Nat) (sg : Str) (O0 : Store) (j : Nat) (L : Loc) (O : Store) : Prop := ∃ w x P, L = [some (.hdl n), some (.str sg), some (.str w), x] ∧ O = O0.set n (.lst P) ∧ Take (b + 2 * j) n O ∧ w.length ≤ j
theorem turnW {b n j : Nat} {sg : Str} {O0 : Store} {k1 k2 k3 : Int} {L : Loc} {O : Store} {d : D} (h1 : 0 < k1 ∧ k1 ≤ 100) (h2 : 0 < k2 ∧ k2 ≤ sg.length) (h3 : 0 < k3 ∧ k3 ≤ sg.length) (hs : sg.length ≤ 100) (hb : b ≤ 1000) (hj : j ≤ 100) (h : Wd b n sg O0 j L O) :
    ∃ L' O', turnOf (bName 3) (bodyW k1 k2 k3) d L O = .next L' O' ∧ Wd b n sg O0 (j + 1) L' O' := by
  obtain ⟨w, x, P, rfl, rfl, hp, hw⟩ := h
  obtain ⟨v, P1, e1, v0, v1, p1⟩ := take1 (m := k1) hp h1.1 (by omega) (by omega)
  rw [List.set_set] at e1 p1
  have fin : ∀ (m : Int) (hm : 0 < m ∧ m ≤ sg.length), (∀ O2 u, f_law_take [.hdl n, .int m] (O0.set n (.lst P1)) = .ok (.int u) O2 → (mIf (mTest (mOp gEq (tkE k1) (mC (.int 0)))) (tkE k2) (tkE k3)) [some (.hdl n), some (.str sg), some (.str w), some d] (O0.set n (.lst P)) = .ok (.int u) O2) →
      ∃ L' O', turnOf (bName 3) (bodyW k1 k2 k3) d [some (.hdl n), some (.str sg), some (.str w), x] (O0.set n (.lst P)) = .next L' O' ∧ Wd b n sg O0 (j + 1) L' O' := fun m hm hi => by
    obtain ⟨u, P2, e2, u0, u1, p2⟩ := take1 (m := m) p1 hm.1 (by omega) (by omega)
    rw [List.set_set] at e2 p2
    have hi2 := hi _ _ e2
    obtain ⟨c, hc⟩ : ∃ c, sg.cps.toList[u.toNat]? = some c := ⟨sg.cps.toList[u.toNat]'(by rw [Array.length_toList]; have : (sg.cps.size : Int) = sg.length := rfl; omega), List.getElem?_eq_getElem _⟩
    have hx := gIx_str (O := O0.set n (.lst P2)) (s := sg) (by omega) (atI_nat u0 hc)
    refine ⟨[some (.hdl n), some (.str sg), some (.str (w ++ ⟨#[c]⟩)), some d], O0.set n (.lst P2), ?_, w ++ ⟨#[c]⟩, some d, P2, rfl, rfl, tmono (by omega) p2, by rw [str_len]; have : (⟨#[c]⟩ : Str).length = 1 := rfl; omega⟩
    have ha := gAdd_str (O := O0.set n (.lst P2)) (h := false) (a := w) (b := ⟨#[c]⟩) (by have : (⟨#[c]⟩ : Str).length = 1 := rfl; omega)
    generalize hg : (mIf (mTest (mOp gEq (tkE k1) (mC (.int 0)))) (tkE k2) (tkE k3)) = mm at hi2 ⊢
    simp only [bodyW, hg]
    simp [turnOf, sAsg, mOp, mVar, bName, ofRes, ofB, Res.bind, ofO, hi2, hx, ha]
  by_cases c0 : v = 0
  · refine fin k2 h2 fun O2 u e2 => ?_
    simp [tkE, runF, sSeq, sIf, sNext, sDrop, sRet, sRetN, sAsg, ofRes, ofB, bName, bNil, bCons, bTup, bLst, bSubL, mTest, mOp, mVar, mC, mChain, mAnd, mOr, mNot, mIf, mAndV, mOrV, mNotV, mNeg, mCons, mNil, mTup, mLst, newL, mCall, mFn, arity, g1, g2, gLen, gInt, gAbs, gMax2, gMin2, gIx, seqOf, lsqOf, lstOf, Res.bind, ofO, gAdd_ok, gSub_ok, gEq_int, gNe_int, gLt_int, gLe_int, gGt_int, gGe_int, gEq_bl, gNe_bl, gEq_str, gNe_str, mIsi, mIsiT, tyD, kitL, kitTab, atI_c0, atI_c1, atI_c2, atI_c3, atI_c4, sForR1, int1, int2, mMeth, mMake, mFld, sFldM, gIs, gIsNot, isNon_t, sRaise, gList, newLO, e1, e2, c0]
  · refine fin k3 h3 fun O2 u e2 => ?_
    simp [tkE, runF, sSeq, sIf, sNext, sDrop, sRet, sRetN, sAsg, ofRes, ofB, bName, bNil, bCons, bTup, bLst, bSubL, mTest, mOp, mVar, mC, mChain, mAnd, mOr, mNot, mIf, mAndV, mOrV, mNotV, mNeg, mCons, mNil, mTup, mLst, newL, mCall, mFn, arity, g1, g2, gLen, gInt, gAbs, gMax2, gMin2, gIx, seqOf, lsqOf, lstOf, Res.bind, ofO, gAdd_ok, gSub_ok, gEq_int, gNe_int, gLt_int, gLe_int, gGt_int, gGe_int, gEq_bl, gNe_bl, gEq_str, gNe_str, mIsi, mIsiT, tyD, kitL, kitTab, atI_c0, atI_c1, atI_c2, atI_c3, atI_c4, sForR1, int1, int2, mMeth, mMake, mFld, sFldM, gIs, gIsNot, isNon_t, sRaise, gList, newLO, e1, e2, c0]
theorem word1 {b n : Nat} {O : Store} (h : Take b n O) (hb : b ≤ 900) : ∃ w P, f_law_word [.hdl n] O = .ok (.str w) (O.set n (.lst P)) ∧ w.length ≤ 20 ∧ Take (b + 40) n (O.set n (.lst P)) := by
  obtain ⟨v, P1, e1, v0, v1, p1⟩ := take1 (m := 14) h (by decide) (by decide) (by omega)
  obtain ⟨L1, O1, e2, w, x, P, rfl, rfl, p2, hw⟩ := loopD_keeps (turn := turnOf (bName 3) (bodyW 4 15 4)) (I := Wd (b + 1) n "abyzAZ09 -_.~{`" O) (rangeD 0 v.toNat) 0 [some (.hdl n), some (.str "abyzAZ09 -_.~{`"), some (.str ""), none] (O.set n (.lst P1))
    ⟨"", none, P1, rfl, rfl, tmono (by omega) p1, by decide⟩ fun j d L O hd h => by
      have hj := (List.getElem?_eq_some_iff.mp hd).1
      simp [rangeD] at hj
      exact turnW (by decide) (by decide) (by decide) (by decide) (by omega) (by omega) h
  have hl : (rangeD 0 v.toNat).length = v.toNat := by simp [rangeD]
  refine ⟨w, P, ?_, by omega, tmono (by omega) p2⟩
  have hv : (-1000000000000 ≤ v ∧ v ≤ 1000000000000) := by omega
  simp [f_law_word, b_law_word, runF, sSeq, sIf, sNext, sDrop, sRet, sRetN, sAsg, ofRes, ofB, bName, bNil, bCons, bTup, bLst, bSubL, mTest, mOp, mVar, mC, mChain, mAnd, mOr, mNot, mIf, mAndV, mOrV, mNotV, mNeg, mCons, mNil, mTup, mLst, newL, mCall, mFn, arity, g1, g2, gLen, gInt, gAbs, gMax2, gMin2, gIx, seqOf, lsqOf, lstOf, Res.bind, ofO, gAdd_ok, gSub_ok, gEq_int, gNe_int, gLt_int, gLe_int, gGt_int, gGe_int, gEq_bl, gNe_bl, gEq_str, gNe_str, mIsi, mIsiT, tyD, kitL, kitTab, atI_c0, atI_c1, atI_c2, atI_c3, atI_c4, sForR1, int1, int2, mMeth, mMake, mFld, sFldM, gIs, gIsNot, isNon_t, sRaise, gList, newLO, e1, e2, hv]
theorem str_small {k : Int} (h : k ∈ [0, 9, 10, 999999, 1000000, 1000001, 9999999, 10000000]) : k.natAbs.log2 < 1920 ∧ ((toString k : String) : Str).length ≤ 20 := by
  simp at h
  rcases h with rfl | rfl | rfl | rfl | rfl | rfl | rfl | rfl <;> decide
theorem figures1 {b n : Nat} {O : Store} (h : Take b n O) (hb : b ≤ 900) : ∃ w P, f_law_figures [.hdl n] O = .ok (.str w) (O.set n (.lst P)) ∧ w.length ≤ 20 ∧ Take (b + 40) n (O.set n (.lst P)) := by
  obtain ⟨v, P1, e1, v0, v1, p1⟩ := take1 (m := 3) h (by decide) (by decide) (by omega)
  by_cases c0 : v = 0
  · obtain ⟨u, P2, e2, u0, u1, p2⟩ := take1 (m := 8) p1 (by decide) (by decide) (by omega)
    rw [List.set_set] at e2 p2
    obtain ⟨k, hk⟩ : ∃ k, ([0, 9, 10, 999999, 1000000, 1000001, 9999999, 10000000] : List Int)[u.toNat]? = some k := ⟨_, List.getElem?_eq_getElem (by simp; omega)⟩
    obtain ⟨l1, l2⟩ := str_small (List.mem_of_getElem? hk)
    have hi : atI [D.int 0, .int 9, .int 10, .int 999999, .int 1000000, .int 1000001, .int 9999999, .int 10000000] u = some (.int k) := atI_nat u0 (by
      have : [D.int 0, .int 9, .int 10, .int 999999, .int 1000000, .int 1000001, .int 9999999, .int 10000000] = ([0, 9, 10, 999999, 1000000, 1000001, 9999999, 10000000] : List Int).map D.int := rfl
      rw [this, List.getElem?_map, hk]
      rfl)
    refine ⟨(toString k : String), P2, ?_, l2, tmono (by omega) p2⟩
    simp [f_law_figures, b_law_figures, runF, sSeq, sIf, sNext, sDrop, sRet, sRetN, sAsg, ofRes, ofB, bName, bNil, bCons, bTup, bLst, bSubL, mTest, mOp, mVar, mC, mChain, mAnd, mOr, mNot, mIf, mAndV, mOrV, mNotV, mNeg, mCons, mNil, mTup, mLst, newL, mCall, mFn, arity, g1, g2, gLen, gInt, gAbs, gMax2, gMin2, gIx, seqOf, lsqOf, lstOf, Res.bind, ofO, gAdd_ok, gSub_ok, gEq_int, gNe_int, gLt_int, gLe_int, gGt_int, gGe_int, gEq_bl, gNe_bl, gEq_str, gNe_str, mIsi, mIsiT, tyD, kitL, kitTab, atI_c0, atI_c1, atI_c2, atI_c3, atI_c4, sForR1, int1, int2, mMeth, mMake, mFld, sFldM, gIs, gIsNot, isNon_t, sRaise, gList, newLO, gStr, e1, e2, c0, hi, l1]
  · obtain ⟨v2, P2, e2, v20, v21, p2⟩ := take1 (m := 9) p1 (by decide) (by decide) (by omega)
    rw [List.set_set] at e2 p2
    obtain ⟨L1, O1, e3, w, x, P, rfl, rfl, p3, hw⟩ := loopD_keeps (turn := turnOf (bName 3) (bodyW 6 14 10)) (I := Wd (b + 2) n "0123456789+-a " O) (rangeD 0 v2.toNat) 0 [some (.hdl n), some (.str "0123456789+-a "), some (.str ""), none] (O.set n (.lst P2))
      ⟨"", none, P2, rfl, rfl, tmono (by omega) p2, by decide⟩ fun j d L O hd h => by
        have hj := (List.getElem?_eq_some_iff.mp hd).1
        simp [rangeD] at hj
        exact turnW (by decide) (by decide) (by decide) (by decide) (by omega) (by omega) h
    have hl : (rangeD 0 v2.toNat).length = v2.toNat := by simp [rangeD]
    refine ⟨w, P, ?_, by omega, tmono (by omega) p3⟩
    have hv : (-1000000000000 ≤ v2 ∧ v2 ≤ 1000000000000) := by omega
    simp [f_law_figures, b_law_figures, runF, sSeq, sIf, sNext, sDrop, sRet, sRetN, sAsg, ofRes, ofB, bName, bNil, bCons, bTup, bLst, bSubL, mTest, mOp, mVar, mC, mChain, mAnd, mOr, mNot, mIf, mAndV, mOrV, mNotV, mNeg, mCons, mNil, mTup, mLst, newL, mCall, mFn, arity, g1, g2, gLen, gInt, gAbs, gMax2, gMin2, gIx, seqOf, lsqOf, lstOf, Res.bind, ofO, gAdd_ok, gSub_ok, gEq_int, gNe_int, gLt_int, gLe_int, gGt_int, gGe_int, gEq_bl, gNe_bl, gEq_str, gNe_str, mIsi, mIsiT, tyD, kitL, kitTab, atI_c0, atI_c1, atI_c2, atI_c3, atI_c4, sForR1, int1, int2, mMeth, mMake, mFld, sFldM, gIs, gIsNot, isNon_t, sRaise, gList, newLO, e1, c0, e2, e3, hv]
/-! ### names -/
abbrev LET : Str := "abcdefghijklmnopqrstuvwxyz"
abbrev FIG : Str := "0123456789"
def nameB (w : Str) : Bool := decide (1 ≤ (w.length : Int)) && (decide ((w.length : Int) ≤ 12) && allIn LET w.cps.toList)
theorem due_name {w : Str} {O : Store} (hw : w.length ≤ 900) : f_law_name_due [.str w] O = .ok (.bl (nameB w)) O := by
  have hl : w.length ≤ 1000000 := by omega
  have e := lcS_signs (i := 1) (cs := LET) (w := w) (src := mVar 0) (L := [some (.str w), none]) (O := O) (by simp) rfl (by omega)
  unfold nameB
  have hz := outOf_zero (cs := LET) (w := w.cps.toList)
  by_cases h1 : 1 ≤ (w.length : Int) <;> by_cases h2 : (w.length : Int) ≤ 12 <;> cases hc : allIn LET w.cps.toList <;> rw [hc] at hz <;> simp [f_law_name_due, b_law_name_due, runF, sSeq, sIf, sNext, sDrop, sRet, sRetN, sAsg, ofRes, ofB, bName, bNil, bCons, bTup, bLst, bSubL, mTest, mOp, mVar, mC, mChain, mAnd, mOr, mNot, mIf, mAndV, mOrV, mNotV, mNeg, mCons, mNil, mTup, mLst, newL, mCall, mFn, arity, g1, g2, gLen, gInt, gAbs, gMax2, gMin2, gIx, seqOf, lsqOf, lstOf, Res.bind, ofO, gAdd_ok, gSub_ok, gEq_int, gNe_int, gLt_int, gLe_int, gGt_int, gGe_int, gEq_bl, gNe_bl, gEq_str, gNe_str, mIsi, mIsiT, tyD, kitL, kitTab, atI_c0, atI_c1, atI_c2, atI_c3, atI_c4, sForR1, int1, int2, mMeth, mMake, mFld, sFldM, gIs, gIsNot, isNon_t, sRaise, gList, newLO, hl, h1, h2, e, hc] <;> simpa using hz
theorem chars_eq (w : Str) : charsD w = w.cps.toList.map fun c => D.str ⟨#[c]⟩ := rfl
theorem is_name_str {w : Str} {O : Store} (hw : w.length ≤ 900) : f_is_name [.str w] O = .ok (.bl (nameB w)) O := by
  have hl : w.length ≤ 1000000 := by omega
  unfold nameB
  by_cases h1 : 1 ≤ (w.length : Int)
  · by_cases h2 : (w.length : Int) ≤ 12
    · cases hc : allIn LET w.cps.toList
      · obtain ⟨L', e⟩ := loop_signs_no (i := 1) (cs := LET) (bad := sRet (mC (.bl false))) (fun L O => .inl ⟨_, rfl⟩) w.cps.toList [some (.str w), none] O (by simp) hc
        simp only [signB] at e
        simp [f_is_name, b_is_name, sForS, chars_eq, runF, sSeq, sIf, sNext, sDrop, sRet, sRetN, sAsg, ofRes, ofB, bName, bNil, bCons, bTup, bLst, bSubL, mTest, mOp, mVar, mC, mChain, mAnd, mOr, mNot, mIf, mAndV, mOrV, mNotV, mNeg, mCons, mNil, mTup, mLst, newL, mCall, mFn, arity, g1, g2, gLen, gInt, gAbs, gMax2, gMin2, gIx, seqOf, lsqOf, lstOf, Res.bind, ofO, gAdd_ok, gSub_ok, gEq_int, gNe_int, gLt_int, gLe_int, gGt_int, gGe_int, gEq_bl, gNe_bl, gEq_str, gNe_str, mIsi, mIsiT, tyD, kitL, kitTab, atI_c0, atI_c1, atI_c2, atI_c3, atI_c4, sForR1, int1, int2, mMeth, mMake, mFld, sFldM, gIs, gIsNot, isNon_t, sRaise, gList, newLO, hl, h1, h2, e]
      · obtain ⟨d, e⟩ := loop_signs_ok (i := 1) (cs := LET) (bad := sRet (mC (.bl false))) w.cps.toList [some (.str w), none] O (by simp) hc
        simp only [signB] at e
        simp [f_is_name, b_is_name, sForS, chars_eq, runF, sSeq, sIf, sNext, sDrop, sRet, sRetN, sAsg, ofRes, ofB, bName, bNil, bCons, bTup, bLst, bSubL, mTest, mOp, mVar, mC, mChain, mAnd, mOr, mNot, mIf, mAndV, mOrV, mNotV, mNeg, mCons, mNil, mTup, mLst, newL, mCall, mFn, arity, g1, g2, gLen, gInt, gAbs, gMax2, gMin2, gIx, seqOf, lsqOf, lstOf, Res.bind, ofO, gAdd_ok, gSub_ok, gEq_int, gNe_int, gLt_int, gLe_int, gGt_int, gGe_int, gEq_bl, gNe_bl, gEq_str, gNe_str, mIsi, mIsiT, tyD, kitL, kitTab, atI_c0, atI_c1, atI_c2, atI_c3, atI_c4, sForR1, int1, int2, mMeth, mMake, mFld, sFldM, gIs, gIsNot, isNon_t, sRaise, gList, newLO, hl, h1, h2, e]
    · simp [f_is_name, b_is_name, runF, sSeq, sIf, sNext, sDrop, sRet, sRetN, sAsg, ofRes, ofB, bName, bNil, bCons, bTup, bLst, bSubL, mTest, mOp, mVar, mC, mChain, mAnd, mOr, mNot, mIf, mAndV, mOrV, mNotV, mNeg, mCons, mNil, mTup, mLst, newL, mCall, mFn, arity, g1, g2, gLen, gInt, gAbs, gMax2, gMin2, gIx, seqOf, lsqOf, lstOf, Res.bind, ofO, gAdd_ok, gSub_ok, gEq_int, gNe_int, gLt_int, gLe_int, gGt_int, gGe_int, gEq_bl, gNe_bl, gEq_str, gNe_str, mIsi, mIsiT, tyD, kitL, kitTab, atI_c0, atI_c1, atI_c2, atI_c3, atI_c4, sForR1, int1, int2, mMeth, mMake, mFld, sFldM, gIs, gIsNot, isNon_t, sRaise, gList, newLO, hl, h1, h2]
  · simp [f_is_name, b_is_name, runF, sSeq, sIf, sNext, sDrop, sRet, sRetN, sAsg, ofRes, ofB, bName, bNil, bCons, bTup, bLst, bSubL, mTest, mOp, mVar, mC, mChain, mAnd, mOr, mNot, mIf, mAndV, mOrV, mNotV, mNeg, mCons, mNil, mTup, mLst, newL, mCall, mFn, arity, g1, g2, gLen, gInt, gAbs, gMax2, gMin2, gIx, seqOf, lsqOf, lstOf, Res.bind, ofO, gAdd_ok, gSub_ok, gEq_int, gNe_int, gLt_int, gLe_int, gGt_int, gGe_int, gEq_bl, gNe_bl, gEq_str, gNe_str, mIsi, mIsiT, tyD, kitL, kitTab, atI_c0, atI_c1, atI_c2, atI_c3, atI_c4, sForR1, int1, int2, mMeth, mMake, mFld, sFldM, gIs, gIsNot, isNon_t, sRaise, gList, newLO, hl, h1]
theorem told_name {w : Str} {O : Store} (hw : w.length ≤ 900) : f_law_name_told [.str w] O = .ok (if nameB w = true then .str w else .lst [.bl true, .bl true]) O := by
  have sb : sub_law_name_told_95 "InvalidName" = some true := rfl
  have e : ∀ O, f_is_name [.str w] O = .ok (.bl (nameB w)) O := fun O => is_name_str hw
  cases h : nameB w <;> rw [h] at e <;> simp [f_law_name_told, b_law_name_told, f_checked_name, b_checked_name, sTryAs, sb, runF, sSeq, sIf, sNext, sDrop, sRet, sRetN, sAsg, ofRes, ofB, bName, bNil, bCons, bTup, bLst, bSubL, mTest, mOp, mVar, mC, mChain, mAnd, mOr, mNot, mIf, mAndV, mOrV, mNotV, mNeg, mCons, mNil, mTup, mLst, newL, mCall, mFn, arity, g1, g2, gLen, gInt, gAbs, gMax2, gMin2, gIx, seqOf, lsqOf, lstOf, Res.bind, ofO, gAdd_ok, gSub_ok, gEq_int, gNe_int, gLt_int, gLe_int, gGt_int, gGe_int, gEq_bl, gNe_bl, gEq_str, gNe_str, mIsi, mIsiT, tyD, kitL, kitTab, atI_c0, atI_c1, atI_c2, atI_c3, atI_c4, sForR1, int1, int2, mMeth, mMake, mFld, sFldM, gIs, gIsNot, isNon_t, sRaise, gList, newLO, e]
/-! ### numbers -/
def Msg (a b : Int) : Prop := ∀ (d : D) (O : Store), ∃ z, (mCons (mOp (gAdd false) (mOp (gAdd false) (mOp (gAdd false) (mC (.str "no number from ")) (mCall (g1 gStr) (mCons (mVar 1) mNil))) (mC (.str " to "))) (mCall (g1 gStr) (mCons (mVar 2) mNil))) mNil) [some d, some (.int a), some (.int b)] O = .ok [z] O
theorem msg_all {a b : Int} (ha : a ∈ [0, 0, 1, 10]) (hb : b ∈ [1000000, 1000000, 999999, 20]) : Msg a b := by
  simp at ha hb
  rcases ha with rfl | rfl | rfl <;> rcases hb with rfl | rfl | rfl <;> exact fun d O => ⟨_, rfl⟩
def numB (d : D) (a b : Int) : Bool := match d with
  | .int v => decide (a ≤ v) && decide (v ≤ b)
  | _ => false
theorem is_number1 {d : D} {a b : Int} {O : Store} (h : (∃ v, d = .int v) ∨ (∃ v, d = .bl v) ∨ (∃ v, d = .str v) ∨ d = .non) : f_is_number [d, .int a, .int b] O = .ok (.bl (numB d a b)) O := by
  rcases h with ⟨v, rfl⟩ | ⟨v, rfl⟩ | ⟨v, rfl⟩ | rfl
  · by_cases h1 : a ≤ v <;> by_cases h2 : v ≤ b <;> simp [f_is_number, b_is_number, numB, runF, sSeq, sIf, sNext, sDrop, sRet, sRetN, sAsg, ofRes, ofB, bName, bNil, bCons, bTup, bLst, bSubL, mTest, mOp, mVar, mC, mChain, mAnd, mOr, mNot, mIf, mAndV, mOrV, mNotV, mNeg, mCons, mNil, mTup, mLst, newL, mCall, mFn, arity, g1, g2, gLen, gInt, gAbs, gMax2, gMin2, gIx, seqOf, lsqOf, lstOf, Res.bind, ofO, gAdd_ok, gSub_ok, gEq_int, gNe_int, gLt_int, gLe_int, gGt_int, gGe_int, gEq_bl, gNe_bl, gEq_str, gNe_str, mIsi, mIsiT, tyD, kitL, kitTab, atI_c0, atI_c1, atI_c2, atI_c3, atI_c4, sForR1, int1, int2, mMeth, mMake, mFld, sFldM, gIs, gIsNot, isNon_t, sRaise, gList, newLO, h1, h2]
  · simp [f_is_number, b_is_number, numB, runF, sSeq, sIf, sNext, sDrop, sRet, sRetN, sAsg, ofRes, ofB, bName, bNil, bCons, bTup, bLst, bSubL, mTest, mOp, mVar, mC, mChain, mAnd, mOr, mNot, mIf, mAndV, mOrV, mNotV, mNeg, mCons, mNil, mTup, mLst, newL, mCall, mFn, arity, g1, g2, gLen, gInt, gAbs, gMax2, gMin2, gIx, seqOf, lsqOf, lstOf, Res.bind, ofO, gAdd_ok, gSub_ok, gEq_int, gNe_int, gLt_int, gLe_int, gGt_int, gGe_int, gEq_bl, gNe_bl, gEq_str, gNe_str, mIsi, mIsiT, tyD, kitL, kitTab, atI_c0, atI_c1, atI_c2, atI_c3, atI_c4, sForR1, int1, int2, mMeth, mMake, mFld, sFldM, gIs, gIsNot, isNon_t, sRaise, gList, newLO]
  · simp [f_is_number, b_is_number, numB, runF, sSeq, sIf, sNext, sDrop, sRet, sRetN, sAsg, ofRes, ofB, bName, bNil, bCons, bTup, bLst, bSubL, mTest, mOp, mVar, mC, mChain, mAnd, mOr, mNot, mIf, mAndV, mOrV, mNotV, mNeg, mCons, mNil, mTup, mLst, newL, mCall, mFn, arity, g1, g2, gLen, gInt, gAbs, gMax2, gMin2, gIx, seqOf, lsqOf, lstOf, Res.bind, ofO, gAdd_ok, gSub_ok, gEq_int, gNe_int, gLt_int, gLe_int, gGt_int, gGe_int, gEq_bl, gNe_bl, gEq_str, gNe_str, mIsi, mIsiT, tyD, kitL, kitTab, atI_c0, atI_c1, atI_c2, atI_c3, atI_c4, sForR1, int1, int2, mMeth, mMake, mFld, sFldM, gIs, gIsNot, isNon_t, sRaise, gList, newLO]
  · simp [f_is_number, b_is_number, numB, runF, sSeq, sIf, sNext, sDrop, sRet, sRetN, sAsg, ofRes, ofB, bName, bNil, bCons, bTup, bLst, bSubL, mTest, mOp, mVar, mC, mChain, mAnd, mOr, mNot, mIf, mAndV, mOrV, mNotV, mNeg, mCons, mNil, mTup, mLst, newL, mCall, mFn, arity, g1, g2, gLen, gInt, gAbs, gMax2, gMin2, gIx, seqOf, lsqOf, lstOf, Res.bind, ofO, gAdd_ok, gSub_ok, gEq_int, gNe_int, gLt_int, gLe_int, gGt_int, gGe_int, gEq_bl, gNe_bl, gEq_str, gNe_str, mIsi, mIsiT, tyD, kitL, kitTab, atI_c0, atI_c1, atI_c2, atI_c3, atI_c4, sForR1, int1, int2, mMeth, mMake, mFld, sFldM, gIs, gIsNot, isNon_t, sRaise, gList, newLO]
theorem checked1 {d : D} {a b : Int} {O : Store} (m : Msg a b) (h : (∃ v, d = .int v) ∨ (∃ v, d = .bl v) ∨ (∃ v, d = .str v) ∨ d = .non) : f_checked_number [d, .int a, .int b] O = if numB d a b = true then .ok d O else .exc ⟨"InvalidNumber", none⟩ O := by
  have e := is_number1 (O := O) (a := a) (b := b) h
  cases hn : numB d a b
  · rw [hn] at e
    obtain ⟨z, hm⟩ := m d O
    unfold f_checked_number b_checked_number
    generalize (mCons (mOp (gAdd false) (mOp (gAdd false) (mOp (gAdd false) (mC (.str "no number from ")) (mCall (g1 gStr) (mCons (mVar 1) mNil))) (mC (.str " to "))) (mCall (g1 gStr) (mCons (mVar 2) mNil))) mNil) = mm at hm ⊢
    simp [runF, sSeq, sIf, sNext, sDrop, sRet, sRetN, sAsg, ofRes, ofB, bName, bNil, bCons, bTup, bLst, bSubL, mTest, mOp, mVar, mC, mChain, mAnd, mOr, mNot, mIf, mAndV, mOrV, mNotV, mNeg, mCons, mNil, mTup, mLst, newL, mCall, mFn, arity, g1, g2, gLen, gInt, gAbs, gMax2, gMin2, gIx, seqOf, lsqOf, lstOf, Res.bind, ofO, gAdd_ok, gSub_ok, gEq_int, gNe_int, gLt_int, gLe_int, gGt_int, gGe_int, gEq_bl, gNe_bl, gEq_str, gNe_str, mIsi, mIsiT, tyD, kitL, kitTab, atI_c0, atI_c1, atI_c2, atI_c3, atI_c4, sForR1, int1, int2, mMeth, mMake, mFld, sFldM, gIs, gIsNot, isNon_t, sRaise, gList, newLO, e, hm]
  · rw [hn] at e
    simp [f_checked_number, b_checked_number, runF, sSeq, sIf, sNext, sDrop, sRet, sRetN, sAsg, ofRes, ofB, bName, bNil, bCons, bTup, bLst, bSubL, mTest, mOp, mVar, mC, mChain, mAnd, mOr, mNot, mIf, mAndV, mOrV, mNotV, mNeg, mCons, mNil, mTup, mLst, newL, mCall, mFn, arity, g1, g2, gLen, gInt, gAbs, gMax2, gMin2, gIx, seqOf, lsqOf, lstOf, Res.bind, ofO, gAdd_ok, gSub_ok, gEq_int, gNe_int, gLt_int, gLe_int, gGt_int, gGe_int, gEq_bl, gNe_bl, gEq_str, gNe_str, mIsi, mIsiT, tyD, kitL, kitTab, atI_c0, atI_c1, atI_c2, atI_c3, atI_c4, sForR1, int1, int2, mMeth, mMake, mFld, sFldM, gIs, gIsNot, isNon_t, sRaise, gList, newLO, e]
theorem law_checked1 {d : D} {a b : Int} {O : Store} (m : Msg a b) (h : (∃ v, d = .int v) ∨ (∃ v, d = .bl v) ∨ (∃ v, d = .str v) ∨ d = .non) : f_law_checked [d, .int a, .int b] O = .ok (if numB d a b = true then .lst [d] else .non) O := by
  have sb : sub_law_checked_105 "InvalidNumber" = some true := rfl
  have e := checked1 (O := O) m h
  cases hn : numB d a b <;> rw [hn] at e <;> simp at e <;> simp [f_law_checked, b_law_checked, sTry, sb, runF, sSeq, sIf, sNext, sDrop, sRet, sRetN, sAsg, ofRes, ofB, bName, bNil, bCons, bTup, bLst, bSubL, mTest, mOp, mVar, mC, mChain, mAnd, mOr, mNot, mIf, mAndV, mOrV, mNotV, mNeg, mCons, mNil, mTup, mLst, newL, mCall, mFn, arity, g1, g2, gLen, gInt, gAbs, gMax2, gMin2, gIx, seqOf, lsqOf, lstOf, Res.bind, ofO, gAdd_ok, gSub_ok, gEq_int, gNe_int, gLt_int, gLe_int, gGt_int, gGe_int, gEq_bl, gNe_bl, gEq_str, gNe_str, mIsi, mIsiT, tyD, kitL, kitTab, atI_c0, atI_c1, atI_c2, atI_c3, atI_c4, sForR1, int1, int2, mMeth, mMake, mFld, sFldM, gIs, gIsNot, isNon_t, sRaise, gList, newLO, e]
/-- the number that a word tells -/
theorem both {w : Str} {a b : Int} (m : Msg a b) (hw : w.length ≤ 900) : ∃ d : D, (d = .non ∨ ∃ i, d = .int i) ∧ (∀ O, f_law_number_due [.str w, .int a, .int b] O = .ok d O) ∧ ∀ O, f_law_read [.str w, .int a, .int b] O = .ok d O := by
  have hl : w.length ≤ 1000000 := by omega
  have sb : sub_law_read_100 "InvalidNumber" = some true := rfl
  have e := fun O => lcS_signs (i := 3) (cs := FIG) (w := w) (src := mVar 0) (L := [some (.str w), some (.int a), some (.int b), none]) (O := O) (by simp) rfl (by omega)
  have hz := outOf_zero (cs := FIG) (w := w.cps.toList)
  by_cases h1 : 1 ≤ (w.length : Int)
  · by_cases h2 : (w.length : Int) ≤ 7
    · cases hc : allIn FIG w.cps.toList
      · refine ⟨.non, .inl rfl, fun O => ?_, fun O => ?_⟩
        · have hp : 0 < (outOf FIG w.cps.toList).length := Nat.pos_of_ne_zero fun z => by rw [hz.mp z] at hc; cases hc
          simp [f_law_number_due, b_law_number_due, runF, sSeq, sIf, sNext, sDrop, sRet, sRetN, sAsg, ofRes, ofB, bName, bNil, bCons, bTup, bLst, bSubL, mTest, mOp, mVar, mC, mChain, mAnd, mOr, mNot, mIf, mAndV, mOrV, mNotV, mNeg, mCons, mNil, mTup, mLst, newL, mCall, mFn, arity, g1, g2, gLen, gInt, gAbs, gMax2, gMin2, gIx, seqOf, lsqOf, lstOf, Res.bind, ofO, gAdd_ok, gSub_ok, gEq_int, gNe_int, gLt_int, gLe_int, gGt_int, gGe_int, gEq_bl, gNe_bl, gEq_str, gNe_str, mIsi, mIsiT, tyD, kitL, kitTab, atI_c0, atI_c1, atI_c2, atI_c3, atI_c4, sForR1, int1, int2, mMeth, mMake, mFld, sFldM, gIs, gIsNot, isNon_t, sRaise, gList, newLO, hl, h1, h2, e, hp]
        · obtain ⟨L', e2⟩ := loop_signs_no (i := 3) (cs := FIG) (bad := sRaise "InvalidNumber" (mCons (mC (.str "no number")) mNil)) (fun L O => .inr ⟨_, rfl⟩) w.cps.toList [some (.str w), some (.int a), some (.int b), none] O (by simp) hc
          simp only [signB] at e2
          simp [f_law_read, b_law_read, sTryAs, sb, f_read_number, b_read_number, sForS, chars_eq, runF, sSeq, sIf, sNext, sDrop, sRet, sRetN, sAsg, ofRes, ofB, bName, bNil, bCons, bTup, bLst, bSubL, mTest, mOp, mVar, mC, mChain, mAnd, mOr, mNot, mIf, mAndV, mOrV, mNotV, mNeg, mCons, mNil, mTup, mLst, newL, mCall, mFn, arity, g1, g2, gLen, gInt, gAbs, gMax2, gMin2, gIx, seqOf, lsqOf, lstOf, Res.bind, ofO, gAdd_ok, gSub_ok, gEq_int, gNe_int, gLt_int, gLe_int, gGt_int, gGe_int, gEq_bl, gNe_bl, gEq_str, gNe_str, mIsi, mIsiT, tyD, kitL, kitTab, atI_c0, atI_c1, atI_c2, atI_c3, atI_c4, sForR1, int1, int2, mMeth, mMake, mFld, sFldM, gIs, gIsNot, isNon_t, sRaise, gList, newLO, hl, h1, h2, e2]
      · have hp : ¬ 0 < (outOf FIG w.cps.toList).length := by rw [hz.mpr hc]; decide
        have hwl : w.length = w.cps.toList.length := by rw [Array.length_toList]; rfl
        obtain ⟨c, hc0⟩ : ∃ c, w.cps.toList[(0 : Int).toNat]? = some c := ⟨w.cps.toList[0]'(by omega), List.getElem?_eq_getElem _⟩
        have hx := fun O => gIx_str (O := O) (s := w) hl (atI_nat (Int.le_refl 0) hc0)
        have dg : PySem.NumText.AllDigits w.cps.toList := fun c hcm => by
          have := of_decide_eq_true (List.all_eq_true.mp hc c hcm)
          rw [show FIG.cps.toList = [48, 49, 50, 51, 52, 53, 54, 55, 56, 57] from rfl] at this
          simp at this
          omega
        obtain ⟨v, hv⟩ : ∃ v : Int, PySem.intText? w = some v := ⟨_, PySem.intText_digits dg (fun z => by rw [z] at hwl; simp at hwl; omega) (by omega)⟩
        have hl2 : w.length ≤ 640 := by omega
        have e3 := fun O => loop_signs_ok (i := 3) (cs := FIG) (bad := sRaise "InvalidNumber" (mCons (mC (.str "no number")) mNil)) w.cps.toList [some (.str w), some (.int a), some (.int b), none] O (by simp) hc
        by_cases h3 : 1 < (w.length : Int)
        · by_cases h4 : (⟨#[c]⟩ : Str) = "0"
          · refine ⟨.non, .inl rfl, fun O => ?_, fun O => ?_⟩
            · simp [f_law_number_due, b_law_number_due, runF, sSeq, sIf, sNext, sDrop, sRet, sRetN, sAsg, ofRes, ofB, bName, bNil, bCons, bTup, bLst, bSubL, mTest, mOp, mVar, mC, mChain, mAnd, mOr, mNot, mIf, mAndV, mOrV, mNotV, mNeg, mCons, mNil, mTup, mLst, newL, mCall, mFn, arity, g1, g2, gLen, gInt, gAbs, gMax2, gMin2, seqOf, lsqOf, lstOf, Res.bind, ofO, gAdd_ok, gSub_ok, gEq_int, gNe_int, gLt_int, gLe_int, gGt_int, gGe_int, gEq_bl, gNe_bl, gEq_str, gNe_str, mIsi, mIsiT, tyD, kitL, kitTab, atI_c0, atI_c1, atI_c2, atI_c3, atI_c4, sForR1, int1, int2, mMeth, mMake, mFld, sFldM, gIs, gIsNot, isNon_t, sRaise, gList, newLO, hl, h1, h2, e, hp, h3, hx, h4]
            · obtain ⟨d, e2⟩ := e3 O
              simp only [signB] at e2
              simp [f_law_read, b_law_read, sTryAs, sb, f_read_number, b_read_number, sForS, chars_eq, runF, sSeq, sIf, sNext, sDrop, sRet, sRetN, sAsg, ofRes, ofB, bName, bNil, bCons, bTup, bLst, bSubL, mTest, mOp, mVar, mC, mChain, mAnd, mOr, mNot, mIf, mAndV, mOrV, mNotV, mNeg, mCons, mNil, mTup, mLst, newL, mCall, mFn, arity, g1, g2, gLen, gInt, gAbs, gMax2, gMin2, seqOf, lsqOf, lstOf, Res.bind, ofO, gAdd_ok, gSub_ok, gEq_int, gNe_int, gLt_int, gLe_int, gGt_int, gGe_int, gEq_bl, gNe_bl, gEq_str, gNe_str, mIsi, mIsiT, tyD, kitL, kitTab, atI_c0, atI_c1, atI_c2, atI_c3, atI_c4, sForR1, int1, int2, mMeth, mMake, mFld, sFldM, gIs, gIsNot, isNon_t, sRaise, gList, newLO, hl, h1, h2, e2, h3, hx, h4]
          · have e5 := fun O => checked1 (O := O) (d := .int v) m (.inl ⟨v, rfl⟩)
            refine ⟨if numB (.int v) a b = true then .int v else .non, ?_, fun O => ?_, fun O => ?_⟩
            · split
              · exact .inr ⟨v, rfl⟩
              · exact .inl rfl
            · by_cases a1 : a ≤ v <;> by_cases a2 : v ≤ b <;> simp [f_law_number_due, b_law_number_due, runF, sSeq, sIf, sNext, sDrop, sRet, sRetN, sAsg, ofRes, ofB, bName, bNil, bCons, bTup, bLst, bSubL, mTest, mOp, mVar, mC, mChain, mAnd, mOr, mNot, mIf, mAndV, mOrV, mNotV, mNeg, mCons, mNil, mTup, mLst, newL, mCall, mFn, arity, g1, g2, gLen, gInt, gAbs, gMax2, gMin2, seqOf, lsqOf, lstOf, Res.bind, ofO, gAdd_ok, gSub_ok, gEq_int, gNe_int, gLt_int, gLe_int, gGt_int, gGe_int, gEq_bl, gNe_bl, gEq_str, gNe_str, mIsi, mIsiT, tyD, kitL, kitTab, atI_c0, atI_c1, atI_c2, atI_c3, atI_c4, sForR1, int1, int2, mMeth, mMake, mFld, sFldM, gIs, gIsNot, isNon_t, sRaise, gList, newLO, hl, hl2, h1, h2, e, hp, h3, hx, h4, hv, numB, a1, a2]
            · obtain ⟨d, e2⟩ := e3 O
              simp only [signB] at e2
              cases hn : numB (.int v) a b <;> rw [hn] at e5 <;> simp at e5 <;> simp [f_law_read, b_law_read, sTryAs, sb, f_read_number, b_read_number, sForS, chars_eq, runF, sSeq, sIf, sNext, sDrop, sRet, sRetN, sAsg, ofRes, ofB, bName, bNil, bCons, bTup, bLst, bSubL, mTest, mOp, mVar, mC, mChain, mAnd, mOr, mNot, mIf, mAndV, mOrV, mNotV, mNeg, mCons, mNil, mTup, mLst, newL, mCall, mFn, arity, g1, g2, gLen, gInt, gAbs, gMax2, gMin2, seqOf, lsqOf, lstOf, Res.bind, ofO, gAdd_ok, gSub_ok, gEq_int, gNe_int, gLt_int, gLe_int, gGt_int, gGe_int, gEq_bl, gNe_bl, gEq_str, gNe_str, mIsi, mIsiT, tyD, kitL, kitTab, atI_c0, atI_c1, atI_c2, atI_c3, atI_c4, sForR1, int1, int2, mMeth, mMake, mFld, sFldM, gIs, gIsNot, isNon_t, sRaise, gList, newLO, hl, hl2, h1, h2, e2, h3, hx, h4, hv, e5]
        · have e5 := fun O => checked1 (O := O) (d := .int v) m (.inl ⟨v, rfl⟩)
          refine ⟨if numB (.int v) a b = true then .int v else .non, ?_, fun O => ?_, fun O => ?_⟩
          · split
            · exact .inr ⟨v, rfl⟩
            · exact .inl rfl
          · by_cases a1 : a ≤ v <;> by_cases a2 : v ≤ b <;> simp [f_law_number_due, b_law_number_due, runF, sSeq, sIf, sNext, sDrop, sRet, sRetN, sAsg, ofRes, ofB, bName, bNil, bCons, bTup, bLst, bSubL, mTest, mOp, mVar, mC, mChain, mAnd, mOr, mNot, mIf, mAndV, mOrV, mNotV, mNeg, mCons, mNil, mTup, mLst, newL, mCall, mFn, arity, g1, g2, gLen, gInt, gAbs, gMax2, gMin2, seqOf, lsqOf, lstOf, Res.bind, ofO, gAdd_ok, gSub_ok, gEq_int, gNe_int, gLt_int, gLe_int, gGt_int, gGe_int, gEq_bl, gNe_bl, gEq_str, gNe_str, mIsi, mIsiT, tyD, kitL, kitTab, atI_c0, atI_c1, atI_c2, atI_c3, atI_c4, sForR1, int1, int2, mMeth, mMake, mFld, sFldM, gIs, gIsNot, isNon_t, sRaise, gList, newLO, hl, hl2, h1, h2, e, hp, h3, hv, numB, a1, a2]
          · obtain ⟨d, e2⟩ := e3 O
            simp only [signB] at e2
            cases hn : numB (.int v) a b <;> rw [hn] at e5 <;> simp at e5 <;> simp [f_law_read, b_law_read, sTryAs, sb, f_read_number, b_read_number, sForS, chars_eq, runF, sSeq, sIf, sNext, sDrop, sRet, sRetN, sAsg, ofRes, ofB, bName, bNil, bCons, bTup, bLst, bSubL, mTest, mOp, mVar, mC, mChain, mAnd, mOr, mNot, mIf, mAndV, mOrV, mNotV, mNeg, mCons, mNil, mTup, mLst, newL, mCall, mFn, arity, g1, g2, gLen, gInt, gAbs, gMax2, gMin2, seqOf, lsqOf, lstOf, Res.bind, ofO, gAdd_ok, gSub_ok, gEq_int, gNe_int, gLt_int, gLe_int, gGt_int, gGe_int, gEq_bl, gNe_bl, gEq_str, gNe_str, mIsi, mIsiT, tyD, kitL, kitTab, atI_c0, atI_c1, atI_c2, atI_c3, atI_c4, sForR1, int1, int2, mMeth, mMake, mFld, sFldM, gIs, gIsNot, isNon_t, sRaise, gList, newLO, hl, hl2, h1, h2, e2, h3, hv, e5]
    · refine ⟨.non, .inl rfl, fun O => ?_, fun O => ?_⟩
      · simp [f_law_number_due, b_law_number_due, runF, sSeq, sIf, sNext, sDrop, sRet, sRetN, sAsg, ofRes, ofB, bName, bNil, bCons, bTup, bLst, bSubL, mTest, mOp, mVar, mC, mChain, mAnd, mOr, mNot, mIf, mAndV, mOrV, mNotV, mNeg, mCons, mNil, mTup, mLst, newL, mCall, mFn, arity, g1, g2, gLen, gInt, gAbs, gMax2, gMin2, gIx, seqOf, lsqOf, lstOf, Res.bind, ofO, gAdd_ok, gSub_ok, gEq_int, gNe_int, gLt_int, gLe_int, gGt_int, gGe_int, gEq_bl, gNe_bl, gEq_str, gNe_str, mIsi, mIsiT, tyD, kitL, kitTab, atI_c0, atI_c1, atI_c2, atI_c3, atI_c4, sForR1, int1, int2, mMeth, mMake, mFld, sFldM, gIs, gIsNot, isNon_t, sRaise, gList, newLO, hl, h1, h2]
      · simp [f_law_read, b_law_read, sTryAs, sb, f_read_number, b_read_number, runF, sSeq, sIf, sNext, sDrop, sRet, sRetN, sAsg, ofRes, ofB, bName, bNil, bCons, bTup, bLst, bSubL, mTest, mOp, mVar, mC, mChain, mAnd, mOr, mNot, mIf, mAndV, mOrV, mNotV, mNeg, mCons, mNil, mTup, mLst, newL, mCall, mFn, arity, g1, g2, gLen, gInt, gAbs, gMax2, gMin2, gIx, seqOf, lsqOf, lstOf, Res.bind, ofO, gAdd_ok, gSub_ok, gEq_int, gNe_int, gLt_int, gLe_int, gGt_int, gGe_int, gEq_bl, gNe_bl, gEq_str, gNe_str, mIsi, mIsiT, tyD, kitL, kitTab, atI_c0, atI_c1, atI_c2, atI_c3, atI_c4, sForR1, int1, int2, mMeth, mMake, mFld, sFldM, gIs, gIsNot, isNon_t, sRaise, gList, newLO, hl, h1, h2]
  · refine ⟨.non, .inl rfl, fun O => ?_, fun O => ?_⟩
    · simp [f_law_number_due, b_law_number_due, runF, sSeq, sIf, sNext, sDrop, sRet, sRetN, sAsg, ofRes, ofB, bName, bNil, bCons, bTup, bLst, bSubL, mTest, mOp, mVar, mC, mChain, mAnd, mOr, mNot, mIf, mAndV, mOrV, mNotV, mNeg, mCons, mNil, mTup, mLst, newL, mCall, mFn, arity, g1, g2, gLen, gInt, gAbs, gMax2, gMin2, gIx, seqOf, lsqOf, lstOf, Res.bind, ofO, gAdd_ok, gSub_ok, gEq_int, gNe_int, gLt_int, gLe_int, gGt_int, gGe_int, gEq_bl, gNe_bl, gEq_str, gNe_str, mIsi, mIsiT, tyD, kitL, kitTab, atI_c0, atI_c1, atI_c2, atI_c3, atI_c4, sForR1, int1, int2, mMeth, mMake, mFld, sFldM, gIs, gIsNot, isNon_t, sRaise, gList, newLO, hl, h1]
    · simp [f_law_read, b_law_read, sTryAs, sb, f_read_number, b_read_number, runF, sSeq, sIf, sNext, sDrop, sRet, sRetN, sAsg, ofRes, ofB, bName, bNil, bCons, bTup, bLst, bSubL, mTest, mOp, mVar, mC, mChain, mAnd, mOr, mNot, mIf, mAndV, mOrV, mNotV, mNeg, mCons, mNil, mTup, mLst, newL, mCall, mFn, arity, g1, g2, gLen, gInt, gAbs, gMax2, gMin2, gIx, seqOf, lsqOf, lstOf, Res.bind, ofO, gAdd_ok, gSub_ok, gEq_int, gNe_int, gLt_int, gLe_int, gGt_int, gGe_int, gEq_bl, gNe_bl, gEq_str, gNe_str, mIsi, mIsiT, tyD, kitL, kitTab, atI_c0, atI_c1, atI_c2, atI_c3, atI_c4, sForR1, int1, int2, mMeth, mMake, mFld, sFldM, gIs, gIsNot, isNon_t, sRaise, gList, newLO, hl, h1]
/-! ### minutes -/
theorem minutes1 {x y : D} {O : Store} (hx : x ∈ [.non, .int 0, .int 4, .int 9]) (hy : y ∈ [D.non, .int 0, .int 4, .int 9]) : f_law_minutes_right [x, y] O = .ok (.bl true) O := by
  simp at hx hy
  rcases hx with rfl | rfl | rfl | rfl <;> rcases hy with rfl | rfl | rfl | rfl <;> rfl
/-! ### the law -/
theorem neTT {O : Store} : gNe O (.lst [.bl true, .bl true]) (.lst [.bl true, .bl true]) = some (.bl false, O) := rfl
theorem neLI {O : Store} {v : Int} : gNe O (.lst [.int v]) (.lst [.int v]) = some (.bl false, O) := by
  have : eqD O (.lst [.int v]) (.lst [.int v]) = some true := by
    show (if SeqAt.shaped (.list [.int v]) = true ∧ SeqAt.shaped (.list [.int v]) = true then some (PyData.eqv (.list [.int v]) (.list [.int v])) else none) = some true
    rw [if_pos ⟨rfl, rfl⟩]
    simp [PyData.eqv, PyData.eqvAll]
  unfold gNe
  rw [this]
  rfl
theorem neNN {O : Store} : gNe O .non .non = some (.bl false, O) := rfl
theorem at_in {ds : List D} {v : Int} (h0 : 0 ≤ v) (h1 : v < ds.length) : ∃ d, atI ds v = some d ∧ d ∈ ds := by
  obtain ⟨d, hd⟩ : ∃ d, ds[v.toNat]? = some d := ⟨ds[v.toNat]'(by omega), List.getElem?_eq_getElem _⟩
  exact ⟨d, atI_nat h0 hd, List.mem_of_getElem? hd⟩
def tb : SM := (sSeq (sAsg (mFn (arity 1 f_law_word) [] (mCons (mVar 1) mNil)) (bName 3))
    (sSeq (sAsg (mFn (arity 1 f_law_name_due) [] (mCons (mVar 3) mNil)) (bName 4))
    (sSeq (sIf (mOr (mTest (mOp gNe (mCall (g1 gRepr) (mCons (mFn (arity 1 f_is_name) [] (mCons (mVar 3) mNil)) mNil)) (mCall (g1 gRepr) (mCons (mVar 4) mNil)))) (mTest (mOp gNe (mFn (arity 1 f_law_name_told) [] (mCons (mVar 3) mNil)) (mIf (mTru (mVar 4)) (mVar 3) (mLst false (mCons (mC (.bl true)) (mCons (mC (.bl true)) mNil))))))) (sRet (mC (.bl false))) sNext)
    (sSeq (sAsg (mFn (arity 1 f_law_figures) [] (mCons (mVar 1) mNil)) (bName 3))
    (sSeq (sAsg (mOp gIx (mLst false (mCons (mC (.int 0)) (mCons (mC (.int 0)) (mCons (mC (.int 1)) (mCons (mC (.int 10)) mNil))))) (mFn (arity 2 f_law_take) [] (mCons (mVar 1) (mCons (mC (.int 4)) mNil)))) (bName 5))
    (sSeq (sAsg (mOp gIx (mLst false (mCons (mC (.int 1000000)) (mCons (mC (.int 1000000)) (mCons (mC (.int 999999)) (mCons (mC (.int 20)) mNil))))) (mFn (arity 2 f_law_take) [] (mCons (mVar 1) (mCons (mC (.int 4)) mNil)))) (bName 6))
    (sSeq (sAsg (mFn (arity 3 f_law_number_due) [] (mCons (mVar 3) (mCons (mVar 5) (mCons (mVar 6) mNil)))) (bName 4))
    (sSeq (sAsg (mFn (arity 3 f_law_read) [] (mCons (mVar 3) (mCons (mVar 5) (mCons (mVar 6) mNil)))) (bName 7))
    (sSeq (sIf (mOr (mTest (mOp gNe (mVar 7) (mVar 4))) (mOr (mTest (mIsi "bool" (mVar 7))) (mTest (mOp gNe (mFn (arity 3 f_law_read) [] (mCons (mVar 3) (mCons (mC (.int 0)) (mCons (mC (.int 1000000)) mNil)))) (mFn (arity 3 f_law_number_due) [] (mCons (mVar 3) (mCons (mC (.int 0)) (mCons (mC (.int 1000000)) mNil)))))))) (sRet (mC (.bl false))) sNext)
    (sSeq (sAsg (mOp gIx (mLst false (mCons (mOp gSub (mFn (arity 2 f_law_take) [] (mCons (mVar 1) (mCons (mC (.int 1000003)) mNil))) (mC (.int 1))) (mCons (mOp gSub (mVar 5) (mC (.int 1))) (mCons (mVar 5) (mCons (mVar 6) (mCons (mOp (gAdd false) (mVar 6) (mC (.int 1))) (mCons (mC (.bl true)) (mCons (mC (.bl false)) (mCons (mC (.str "5")) (mCons (mC .non) mNil)))))))))) (mFn (arity 2 f_law_take) [] (mCons (mVar 1) (mCons (mC (.int 9)) mNil)))) (bName 8))
    (sSeq (sAsg (mAndV (mIsi "int" (mVar 8)) (mAndV (mNotV (mIsi "bool" (mVar 8))) (mChain gLe gLe (mVar 5) (mVar 8) (mVar 6)))) (bName 9))
    (sSeq (sIf (mOr (mTest (mOp gNe (mCall (g1 gRepr) (mCons (mFn (arity 3 f_is_number) [] (mCons (mVar 8) (mCons (mVar 5) (mCons (mVar 6) mNil)))) mNil)) (mCall (g1 gRepr) (mCons (mVar 9) mNil)))) (mTest (mOp gNe (mFn (arity 3 f_law_checked) [] (mCons (mVar 8) (mCons (mVar 5) (mCons (mVar 6) mNil)))) (mIf (mTru (mVar 9)) (mLst false (mCons (mVar 8) mNil)) (mC .non))))) (sRet (mC (.bl false))) sNext)
    (sIf (mNot (mTest (mFn (arity 2 f_law_minutes_right) [] (mCons (mOp gIx (mLst false (mCons (mC .non) (mCons (mC (.int 0)) (mCons (mC (.int 4)) (mCons (mC (.int 9)) mNil))))) (mFn (arity 2 f_law_take) [] (mCons (mVar 1) (mCons (mC (.int 4)) mNil)))) (mCons (mOp gIx (mLst false (mCons (mC .non) (mCons (mC (.int 0)) (mCons (mC (.int 4)) (mCons (mC (.int 9)) mNil))))) (mFn (arity 2 f_law_take) [] (mCons (mVar 1) (mCons (mC (.int 4)) mNil)))) mNil))))) (sRet (mC (.bl false))) sNext)))))))))))))
def St1 (s : D) (i : Nat) (L : Loc) (O : Store) : Prop := ∃ a b x d e g h j P, L = [some s, some (.hdl 0), a, b, x, d, e, g, h, j] ∧ O = [.lst P] ∧ Take (100 * i) 0 O
theorem good1 {dv : D} {a b : Int} {L : Loc} {O : Store} (h8 : L[8]? = some (some dv)) (h5 : L[5]? = some (some (.int a))) (h6 : L[6]? = some (some (.int b))) (h : (∃ v, dv = .int v) ∨ (∃ v, dv = .bl v) ∨ (∃ v, dv = .str v) ∨ dv = .non) :
    mAndV (mIsi "int" (mVar 8)) (mAndV (mNotV (mIsi "bool" (mVar 8))) (mChain gLe gLe (mVar 5) (mVar 8) (mVar 6))) L O = .ok (.bl (numB dv a b)) O := by
  rcases h with ⟨v, rfl⟩ | ⟨v, rfl⟩ | ⟨v, rfl⟩ | rfl
  · by_cases h1 : a ≤ v <;> by_cases h2 : v ≤ b <;> simp [numB, runF, sSeq, sIf, sNext, sDrop, sRet, sRetN, sAsg, ofRes, ofB, bName, bNil, bCons, bTup, bLst, bSubL, mTest, mOp, mVar, mC, mChain, mAnd, mOr, mNot, mIf, mAndV, mOrV, mNotV, mNeg, mCons, mNil, mTup, mLst, newL, mCall, mFn, arity, g1, g2, gLen, gInt, gAbs, gMax2, gMin2, gIx, seqOf, lsqOf, lstOf, Res.bind, ofO, gAdd_ok, gSub_ok, gEq_int, gNe_int, gLt_int, gLe_int, gGt_int, gGe_int, gEq_bl, gNe_bl, gEq_str, gNe_str, mIsi, mIsiT, tyD, kitL, kitTab, atI_c0, atI_c1, atI_c2, atI_c3, atI_c4, sForR1, int1, int2, mMeth, mMake, mFld, sFldM, gIs, gIsNot, isNon_t, sRaise, gList, newLO, h8, h5, h6, h1, h2]
  · simp [numB, runF, sSeq, sIf, sNext, sDrop, sRet, sRetN, sAsg, ofRes, ofB, bName, bNil, bCons, bTup, bLst, bSubL, mTest, mOp, mVar, mC, mChain, mAnd, mOr, mNot, mIf, mAndV, mOrV, mNotV, mNeg, mCons, mNil, mTup, mLst, newL, mCall, mFn, arity, g1, g2, gLen, gInt, gAbs, gMax2, gMin2, gIx, seqOf, lsqOf, lstOf, Res.bind, ofO, gAdd_ok, gSub_ok, gEq_int, gNe_int, gLt_int, gLe_int, gGt_int, gGe_int, gEq_bl, gNe_bl, gEq_str, gNe_str, mIsi, mIsiT, tyD, kitL, kitTab, atI_c0, atI_c1, atI_c2, atI_c3, atI_c4, sForR1, int1, int2, mMeth, mMake, mFld, sFldM, gIs, gIsNot, isNon_t, sRaise, gList, newLO, h8, h5, h6]
  · simp [numB, runF, sSeq, sIf, sNext, sDrop, sRet, sRetN, sAsg, ofRes, ofB, bName, bNil, bCons, bTup, bLst, bSubL, mTest, mOp, mVar, mC, mChain, mAnd, mOr, mNot, mIf, mAndV, mOrV, mNotV, mNeg, mCons, mNil, mTup, mLst, newL, mCall, mFn, arity, g1, g2, gLen, gInt, gAbs, gMax2, gMin2, gIx, seqOf, lsqOf, lstOf, Res.bind, ofO, gAdd_ok, gSub_ok, gEq_int, gNe_int, gLt_int, gLe_int, gGt_int, gGe_int, gEq_bl, gNe_bl, gEq_str, gNe_str, mIsi, mIsiT, tyD, kitL, kitTab, atI_c0, atI_c1, atI_c2, atI_c3, atI_c4, sForR1, int1, int2, mMeth, mMake, mFld, sFldM, gIs, gIsNot, isNon_t, sRaise, gList, newLO, h8, h5, h6]
  · simp [numB, runF, sSeq, sIf, sNext, sDrop, sRet, sRetN, sAsg, ofRes, ofB, bName, bNil, bCons, bTup, bLst, bSubL, mTest, mOp, mVar, mC, mChain, mAnd, mOr, mNot, mIf, mAndV, mOrV, mNotV, mNeg, mCons, mNil, mTup, mLst, newL, mCall, mFn, arity, g1, g2, gLen, gInt, gAbs, gMax2, gMin2, gIx, seqOf, lsqOf, lstOf, Res.bind, ofO, gAdd_ok, gSub_ok, gEq_int, gNe_int, gLt_int, gLe_int, gGt_int, gGe_int, gEq_bl, gNe_bl, gEq_str, gNe_str, mIsi, mIsiT, tyD, kitL, kitTab, atI_c0, atI_c1, atI_c2, atI_c3, atI_c4, sForR1, int1, int2, mMeth, mMake, mFld, sFldM, gIs, gIsNot, isNon_t, sRaise, gList, newLO, h8, h5, h6]
theorem turn1 {s d0 : D} {i : Nat} {L : Loc} {O : Store} (hi : i ≤ 6) (h : St1 s i L O) : ∃ L' O', turnOf (bName 2) tb d0 L O = .next L' O' ∧ St1 s (i + 1) L' O' := by
  obtain ⟨x2, x3, x4, x5, x6, x7, x8, x9, P, rfl, rfl, hp⟩ := h
  obtain ⟨w, P1, e1, hw, p1⟩ := word1 hp (by omega)
  simp only [List.set_cons_zero] at e1 p1
  obtain ⟨w2, P2, e2, hw2, p2⟩ := figures1 p1 (by omega)
  simp only [List.set_cons_zero] at e2 p2
  obtain ⟨v3, P3, e3, v30, v31, p3⟩ := take1 (m := 4) p2 (by decide) (by decide) (by omega)
  simp only [List.set_cons_zero] at e3 p3
  obtain ⟨v4, P4, e4, v40, v41, p4⟩ := take1 (m := 4) p3 (by decide) (by decide) (by omega)
  simp only [List.set_cons_zero] at e4 p4
  obtain ⟨v5, P5, e5, v50, v51, p5⟩ := take1 (m := 1000003) p4 (by decide) (by decide) (by omega)
  simp only [List.set_cons_zero] at e5 p5
  obtain ⟨v6, P6, e6, v60, v61, p6⟩ := take1 (m := 9) p5 (by decide) (by decide) (by omega)
  simp only [List.set_cons_zero] at e6 p6
  obtain ⟨v7, P7, e7, v70, v71, p7⟩ := take1 (m := 4) p6 (by decide) (by decide) (by omega)
  simp only [List.set_cons_zero] at e7 p7
  obtain ⟨v8, P8, e8, v80, v81, p8⟩ := take1 (m := 4) p7 (by decide) (by decide) (by omega)
  simp only [List.set_cons_zero] at e8 p8
  obtain ⟨da, ia, ma⟩ := at_in (ds := [.int 0, .int 0, .int 1, .int 10]) v30 v31
  obtain ⟨a, rfl, ha⟩ : ∃ a : Int, da = .int a ∧ a ∈ ([0, 0, 1, 10] : List Int) := by
    simp at ma
    rcases ma with rfl | rfl | rfl <;> exact ⟨_, rfl, by simp⟩
  obtain ⟨db, ib, mb⟩ := at_in (ds := [.int 1000000, .int 1000000, .int 999999, .int 20]) v40 v41
  obtain ⟨b, rfl, hb⟩ : ∃ a : Int, db = .int a ∧ a ∈ ([1000000, 1000000, 999999, 20] : List Int) := by
    simp at mb
    rcases mb with rfl | rfl | rfl <;> exact ⟨_, rfl, by simp⟩
  obtain ⟨d, dn, n1, n2⟩ := both (w := w2) (msg_all ha hb) (by omega)
  obtain ⟨d', dn', n3, n4⟩ := both (w := w2) (a := 0) (b := 1000000) (msg_all (by simp) (by simp)) (by omega)
  obtain ⟨dv, iv, mv⟩ := at_in (ds := [.int (v5 - 1), .int (a - 1), .int a, .int b, .int (b + 1), .bl true, .bl false, .str "5", .non]) v60 v61
  have kv : (∃ v, dv = .int v) ∨ (∃ v, dv = .bl v) ∨ (∃ v, dv = .str v) ∨ dv = .non := by
    simp at mv
    rcases mv with rfl | rfl | rfl | rfl | rfl | rfl | rfl | rfl | rfl <;> simp
  obtain ⟨dx, ix, mx⟩ := at_in (ds := [.non, .int 0, .int 4, .int 9]) v70 v71
  obtain ⟨dy, iy, my⟩ := at_in (ds := [.non, .int 0, .int 4, .int 9]) v80 v81
  have mr := fun O => minutes1 (O := O) mx my
  have nd := fun O => due_name (w := w) (O := O) (by omega)
  have nn := fun O => is_name_str (w := w) (O := O) (by omega)
  have nt := fun O => told_name (w := w) (O := O) (by omega)
  have nu := fun O => is_number1 (a := a) (b := b) (O := O) kv
  have nc := fun O => law_checked1 (O := O) (msg_all ha hb) kv
  have isb : ∀ d : D, (d = .non ∨ ∃ i, d = .int i) → ∀ (L : Loc) (O : Store), L[7]? = some (some d) → mIsi "bool" (mVar 7) L O = .ok (.bl false) O := fun d hd L O h => by
    rcases hd with rfl | ⟨i, rfl⟩ <;> simp [runF, sSeq, sIf, sNext, sDrop, sRet, sRetN, sAsg, ofRes, ofB, bName, bNil, bCons, bTup, bLst, bSubL, mTest, mOp, mVar, mC, mChain, mAnd, mOr, mNot, mIf, mAndV, mOrV, mNotV, mNeg, mCons, mNil, mTup, mLst, newL, mCall, mFn, arity, g1, g2, gLen, gInt, gAbs, gMax2, gMin2, gIx, seqOf, lsqOf, lstOf, Res.bind, ofO, gAdd_ok, gSub_ok, gEq_int, gNe_int, gLt_int, gLe_int, gGt_int, gGe_int, gEq_bl, gNe_bl, gEq_str, gNe_str, mIsi, mIsiT, tyD, kitL, kitTab, atI_c0, atI_c1, atI_c2, atI_c3, atI_c4, sForR1, int1, int2, mMeth, mMake, mFld, sFldM, gIs, gIsNot, isNon_t, sRaise, gList, newLO, h]
  have nedd : ∀ d : D, (d = .non ∨ ∃ i, d = .int i) → ∀ (O : Store), gNe O d d = some (.bl false, O) := fun d hd O => by
    rcases hd with rfl | ⟨i, rfl⟩
    · rfl
    · simp [gNe_int]
  obtain ⟨ty, hty, hkb⟩ : ∃ ty, (∀ O, tyD O d = some ty) ∧ kitB ty "bool" = some false := by
    rcases dn with rfl | ⟨i, rfl⟩
    · exact ⟨"NoneType", fun O => rfl, by simp [kitTab]⟩
    · exact ⟨"int", fun O => rfl, by simp [kitTab]⟩
  have q1 := nedd d dn
  have q2 := nedd d' dn'
  have g1v := fun (L : Loc) (O : Store) h8 h5 h6 => good1 (dv := dv) (a := a) (b := b) (L := L) (O := O) h8 h5 h6 kv
  suffices ev : ∃ L', turnOf (bName 2) tb d0 [some s, some (.hdl 0), x2, x3, x4, x5, x6, x7, x8, x9] [.lst P] = .next L' [.lst P8] ∧ ∃ a b x d e g h j, L' = [some s, some (.hdl 0), a, b, x, d, e, g, h, j] by
    obtain ⟨L', ev, a, b, x, d, e, g, h, j, rfl⟩ := ev
    exact ⟨_, _, ev, a, b, x, d, e, g, h, j, P8, rfl, rfl, tmono (by omega) p8⟩
  have hnum : numB dv a b = true → ∃ v, dv = .int v := fun h => by
    rcases kv with h1 | ⟨v, rfl⟩ | ⟨v, rfl⟩ | rfl
    · exact h1
    · cases h
    · cases h
    · cases h
  refine ⟨[some s, some (.hdl 0), some d0, some (.str w2), some d, some (.int a), some (.int b), some d, some dv, some (.bl (numB dv a b))], ?_, _, _, _, _, _, _, _, _, rfl⟩
  cases hn : numB dv a b
  · rw [hn] at nc nu g1v
    cases hq : nameB w <;> rw [hq] at nd nn nt <;> simp at nt nc <;> simp [turnOf, tb, runF, sSeq, sIf, sNext, sDrop, sRet, sRetN, sAsg, ofRes, ofB, bName, bNil, bCons, bTup, bLst, bSubL, mTest, mOp, mVar, mC, mChain, mAnd, mOr, mNot, mIf, mOrV, mNotV, mNeg, mCons, mNil, mTup, mLst, newL, mCall, mFn, arity, g1, g2, gLen, gInt, gAbs, gMax2, gMin2, gIx, seqOf, lsqOf, lstOf, Res.bind, ofO, gAdd_ok, gSub_ok, gEq_int, gNe_int, gLt_int, gLe_int, gGt_int, gGe_int, gEq_bl, gNe_bl, gEq_str, gNe_str, mIsi, mIsiT, kitL, kitTab, atI_c0, atI_c1, atI_c2, atI_c3, atI_c4, sForR1, int1, int2, mMeth, mMake, mFld, sFldM, gIs, gIsNot, isNon_t, sRaise, gList, newLO, truD, mTru, gRepr, e1, e2, e3, e4, e5, e6, e7, e8, ia, ib, iv, ix, iy, mr, nd, nn, nt, nu, nc, n1, n2, n3, n4, hty, hkb, q1, q2, g1v, neTT, neNN]
  · rw [hn] at nc nu g1v
    obtain ⟨v, rfl⟩ := hnum hn
    cases hq : nameB w <;> rw [hq] at nd nn nt <;> simp at nt nc <;> simp [turnOf, tb, runF, sSeq, sIf, sNext, sDrop, sRet, sRetN, sAsg, ofRes, ofB, bName, bNil, bCons, bTup, bLst, bSubL, mTest, mOp, mVar, mC, mChain, mAnd, mOr, mNot, mIf, mOrV, mNotV, mNeg, mCons, mNil, mTup, mLst, newL, mCall, mFn, arity, g1, g2, gLen, gInt, gAbs, gMax2, gMin2, gIx, seqOf, lsqOf, lstOf, Res.bind, ofO, gAdd_ok, gSub_ok, gEq_int, gNe_int, gLt_int, gLe_int, gGt_int, gGe_int, gEq_bl, gNe_bl, gEq_str, gNe_str, mIsi, mIsiT, kitL, kitTab, atI_c0, atI_c1, atI_c2, atI_c3, atI_c4, sForR1, int1, int2, mMeth, mMake, mFld, sFldM, gIs, gIsNot, isNon_t, sRaise, gList, newLO, truD, mTru, gRepr, e1, e2, e3, e4, e5, e6, e7, e8, ia, ib, iv, ix, iy, mr, nd, nn, nt, nu, nc, n1, n2, n3, n4, hty, hkb, q1, q2, g1v, neTT, neNN, neLI]
theorem law_holds (ns : List Int) (hl : ns.length ≤ 63) : ∃ O, f_law [.rol (ns.map D.int)] [] = .ok (.bl true) O := by
  have hp0 : Take 0 0 [.lst (takeL ns 0 0)] := ⟨ns, 0, 0, rfl, by omega, by omega, by omega, by omega⟩
  obtain ⟨L1, O1, e4, h4⟩ := loopD_keeps (turn := turnOf (bName 2) tb) (I := St1 (.rol (ns.map D.int))) (rangeD 0 6) 0
    [some (.rol (ns.map D.int)), some (.hdl 0), none, none, none, none, none, none, none, none] [.lst (takeL ns 0 0)]
    ⟨_, _, _, _, _, _, _, _, _, rfl, rfl, hp0⟩ fun j d L O hd h => by
      have : j < 6 := by
        have := (List.getElem?_eq_some_iff.mp hd).1
        simpa [rangeD] using this
      exact turn1 (by omega) h
  obtain ⟨x2, x3, x4, x5, x6, x7, x8, x9, P4, rfl, rfl, p4⟩ := h4
  have z1 : ∀ O, f_is_name [.int 5] O = .ok (.bl false) O := fun O => rfl
  have z2 : ∀ O, f_is_name [.non] O = .ok (.bl false) O := fun O => rfl
  have z3 : ∀ O, f_is_name [.lst [.str "a"]] O = .ok (.bl false) O := fun O => rfl
  have z4 : ∀ O, f_law_read [.int 5, .int 0, .int 9] O = .ok .non O := fun O => rfl
  have z5 : ∀ O, f_is_number [.int 1000000, .int 0, .int 1000000] O = .ok (.bl true) O := fun O => rfl
  have z6 : ∀ O, f_is_number [.int 1000001, .int 0, .int 1000000] O = .ok (.bl false) O := fun O => rfl
  have z7 : ∀ O, f_is_number [.int (-1), .int 0, .int 1000000] O = .ok (.bl false) O := fun O => rfl
  have z8 : ∀ O, f_is_number [.int 0, .int 0, .int 1000000] O = .ok (.bl true) O := fun O => rfl
  refine ⟨[.lst P4], ?_⟩
  have hb : b_law = (sSeq (sAsg (mLst true (mCons (mVar 0) (mCons (mC (.int 0)) (mCons (mC (.int 0)) mNil)))) (bName 1))
    (sSeq (sForR1 (mCons (mC (.int 6)) mNil) (bName 2) tb)
    (sSeq (sIf (mOr (mTest (mFn (arity 1 f_is_name) [] (mCons (mC (.int 5)) mNil))) (mOr (mTest (mFn (arity 1 f_is_name) [] (mCons (mC .non) mNil))) (mOr (mTest (mFn (arity 1 f_is_name) [] (mCons (mLst false (mCons (mC (.str "a")) mNil)) mNil))) (mTest (mOp gIsNot (mFn (arity 3 f_law_read) [] (mCons (mC (.int 5)) (mCons (mC (.int 0)) (mCons (mC (.int 9)) mNil)))) (mC .non)))))) (sRet (mC (.bl false))) sNext)
    (sRet (mAndV (mFn (arity 3 f_is_number) [.int 0, .int 1000000] (mCons (mC (.int 1000000)) mNil)) (mAndV (mNotV (mFn (arity 3 f_is_number) [.int 0, .int 1000000] (mCons (mC (.int 1000001)) mNil))) (mAndV (mNotV (mFn (arity 3 f_is_number) [.int 0, .int 1000000] (mCons (mOp gSub (mC (.int 0)) (mC (.int 1))) mNil))) (mFn (arity 3 f_is_number) [.int 0, .int 1000000] (mCons (mC (.int 0)) mNil))))))))) := rfl
  show (match b_law [some (.rol (ns.map D.int)), none, none, none, none, none, none, none, none, none] [] with
    | .next _ O1 => Res.ok D.non O1
    | .ret d O1 => .ok d O1
    | .exc x _ O1 => .exc x O1
    | _ => .bad) = _
  rw [hb]
  simp only [takeL] at e4
  simp [runF, sSeq, sIf, sNext, sDrop, sRet, sRetN, sAsg, ofRes, ofB, bName, bNil, bCons, bTup, bLst, bSubL, mTest, mOp, mVar, mC, mChain, mAnd, mOr, mNot, mIf, mAndV, mOrV, mNotV, mNeg, mCons, mNil, mTup, mLst, newL, mCall, mFn, arity, g1, g2, gLen, gInt, gAbs, gMax2, gMin2, gIx, seqOf, lsqOf, lstOf, Res.bind, ofO, gAdd_ok, gSub_ok, gEq_int, gNe_int, gLt_int, gLe_int, gGt_int, gGe_int, gEq_bl, gNe_bl, gEq_str, gNe_str, mIsi, mIsiT, tyD, kitL, kitTab, atI_c0, atI_c1, atI_c2, atI_c3, atI_c4, sForR1, int1, int2, mMeth, mMake, mFld, sFldM, gIs, gIsNot, isNon_t, sRaise, gList, newLO, e4, z1, z2, z3, z4, z5, z6, z7, z8]
end DK.k10
end
theorem PySem.Challenge.cw_darkrise_k10_names_and_numbers_holds : PySem.Challenge.rw_darkrise_k10_names_and_numbers.Holds := by
  exact DK.k10.core DK.k10.law_holds
